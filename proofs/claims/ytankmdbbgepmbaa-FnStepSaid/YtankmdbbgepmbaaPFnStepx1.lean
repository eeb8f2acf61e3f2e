-- Made by a program of this session out of the translation. Lean checks it.
import Derived.Test.YtankmdbbgepmbaaPFnStepx0
namespace Go.Proofs.Ytankmdbbgepmbaa.PFnStep
open Go.RowKit Go.Proofs.YtankmdbbgepmbaaW.PrintWords Go.Proofs.YtankmdbbgepmbaaW.PrintLast Go.Proofs.YtankmdbbgepmbaaW.PrintMore
attribute [local go_sem] max2_int min2_int max_two min_two max_three min_three max_four min_four   -- for this text's walks alone
set_option linter.unusedVariables false
set_option linter.unusedSimpArgs false

/-! ### laws_big: function 23 -/
def laws_big.f (l0 : List Int) : Option (Bool) := some (decide ((l0.length : Int) > 1048576))
set_option maxHeartbeats 8000000 in
set_option maxRecDepth 100000 in
theorem laws_big.calls (A0 : Option Addr) (c0 : Nat) (l0 : List Int) (r : Bool) (w : World) (hr0 : Kd.C (Kd.int .u8) w A0 l0.length l0) (hc0 : l0.length ≤ c0) (h : laws_big.f l0 = some r) :
  Calls Try.prog 23 #[.slice A0 l0.length c0] w fun e w' => e = .returned (.bool r) ∧ Drawn0 w w' := by
 have HR0 := aM hr0
 have HC0 := aM hc0
 clear hr0 hc0
 unfold laws_big.f at h
 have H := h
 clear h
 obtain rfl := Option.some.inj H
 go_enter Try.func23, Try.ntmps23
 go_wp2
 go_ret
 exact ⟨by first | rfl | (simp; done) | (simp [*]; done), by repeat (first | exact Drawn0.refl _ | apply Drawn0.step)⟩

/-! ### spec_l1In: function 98 -/
def spec_l1In.f (a0 : Int) (a1 : Int) (a2 : Int) : Option (Bool) := if a0 ≥ a1 then (some (decide (a0 ≤ a2))) else (some false)
set_option maxHeartbeats 8000000 in
set_option maxRecDepth 100000 in
theorem spec_l1In.calls (a0 : Int) (a1 : Int) (a2 : Int) (r : Bool) (w : World) (h : spec_l1In.f a0 a1 a2 = some r) :
  Calls Try.prog 98 #[.int .i64 a0, .int .i64 a1, .int .i64 a2] w fun e w' => e = .returned (.bool r) ∧ Drawn0 w w' := by
 unfold spec_l1In.f at h
 have H := h
 clear h
 replace H := iE_ H
 rcases H with ⟨c4b0, H⟩ | ⟨c4b0, H⟩
 {
 obtain rfl := Option.some.inj H
 go_enter Try.func98, Try.ntmps98
 go_wp2
 go_ret
 exact ⟨by first | rfl | (simp; done) | (simp [*]; done), by repeat (first | exact Drawn0.refl _ | apply Drawn0.step)⟩
 }
 {
 obtain rfl := Option.some.inj H
 go_enter Try.func98, Try.ntmps98
 go_wp2
 go_ret
 exact ⟨by first | rfl | (simp; done) | (simp [*]; done), by repeat (first | exact Drawn0.refl _ | apply Drawn0.step)⟩
 }
/-! ### spec_FloorOk: function 60 -/
mutual
def spec_FloorOk.j0 : Nat → Bool → Int → Int → List Int → Option (Bool)
 | 0, _, _, _, _ => none
 | k + 1, x24, x102000, x102001, x102002 => if x24 = true then (some false) else (spec_FloorOk.l0 k 0 x102000 x102001 x102002)
def spec_FloorOk.l0 : Nat → Int → Int → Int → List Int → Option (Bool)
 | 0, _, _, _, _ => none
 | k + 1, x3, x102000, x102001, x102002 => if x3 < (x102002.length : Int) then (if 0 ≤ x3 then ((spec_l1In.f (rd x102002 x3) 0 4).bind fun t105 => (if t105 = true then (spec_FloorOk.l0 k (wrap64 (x3 + 1)) x102000 x102001 x102002) else (some false))) else (none)) else (some true)
end
def spec_FloorOk.f (k : Nat) (a0_0 : Int) (a0_1 : Int) (l0_2 : List Int) : Option (Bool) := (spec_l1In.f a0_0 1 10).bind fun t102 => (if t102 = true then ((spec_l1In.f a0_1 1 10).bind fun t103 => (if t103 = true then (spec_FloorOk.j0 k ((l0_2.length : Int) != (wrap64 (a0_0 * a0_1))) a0_0 a0_1 l0_2) else (spec_FloorOk.j0 k true a0_0 a0_1 l0_2))) else (spec_FloorOk.j0 k true a0_0 a0_1 l0_2))
theorem spec_FloorOk.mono_l : ∀ k, (∀ y0 y1 y2 y3, LeO (spec_FloorOk.j0 k y0 y1 y2 y3) (spec_FloorOk.j0 (k + 1) y0 y1 y2 y3)) ∧ (∀ y0 y1 y2 y3, LeO (spec_FloorOk.l0 k y0 y1 y2 y3) (spec_FloorOk.l0 (k + 1) y0 y1 y2 y3))
 | 0 => ⟨fun _ _ _ _ r h => by simp [spec_FloorOk.j0] at h, fun _ _ _ _ r h => by simp [spec_FloorOk.l0] at h⟩
 | k + 1 => by
  obtain ⟨ih0, ih1⟩ := spec_FloorOk.mono_l k
  refine ⟨?_, ?_⟩
  {
  intro y0 y1 y2 y3
  unfold spec_FloorOk.j0
  exact qL
  }
  {
  intro y0 y1 y2 y3
  unfold spec_FloorOk.l0
  exact qL
  }
theorem spec_FloorOk.mono : ∀ a0 a1 a2 k, LeO (spec_FloorOk.f k a0 a1 a2) (spec_FloorOk.f (k + 1) a0 a1 a2) := by
 intro a0 a1 a2 k
 obtain ⟨ih0, ih1⟩ := spec_FloorOk.mono_l k
 unfold spec_FloorOk.f
 exact qL
set_option maxHeartbeats 8000000 in
set_option maxRecDepth 100000 in
theorem spec_FloorOk.calls (k : Nat) (a0_0 : Int) (a0_1 : Int) (A0_2 : Option Addr) (c0_2 : Nat) (l0_2 : List Int) (r : Bool) (w : World) (hr0_2 : Kd.C (Kd.int .i64) w A0_2 l0_2.length l0_2) (hc0_2 : l0_2.length ≤ c0_2) (h : spec_FloorOk.f k a0_0 a0_1 l0_2 = some r) :
  Calls Try.prog 60 #[.agg #[.int .i64 a0_0, .int .i64 a0_1, .slice A0_2 l0_2.length c0_2]] w fun e w' => e = .returned (.bool r) ∧ Below w.heap.size w w' := by
 have hu43 := Try.underlying43
 have HR0_2 := aM hr0_2
 have HC0_2 := aM hc0_2
 clear hr0_2 hc0_2
 have HB := aM (Below.refl w.heap.size w)
 unfold spec_FloorOk.f at h
 have H := h
 clear h
 have HC2 := aM H
 clear H
 go_enter Try.func60, Try.ntmps60
 go_upto_region 1 with (first | ((with_reducible refine gate_dst (N := 1) rfl ?_); (try (refine gate_guard (by rfl) ?_; dsimp only)); refine bx_ 1 #[.int .i64 a0_0, .int .i64 a0_1, .slice A0_2 l0_2.length c0_2] 43 ?_; intro gb101 hg w3 hbox hb; have BK101 := aM (hbox); have GW101 := aM (bz_ w hg qz1); have GE101 := GW101; replace HB := bS_ hb; clear hb hbox hg))
 (try simp only [Act.put, List.setIfInBounds_toArray, List.set_cons_zero, List.set_cons_succ])
 go_cut [24] (fun v24 wc => ∃ (kq : Nat) (x24_1 : Bool), v24 = .bool x24_1 ∧ Aside0 (spec_FloorOk.j0 kq x24_1 a0_0 a0_1 l0_2 = some r) ∧ Aside0 (kq ≤ k) ∧ Aside0 (wc.heap[gb101]? = some (.cells #[.int .i64 a0_0, .int .i64 a0_1, (.slice A0_2 l0_2.length c0_2)] 43 (0, 0))) ∧ Aside0 (Below w.heap.size w wc))
 case first =>
  have H := HC2.out
  clear HC2
  replace H := Option.bind_eq_some_iff.mp H
  obtain ⟨t102, A40, H⟩ := H
  have A4 := aM A40
  clear A40
  replace H := iB_ H
  rcases H with ⟨rfl, H⟩ | ⟨rfl, H⟩
  {
  replace H := Option.bind_eq_some_iff.mp H
  obtain ⟨t103, A60, H⟩ := H
  have A6 := aM A60
  clear A60
  replace H := iB_ H
  rcases H with ⟨rfl, H⟩ | ⟨rfl, H⟩
  {
  have H' := aM H
  clear H
  obtain ⟨hcz8_0, hcz8_1, hcz8_2, hfz8_0, hfz8_1, hfz8_2⟩ := b6_ BK101.out
  go_wp2_with (first | ((with_reducible refine gate_callee (f := 98) rfl ?_); refine goesL_ (some 6) rfl rfl Try.func98 (by kernel_rfl) rfl #[.int .i64 a0_0, .int .i64 1, .int .i64 10] rfl qz2 ?_; (with_reducible refine (spec_l1In.calls a0_0 1 10 true _ A4.out).mono ?_); rintro e w' ⟨rfl, ⟨nd, rfl⟩⟩; refine ⟨_, rfl, ?_⟩) | (go_at_call 98; (with_reducible refine (spec_l1In.calls a0_1 1 10 true _ A6.out).mono ?_); rintro e w' ⟨rfl, ⟨nd, rfl⟩⟩))
  go_meet
  case rel => exact ⟨_, (((l0_2.length : Int) != (wrap64 (a0_0 * a0_1)))), qz5, H', ⟨by first | omega | exact Nat.le_refl _⟩, ⟨bk_ BK101.out⟩, ⟨qz1⟩⟩
  }
  {
  have H' := aM H
  clear H
  obtain ⟨hcz9_0, hcz9_1, hcz9_2, hfz9_0, hfz9_1, hfz9_2⟩ := b6_ BK101.out
  go_wp2_with (first | ((with_reducible refine gate_callee (f := 98) rfl ?_); refine goesL_ (some 6) rfl rfl Try.func98 (by kernel_rfl) rfl #[.int .i64 a0_0, .int .i64 1, .int .i64 10] rfl qz2 ?_; (with_reducible refine (spec_l1In.calls a0_0 1 10 true _ A4.out).mono ?_); rintro e w' ⟨rfl, ⟨nd, rfl⟩⟩; refine ⟨_, rfl, ?_⟩) | (go_at_call 98; (with_reducible refine (spec_l1In.calls a0_1 1 10 false _ A6.out).mono ?_); rintro e w' ⟨rfl, ⟨nd, rfl⟩⟩))
  go_meet
  case rel => exact ⟨_, (true), qz5, H', ⟨by first | omega | exact Nat.le_refl _⟩, ⟨bk_ BK101.out⟩, ⟨qz1⟩⟩
  }
  }
  {
  have H' := aM H
  clear H
  obtain ⟨hcz10_0, hcz10_1, hcz10_2, hfz10_0, hfz10_1, hfz10_2⟩ := b6_ BK101.out
  go_wp2_with (first | ((with_reducible refine gate_callee (f := 98) rfl ?_); refine goesL_ (some 6) rfl rfl Try.func98 (by kernel_rfl) rfl #[.int .i64 a0_0, .int .i64 1, .int .i64 10] rfl qz2 ?_; (with_reducible refine (spec_l1In.calls a0_0 1 10 false _ A4.out).mono ?_); rintro e w' ⟨rfl, ⟨nd, rfl⟩⟩; refine ⟨_, rfl, ?_⟩))
  go_meet
  case rel => exact ⟨_, (true), qz5, H', ⟨by first | omega | exact Nat.le_refl _⟩, ⟨bk_ BK101.out⟩, ⟨qz1⟩⟩
  }
 case rest =>
 clear HC2
 obtain ⟨kq, x24_1, rfl, HA, HJ1, BK101, HB⟩ := hcut
 cases kq with
 | zero => exact absurd HA.out (by simp [spec_FloorOk.j0])
 | succ kj1 =>
 have H := HA.out
 clear HA
 simp only [spec_FloorOk.j0] at H
 replace H := iB_ H
 rcases H with ⟨rfl, H⟩ | ⟨rfl, H⟩
 {
 obtain rfl := Option.some.inj H
 go_wp2
 go_ret
 exact ⟨qzw, qz1⟩
 }
 {
 have H' := aM H
 clear H
 go_wp2
 go_loopg [3] kj1 (fun kq v3 w' => ∃ (x3_2 : Int), v3 = .int .i64 x3_2 ∧ Aside0 (spec_FloorOk.l0 kq x3_2 a0_0 a0_1 l0_2 = some r) ∧ Aside0 (kq ≤ kj1) ∧ Aside0 (w'.heap[gb101]? = some (.cells #[.int .i64 a0_0, .int .i64 a0_1, (.slice A0_2 l0_2.length c0_2)] 43 (0, 0))) ∧ Aside0 (Below w.heap.size w w'))
 case atStart => exact ⟨(0), qz5, H', ⟨Nat.le_refl _⟩, ⟨bk_ BK101.out⟩, ⟨qz1⟩⟩
 case round =>
 clear H'
 try clear c11
 obtain ⟨x3_2, rfl, HA, HK2, BK101, HB⟩ := hrel
 cases gk with
 | zero => exact absurd HA.out (by simp [spec_FloorOk.l0])
 | succ k2 =>
 have H := HA.out
 clear HA
 simp only [spec_FloorOk.l0] at H
 replace H := iE_ H
 rcases H with ⟨c12b0, H⟩ | ⟨c12b0, H⟩
 {
 replace H := iD_ H
 obtain ⟨c13b0, H⟩ := H
 replace H := Option.bind_eq_some_iff.mp H
 obtain ⟨t105, A140, H⟩ := H
 have A14 := aM A140
 clear A140
 replace H := iB_ H
 rcases H with ⟨rfl, H⟩ | ⟨rfl, H⟩
 {
 have H' := aM H
 clear H
 obtain ⟨hcz16_0, hcz16_1, hcz16_2, hfz16_0, hfz16_1, hfz16_2⟩ := b6_ BK101.out
 have p104 : (0 ≤ (x3_2 : Int)) = True := et_
 have q104 : (x3_2 < (l0_2.length : Int)) = True := et_
 obtain ⟨ad104, e104, hx104_0⟩ := Kd.at_int HR0_2.out x3_2 dt_ dt_
 cases e104
 replace hx104_0 := cB_ hx104_0
 go_wp2_with (first | ((with_reducible refine gate_callee (f := 98) rfl ?_); refine goesL_ (some 37) rfl rfl Try.func98 (by kernel_rfl) rfl #[.int .i64 (rd l0_2 x3_2), .int .i64 0, .int .i64 4] rfl qz2 ?_; (with_reducible refine (spec_l1In.calls (rd l0_2 x3_2) 0 4 true _ A14.out).mono ?_); rintro e w' ⟨rfl, ⟨nd, rfl⟩⟩; refine ⟨_, rfl, ?_⟩))
 go_roundg k2
 case measure => have := HJ1.out; have := HK2.out; omega
 case rel => exact ⟨(wrap64 (x3_2 + 1)), qz5, H', ⟨by have := HJ1.out; have := HK2.out; omega⟩, ⟨bk_ BK101.out⟩, ⟨qz1⟩⟩
 }
 {
 obtain rfl := Option.some.inj H
 obtain ⟨hcz17_0, hcz17_1, hcz17_2, hfz17_0, hfz17_1, hfz17_2⟩ := b6_ BK101.out
 have p104 : (0 ≤ (x3_2 : Int)) = True := et_
 have q104 : (x3_2 < (l0_2.length : Int)) = True := et_
 obtain ⟨ad104, e104, hx104_0⟩ := Kd.at_int HR0_2.out x3_2 dt_ dt_
 cases e104
 replace hx104_0 := cB_ hx104_0
 go_wp2_with (first | ((with_reducible refine gate_callee (f := 98) rfl ?_); refine goesL_ (some 37) rfl rfl Try.func98 (by kernel_rfl) rfl #[.int .i64 (rd l0_2 x3_2), .int .i64 0, .int .i64 4] rfl qz2 ?_; (with_reducible refine (spec_l1In.calls (rd l0_2 x3_2) 0 4 false _ A14.out).mono ?_); rintro e w' ⟨rfl, ⟨nd, rfl⟩⟩; refine ⟨_, rfl, ?_⟩))
 go_ret
 exact ⟨qzw, qz1⟩
 }
 }
 {
 obtain rfl := Option.some.inj H
 obtain ⟨hcz18_0, hcz18_1, hcz18_2, hfz18_0, hfz18_1, hfz18_2⟩ := b6_ BK101.out
 go_wp2
 go_ret
 exact ⟨qzw, qz1⟩
 }
 }
/-! ### spec_l7Free: function 61 -/
def spec_l7Free.f (a0_0 : Int) (a0_1 : Int) (l0_2 : List Int) (a1 : Int) : Option (Bool) := (spec_l1In.f a1 0 (wrap64 ((l0_2.length : Int) - 1))).bind fun t107 => (if t107 = true then (if 0 ≤ a1 then (if a1 < (l0_2.length : Int) then (some ((rd l0_2 a1) != 0)) else (none)) else (none)) else (some false))
set_option maxHeartbeats 8000000 in
set_option maxRecDepth 100000 in
theorem spec_l7Free.calls (a0_0 : Int) (a0_1 : Int) (A0_2 : Option Addr) (c0_2 : Nat) (l0_2 : List Int) (a1 : Int) (r : Bool) (w : World) (hr0_2 : Kd.C (Kd.int .i64) w A0_2 l0_2.length l0_2) (hc0_2 : l0_2.length ≤ c0_2) (h : spec_l7Free.f a0_0 a0_1 l0_2 a1 = some r) :
  Calls Try.prog 61 #[.agg #[.int .i64 a0_0, .int .i64 a0_1, .slice A0_2 l0_2.length c0_2], .int .i64 a1] w fun e w' => e = .returned (.bool r) ∧ Below w.heap.size w w' := by
 have hu43 := Try.underlying43
 have HR0_2 := aM hr0_2
 have HC0_2 := aM hc0_2
 clear hr0_2 hc0_2
 have HB := aM (Below.refl w.heap.size w)
 unfold spec_l7Free.f at h
 have H := h
 clear h
 replace H := Option.bind_eq_some_iff.mp H
 obtain ⟨t107, A30, H⟩ := H
 have A3 := aM A30
 clear A30
 replace H := iB_ H
 rcases H with ⟨rfl, H⟩ | ⟨rfl, H⟩
 {
 replace H := iD_ H
 obtain ⟨c5b0, H⟩ := H
 replace H := iD_ H
 obtain ⟨c6b0, H⟩ := H
 obtain rfl := Option.some.inj H
 go_enter Try.func61, Try.ntmps61
 go_wp2_with (first | ((with_reducible refine gate_dst (N := 2) rfl ?_); refine bx_ 2 #[.int .i64 a0_0, .int .i64 a0_1, .slice A0_2 l0_2.length c0_2] 43 ?_; intro gb106 hg w7 hbox hb; have BK106 := aM (hbox); have GW106 := aM (bz_ w hg qz1); have GE106 := GW106; replace HB := bS_ hb; clear hb hbox hg; obtain ⟨hcz8_0, hcz8_1, hcz8_2, hfz8_0, hfz8_1, hfz8_2⟩ := b6_ BK106.out) | ((with_reducible refine gate_callee (f := 98) rfl ?_); refine goesL_ (some 10) rfl rfl Try.func98 (by kernel_rfl) rfl #[.int .i64 a1, .int .i64 0, .int .i64 (wrap64 ((l0_2.length : Int) - 1))] rfl qz2 ?_; (with_reducible refine (spec_l1In.calls a1 0 (wrap64 ((l0_2.length : Int) - 1)) true _ A3.out).mono ?_); rintro e w' ⟨rfl, ⟨nd, rfl⟩⟩; refine ⟨_, rfl, ?_⟩; have p108 : 0 ≤ (a1 : Int) := dt_; have q108 : a1 < (l0_2.length : Int) := dt_; obtain ⟨ad108, e108, hx108_0⟩ := Kd.at_int HR0_2.out a1 p108 q108; cases e108; replace hx108_0 := cB_ hx108_0; replace p108 := eq_true p108; replace q108 := eq_true q108))
 go_ret
 exact ⟨qzw, qz1⟩
 }
 {
 obtain rfl := Option.some.inj H
 go_enter Try.func61, Try.ntmps61
 go_wp2_with (first | ((with_reducible refine gate_dst (N := 2) rfl ?_); refine bx_ 2 #[.int .i64 a0_0, .int .i64 a0_1, .slice A0_2 l0_2.length c0_2] 43 ?_; intro gb106 hg w9 hbox hb; have BK106 := aM (hbox); have GW106 := aM (bz_ w hg qz1); have GE106 := GW106; replace HB := bS_ hb; clear hb hbox hg; obtain ⟨hcz10_0, hcz10_1, hcz10_2, hfz10_0, hfz10_1, hfz10_2⟩ := b6_ BK106.out) | ((with_reducible refine gate_callee (f := 98) rfl ?_); refine goesL_ (some 10) rfl rfl Try.func98 (by kernel_rfl) rfl #[.int .i64 a1, .int .i64 0, .int .i64 (wrap64 ((l0_2.length : Int) - 1))] rfl qz2 ?_; (with_reducible refine (spec_l1In.calls a1 0 (wrap64 ((l0_2.length : Int) - 1)) false _ A3.out).mono ?_); rintro e w' ⟨rfl, ⟨nd, rfl⟩⟩; refine ⟨_, rfl, ?_⟩))
 go_ret
 exact ⟨qzw, qz1⟩
 }
/-! ### spec_l1Beside: function 123 -/
mutual
def spec_l1Beside.j0 : Nat → Int → List Int → Int → Int → Int → Int → List Int → Option (List Int)
 | 0, _, _, _, _, _, _, _ => none
 | k + 1, x1, x5, x6, x7, x110000, x110001, x110002 => if x6 > 0 then (if x5.length < 17592186044416 then (spec_l1Beside.j1 k x1 (x5 ++ [wrap64 (x1 - 1)]) x6 x7 x110000 x110001 x110002) else (none)) else (spec_l1Beside.j1 k x1 x5 x6 x7 x110000 x110001 x110002)
def spec_l1Beside.j1 : Nat → Int → List Int → Int → Int → Int → Int → List Int → Option (List Int)
 | 0, _, _, _, _, _, _, _ => none
 | k + 1, x1, x5, x6, x7, x110000, x110001, x110002 => if x6 < (wrap64 (x110000 - 1)) then (if x5.length < 17592186044416 then ((some (x5 ++ [wrap64 (x1 + 1)] : List Int)).bind fun y119 => (if x7 < (wrap64 (x110001 - 1)) then (if y119.length < 17592186044416 then (some (y119 ++ [wrap64 (x1 + x110000)])) else (none)) else (some y119))) else (none)) else (if x7 < (wrap64 (x110001 - 1)) then (if x5.length < 17592186044416 then (some (x5 ++ [wrap64 (x1 + x110000)])) else (none)) else (some x5))
end
def spec_l1Beside.f (k : Nat) (a0_0 : Int) (a0_1 : Int) (l0_2 : List Int) (a1 : Int) : Option (List Int) := (some (([] : List Int) : List Int)).bind fun y110 => (if a0_0 = 0 then (none) else (if (wrap64 (Int.tdiv a1 a0_0)) > 0 then (if y110.length < 17592186044416 then (spec_l1Beside.j0 k a1 (y110 ++ [wrap64 (a1 - a0_0)]) (Int.tmod a1 a0_0) (wrap64 (Int.tdiv a1 a0_0)) a0_0 a0_1 l0_2) else (none)) else (spec_l1Beside.j0 k a1 y110 (Int.tmod a1 a0_0) (wrap64 (Int.tdiv a1 a0_0)) a0_0 a0_1 l0_2)))
theorem spec_l1Beside.mono_l : ∀ k, (∀ y0 y1 y2 y3 y4 y5 y6, LeO (spec_l1Beside.j0 k y0 y1 y2 y3 y4 y5 y6) (spec_l1Beside.j0 (k + 1) y0 y1 y2 y3 y4 y5 y6)) ∧ (∀ y0 y1 y2 y3 y4 y5 y6, LeO (spec_l1Beside.j1 k y0 y1 y2 y3 y4 y5 y6) (spec_l1Beside.j1 (k + 1) y0 y1 y2 y3 y4 y5 y6))
 | 0 => ⟨fun _ _ _ _ _ _ _ r h => by simp [spec_l1Beside.j0] at h, fun _ _ _ _ _ _ _ r h => by simp [spec_l1Beside.j1] at h⟩
 | k + 1 => by
  obtain ⟨ih0, ih1⟩ := spec_l1Beside.mono_l k
  refine ⟨?_, ?_⟩
  {
  intro y0 y1 y2 y3 y4 y5 y6
  unfold spec_l1Beside.j0
  exact qL
  }
  {
  intro y0 y1 y2 y3 y4 y5 y6
  unfold spec_l1Beside.j1
  exact qL
  }
theorem spec_l1Beside.mono : ∀ a0 a1 a2 a3 k, LeO (spec_l1Beside.f k a0 a1 a2 a3) (spec_l1Beside.f (k + 1) a0 a1 a2 a3) := by
 intro a0 a1 a2 a3 k
 obtain ⟨ih0, ih1⟩ := spec_l1Beside.mono_l k
 unfold spec_l1Beside.f
 exact qL
set_option maxHeartbeats 8000000 in
set_option maxRecDepth 100000 in
theorem spec_l1Beside.calls (k : Nat) (a0_0 : Int) (a0_1 : Int) (A0_2 : Option Addr) (c0_2 : Nat) (l0_2 : List Int) (a1 : Int) (r : List Int) (w : World) (hr0_2 : Kd.C (Kd.int .i64) w A0_2 l0_2.length l0_2) (hc0_2 : l0_2.length ≤ c0_2) (h : spec_l1Beside.f k a0_0 a0_1 l0_2 a1 = some r) :
  Calls Try.prog 123 #[.agg #[.int .i64 a0_0, .int .i64 a0_1, .slice A0_2 l0_2.length c0_2], .int .i64 a1] w fun e w' => ∃ v0_ : Value, e = .returned (v0_) ∧ Kd.R (Kd.int .i64) 3 w' w.heap.size (fun _ => True) v0_ r ∧ Below w.heap.size w w' := by
 have hu43 := Try.underlying43
 have HR0_2 := aM hr0_2
 have HC0_2 := aM hc0_2
 clear hr0_2 hc0_2
 have HB := aM (Below.refl w.heap.size w)
 unfold spec_l1Beside.f at h
 have H := h
 clear h
 obtain ⟨y110, hy110⟩ : ∃ y_ : List Int, y_ = (([] : List Int)) := ⟨_, rfl⟩
 replace H := yB_ hy110 H
 have Ny110 := aM hy110
 clear hy110
 by_cases c3 : a0_0 = 0
 {
 exact ap_ c3 H
 }
 {
 rw [if_neg c3] at H
 have c3b0 := beq_eq_false_iff_ne.mpr c3
 have c3b1 := bne_iff_ne.mpr c3
 have HC4 := aM H
 clear H
 go_enter Try.func123, Try.ntmps123
 go_upto_if 18 with (first | ((with_reducible refine gate_dst (N := 2) rfl ?_); refine bx_ 2 #[.int .i64 a0_0, .int .i64 a0_1, .slice A0_2 l0_2.length c0_2] 43 ?_; intro gb109 hg w5 hbox hb; have BK109 := aM (hbox); have GW109 := aM (bz_ w hg qz1); have GE109 := GW109; replace HB := bS_ hb; clear hb hbox hg) | ((with_reducible refine gate_dst (N := 8) rfl ?_); refine Kd.R_lit (Kd.int .i64) _ 3 ?hg (N := 8) ?hd (xs := ([] : List Int)) (inner := []) (ok := fun _ => True) (okp := fun _ => True) ?hr ?hp (fun _ hk => hk) trivial (Below.refl _ _) (Nat.le_refl _) (by simp) ?_; (case hd => rfl); (case hg => rfl); (case hr => exact qz8); (case hp => exact (Reps.none _ _)); intro v111 w6 ho7 hb hg_ hnew_; clear hg_ hnew_; (first | rw [← Ny110.out] at ho7 | (simp only [Int.reduceToNat] at ho7; rw [← Ny110.out] at ho7)); have HO112 := aM (Kd.R_lower ho7 (below_size qz1)); replace BK109 := bB_ BK109 hb; replace HB := bS_ hb; clear hb ho7; obtain ⟨hcz8_0, hcz8_1, hcz8_2, hfz8_0, hfz8_1, hfz8_2⟩ := b6_ BK109.out))
 (try simp only [Act.put, List.setIfInBounds_toArray, List.set_cons_zero, List.set_cons_succ])
 go_cut [5] (fun v5 wc => ∃ (kq : Nat) (x5_3 : List Int), Aside0 (spec_l1Beside.j0 kq a1 x5_3 (Int.tmod a1 a0_0) (wrap64 (Int.tdiv a1 a0_0)) a0_0 a0_1 l0_2 = some r) ∧ Aside0 (kq ≤ k) ∧ Aside0 (Kd.R (Kd.int .i64) 3 wc w.heap.size (fun _ => True) v5 x5_3) ∧ Aside0 (wc.heap[gb109]? = some (.cells #[.int .i64 a0_0, .int .i64 a0_1, (.slice A0_2 l0_2.length c0_2)] 43 (0, 0))) ∧ Aside0 (Below w.heap.size w wc))
 case first =>
  have H := HC4.out
  clear HC4
  replace H := iE_ H
  rcases H with ⟨c9b0, H⟩ | ⟨c9b0, H⟩
  {
  (first | rw [c9b0] | (simp only [i64_w, i32_w]; rw [c9b0]) | rw [@decide_eq_true _ _ (of_decide_eq_true c9b0)] | rw [@decide_eq_true _ _ (of_decide_eq_true c9b1)] | skip)
  replace H := iN_ H
  obtain ⟨c10, H⟩ := H
  have LMc10 := aM c10
  clear c10
  obtain ⟨y113, hy113⟩ : ∃ y_ : List Int, y_ = (y110 ++ [wrap64 (a1 - a0_0)]) := ⟨_, rfl⟩
  replace H : (spec_l1Beside.j0 k a1 y113 (Int.tmod a1 a0_0) (wrap64 (Int.tdiv a1 a0_0)) a0_0 a0_1 l0_2) = some r := by first | (rw [hy113]; exact H) | exact H
  have Ny113 := aM hy113
  clear hy113
  have H' := aM H
  clear H
  obtain ⟨hcz11_0, hcz11_1, hcz11_2, hfz11_0, hfz11_1, hfz11_2⟩ := b6_ BK109.out
  go_wp2_with (first | ((with_reducible refine gate_builtin (b := .append) (xs := #[.tmp 19, .tmp 24]) rfl ?_); at_builtin; refine Kd.R_append (Kd.int .i64) (w0 := w) w.heap.size rfl (.tmp 19) (.tmp 24) 24 3 (.int .i64 0) 8 rfl Try.underlying24 info3 rfl (by decide) (by omega) v111 y110 (wrap64 (a1 - a0_0)) [.int .i64 (wrap64 (a1 - a0_0))] (fun _ => True) (fun _ => False) rfl rfl ?aP (fun _ hk => hk.elim) ?aF ?aO ?aB ?aS ?aL ?_; (case aP => exact rfl); (case aB => exact qz1); (case aF => exact qz21); (case aO => exact (rr_ HO112.out)); (case aS => exact qz33); (case aL => have := LMc10.out; omega); intro v114 w12 ho hb hg hat; rw [← Ny113.out] at ho; replace BK109 := aM (blk_grown (bk_ BK109.out) hg (Kd.R_ne HO112.out BK109.out (by decide))); replace HB := aM (hb); have HO115 := aM (ho); clear HO112; clear ho hb hg hat))
  go_meet
  case rel => exact ⟨_, (y113), H', ⟨by first | omega | exact Nat.le_refl _⟩, ⟨rm_ HO115.out⟩, ⟨bk_ BK109.out⟩, ⟨qz1⟩⟩
  }
  {
  (first | rw [c9b0] | (simp only [i64_w, i32_w]; rw [c9b0]) | rw [@decide_eq_false _ _ (of_decide_eq_false c9b0)] | rw [@decide_eq_false _ _ (of_decide_eq_false c9b1)] | skip)
  have H' := aM H
  clear H
  go_wp2
  go_meet
  case rel => exact ⟨_, (y110), H', ⟨by first | omega | exact Nat.le_refl _⟩, ⟨rm_ HO112.out⟩, ⟨bk_ BK109.out⟩, ⟨qz1⟩⟩
  }
 case rest =>
 clear HC4
 try clear c3
 try clear c3b0
 try clear c3b1
 try clear hcz8_0 hcz8_1 hcz8_2 hfz8_0 hfz8_1 hfz8_2
 obtain ⟨kq, x5_3, HA, HJ3, HO_5, BK109, HB⟩ := hcut
 cases kq with
 | zero => exact absurd HA.out (by simp [spec_l1Beside.j0])
 | succ kj3 =>
 have H := HA.out
 clear HA
 simp only [spec_l1Beside.j0] at H
 have HC13 := aM H
 clear H
 go_upto_if 27 with (fail)
 go_cut [5] (fun v5 wc => ∃ (kq : Nat) (x5_12 : List Int), Aside0 (spec_l1Beside.j1 kq a1 x5_12 (Int.tmod a1 a0_0) (wrap64 (Int.tdiv a1 a0_0)) a0_0 a0_1 l0_2 = some r) ∧ Aside0 (kq ≤ kj3) ∧ Aside0 (Kd.R (Kd.int .i64) 3 wc w.heap.size (fun _ => True) v5 x5_12) ∧ Aside0 (wc.heap[gb109]? = some (.cells #[.int .i64 a0_0, .int .i64 a0_1, (.slice A0_2 l0_2.length c0_2)] 43 (0, 0))) ∧ Aside0 (Below w.heap.size w wc))
 case first =>
  have H := HC13.out
  clear HC13
  replace H := iE_ H
  rcases H with ⟨c14b0, H⟩ | ⟨c14b0, H⟩
  {
  (first | rw [c14b0] | (simp only [i64_w, i32_w]; rw [c14b0]) | rw [@decide_eq_true _ _ (of_decide_eq_true c14b0)] | rw [@decide_eq_true _ _ (of_decide_eq_true c14b1)] | skip)
  replace H := iN_ H
  obtain ⟨c15, H⟩ := H
  have LMc15 := aM c15
  clear c15
  obtain ⟨y116, hy116⟩ : ∃ y_ : List Int, y_ = (x5_3 ++ [wrap64 (a1 - 1)]) := ⟨_, rfl⟩
  replace H : (spec_l1Beside.j1 kj3 a1 y116 (Int.tmod a1 a0_0) (wrap64 (Int.tdiv a1 a0_0)) a0_0 a0_1 l0_2) = some r := by first | (rw [hy116]; exact H) | exact H
  have Ny116 := aM hy116
  clear hy116
  have H' := aM H
  clear H
  go_wp2_with (first | ((with_reducible refine gate_builtin (b := .append) (xs := #[.tmp 28, .tmp 31]) rfl ?_); at_builtin; refine Kd.R_append (Kd.int .i64) (w0 := w) w.heap.size rfl (.tmp 28) (.tmp 31) 24 3 (.int .i64 0) 8 rfl Try.underlying24 info3 rfl (by decide) (by omega) u5 x5_3 (wrap64 (a1 - 1)) [.int .i64 (wrap64 (a1 - 1))] (fun _ => True) (fun _ => False) rfl rfl ?aP (fun _ hk => hk.elim) ?aF ?aO ?aB ?aS ?aL ?_; (case aP => exact rfl); (case aB => exact qz1); (case aF => exact qz21); (case aO => exact (rr_ HO_5.out)); (case aS => exact qz33); (case aL => have := LMc15.out; omega); intro v117 w16 ho hb hg hat; rw [← Ny116.out] at ho; replace BK109 := aM (blk_grown (bk_ BK109.out) hg (Kd.R_ne HO_5.out BK109.out (by decide))); replace HB := aM (hb); have HO118 := aM (ho); clear HO_5; clear ho hb hg hat))
  go_meet
  case rel => exact ⟨_, (y116), H', ⟨by have := HJ3.out; first | omega | exact Nat.le_refl _⟩, ⟨rm_ HO118.out⟩, ⟨bk_ BK109.out⟩, ⟨qz1⟩⟩
  }
  {
  (first | rw [c14b0] | (simp only [i64_w, i32_w]; rw [c14b0]) | rw [@decide_eq_false _ _ (of_decide_eq_false c14b0)] | rw [@decide_eq_false _ _ (of_decide_eq_false c14b1)] | skip)
  have H' := aM H
  clear H
  go_wp2
  go_meet
  case rel => exact ⟨_, (x5_3), H', ⟨by have := HJ3.out; first | omega | exact Nat.le_refl _⟩, ⟨rm_ HO_5.out⟩, ⟨bk_ BK109.out⟩, ⟨qz1⟩⟩
  }
 case rest =>
 clear HC13
 try clear c3
 try clear c3b0
 try clear c3b1
 try clear hcz8_0 hcz8_1 hcz8_2 hfz8_0 hfz8_1 hfz8_2
 obtain ⟨kq, x5_12, HA, HJ12, HO_5, BK109, HB⟩ := hcut
 cases kq with
 | zero => exact absurd HA.out (by simp [spec_l1Beside.j1])
 | succ kj12 =>
 have H := HA.out
 clear HA
 simp only [spec_l1Beside.j1] at H
 replace H := iE_ H
 rcases H with ⟨c17b0, H⟩ | ⟨c17b0, H⟩
 {
 replace H := iN_ H
 obtain ⟨c18, H⟩ := H
 have LMc18 := aM c18
 clear c18
 obtain ⟨y119, hy119⟩ : ∃ y_ : List Int, y_ = (x5_12 ++ [wrap64 (a1 + 1)]) := ⟨_, rfl⟩
 replace H := yB_ hy119 H
 have Ny119 := aM hy119
 clear hy119
 replace H := iE_ H
 rcases H with ⟨c19b0, H⟩ | ⟨c19b0, H⟩
 {
 replace H := iN_ H
 obtain ⟨c20, H⟩ := H
 have LMc20 := aM c20
 clear c20
 obtain ⟨y122, hy122⟩ : ∃ y_ : List Int, y_ = (y119 ++ [wrap64 (a1 + a0_0)]) := ⟨_, rfl⟩
 replace H : (some y122) = some r := by first | (rw [hy122]; exact H) | exact H
 have Ny122 := aM hy122
 clear hy122
 obtain rfl := Option.some.inj H
 obtain ⟨hcz21_0, hcz21_1, hcz21_2, hfz21_0, hfz21_1, hfz21_2⟩ := b6_ BK109.out
 go_wp2_with (first | ((with_reducible refine gate_builtin (b := .append) (xs := #[.tmp 38, .tmp 41]) rfl ?_); at_builtin; refine Kd.R_append (Kd.int .i64) (w0 := w) w.heap.size rfl (.tmp 38) (.tmp 41) 24 3 (.int .i64 0) 8 rfl Try.underlying24 info3 rfl (by decide) (by omega) u5 x5_12 (wrap64 (a1 + 1)) [.int .i64 (wrap64 (a1 + 1))] (fun _ => True) (fun _ => False) rfl rfl ?aP (fun _ hk => hk.elim) ?aF ?aO ?aB ?aS ?aL ?_; (case aP => exact rfl); (case aB => exact qz1); (case aF => exact qz21); (case aO => exact (rr_ HO_5.out)); (case aS => exact qz33); (case aL => have := LMc18.out; omega); intro v120 w22 ho hb hg hat; rw [← Ny119.out] at ho; replace BK109 := aM (blk_grown (bk_ BK109.out) hg (Kd.R_ne HO_5.out BK109.out (by decide))); replace HB := aM (hb); have HO121 := aM (ho); clear HO_5; clear ho hb hg hat; obtain ⟨hcz23_0, hcz23_1, hcz23_2, hfz23_0, hfz23_1, hfz23_2⟩ := b6_ BK109.out) | ((with_reducible refine gate_builtin (b := .append) (xs := #[.tmp 48, .tmp 53]) rfl ?_); at_builtin; refine Kd.R_append (Kd.int .i64) (w0 := w) w.heap.size rfl (.tmp 48) (.tmp 53) 24 3 (.int .i64 0) 8 rfl Try.underlying24 info3 rfl (by decide) (by omega) v120 y119 (wrap64 (a1 + a0_0)) [.int .i64 (wrap64 (a1 + a0_0))] (fun _ => True) (fun _ => False) rfl rfl ?aP (fun _ hk => hk.elim) ?aF ?aO ?aB ?aS ?aL ?_; (case aP => exact rfl); (case aB => exact qz1); (case aF => exact qz21); (case aO => exact (rr_ HO121.out)); (case aS => exact qz33); (case aL => have := LMc20.out; omega); intro v123 w24 ho hb hg hat; rw [← Ny122.out] at ho; replace BK109 := aM (blk_grown (bk_ BK109.out) hg (Kd.R_ne HO121.out BK109.out (by decide))); replace HB := aM (hb); have HO124 := aM (ho); clear HO121; clear ho hb hg hat))
 go_ret
 exact ⟨_, qzw, by (with_reducible repeat (first | apply Kd.R_alloc | apply Kd.R_drewN | apply Kd.R_drew)); exact HO124.out, qz1⟩
 }
 {
 obtain rfl := Option.some.inj H
 obtain ⟨hcz25_0, hcz25_1, hcz25_2, hfz25_0, hfz25_1, hfz25_2⟩ := b6_ BK109.out
 go_wp2_with (first | ((with_reducible refine gate_builtin (b := .append) (xs := #[.tmp 38, .tmp 41]) rfl ?_); at_builtin; refine Kd.R_append (Kd.int .i64) (w0 := w) w.heap.size rfl (.tmp 38) (.tmp 41) 24 3 (.int .i64 0) 8 rfl Try.underlying24 info3 rfl (by decide) (by omega) u5 x5_12 (wrap64 (a1 + 1)) [.int .i64 (wrap64 (a1 + 1))] (fun _ => True) (fun _ => False) rfl rfl ?aP (fun _ hk => hk.elim) ?aF ?aO ?aB ?aS ?aL ?_; (case aP => exact rfl); (case aB => exact qz1); (case aF => exact qz21); (case aO => exact (rr_ HO_5.out)); (case aS => exact qz33); (case aL => have := LMc18.out; omega); intro v120 w26 ho hb hg hat; rw [← Ny119.out] at ho; replace BK109 := aM (blk_grown (bk_ BK109.out) hg (Kd.R_ne HO_5.out BK109.out (by decide))); replace HB := aM (hb); have HO121 := aM (ho); clear HO_5; clear ho hb hg hat; obtain ⟨hcz27_0, hcz27_1, hcz27_2, hfz27_0, hfz27_1, hfz27_2⟩ := b6_ BK109.out))
 go_ret
 exact ⟨_, qzw, by (with_reducible repeat (first | apply Kd.R_alloc | apply Kd.R_drewN | apply Kd.R_drew)); exact HO121.out, qz1⟩
 }
 }
 {
 replace H := iE_ H
 rcases H with ⟨c28b0, H⟩ | ⟨c28b0, H⟩
 {
 replace H := iN_ H
 obtain ⟨c29, H⟩ := H
 have LMc29 := aM c29
 clear c29
 obtain ⟨y125, hy125⟩ : ∃ y_ : List Int, y_ = (x5_12 ++ [wrap64 (a1 + a0_0)]) := ⟨_, rfl⟩
 replace H : (some y125) = some r := by first | (rw [hy125]; exact H) | exact H
 have Ny125 := aM hy125
 clear hy125
 obtain rfl := Option.some.inj H
 obtain ⟨hcz30_0, hcz30_1, hcz30_2, hfz30_0, hfz30_1, hfz30_2⟩ := b6_ BK109.out
 go_wp2_with (first | ((with_reducible refine gate_builtin (b := .append) (xs := #[.tmp 48, .tmp 53]) rfl ?_); at_builtin; refine Kd.R_append (Kd.int .i64) (w0 := w) w.heap.size rfl (.tmp 48) (.tmp 53) 24 3 (.int .i64 0) 8 rfl Try.underlying24 info3 rfl (by decide) (by omega) u5 x5_12 (wrap64 (a1 + a0_0)) [.int .i64 (wrap64 (a1 + a0_0))] (fun _ => True) (fun _ => False) rfl rfl ?aP (fun _ hk => hk.elim) ?aF ?aO ?aB ?aS ?aL ?_; (case aP => exact rfl); (case aB => exact qz1); (case aF => exact qz21); (case aO => exact (rr_ HO_5.out)); (case aS => exact qz33); (case aL => have := LMc29.out; omega); intro v126 w31 ho hb hg hat; rw [← Ny125.out] at ho; replace BK109 := aM (blk_grown (bk_ BK109.out) hg (Kd.R_ne HO_5.out BK109.out (by decide))); replace HB := aM (hb); have HO127 := aM (ho); clear HO_5; clear ho hb hg hat))
 go_ret
 exact ⟨_, qzw, by (with_reducible repeat (first | apply Kd.R_alloc | apply Kd.R_drewN | apply Kd.R_drew)); exact HO127.out, qz1⟩
 }
 {
 obtain rfl := Option.some.inj H
 obtain ⟨hcz32_0, hcz32_1, hcz32_2, hfz32_0, hfz32_1, hfz32_2⟩ := b6_ BK109.out
 go_wp2
 go_ret
 exact ⟨_, qzw, by (with_reducible repeat (first | apply Kd.R_alloc | apply Kd.R_drewN | apply Kd.R_drew)); exact HO_5.out, qz1⟩
 }
 }
 }
end Go.Proofs.Ytankmdbbgepmbaa.PFnStep
