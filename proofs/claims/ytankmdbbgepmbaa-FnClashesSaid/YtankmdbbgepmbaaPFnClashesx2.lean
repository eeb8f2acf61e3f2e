-- Made by a program of this session out of the translation. Lean checks it.
import Derived.Test.YtankmdbbgepmbaaPFnClashesx0
namespace Go.Proofs.Ytankmdbbgepmbaa.PFnClashes
open Go.RowKit Go.Proofs.YtankmdbbgepmbaaW.PrintWords Go.Proofs.YtankmdbbgepmbaaW.PrintLast Go.Proofs.YtankmdbbgepmbaaW.PrintMore
set_option linter.unusedVariables false
set_option linter.unusedSimpArgs false
set_option maxHeartbeats 16000000
set_option maxRecDepth 100000

/-! ### laws_big: function 23 -/
def laws_big.f (l0 : List Int) : Option (Bool) := some (decide ((l0.length : Int) > 1048576))
theorem laws_big.calls (A0 : Option Addr) (c0 : Nat) (l0 : List Int) (r : Bool) (w : World) (hr0 : Kd.C (Kd.int .u8) w A0 l0.length l0) (hc0 : l0.length ≤ c0) (h : laws_big.f l0 = some r) :
  Calls Try.prog 23 #[.slice A0 l0.length c0] w fun e w' => e = .returned (.bool r) ∧ Drawn0 w w' := by
 have HR0 := aM hr0
 have HC0 := aM hc0
 clear hr0 hc0
 unfold laws_big.f at h
 have H := h
 clear h
 obtain rfl := Option.some.inj H
 go_enter Try.func23, Try.ntmps23
 go_wp2
 go_ret
 exact ⟨by first | rfl | (simp; done) | (simp [*]; done), by repeat (first | exact Drawn0.refl _ | apply Drawn0.step)⟩

/-! ### spec_l1In: function 98 -/
def spec_l1In.f (a0 : Int) (a1 : Int) (a2 : Int) : Option (Bool) := if a0 ≥ a1 then (some (decide (a0 ≤ a2))) else (some false)
theorem spec_l1In.calls (a0 : Int) (a1 : Int) (a2 : Int) (r : Bool) (w : World) (h : spec_l1In.f a0 a1 a2 = some r) :
  Calls Try.prog 98 #[.int .i64 a0, .int .i64 a1, .int .i64 a2] w fun e w' => e = .returned (.bool r) ∧ Drawn0 w w' := by
 unfold spec_l1In.f at h
 have H := h
 clear h
 replace H := iE_ H
 rcases H with ⟨c4b0, H⟩ | ⟨c4b0, H⟩
 {
 obtain rfl := Option.some.inj H
 go_enter Try.func98, Try.ntmps98
 go_wp2
 go_ret
 exact ⟨by first | rfl | (simp; done) | (simp [*]; done), by repeat (first | exact Drawn0.refl _ | apply Drawn0.step)⟩
 }
 {
 obtain rfl := Option.some.inj H
 go_enter Try.func98, Try.ntmps98
 go_wp2
 go_ret
 exact ⟨by first | rfl | (simp; done) | (simp [*]; done), by repeat (first | exact Drawn0.refl _ | apply Drawn0.step)⟩
 }
/-! ### spec_FloorOk: function 60 -/
mutual
def spec_FloorOk.j0 : Nat → Bool → Int → Int → List Int → Option (Bool)
 | 0, _, _, _, _ => none
 | k + 1, x24, x102000, x102001, x102002 => if x24 = true then (some false) else (spec_FloorOk.l0 k 0 x102000 x102001 x102002)
def spec_FloorOk.l0 : Nat → Int → Int → Int → List Int → Option (Bool)
 | 0, _, _, _, _ => none
 | k + 1, x3, x102000, x102001, x102002 => if x3 < (x102002.length : Int) then (if 0 ≤ x3 then ((spec_l1In.f (rd x102002 x3) 0 4).bind fun t105 => (if t105 = true then (spec_FloorOk.l0 k (wrap64 (x3 + 1)) x102000 x102001 x102002) else (some false))) else (none)) else (some true)
end
def spec_FloorOk.f (k : Nat) (a0_0 : Int) (a0_1 : Int) (l0_2 : List Int) : Option (Bool) := (spec_l1In.f a0_0 1 10).bind fun t102 => (if t102 = true then ((spec_l1In.f a0_1 1 10).bind fun t103 => (if t103 = true then (spec_FloorOk.j0 k ((l0_2.length : Int) != (wrap64 (a0_0 * a0_1))) a0_0 a0_1 l0_2) else (spec_FloorOk.j0 k true a0_0 a0_1 l0_2))) else (spec_FloorOk.j0 k true a0_0 a0_1 l0_2))
theorem spec_FloorOk.mono_l : ∀ k, (∀ y0 y1 y2 y3, LeO (spec_FloorOk.j0 k y0 y1 y2 y3) (spec_FloorOk.j0 (k + 1) y0 y1 y2 y3)) ∧ (∀ y0 y1 y2 y3, LeO (spec_FloorOk.l0 k y0 y1 y2 y3) (spec_FloorOk.l0 (k + 1) y0 y1 y2 y3))
 | 0 => ⟨fun _ _ _ _ r h => by simp [spec_FloorOk.j0] at h, fun _ _ _ _ r h => by simp [spec_FloorOk.l0] at h⟩
 | k + 1 => by
  obtain ⟨ih0, ih1⟩ := spec_FloorOk.mono_l k
  refine ⟨?_, ?_⟩
  {
  intro y0 y1 y2 y3
  unfold spec_FloorOk.j0
  exact qL
  }
  {
  intro y0 y1 y2 y3
  unfold spec_FloorOk.l0
  exact qL
  }
theorem spec_FloorOk.mono : ∀ a0 a1 a2 k, LeO (spec_FloorOk.f k a0 a1 a2) (spec_FloorOk.f (k + 1) a0 a1 a2) := by
 intro a0 a1 a2 k
 obtain ⟨ih0, ih1⟩ := spec_FloorOk.mono_l k
 unfold spec_FloorOk.f
 exact qL
theorem spec_FloorOk.calls (k : Nat) (a0_0 : Int) (a0_1 : Int) (A0_2 : Option Addr) (c0_2 : Nat) (l0_2 : List Int) (r : Bool) (w : World) (hr0_2 : Kd.C (Kd.int .i64) w A0_2 l0_2.length l0_2) (hc0_2 : l0_2.length ≤ c0_2) (h : spec_FloorOk.f k a0_0 a0_1 l0_2 = some r) :
  Calls Try.prog 60 #[.agg #[.int .i64 a0_0, .int .i64 a0_1, .slice A0_2 l0_2.length c0_2]] w fun e w' => e = .returned (.bool r) ∧ Below w.heap.size w w' := by
 have hu43 := Try.underlying43
 have HR0_2 := aM hr0_2
 have HC0_2 := aM hc0_2
 clear hr0_2 hc0_2
 have HB := aM (Below.refl w.heap.size w)
 unfold spec_FloorOk.f at h
 have H := h
 clear h
 have HC2 := aM H
 clear H
 go_enter Try.func60, Try.ntmps60
 go_upto_region 1 with (first | ((with_reducible refine gate_dst (N := 1) rfl ?_); (try (refine gate_guard (by rfl) ?_; dsimp only)); refine bx_ 1 #[.int .i64 a0_0, .int .i64 a0_1, .slice A0_2 l0_2.length c0_2] 43 ?_; intro gb101 hg w3 hbox hb; have BK101 := aM (hbox); have GW101 := aM (bz_ w hg qz1); have GE101 := GW101; replace HB := bS_ hb; clear hb hbox hg))
 (try simp only [Act.put, List.setIfInBounds_toArray, List.set_cons_zero, List.set_cons_succ])
 go_cut [24] (fun v24 wc => ∃ (kq : Nat) (x24_1 : Bool), v24 = .bool x24_1 ∧ Aside0 (spec_FloorOk.j0 kq x24_1 a0_0 a0_1 l0_2 = some r) ∧ Aside0 (kq ≤ k) ∧ Aside0 (wc.heap[gb101]? = some (.cells #[.int .i64 a0_0, .int .i64 a0_1, (.slice A0_2 l0_2.length c0_2)] 43 (0, 0))) ∧ Aside0 (Below w.heap.size w wc))
 case first =>
  have H := HC2.out
  clear HC2
  replace H := Option.bind_eq_some_iff.mp H
  obtain ⟨t102, A40, H⟩ := H
  have A4 := aM A40
  clear A40
  replace H := iB_ H
  rcases H with ⟨rfl, H⟩ | ⟨rfl, H⟩
  {
  replace H := Option.bind_eq_some_iff.mp H
  obtain ⟨t103, A60, H⟩ := H
  have A6 := aM A60
  clear A60
  replace H := iB_ H
  rcases H with ⟨rfl, H⟩ | ⟨rfl, H⟩
  {
  have H' := aM H
  clear H
  obtain ⟨hcz8_0, hcz8_1, hcz8_2, hfz8_0, hfz8_1, hfz8_2⟩ := b6_ BK101.out
  go_wp2_with (first | ((with_reducible refine gate_callee (f := 98) rfl ?_); refine goesL_ (some 6) rfl rfl Try.func98 (by kernel_rfl) rfl #[.int .i64 a0_0, .int .i64 1, .int .i64 10] rfl qz2 ?_; (with_reducible refine (spec_l1In.calls a0_0 1 10 true _ A4.out).mono ?_); rintro e w' ⟨rfl, ⟨nd, rfl⟩⟩; refine ⟨_, rfl, ?_⟩) | (go_at_call 98; (with_reducible refine (spec_l1In.calls a0_1 1 10 true _ A6.out).mono ?_); rintro e w' ⟨rfl, ⟨nd, rfl⟩⟩))
  go_meet
  case rel => exact ⟨_, (((l0_2.length : Int) != (wrap64 (a0_0 * a0_1)))), qz7, H', ⟨by first | omega | exact Nat.le_refl _⟩, ⟨bk_ BK101.out⟩, ⟨qz1⟩⟩
  }
  {
  have H' := aM H
  clear H
  obtain ⟨hcz9_0, hcz9_1, hcz9_2, hfz9_0, hfz9_1, hfz9_2⟩ := b6_ BK101.out
  go_wp2_with (first | ((with_reducible refine gate_callee (f := 98) rfl ?_); refine goesL_ (some 6) rfl rfl Try.func98 (by kernel_rfl) rfl #[.int .i64 a0_0, .int .i64 1, .int .i64 10] rfl qz2 ?_; (with_reducible refine (spec_l1In.calls a0_0 1 10 true _ A4.out).mono ?_); rintro e w' ⟨rfl, ⟨nd, rfl⟩⟩; refine ⟨_, rfl, ?_⟩) | (go_at_call 98; (with_reducible refine (spec_l1In.calls a0_1 1 10 false _ A6.out).mono ?_); rintro e w' ⟨rfl, ⟨nd, rfl⟩⟩))
  go_meet
  case rel => exact ⟨_, (true), qz7, H', ⟨by first | omega | exact Nat.le_refl _⟩, ⟨bk_ BK101.out⟩, ⟨qz1⟩⟩
  }
  }
  {
  have H' := aM H
  clear H
  obtain ⟨hcz10_0, hcz10_1, hcz10_2, hfz10_0, hfz10_1, hfz10_2⟩ := b6_ BK101.out
  go_wp2_with (first | ((with_reducible refine gate_callee (f := 98) rfl ?_); refine goesL_ (some 6) rfl rfl Try.func98 (by kernel_rfl) rfl #[.int .i64 a0_0, .int .i64 1, .int .i64 10] rfl qz2 ?_; (with_reducible refine (spec_l1In.calls a0_0 1 10 false _ A4.out).mono ?_); rintro e w' ⟨rfl, ⟨nd, rfl⟩⟩; refine ⟨_, rfl, ?_⟩))
  go_meet
  case rel => exact ⟨_, (true), qz7, H', ⟨by first | omega | exact Nat.le_refl _⟩, ⟨bk_ BK101.out⟩, ⟨qz1⟩⟩
  }
 case rest =>
 clear HC2
 obtain ⟨kq, x24_1, rfl, HA, HJ1, BK101, HB⟩ := hcut
 cases kq with
 | zero => exact absurd HA.out (by simp [spec_FloorOk.j0])
 | succ kj1 =>
 have H := HA.out
 clear HA
 simp only [spec_FloorOk.j0] at H
 replace H := iB_ H
 rcases H with ⟨rfl, H⟩ | ⟨rfl, H⟩
 {
 obtain rfl := Option.some.inj H
 go_wp2
 go_ret
 exact ⟨qzw, qz1⟩
 }
 {
 have H' := aM H
 clear H
 go_wp2
 go_loopg [3] kj1 (fun kq v3 w' => ∃ (x3_2 : Int), v3 = .int .i64 x3_2 ∧ Aside0 (spec_FloorOk.l0 kq x3_2 a0_0 a0_1 l0_2 = some r) ∧ Aside0 (kq ≤ kj1) ∧ Aside0 (w'.heap[gb101]? = some (.cells #[.int .i64 a0_0, .int .i64 a0_1, (.slice A0_2 l0_2.length c0_2)] 43 (0, 0))) ∧ Aside0 (Below w.heap.size w w'))
 case atStart => exact ⟨(0), qz7, H', ⟨Nat.le_refl _⟩, ⟨bk_ BK101.out⟩, ⟨qz1⟩⟩
 case round =>
 clear H'
 try clear c11
 obtain ⟨x3_2, rfl, HA, HK2, BK101, HB⟩ := hrel
 cases gk with
 | zero => exact absurd HA.out (by simp [spec_FloorOk.l0])
 | succ k2 =>
 have H := HA.out
 clear HA
 simp only [spec_FloorOk.l0] at H
 replace H := iE_ H
 rcases H with ⟨c12b0, H⟩ | ⟨c12b0, H⟩
 {
 replace H := iD_ H
 obtain ⟨c13b0, H⟩ := H
 replace H := Option.bind_eq_some_iff.mp H
 obtain ⟨t105, A140, H⟩ := H
 have A14 := aM A140
 clear A140
 replace H := iB_ H
 rcases H with ⟨rfl, H⟩ | ⟨rfl, H⟩
 {
 have H' := aM H
 clear H
 obtain ⟨hcz16_0, hcz16_1, hcz16_2, hfz16_0, hfz16_1, hfz16_2⟩ := b6_ BK101.out
 have p104 : (0 ≤ (x3_2 : Int)) = True := et_
 have q104 : (x3_2 < (l0_2.length : Int)) = True := et_
 obtain ⟨ad104, e104, hx104_0⟩ := tC1_ (Kd.at_int HR0_2.out x3_2 dt_ dt_)
 cases e104
 go_wp2_with (first | ((with_reducible refine gate_callee (f := 98) rfl ?_); refine goesL_ (some 37) rfl rfl Try.func98 (by kernel_rfl) rfl #[.int .i64 (rd l0_2 x3_2), .int .i64 0, .int .i64 4] rfl qz2 ?_; (with_reducible refine (spec_l1In.calls (rd l0_2 x3_2) 0 4 true _ A14.out).mono ?_); rintro e w' ⟨rfl, ⟨nd, rfl⟩⟩; refine ⟨_, rfl, ?_⟩))
 go_roundg k2
 case measure => have := HJ1.out; have := HK2.out; omega
 case rel => exact ⟨(wrap64 (x3_2 + 1)), qz7, H', ⟨by have := HJ1.out; have := HK2.out; omega⟩, ⟨bk_ BK101.out⟩, ⟨qz1⟩⟩
 }
 {
 obtain rfl := Option.some.inj H
 obtain ⟨hcz17_0, hcz17_1, hcz17_2, hfz17_0, hfz17_1, hfz17_2⟩ := b6_ BK101.out
 have p104 : (0 ≤ (x3_2 : Int)) = True := et_
 have q104 : (x3_2 < (l0_2.length : Int)) = True := et_
 obtain ⟨ad104, e104, hx104_0⟩ := tC1_ (Kd.at_int HR0_2.out x3_2 dt_ dt_)
 cases e104
 go_wp2_with (first | ((with_reducible refine gate_callee (f := 98) rfl ?_); refine goesL_ (some 37) rfl rfl Try.func98 (by kernel_rfl) rfl #[.int .i64 (rd l0_2 x3_2), .int .i64 0, .int .i64 4] rfl qz2 ?_; (with_reducible refine (spec_l1In.calls (rd l0_2 x3_2) 0 4 false _ A14.out).mono ?_); rintro e w' ⟨rfl, ⟨nd, rfl⟩⟩; refine ⟨_, rfl, ?_⟩))
 go_ret
 exact ⟨qzw, qz1⟩
 }
 }
 {
 obtain rfl := Option.some.inj H
 obtain ⟨hcz18_0, hcz18_1, hcz18_2, hfz18_0, hfz18_1, hfz18_2⟩ := b6_ BK101.out
 go_wp2
 go_ret
 exact ⟨qzw, qz1⟩
 }
 }
/-! ### spec_l7Free: function 61 -/
def spec_l7Free.f (a0_0 : Int) (a0_1 : Int) (l0_2 : List Int) (a1 : Int) : Option (Bool) := (spec_l1In.f a1 0 (wrap64 ((l0_2.length : Int) - 1))).bind fun t107 => (if t107 = true then (if 0 ≤ a1 then (if a1 < (l0_2.length : Int) then (some ((rd l0_2 a1) != 0)) else (none)) else (none)) else (some false))
theorem spec_l7Free.calls (a0_0 : Int) (a0_1 : Int) (A0_2 : Option Addr) (c0_2 : Nat) (l0_2 : List Int) (a1 : Int) (r : Bool) (w : World) (hr0_2 : Kd.C (Kd.int .i64) w A0_2 l0_2.length l0_2) (hc0_2 : l0_2.length ≤ c0_2) (h : spec_l7Free.f a0_0 a0_1 l0_2 a1 = some r) :
  Calls Try.prog 61 #[.agg #[.int .i64 a0_0, .int .i64 a0_1, .slice A0_2 l0_2.length c0_2], .int .i64 a1] w fun e w' => e = .returned (.bool r) ∧ Below w.heap.size w w' := by
 have hu43 := Try.underlying43
 have HR0_2 := aM hr0_2
 have HC0_2 := aM hc0_2
 clear hr0_2 hc0_2
 have HB := aM (Below.refl w.heap.size w)
 unfold spec_l7Free.f at h
 have H := h
 clear h
 replace H := Option.bind_eq_some_iff.mp H
 obtain ⟨t107, A30, H⟩ := H
 have A3 := aM A30
 clear A30
 replace H := iB_ H
 rcases H with ⟨rfl, H⟩ | ⟨rfl, H⟩
 {
 replace H := iD_ H
 obtain ⟨c5b0, H⟩ := H
 replace H := iD_ H
 obtain ⟨c6b0, H⟩ := H
 obtain rfl := Option.some.inj H
 go_enter Try.func61, Try.ntmps61
 go_wp2_with (first | ((with_reducible refine gate_dst (N := 2) rfl ?_); refine bx_ 2 #[.int .i64 a0_0, .int .i64 a0_1, .slice A0_2 l0_2.length c0_2] 43 ?_; intro gb106 hg w7 hbox hb; have BK106 := aM (hbox); have GW106 := aM (bz_ w hg qz1); have GE106 := GW106; replace HB := bS_ hb; clear hb hbox hg; obtain ⟨hcz8_0, hcz8_1, hcz8_2, hfz8_0, hfz8_1, hfz8_2⟩ := b6_ BK106.out) | ((with_reducible refine gate_callee (f := 98) rfl ?_); refine goesL_ (some 10) rfl rfl Try.func98 (by kernel_rfl) rfl #[.int .i64 a1, .int .i64 0, .int .i64 (wrap64 ((l0_2.length : Int) - 1))] rfl qz2 ?_; (with_reducible refine (spec_l1In.calls a1 0 (wrap64 ((l0_2.length : Int) - 1)) true _ A3.out).mono ?_); rintro e w' ⟨rfl, ⟨nd, rfl⟩⟩; refine ⟨_, rfl, ?_⟩; have p108 : 0 ≤ (a1 : Int) := dt_; have q108 : a1 < (l0_2.length : Int) := dt_; obtain ⟨ad108, e108, hx108_0⟩ := Kd.at_int HR0_2.out a1 p108 q108; cases e108; replace hx108_0 := cB_ hx108_0; replace p108 := eq_true p108; replace q108 := eq_true q108))
 go_ret
 exact ⟨qzw, qz1⟩
 }
 {
 obtain rfl := Option.some.inj H
 go_enter Try.func61, Try.ntmps61
 go_wp2_with (first | ((with_reducible refine gate_dst (N := 2) rfl ?_); refine bx_ 2 #[.int .i64 a0_0, .int .i64 a0_1, .slice A0_2 l0_2.length c0_2] 43 ?_; intro gb106 hg w9 hbox hb; have BK106 := aM (hbox); have GW106 := aM (bz_ w hg qz1); have GE106 := GW106; replace HB := bS_ hb; clear hb hbox hg; obtain ⟨hcz10_0, hcz10_1, hcz10_2, hfz10_0, hfz10_1, hfz10_2⟩ := b6_ BK106.out) | ((with_reducible refine gate_callee (f := 98) rfl ?_); refine goesL_ (some 10) rfl rfl Try.func98 (by kernel_rfl) rfl #[.int .i64 a1, .int .i64 0, .int .i64 (wrap64 ((l0_2.length : Int) - 1))] rfl qz2 ?_; (with_reducible refine (spec_l1In.calls a1 0 (wrap64 ((l0_2.length : Int) - 1)) false _ A3.out).mono ?_); rintro e w' ⟨rfl, ⟨nd, rfl⟩⟩; refine ⟨_, rfl, ?_⟩))
 go_ret
 exact ⟨qzw, qz1⟩
 }
/-! ### spec_l1Beside: function 123 -/
mutual
def spec_l1Beside.j0 : Nat → Int → List Int → Int → Int → Int → Int → List Int → Option (List Int)
 | 0, _, _, _, _, _, _, _ => none
 | k + 1, x1, x5, x6, x7, x110000, x110001, x110002 => if x6 > 0 then (if x5.length < 17592186044416 then (spec_l1Beside.j1 k x1 (x5 ++ [wrap64 (x1 - 1)]) x6 x7 x110000 x110001 x110002) else (none)) else (spec_l1Beside.j1 k x1 x5 x6 x7 x110000 x110001 x110002)
def spec_l1Beside.j1 : Nat → Int → List Int → Int → Int → Int → Int → List Int → Option (List Int)
 | 0, _, _, _, _, _, _, _ => none
 | k + 1, x1, x5, x6, x7, x110000, x110001, x110002 => if x6 < (wrap64 (x110000 - 1)) then (if x5.length < 17592186044416 then ((some (x5 ++ [wrap64 (x1 + 1)] : List Int)).bind fun y119 => (if x7 < (wrap64 (x110001 - 1)) then (if y119.length < 17592186044416 then (some (y119 ++ [wrap64 (x1 + x110000)])) else (none)) else (some y119))) else (none)) else (if x7 < (wrap64 (x110001 - 1)) then (if x5.length < 17592186044416 then (some (x5 ++ [wrap64 (x1 + x110000)])) else (none)) else (some x5))
end
def spec_l1Beside.f (k : Nat) (a0_0 : Int) (a0_1 : Int) (l0_2 : List Int) (a1 : Int) : Option (List Int) := (some (([] : List Int) : List Int)).bind fun y110 => (if a0_0 = 0 then (none) else (if (wrap64 (Int.tdiv a1 a0_0)) > 0 then (if y110.length < 17592186044416 then (spec_l1Beside.j0 k a1 (y110 ++ [wrap64 (a1 - a0_0)]) (Int.tmod a1 a0_0) (wrap64 (Int.tdiv a1 a0_0)) a0_0 a0_1 l0_2) else (none)) else (spec_l1Beside.j0 k a1 y110 (Int.tmod a1 a0_0) (wrap64 (Int.tdiv a1 a0_0)) a0_0 a0_1 l0_2)))
theorem spec_l1Beside.mono_l : ∀ k, (∀ y0 y1 y2 y3 y4 y5 y6, LeO (spec_l1Beside.j0 k y0 y1 y2 y3 y4 y5 y6) (spec_l1Beside.j0 (k + 1) y0 y1 y2 y3 y4 y5 y6)) ∧ (∀ y0 y1 y2 y3 y4 y5 y6, LeO (spec_l1Beside.j1 k y0 y1 y2 y3 y4 y5 y6) (spec_l1Beside.j1 (k + 1) y0 y1 y2 y3 y4 y5 y6))
 | 0 => ⟨fun _ _ _ _ _ _ _ r h => by simp [spec_l1Beside.j0] at h, fun _ _ _ _ _ _ _ r h => by simp [spec_l1Beside.j1] at h⟩
 | k + 1 => by
  obtain ⟨ih0, ih1⟩ := spec_l1Beside.mono_l k
  refine ⟨?_, ?_⟩
  {
  intro y0 y1 y2 y3 y4 y5 y6
  unfold spec_l1Beside.j0
  exact qL
  }
  {
  intro y0 y1 y2 y3 y4 y5 y6
  unfold spec_l1Beside.j1
  exact qL
  }
theorem spec_l1Beside.mono : ∀ a0 a1 a2 a3 k, LeO (spec_l1Beside.f k a0 a1 a2 a3) (spec_l1Beside.f (k + 1) a0 a1 a2 a3) := by
 intro a0 a1 a2 a3 k
 obtain ⟨ih0, ih1⟩ := spec_l1Beside.mono_l k
 unfold spec_l1Beside.f
 exact qL
theorem spec_l1Beside.calls (k : Nat) (a0_0 : Int) (a0_1 : Int) (A0_2 : Option Addr) (c0_2 : Nat) (l0_2 : List Int) (a1 : Int) (r : List Int) (w : World) (hr0_2 : Kd.C (Kd.int .i64) w A0_2 l0_2.length l0_2) (hc0_2 : l0_2.length ≤ c0_2) (h : spec_l1Beside.f k a0_0 a0_1 l0_2 a1 = some r) :
  Calls Try.prog 123 #[.agg #[.int .i64 a0_0, .int .i64 a0_1, .slice A0_2 l0_2.length c0_2], .int .i64 a1] w fun e w' => ∃ v0_ : Value, e = .returned (v0_) ∧ Kd.R (Kd.int .i64) 3 w' w.heap.size (fun _ => True) v0_ r ∧ Below w.heap.size w w' := by
 have hu43 := Try.underlying43
 have HR0_2 := aM hr0_2
 have HC0_2 := aM hc0_2
 clear hr0_2 hc0_2
 have HB := aM (Below.refl w.heap.size w)
 unfold spec_l1Beside.f at h
 have H := h
 clear h
 obtain ⟨y110, hy110⟩ : ∃ y_ : List Int, y_ = (([] : List Int)) := ⟨_, rfl⟩
 replace H := yB_ hy110 H
 have Ny110 := aM hy110
 clear hy110
 by_cases c3 : a0_0 = 0
 {
 exact ap_ c3 H
 }
 {
 rw [if_neg c3] at H
 have c3b0 := beq_eq_false_iff_ne.mpr c3
 have c3b1 := bne_iff_ne.mpr c3
 have HC4 := aM H
 clear H
 go_enter Try.func123, Try.ntmps123
 go_upto_if 18 with (first | ((with_reducible refine gate_dst (N := 2) rfl ?_); refine bx_ 2 #[.int .i64 a0_0, .int .i64 a0_1, .slice A0_2 l0_2.length c0_2] 43 ?_; intro gb109 hg w5 hbox hb; have BK109 := aM (hbox); have GW109 := aM (bz_ w hg qz1); have GE109 := GW109; replace HB := bS_ hb; clear hb hbox hg) | ((with_reducible refine gate_dst (N := 8) rfl ?_); refine Kd.R_lit (Kd.int .i64) _ 3 ?hg (N := 8) ?hd (xs := ([] : List Int)) (inner := []) (ok := fun _ => True) (okp := fun _ => True) ?hr ?hp (fun _ hk => hk) trivial (Below.refl _ _) (Nat.le_refl _) (by simp) ?_; (case hd => rfl); (case hg => rfl); (case hr => exact qz9); (case hp => exact (Reps.none _ _)); intro v111 w6 ho7 hb hg_ hnew_; clear hg_ hnew_; (first | rw [← Ny110.out] at ho7 | (simp only [Int.reduceToNat] at ho7; rw [← Ny110.out] at ho7)); have HO112 := aM (Kd.R_lower ho7 (below_size qz1)); replace BK109 := bB_ BK109 hb; replace HB := bS_ hb; clear hb ho7; obtain ⟨hcz8_0, hcz8_1, hcz8_2, hfz8_0, hfz8_1, hfz8_2⟩ := b6_ BK109.out))
 (try simp only [Act.put, List.setIfInBounds_toArray, List.set_cons_zero, List.set_cons_succ])
 go_cut [5] (fun v5 wc => ∃ (kq : Nat) (x5_3 : List Int), Aside0 (spec_l1Beside.j0 kq a1 x5_3 (Int.tmod a1 a0_0) (wrap64 (Int.tdiv a1 a0_0)) a0_0 a0_1 l0_2 = some r) ∧ Aside0 (kq ≤ k) ∧ Aside0 (Kd.R (Kd.int .i64) 3 wc w.heap.size (fun _ => True) v5 x5_3) ∧ Aside0 (wc.heap[gb109]? = some (.cells #[.int .i64 a0_0, .int .i64 a0_1, (.slice A0_2 l0_2.length c0_2)] 43 (0, 0))) ∧ Aside0 (Below w.heap.size w wc))
 case first =>
  have H := HC4.out
  clear HC4
  replace H := iE_ H
  rcases H with ⟨c9b0, H⟩ | ⟨c9b0, H⟩
  {
  (first | rw [c9b0] | (simp only [i64_w, i32_w]; rw [c9b0]) | rw [@decide_eq_true _ _ (of_decide_eq_true c9b0)] | rw [@decide_eq_true _ _ (of_decide_eq_true c9b1)] | skip)
  replace H := iN_ H
  obtain ⟨c10, H⟩ := H
  have LMc10 := aM c10
  clear c10
  obtain ⟨y113, hy113⟩ : ∃ y_ : List Int, y_ = (y110 ++ [wrap64 (a1 - a0_0)]) := ⟨_, rfl⟩
  replace H : (spec_l1Beside.j0 k a1 y113 (Int.tmod a1 a0_0) (wrap64 (Int.tdiv a1 a0_0)) a0_0 a0_1 l0_2) = some r := by first | (rw [hy113]; exact H) | exact H
  have Ny113 := aM hy113
  clear hy113
  have H' := aM H
  clear H
  obtain ⟨hcz11_0, hcz11_1, hcz11_2, hfz11_0, hfz11_1, hfz11_2⟩ := b6_ BK109.out
  go_wp2_with (first | ((with_reducible refine gate_builtin (b := .append) (xs := #[.tmp 19, .tmp 24]) rfl ?_); at_builtin; refine Kd.R_append (Kd.int .i64) (w0 := w) w.heap.size rfl (.tmp 19) (.tmp 24) 24 3 (.int .i64 0) 8 rfl Try.underlying24 info3 rfl (by decide) (by omega) v111 y110 (wrap64 (a1 - a0_0)) [.int .i64 (wrap64 (a1 - a0_0))] (fun _ => True) (fun _ => False) rfl rfl ?aP (fun _ hk => hk.elim) ?aF ?aO ?aB ?aS ?aL ?_; (case aP => exact rfl); (case aB => exact qz1); (case aF => exact qz21); (case aO => exact (rr_ HO112.out)); (case aS => exact qz32); (case aL => have := LMc10.out; omega); intro v114 w12 ho hb hg hat; rw [← Ny113.out] at ho; replace BK109 := aM (blk_grown (bk_ BK109.out) hg (Kd.R_ne HO112.out BK109.out (by decide))); replace HB := aM (hb); have HO115 := aM (ho); clear HO112; clear ho hb hg hat))
  go_meet
  case rel => exact ⟨_, (y113), H', ⟨by first | omega | exact Nat.le_refl _⟩, ⟨rm_ HO115.out⟩, ⟨bk_ BK109.out⟩, ⟨qz1⟩⟩
  }
  {
  (first | rw [c9b0] | (simp only [i64_w, i32_w]; rw [c9b0]) | rw [@decide_eq_false _ _ (of_decide_eq_false c9b0)] | rw [@decide_eq_false _ _ (of_decide_eq_false c9b1)] | skip)
  have H' := aM H
  clear H
  go_wp2
  go_meet
  case rel => exact ⟨_, (y110), H', ⟨by first | omega | exact Nat.le_refl _⟩, ⟨rm_ HO112.out⟩, ⟨bk_ BK109.out⟩, ⟨qz1⟩⟩
  }
 case rest =>
 clear HC4
 try clear c3
 try clear c3b0
 try clear c3b1
 try clear hcz8_0 hcz8_1 hcz8_2 hfz8_0 hfz8_1 hfz8_2
 obtain ⟨kq, x5_3, HA, HJ3, HO_5, BK109, HB⟩ := hcut
 cases kq with
 | zero => exact absurd HA.out (by simp [spec_l1Beside.j0])
 | succ kj3 =>
 have H := HA.out
 clear HA
 simp only [spec_l1Beside.j0] at H
 have HC13 := aM H
 clear H
 go_upto_if 27 with (fail)
 go_cut [5] (fun v5 wc => ∃ (kq : Nat) (x5_12 : List Int), Aside0 (spec_l1Beside.j1 kq a1 x5_12 (Int.tmod a1 a0_0) (wrap64 (Int.tdiv a1 a0_0)) a0_0 a0_1 l0_2 = some r) ∧ Aside0 (kq ≤ kj3) ∧ Aside0 (Kd.R (Kd.int .i64) 3 wc w.heap.size (fun _ => True) v5 x5_12) ∧ Aside0 (wc.heap[gb109]? = some (.cells #[.int .i64 a0_0, .int .i64 a0_1, (.slice A0_2 l0_2.length c0_2)] 43 (0, 0))) ∧ Aside0 (Below w.heap.size w wc))
 case first =>
  have H := HC13.out
  clear HC13
  replace H := iE_ H
  rcases H with ⟨c14b0, H⟩ | ⟨c14b0, H⟩
  {
  (first | rw [c14b0] | (simp only [i64_w, i32_w]; rw [c14b0]) | rw [@decide_eq_true _ _ (of_decide_eq_true c14b0)] | rw [@decide_eq_true _ _ (of_decide_eq_true c14b1)] | skip)
  replace H := iN_ H
  obtain ⟨c15, H⟩ := H
  have LMc15 := aM c15
  clear c15
  obtain ⟨y116, hy116⟩ : ∃ y_ : List Int, y_ = (x5_3 ++ [wrap64 (a1 - 1)]) := ⟨_, rfl⟩
  replace H : (spec_l1Beside.j1 kj3 a1 y116 (Int.tmod a1 a0_0) (wrap64 (Int.tdiv a1 a0_0)) a0_0 a0_1 l0_2) = some r := by first | (rw [hy116]; exact H) | exact H
  have Ny116 := aM hy116
  clear hy116
  have H' := aM H
  clear H
  go_wp2_with (first | ((with_reducible refine gate_builtin (b := .append) (xs := #[.tmp 28, .tmp 31]) rfl ?_); at_builtin; refine Kd.R_append (Kd.int .i64) (w0 := w) w.heap.size rfl (.tmp 28) (.tmp 31) 24 3 (.int .i64 0) 8 rfl Try.underlying24 info3 rfl (by decide) (by omega) u5 x5_3 (wrap64 (a1 - 1)) [.int .i64 (wrap64 (a1 - 1))] (fun _ => True) (fun _ => False) rfl rfl ?aP (fun _ hk => hk.elim) ?aF ?aO ?aB ?aS ?aL ?_; (case aP => exact rfl); (case aB => exact qz1); (case aF => exact qz21); (case aO => exact (rr_ HO_5.out)); (case aS => exact qz32); (case aL => have := LMc15.out; omega); intro v117 w16 ho hb hg hat; rw [← Ny116.out] at ho; replace BK109 := aM (blk_grown (bk_ BK109.out) hg (Kd.R_ne HO_5.out BK109.out (by decide))); replace HB := aM (hb); have HO118 := aM (ho); clear HO_5; clear ho hb hg hat))
  go_meet
  case rel => exact ⟨_, (y116), H', ⟨by have := HJ3.out; first | omega | exact Nat.le_refl _⟩, ⟨rm_ HO118.out⟩, ⟨bk_ BK109.out⟩, ⟨qz1⟩⟩
  }
  {
  (first | rw [c14b0] | (simp only [i64_w, i32_w]; rw [c14b0]) | rw [@decide_eq_false _ _ (of_decide_eq_false c14b0)] | rw [@decide_eq_false _ _ (of_decide_eq_false c14b1)] | skip)
  have H' := aM H
  clear H
  go_wp2
  go_meet
  case rel => exact ⟨_, (x5_3), H', ⟨by have := HJ3.out; first | omega | exact Nat.le_refl _⟩, ⟨rm_ HO_5.out⟩, ⟨bk_ BK109.out⟩, ⟨qz1⟩⟩
  }
 case rest =>
 clear HC13
 try clear c3
 try clear c3b0
 try clear c3b1
 try clear hcz8_0 hcz8_1 hcz8_2 hfz8_0 hfz8_1 hfz8_2
 obtain ⟨kq, x5_12, HA, HJ12, HO_5, BK109, HB⟩ := hcut
 cases kq with
 | zero => exact absurd HA.out (by simp [spec_l1Beside.j1])
 | succ kj12 =>
 have H := HA.out
 clear HA
 simp only [spec_l1Beside.j1] at H
 replace H := iE_ H
 rcases H with ⟨c17b0, H⟩ | ⟨c17b0, H⟩
 {
 replace H := iN_ H
 obtain ⟨c18, H⟩ := H
 have LMc18 := aM c18
 clear c18
 obtain ⟨y119, hy119⟩ : ∃ y_ : List Int, y_ = (x5_12 ++ [wrap64 (a1 + 1)]) := ⟨_, rfl⟩
 replace H := yB_ hy119 H
 have Ny119 := aM hy119
 clear hy119
 replace H := iE_ H
 rcases H with ⟨c19b0, H⟩ | ⟨c19b0, H⟩
 {
 replace H := iN_ H
 obtain ⟨c20, H⟩ := H
 have LMc20 := aM c20
 clear c20
 obtain ⟨y122, hy122⟩ : ∃ y_ : List Int, y_ = (y119 ++ [wrap64 (a1 + a0_0)]) := ⟨_, rfl⟩
 replace H : (some y122) = some r := by first | (rw [hy122]; exact H) | exact H
 have Ny122 := aM hy122
 clear hy122
 obtain rfl := Option.some.inj H
 obtain ⟨hcz21_0, hcz21_1, hcz21_2, hfz21_0, hfz21_1, hfz21_2⟩ := b6_ BK109.out
 go_wp2_with (first | ((with_reducible refine gate_builtin (b := .append) (xs := #[.tmp 38, .tmp 41]) rfl ?_); at_builtin; refine Kd.R_append (Kd.int .i64) (w0 := w) w.heap.size rfl (.tmp 38) (.tmp 41) 24 3 (.int .i64 0) 8 rfl Try.underlying24 info3 rfl (by decide) (by omega) u5 x5_12 (wrap64 (a1 + 1)) [.int .i64 (wrap64 (a1 + 1))] (fun _ => True) (fun _ => False) rfl rfl ?aP (fun _ hk => hk.elim) ?aF ?aO ?aB ?aS ?aL ?_; (case aP => exact rfl); (case aB => exact qz1); (case aF => exact qz21); (case aO => exact (rr_ HO_5.out)); (case aS => exact qz32); (case aL => have := LMc18.out; omega); intro v120 w22 ho hb hg hat; rw [← Ny119.out] at ho; replace BK109 := aM (blk_grown (bk_ BK109.out) hg (Kd.R_ne HO_5.out BK109.out (by decide))); replace HB := aM (hb); have HO121 := aM (ho); clear HO_5; clear ho hb hg hat; obtain ⟨hcz23_0, hcz23_1, hcz23_2, hfz23_0, hfz23_1, hfz23_2⟩ := b6_ BK109.out) | ((with_reducible refine gate_builtin (b := .append) (xs := #[.tmp 48, .tmp 53]) rfl ?_); at_builtin; refine Kd.R_append (Kd.int .i64) (w0 := w) w.heap.size rfl (.tmp 48) (.tmp 53) 24 3 (.int .i64 0) 8 rfl Try.underlying24 info3 rfl (by decide) (by omega) v120 y119 (wrap64 (a1 + a0_0)) [.int .i64 (wrap64 (a1 + a0_0))] (fun _ => True) (fun _ => False) rfl rfl ?aP (fun _ hk => hk.elim) ?aF ?aO ?aB ?aS ?aL ?_; (case aP => exact rfl); (case aB => exact qz1); (case aF => exact qz21); (case aO => exact (rr_ HO121.out)); (case aS => exact qz32); (case aL => have := LMc20.out; omega); intro v123 w24 ho hb hg hat; rw [← Ny122.out] at ho; replace BK109 := aM (blk_grown (bk_ BK109.out) hg (Kd.R_ne HO121.out BK109.out (by decide))); replace HB := aM (hb); have HO124 := aM (ho); clear HO121; clear ho hb hg hat))
 go_ret
 exact ⟨_, qzw, by (with_reducible repeat (first | apply Kd.R_alloc | apply Kd.R_drewN | apply Kd.R_drew)); exact HO124.out, qz1⟩
 }
 {
 obtain rfl := Option.some.inj H
 obtain ⟨hcz25_0, hcz25_1, hcz25_2, hfz25_0, hfz25_1, hfz25_2⟩ := b6_ BK109.out
 go_wp2_with (first | ((with_reducible refine gate_builtin (b := .append) (xs := #[.tmp 38, .tmp 41]) rfl ?_); at_builtin; refine Kd.R_append (Kd.int .i64) (w0 := w) w.heap.size rfl (.tmp 38) (.tmp 41) 24 3 (.int .i64 0) 8 rfl Try.underlying24 info3 rfl (by decide) (by omega) u5 x5_12 (wrap64 (a1 + 1)) [.int .i64 (wrap64 (a1 + 1))] (fun _ => True) (fun _ => False) rfl rfl ?aP (fun _ hk => hk.elim) ?aF ?aO ?aB ?aS ?aL ?_; (case aP => exact rfl); (case aB => exact qz1); (case aF => exact qz21); (case aO => exact (rr_ HO_5.out)); (case aS => exact qz32); (case aL => have := LMc18.out; omega); intro v120 w26 ho hb hg hat; rw [← Ny119.out] at ho; replace BK109 := aM (blk_grown (bk_ BK109.out) hg (Kd.R_ne HO_5.out BK109.out (by decide))); replace HB := aM (hb); have HO121 := aM (ho); clear HO_5; clear ho hb hg hat; obtain ⟨hcz27_0, hcz27_1, hcz27_2, hfz27_0, hfz27_1, hfz27_2⟩ := b6_ BK109.out))
 go_ret
 exact ⟨_, qzw, by (with_reducible repeat (first | apply Kd.R_alloc | apply Kd.R_drewN | apply Kd.R_drew)); exact HO121.out, qz1⟩
 }
 }
 {
 replace H := iE_ H
 rcases H with ⟨c28b0, H⟩ | ⟨c28b0, H⟩
 {
 replace H := iN_ H
 obtain ⟨c29, H⟩ := H
 have LMc29 := aM c29
 clear c29
 obtain ⟨y125, hy125⟩ : ∃ y_ : List Int, y_ = (x5_12 ++ [wrap64 (a1 + a0_0)]) := ⟨_, rfl⟩
 replace H : (some y125) = some r := by first | (rw [hy125]; exact H) | exact H
 have Ny125 := aM hy125
 clear hy125
 obtain rfl := Option.some.inj H
 obtain ⟨hcz30_0, hcz30_1, hcz30_2, hfz30_0, hfz30_1, hfz30_2⟩ := b6_ BK109.out
 go_wp2_with (first | ((with_reducible refine gate_builtin (b := .append) (xs := #[.tmp 48, .tmp 53]) rfl ?_); at_builtin; refine Kd.R_append (Kd.int .i64) (w0 := w) w.heap.size rfl (.tmp 48) (.tmp 53) 24 3 (.int .i64 0) 8 rfl Try.underlying24 info3 rfl (by decide) (by omega) u5 x5_12 (wrap64 (a1 + a0_0)) [.int .i64 (wrap64 (a1 + a0_0))] (fun _ => True) (fun _ => False) rfl rfl ?aP (fun _ hk => hk.elim) ?aF ?aO ?aB ?aS ?aL ?_; (case aP => exact rfl); (case aB => exact qz1); (case aF => exact qz21); (case aO => exact (rr_ HO_5.out)); (case aS => exact qz32); (case aL => have := LMc29.out; omega); intro v126 w31 ho hb hg hat; rw [← Ny125.out] at ho; replace BK109 := aM (blk_grown (bk_ BK109.out) hg (Kd.R_ne HO_5.out BK109.out (by decide))); replace HB := aM (hb); have HO127 := aM (ho); clear HO_5; clear ho hb hg hat))
 go_ret
 exact ⟨_, qzw, by (with_reducible repeat (first | apply Kd.R_alloc | apply Kd.R_drewN | apply Kd.R_drew)); exact HO127.out, qz1⟩
 }
 {
 obtain rfl := Option.some.inj H
 obtain ⟨hcz32_0, hcz32_1, hcz32_2, hfz32_0, hfz32_1, hfz32_2⟩ := b6_ BK109.out
 go_wp2
 go_ret
 exact ⟨_, qzw, by (with_reducible repeat (first | apply Kd.R_alloc | apply Kd.R_drewN | apply Kd.R_drew)); exact HO_5.out, qz1⟩
 }
 }
 }
/-! ### spec_l1Near: function 99 -/
def spec_l1Near.l0 : Nat → Bool → List Int → List Int → Int → Int → Int → List Int → Option (List Int)
 | 0, _, _, _, _, _, _, _ => none
 | k + 1, x2, x7, x8, x9, x129000, x129001, x129002 => if x9 < (x8.length : Int) then (if 0 ≤ x9 then (if 0 ≤ (rd x8 x9) then (if (rd x8 x9) < (x129002.length : Int) then (if (rd x129002 (rd x8 x9)) = 0 then (spec_l1Near.l0 k x2 x7 x8 (wrap64 (x9 + 1)) x129000 x129001 x129002) else (if x2 = true then (if ((rd x129002 (rd x8 x9)) = 2) then (spec_l1Near.l0 k x2 x7 x8 (wrap64 (x9 + 1)) x129000 x129001 x129002) else (if x7.length < 17592186044416 then (spec_l1Near.l0 k x2 (x7 ++ [rd x8 x9]) x8 (wrap64 (x9 + 1)) x129000 x129001 x129002) else (none))) else (if x7.length < 17592186044416 then (spec_l1Near.l0 k x2 (x7 ++ [rd x8 x9]) x8 (wrap64 (x9 + 1)) x129000 x129001 x129002) else (none)))) else (none)) else (none)) else (none)) else (some x7)
def spec_l1Near.f (k : Nat) (a0_0 : Int) (a0_1 : Int) (l0_2 : List Int) (a1 : Int) (a2 : Bool) : Option (List Int) := (spec_l1Beside.f k a0_0 a0_1 l0_2 a1).bind fun t132 => (spec_l1Near.l0 k a2 (([] : List Int)) t132 0 a0_0 a0_1 l0_2)
theorem spec_l1Near.mono_l : ∀ k, (∀ y0 y1 y2 y3 y4 y5 y6, LeO (spec_l1Near.l0 k y0 y1 y2 y3 y4 y5 y6) (spec_l1Near.l0 (k + 1) y0 y1 y2 y3 y4 y5 y6))
 | 0 => fun _ _ _ _ _ _ _ r h => by simp [spec_l1Near.l0] at h
 | k + 1 => by
  have ih0 := spec_l1Near.mono_l k
  {
  intro y0 y1 y2 y3 y4 y5 y6
  unfold spec_l1Near.l0
  have j0 := @spec_l1Beside.mono
  exact qL
  }
theorem spec_l1Near.mono : ∀ a0 a1 a2 a3 a4 k, LeO (spec_l1Near.f k a0 a1 a2 a3 a4) (spec_l1Near.f (k + 1) a0 a1 a2 a3 a4) := by
 intro a0 a1 a2 a3 a4 k
 have ih0 := spec_l1Near.mono_l k
 unfold spec_l1Near.f
 have j0 := @spec_l1Beside.mono
 exact qL
theorem spec_l1Near.calls (k : Nat) (a0_0 : Int) (a0_1 : Int) (A0_2 : Option Addr) (c0_2 : Nat) (l0_2 : List Int) (a1 : Int) (a2 : Bool) (r : List Int) (w : World) (hr0_2 : Kd.C (Kd.int .i64) w A0_2 l0_2.length l0_2) (hc0_2 : l0_2.length ≤ c0_2) (h : spec_l1Near.f k a0_0 a0_1 l0_2 a1 a2 = some r) :
  Calls Try.prog 99 #[.agg #[.int .i64 a0_0, .int .i64 a0_1, .slice A0_2 l0_2.length c0_2], .int .i64 a1, .bool a2] w fun e w' => ∃ v0_ : Value, e = .returned (v0_) ∧ Kd.R (Kd.int .i64) 3 w' w.heap.size (fun _ => True) v0_ r ∧ Below w.heap.size w w' := by
 have hu43 := Try.underlying43
 have HR0_2 := aM hr0_2
 have HC0_2 := aM hc0_2
 clear hr0_2 hc0_2
 have HB := aM (Below.refl w.heap.size w)
 unfold spec_l1Near.f at h
 have H := h
 clear h
 obtain ⟨y129, hy129⟩ : ∃ y_ : List Int, y_ = (([] : List Int)) := ⟨_, rfl⟩
 replace H : ((spec_l1Beside.f k a0_0 a0_1 l0_2 a1).bind fun t132 => (spec_l1Near.l0 k a2 y129 t132 0 a0_0 a0_1 l0_2)) = some r := by first | (rw [hy129]; exact H) | exact H
 have Ny129 := aM hy129
 clear hy129
 replace H := Option.bind_eq_some_iff.mp H
 obtain ⟨t132, A40, H⟩ := H
 have A4 := aM A40
 clear A40
 have H' := aM H
 clear H
 go_enter Try.func99, Try.ntmps99
 go_wp2_with (first | ((with_reducible refine gate_dst (N := 3) rfl ?_); refine bx_ 3 #[.int .i64 a0_0, .int .i64 a0_1, .slice A0_2 l0_2.length c0_2] 43 ?_; intro gb128 hg w5 hbox hb; have BK128 := aM (hbox); have GW128 := aM (bz_ w hg qz1); have GE128 := GW128; replace HB := bS_ hb; clear hb hbox hg) | ((with_reducible refine gate_dst (N := 11) rfl ?_); refine Kd.R_lit (Kd.int .i64) _ 3 ?hg (N := 11) ?hd (xs := ([] : List Int)) (inner := []) (ok := fun _ => True) (okp := fun _ => True) ?hr ?hp (fun _ hk => hk) trivial (Below.refl _ _) (Nat.le_refl _) (by simp) ?_; (case hd => rfl); (case hg => rfl); (case hr => exact qz9); (case hp => exact (Reps.none _ _)); intro v130 w6 ho7 hb hg_ hnew_; clear hg_ hnew_; (first | rw [← Ny129.out] at ho7 | (simp only [Int.reduceToNat] at ho7; rw [← Ny129.out] at ho7)); have HO131 := aM (Kd.R_lower ho7 (below_size qz1)); replace BK128 := bB_ BK128 hb; replace HB := bS_ hb; clear hb ho7; obtain ⟨hcz8_0, hcz8_1, hcz8_2, hfz8_0, hfz8_1, hfz8_2⟩ := b6_ BK128.out) | (go_at_call 123; (with_reducible refine (spec_l1Beside.calls k a0_0 a0_1 _ _ l0_2 a1 t132 _ ?_ ?_ A4.out).mono ?_); exact qz6; exact qz28; rintro e w9 ⟨v133, rfl, ho0, hb⟩; have HO134 := aM (Kd.R_lower (Kd.R_new' ho0 (Kd.R_lt (rr_ HO131.out))) (below_size qz1)); replace HO131 := aM (Kd.R_elder' (rr_ HO131.out) (Kd.R_base ho0) hb); replace BK128 := bB_ BK128 hb; replace HB := bS_ hb; (try clear hb ho0)) | go_quiet (first | (go_at_call 123; (with_reducible refine (spec_l1Beside.calls k a0_0 a0_1 _ _ l0_2 a1 t132 _ ?_ ?_ A4.out).mono ?_); exact qz6; exact qz28; rintro e w9 ⟨v133, rfl, ho0, hb⟩; have HO134 := aM (Kd.R_lower (Kd.R_new' ho0 (Kd.R_lt (rr_ HO131.out))) (below_size qz1)); replace HO131 := aM (Kd.R_elder' (rr_ HO131.out) (Kd.R_base ho0) hb); replace BK128 := bB_ BK128 hb; replace HB := bS_ hb; (try clear hb ho0))))
 go_loopg [7, 9] k (fun kq v7 v9 w' => ∃ (x7_1 : List Int) (x9_1 : Int), v9 = .int .i64 x9_1 ∧ Aside0 (spec_l1Near.l0 kq a2 x7_1 t132 x9_1 a0_0 a0_1 l0_2 = some r) ∧ Aside0 (kq ≤ k) ∧ Aside0 (Kd.R (Kd.int .i64) 3 w' w.heap.size (fun k_ => some k_ ≠ (v133 : Value).ownBlock) v7 x7_1) ∧ Aside0 (Kd.R (Kd.int .i64) 3 w' w.heap.size (fun k_ => some k_ ≠ (v7 : Value).ownBlock) v133 t132) ∧ Aside0 (w'.heap[gb128]? = some (.cells #[.int .i64 a0_0, .int .i64 a0_1, (.slice A0_2 l0_2.length c0_2)] 43 (0, 0))) ∧ Aside0 (Below w.heap.size w w'))
 case atStart => exact ⟨(y129), (0), qz7, H', ⟨Nat.le_refl _⟩, ⟨by (with_reducible repeat (first | apply Kd.R_alloc | apply Kd.R_drewN | apply Kd.R_drew)); exact Kd.R_mono HO131.out (fun _ hk => hk.2)⟩, ⟨by (with_reducible repeat (first | apply Kd.R_alloc | apply Kd.R_drewN | apply Kd.R_drew)); exact Kd.R_mono HO134.out (fun _ hk => hk.2)⟩, ⟨bk_ BK128.out⟩, ⟨qz1⟩⟩
 case round =>
 clear H'
 try clear hcz8_0 hcz8_1 hcz8_2 hfz8_0 hfz8_1 hfz8_2
 obtain ⟨x7_1, x9_1, rfl, HA, HK1, HO_7, HO_8, BK128, HB⟩ := hrel
 cases gk with
 | zero => exact absurd HA.out (by simp [spec_l1Near.l0])
 | succ k1 =>
 have H := HA.out
 clear HA
 simp only [spec_l1Near.l0] at H
 replace H := iE_ H
 rcases H with ⟨c10b0, H⟩ | ⟨c10b0, H⟩
 {
 replace H := iD_ H
 obtain ⟨c11b0, H⟩ := H
 replace H := iD_ H
 obtain ⟨c12b0, H⟩ := H
 replace H := iD_ H
 obtain ⟨c13b0, H⟩ := H
 replace H := iQ_ H
 rcases H with ⟨c14b0, c14b1, H⟩ | ⟨c14, c14b0, c14b1, H⟩
 {
 have H' := aM H
 clear H
 obtain ⟨Ao15, co15, eo15⟩ := Kd.R_slice HO_8.out
 subst eo15
 obtain ⟨hcz16_0, hcz16_1, hcz16_2, hfz16_0, hfz16_1, hfz16_2⟩ := b6_ BK128.out
 have p135 : (0 ≤ (x9_1 : Int)) = True := et_
 have q135 : (x9_1 < (t132.length : Int)) = True := et_
 obtain ⟨ad135, e135, hx135_0⟩ := Kd.at_int (Kd.R_reads' HO_8.out).2.2 x9_1 dt_ dt_
 cases e135
 have p136 : (0 ≤ ((rd t132 x9_1) : Int)) = True := et_
 have q136 : ((rd t132 x9_1) < (l0_2.length : Int)) = True := et_
 obtain ⟨ad136, e136, hx136_0⟩ := tC1_ (Kd.at_int HR0_2.out (rd t132 x9_1) dt_ dt_)
 cases e136
 go_wp2
 repeat (go_quiet (fail); try go_wp2)
 go_roundg k1
 case measure => have := HK1.out; omega
 case rel => exact ⟨(x7_1), (wrap64 (x9_1 + 1)), qz7, H', ⟨by have := HK1.out; omega⟩, ⟨rm_ HO_7.out⟩, ⟨rm_ HO_8.out⟩, ⟨bk_ BK128.out⟩, ⟨qz1⟩⟩
 }
 {
 replace H := iB_ H
 rcases H with ⟨rfl, H⟩ | ⟨rfl, H⟩
 {
 replace H := iQ_ H
 rcases H with ⟨c18b0, c18b1, H⟩ | ⟨c18, c18b0, c18b1, H⟩
 {
 have H' := aM H
 clear H
 obtain ⟨Ao19, co19, eo19⟩ := Kd.R_slice HO_8.out
 subst eo19
 obtain ⟨hcz20_0, hcz20_1, hcz20_2, hfz20_0, hfz20_1, hfz20_2⟩ := b6_ BK128.out
 have p135 : (0 ≤ (x9_1 : Int)) = True := et_
 have q135 : (x9_1 < (t132.length : Int)) = True := et_
 obtain ⟨ad135, e135, hx135_0⟩ := Kd.at_int (Kd.R_reads' HO_8.out).2.2 x9_1 dt_ dt_
 cases e135
 have p136 : (0 ≤ ((rd t132 x9_1) : Int)) = True := et_
 have q136 : ((rd t132 x9_1) < (l0_2.length : Int)) = True := et_
 obtain ⟨ad136, e136, hx136_0⟩ := tC1_ (Kd.at_int HR0_2.out (rd t132 x9_1) dt_ dt_)
 cases e136
 go_wp2
 repeat (go_quiet (fail); try go_wp2)
 go_roundg k1
 case measure => have := HK1.out; omega
 case rel => exact ⟨(x7_1), (wrap64 (x9_1 + 1)), qz7, H', ⟨by have := HK1.out; omega⟩, ⟨rm_ HO_7.out⟩, ⟨rm_ HO_8.out⟩, ⟨bk_ BK128.out⟩, ⟨qz1⟩⟩
 }
 {
 replace H := iN_ H
 obtain ⟨c21, H⟩ := H
 have LMc21 := aM c21
 clear c21
 obtain ⟨y138, hy138⟩ : ∃ y_ : List Int, y_ = (x7_1 ++ [rd t132 x9_1]) := ⟨_, rfl⟩
 replace H : (spec_l1Near.l0 k1 true y138 t132 (wrap64 (x9_1 + 1)) a0_0 a0_1 l0_2) = some r := by first | (rw [hy138]; exact H) | exact H
 have Ny138 := aM hy138
 clear hy138
 have H' := aM H
 clear H
 obtain ⟨Ao22, co22, eo22⟩ := Kd.R_slice HO_8.out
 subst eo22
 obtain ⟨hcz23_0, hcz23_1, hcz23_2, hfz23_0, hfz23_1, hfz23_2⟩ := b6_ BK128.out
 have p135 : (0 ≤ (x9_1 : Int)) = True := et_
 have q135 : (x9_1 < (t132.length : Int)) = True := et_
 obtain ⟨ad135, e135, hx135_0⟩ := Kd.at_int (Kd.R_reads' HO_8.out).2.2 x9_1 dt_ dt_
 cases e135
 have p136 : (0 ≤ ((rd t132 x9_1) : Int)) = True := et_
 have q136 : ((rd t132 x9_1) < (l0_2.length : Int)) = True := et_
 obtain ⟨ad136, e136, hx136_0⟩ := tC1_ (Kd.at_int HR0_2.out (rd t132 x9_1) dt_ dt_)
 cases e136
 have p137 : (0 ≤ (x9_1 : Int)) = True := et_
 have q137 : (x9_1 < (t132.length : Int)) = True := et_
 obtain ⟨ad137, e137, hx137_0⟩ := Kd.at_int (Kd.R_reads' HO_8.out).2.2 x9_1 dt_ dt_
 obtain rfl := iJ_ e137
 go_wp2_with (first | ((with_reducible refine gate_builtin (b := .append) (xs := #[.tmp 39, .tmp 44]) rfl ?_); at_builtin; refine Kd.R_append (Kd.int .i64) (w0 := w) w.heap.size rfl (.tmp 39) (.tmp 44) 24 3 (.int .i64 0) 8 rfl Try.underlying24 info3 rfl (by decide) (by omega) u7 x7_1 (rd t132 x9_1) [.int .i64 (rd t132 x9_1)] (fun k_ => some k_ ≠ (.slice (some ad135) t132.length co22 : Value).ownBlock) (fun _ => False) rfl rfl ?aP (fun _ hk => hk.elim) ?aF ?aO ?aB ?aS ?aL ?_; (case aP => exact rfl); (case aB => exact qz1); (case aF => exact qz22); (case aO => exact (rr_ HO_7.out)); (case aS => exact qz32); (case aL => have := LMc21.out; omega); intro v139 w24 ho hb hg hat; rw [← Ny138.out] at ho; replace HO_8 := aM (Kd.R_after (ok := (fun _ => True)) qz14 hg hat); replace BK128 := aM (blk_grown (bk_ BK128.out) hg (Kd.R_ne HO_7.out BK128.out (by decide))); replace HB := aM (hb); have HO140 := aM (ho); clear HO_7; clear ho hb hg hat) | go_quiet (fail))
 go_roundg k1
 case measure => have := HK1.out; omega
 case rel => exact ⟨(y138), (wrap64 (x9_1 + 1)), qz7, H', ⟨by have := HK1.out; omega⟩, ⟨rm_ HO140.out⟩, ⟨by (with_reducible repeat (first | apply Kd.R_alloc | apply Kd.R_drewN | apply Kd.R_drew)); exact Kd.R_mono HO_8.out (fun _ hk => hk.2)⟩, ⟨bk_ BK128.out⟩, ⟨qz1⟩⟩
 }
 }
 {
 replace H := iN_ H
 obtain ⟨c25, H⟩ := H
 have LMc25 := aM c25
 clear c25
 obtain ⟨y142, hy142⟩ : ∃ y_ : List Int, y_ = (x7_1 ++ [rd t132 x9_1]) := ⟨_, rfl⟩
 replace H : (spec_l1Near.l0 k1 false y142 t132 (wrap64 (x9_1 + 1)) a0_0 a0_1 l0_2) = some r := by first | (rw [hy142]; exact H) | exact H
 have Ny142 := aM hy142
 clear hy142
 have H' := aM H
 clear H
 obtain ⟨Ao26, co26, eo26⟩ := Kd.R_slice HO_8.out
 subst eo26
 obtain ⟨hcz27_0, hcz27_1, hcz27_2, hfz27_0, hfz27_1, hfz27_2⟩ := b6_ BK128.out
 have p135 : (0 ≤ (x9_1 : Int)) = True := et_
 have q135 : (x9_1 < (t132.length : Int)) = True := et_
 obtain ⟨ad135, e135, hx135_0⟩ := Kd.at_int (Kd.R_reads' HO_8.out).2.2 x9_1 dt_ dt_
 cases e135
 have p136 : (0 ≤ ((rd t132 x9_1) : Int)) = True := et_
 have q136 : ((rd t132 x9_1) < (l0_2.length : Int)) = True := et_
 obtain ⟨ad136, e136, hx136_0⟩ := tC1_ (Kd.at_int HR0_2.out (rd t132 x9_1) dt_ dt_)
 cases e136
 have p141 : (0 ≤ (x9_1 : Int)) = True := et_
 have q141 : (x9_1 < (t132.length : Int)) = True := et_
 obtain ⟨ad141, e141, hx141_0⟩ := Kd.at_int (Kd.R_reads' HO_8.out).2.2 x9_1 dt_ dt_
 obtain rfl := iJ_ e141
 go_wp2_with (first | ((with_reducible refine gate_builtin (b := .append) (xs := #[.tmp 39, .tmp 44]) rfl ?_); at_builtin; refine Kd.R_append (Kd.int .i64) (w0 := w) w.heap.size rfl (.tmp 39) (.tmp 44) 24 3 (.int .i64 0) 8 rfl Try.underlying24 info3 rfl (by decide) (by omega) u7 x7_1 (rd t132 x9_1) [.int .i64 (rd t132 x9_1)] (fun k_ => some k_ ≠ (.slice (some ad135) t132.length co26 : Value).ownBlock) (fun _ => False) rfl rfl ?aP (fun _ hk => hk.elim) ?aF ?aO ?aB ?aS ?aL ?_; (case aP => exact rfl); (case aB => exact qz1); (case aF => exact qz22); (case aO => exact (rr_ HO_7.out)); (case aS => exact qz32); (case aL => have := LMc25.out; omega); intro v143 w28 ho hb hg hat; rw [← Ny142.out] at ho; replace HO_8 := aM (Kd.R_after (ok := (fun _ => True)) qz14 hg hat); replace BK128 := aM (blk_grown (bk_ BK128.out) hg (Kd.R_ne HO_7.out BK128.out (by decide))); replace HB := aM (hb); have HO144 := aM (ho); clear HO_7; clear ho hb hg hat) | go_quiet (fail))
 go_roundg k1
 case measure => have := HK1.out; omega
 case rel => exact ⟨(y142), (wrap64 (x9_1 + 1)), qz7, H', ⟨by have := HK1.out; omega⟩, ⟨rm_ HO144.out⟩, ⟨by (with_reducible repeat (first | apply Kd.R_alloc | apply Kd.R_drewN | apply Kd.R_drew)); exact Kd.R_mono HO_8.out (fun _ hk => hk.2)⟩, ⟨bk_ BK128.out⟩, ⟨qz1⟩⟩
 }
 }
 }
 {
 obtain rfl := Option.some.inj H
 obtain ⟨Ao29, co29, eo29⟩ := Kd.R_slice HO_8.out
 subst eo29
 go_wp2
 repeat (go_quiet (fail); try go_wp2)
 go_ret
 exact ⟨_, qzw, by (with_reducible repeat (first | apply Kd.R_alloc | apply Kd.R_drewN | apply Kd.R_drew)); exact Kd.R_mono HO_7.out (fun _ hk => trivial), qz1⟩
 }
/-! ### spec_l7Rank: function 124 -/
def spec_l7Rank.f (a0_0 : Int) (a0_1 : Int) (a0_2 : Int) (a0_3 : Bool) (a0_4 : Int) (l1 : List Int) (a2 : Int) : Option (Int) := if a0_2 < 0 then (if a2 = a0_1 then (some 0) else (some 1)) else (if 0 ≤ a2 then (if a2 < (l1.length : Int) then (if (rd l1 a2) < 0 then (some 1000) else (some (rd l1 a2))) else (none)) else (none))
theorem spec_l7Rank.calls (a0_0 : Int) (a0_1 : Int) (a0_2 : Int) (a0_3 : Bool) (a0_4 : Int) (A1 : Option Addr) (c1 : Nat) (l1 : List Int) (a2 : Int) (r : Int) (w : World) (hr1 : Kd.C (Kd.int .i64) w A1 l1.length l1) (hc1 : l1.length ≤ c1) (h : spec_l7Rank.f a0_0 a0_1 a0_2 a0_3 a0_4 l1 a2 = some r) :
  Calls Try.prog 124 #[.agg #[.int .i64 a0_0, .int .i64 a0_1, .int .i64 a0_2, .bool a0_3, .int .i64 a0_4], .slice A1 l1.length c1, .int .i64 a2] w fun e w' => e = .returned (.int .i64 r) ∧ Below w.heap.size w w' := by
 have hu37 := Try.underlying37
 have HR1 := aM hr1
 have HC1 := aM hc1
 clear hr1 hc1
 have HB := aM (Below.refl w.heap.size w)
 unfold spec_l7Rank.f at h
 have H := h
 clear h
 replace H := iE_ H
 rcases H with ⟨c4b0, H⟩ | ⟨c4b0, H⟩
 {
 replace H := iQ_ H
 rcases H with ⟨c5b0, c5b1, H⟩ | ⟨c5, c5b0, c5b1, H⟩
 {
 obtain rfl := Option.some.inj H
 go_enter Try.func124, Try.ntmps124
 go_wp2_with (first | ((with_reducible refine gate_dst (N := 3) rfl ?_); refine bx_ 3 #[.int .i64 a0_0, .int .i64 a0_1, .int .i64 a0_2, .bool a0_3, .int .i64 a0_4] 37 ?_; intro gb145 hg w6 hbox hb; have BK145 := aM (hbox); have GW145 := aM (bz_ w hg qz1); have GE145 := GW145; replace HB := bS_ hb; clear hb hbox hg; obtain ⟨hcz7_0, hcz7_1, hcz7_2, hcz7_3, hcz7_4, hfz7_0, hfz7_1, hfz7_2, hfz7_3, hfz7_4⟩ := b10_ BK145.out))
 go_ret
 exact ⟨qzw, qz1⟩
 }
 {
 obtain rfl := Option.some.inj H
 go_enter Try.func124, Try.ntmps124
 go_wp2_with (first | ((with_reducible refine gate_dst (N := 3) rfl ?_); refine bx_ 3 #[.int .i64 a0_0, .int .i64 a0_1, .int .i64 a0_2, .bool a0_3, .int .i64 a0_4] 37 ?_; intro gb145 hg w8 hbox hb; have BK145 := aM (hbox); have GW145 := aM (bz_ w hg qz1); have GE145 := GW145; replace HB := bS_ hb; clear hb hbox hg; obtain ⟨hcz9_0, hcz9_1, hcz9_2, hcz9_3, hcz9_4, hfz9_0, hfz9_1, hfz9_2, hfz9_3, hfz9_4⟩ := b10_ BK145.out))
 go_ret
 exact ⟨qzw, qz1⟩
 }
 }
 {
 replace H := iD_ H
 obtain ⟨c10b0, H⟩ := H
 replace H := iD_ H
 obtain ⟨c11b0, H⟩ := H
 replace H := iE_ H
 rcases H with ⟨c12b0, H⟩ | ⟨c12b0, H⟩
 {
 obtain rfl := Option.some.inj H
 go_enter Try.func124, Try.ntmps124
 go_wp2_with (first | ((with_reducible refine gate_dst (N := 3) rfl ?_); refine bx_ 3 #[.int .i64 a0_0, .int .i64 a0_1, .int .i64 a0_2, .bool a0_3, .int .i64 a0_4] 37 ?_; intro gb145 hg w13 hbox hb; have BK145 := aM (hbox); have GW145 := aM (bz_ w hg qz1); have GE145 := GW145; replace HB := bS_ hb; clear hb hbox hg; obtain ⟨hcz14_0, hcz14_1, hcz14_2, hcz14_3, hcz14_4, hfz14_0, hfz14_1, hfz14_2, hfz14_3, hfz14_4⟩ := b10_ BK145.out; have p146 : 0 ≤ (a2 : Int) := dt_; have q146 : a2 < (l1.length : Int) := dt_; obtain ⟨ad146, e146, hx146_0⟩ := Kd.at_int HR1.out a2 p146 q146; cases e146; replace hx146_0 := cB_ hx146_0; replace p146 := eq_true p146; replace q146 := eq_true q146))
 go_ret
 exact ⟨qzw, qz1⟩
 }
 {
 obtain rfl := Option.some.inj H
 go_enter Try.func124, Try.ntmps124
 go_wp2_with (first | ((with_reducible refine gate_dst (N := 3) rfl ?_); refine bx_ 3 #[.int .i64 a0_0, .int .i64 a0_1, .int .i64 a0_2, .bool a0_3, .int .i64 a0_4] 37 ?_; intro gb145 hg w15 hbox hb; have BK145 := aM (hbox); have GW145 := aM (bz_ w hg qz1); have GE145 := GW145; replace HB := bS_ hb; clear hb hbox hg; obtain ⟨hcz16_0, hcz16_1, hcz16_2, hcz16_3, hcz16_4, hfz16_0, hfz16_1, hfz16_2, hfz16_3, hfz16_4⟩ := b10_ BK145.out; have p146 : 0 ≤ (a2 : Int) := dt_; have q146 : a2 < (l1.length : Int) := dt_; obtain ⟨ad146, e146, hx146_0⟩ := Kd.at_int HR1.out a2 p146 q146; cases e146; replace hx146_0 := cB_ hx146_0; replace p146 := eq_true p146; replace q146 := eq_true q146; have p147 : 0 ≤ (a2 : Int) := dt_; have q147 : a2 < (l1.length : Int) := dt_; obtain ⟨ad147, e147, hx147_0⟩ := Kd.at_int HR1.out a2 p147 q147; obtain rfl := iJ_ e147; replace hx147_0 := cB_ hx147_0; replace p147 := eq_true p147; replace q147 := eq_true q147))
 go_ret
 exact ⟨qzw, qz1⟩
 }
 }
/-! ### spec_l7Before: function 100 -/
def spec_l7Before.f (a0_0 : Int) (a0_1 : Int) (a0_2 : Int) (a0_3 : Bool) (a0_4 : Int) (l1 : List Int) (a2 : Int) (a3 : Int) : Option (Bool) := (spec_l7Rank.f a0_0 a0_1 a0_2 a0_3 a0_4 l1 a2).bind fun t149 => ((spec_l7Rank.f a0_0 a0_1 a0_2 a0_3 a0_4 l1 a3).bind fun t150 => (if t149 = t150 then (if ((a2 == a0_1) != (a3 == a0_1)) = true then (some (a3 == a0_1)) else (some (decide (a2 < a3)))) else (some (decide (t149 < t150)))))
theorem spec_l7Before.calls (a0_0 : Int) (a0_1 : Int) (a0_2 : Int) (a0_3 : Bool) (a0_4 : Int) (A1 : Option Addr) (c1 : Nat) (l1 : List Int) (a2 : Int) (a3 : Int) (r : Bool) (w : World) (hr1 : Kd.C (Kd.int .i64) w A1 l1.length l1) (hc1 : l1.length ≤ c1) (h : spec_l7Before.f a0_0 a0_1 a0_2 a0_3 a0_4 l1 a2 a3 = some r) :
  Calls Try.prog 100 #[.agg #[.int .i64 a0_0, .int .i64 a0_1, .int .i64 a0_2, .bool a0_3, .int .i64 a0_4], .slice A1 l1.length c1, .int .i64 a2, .int .i64 a3] w fun e w' => e = .returned (.bool r) ∧ Below w.heap.size w w' := by
 have hu37 := Try.underlying37
 have HR1 := aM hr1
 have HC1 := aM hc1
 clear hr1 hc1
 have HB := aM (Below.refl w.heap.size w)
 unfold spec_l7Before.f at h
 have H := h
 clear h
 replace H := Option.bind_eq_some_iff.mp H
 obtain ⟨t149, A50, H⟩ := H
 have A5 := aM A50
 clear A50
 replace H := Option.bind_eq_some_iff.mp H
 obtain ⟨t150, A60, H⟩ := H
 have A6 := aM A60
 clear A60
 replace H := iQ_ H
 rcases H with ⟨c7b0, c7b1, H⟩ | ⟨c7, c7b0, c7b1, H⟩
 {
 replace H := iS_ H
 rcases H with ⟨c8, H⟩ | ⟨c8, H⟩
 {
 have c8b0 : ((a2 == a0_1) != (a3 == a0_1)) = true := c8
 (try (have c8b1 : decide ((a2 == a0_1) = (a3 == a0_1)) = false := by simpa using c8))
 (try (have c8b2 : ((a2 == a0_1) == (a3 == a0_1)) = false := by simpa using c8))
 (try (have c8b3 : ¬ ((a2 == a0_1) = (a3 == a0_1)) := by simpa using c8))
 clear c8
 obtain rfl := Option.some.inj H
 go_enter Try.func100, Try.ntmps100
 go_wp2_with (first | ((with_reducible refine gate_dst (N := 4) rfl ?_); refine bx_ 4 #[.int .i64 a0_0, .int .i64 a0_1, .int .i64 a0_2, .bool a0_3, .int .i64 a0_4] 37 ?_; intro gb148 hg w9 hbox hb; have BK148 := aM (hbox); have GW148 := aM (bz_ w hg qz1); have GE148 := GW148; replace HB := bS_ hb; clear hb hbox hg; obtain ⟨hcz10_0, hcz10_1, hcz10_2, hcz10_3, hcz10_4, hfz10_0, hfz10_1, hfz10_2, hfz10_3, hfz10_4⟩ := b10_ BK148.out) | ((with_reducible refine gate_callee (f := 124) rfl ?_); refine goesL_ (some 14) rfl rfl Try.func124 (by kernel_rfl) rfl #[.agg #[.int .i64 a0_0, .int .i64 a0_1, .int .i64 a0_2, .bool a0_3, .int .i64 a0_4], .slice A1 l1.length c1, .int .i64 a2] rfl qz2 ?_; (with_reducible refine (spec_l7Rank.calls a0_0 a0_1 a0_2 a0_3 a0_4 _ _ l1 a2 t149 _ ?_ ?_ A5.out).mono ?_); exact qz10; exact HC1.out; rintro e w11 ⟨rfl, hb⟩; refine ⟨_, rfl, ?_⟩; replace BK148 := bB_ BK148 hb; replace HB := bS_ hb; (try clear hb); obtain ⟨hcz12_0, hcz12_1, hcz12_2, hcz12_3, hcz12_4, hfz12_0, hfz12_1, hfz12_2, hfz12_3, hfz12_4⟩ := b10_ BK148.out) | ((with_reducible refine gate_callee (f := 124) rfl ?_); refine goesL_ (some 18) rfl rfl Try.func124 (by kernel_rfl) rfl #[.agg #[.int .i64 a0_0, .int .i64 a0_1, .int .i64 a0_2, .bool a0_3, .int .i64 a0_4], .slice A1 l1.length c1, .int .i64 a3] rfl qz2 ?_; (with_reducible refine (spec_l7Rank.calls a0_0 a0_1 a0_2 a0_3 a0_4 _ _ l1 a3 t150 _ ?_ ?_ A6.out).mono ?_); exact qz10; exact HC1.out; rintro e w13 ⟨rfl, hb⟩; refine ⟨_, rfl, ?_⟩; replace BK148 := bB_ BK148 hb; replace HB := bS_ hb; (try clear hb); obtain ⟨hcz14_0, hcz14_1, hcz14_2, hcz14_3, hcz14_4, hfz14_0, hfz14_1, hfz14_2, hfz14_3, hfz14_4⟩ := b10_ BK148.out))
 go_ret
 exact ⟨qzw, qz1⟩
 }
 {
 have c8b0 : ((a2 == a0_1) != (a3 == a0_1)) = false := by simpa using c8
 (try (have c8b1 : decide ((a2 == a0_1) = (a3 == a0_1)) = true := by simpa using c8))
 (try (have c8b2 : ((a2 == a0_1) == (a3 == a0_1)) = true := by simpa using c8))
 clear c8
 obtain rfl := Option.some.inj H
 go_enter Try.func100, Try.ntmps100
 go_wp2_with (first | ((with_reducible refine gate_dst (N := 4) rfl ?_); refine bx_ 4 #[.int .i64 a0_0, .int .i64 a0_1, .int .i64 a0_2, .bool a0_3, .int .i64 a0_4] 37 ?_; intro gb148 hg w15 hbox hb; have BK148 := aM (hbox); have GW148 := aM (bz_ w hg qz1); have GE148 := GW148; replace HB := bS_ hb; clear hb hbox hg; obtain ⟨hcz16_0, hcz16_1, hcz16_2, hcz16_3, hcz16_4, hfz16_0, hfz16_1, hfz16_2, hfz16_3, hfz16_4⟩ := b10_ BK148.out) | ((with_reducible refine gate_callee (f := 124) rfl ?_); refine goesL_ (some 14) rfl rfl Try.func124 (by kernel_rfl) rfl #[.agg #[.int .i64 a0_0, .int .i64 a0_1, .int .i64 a0_2, .bool a0_3, .int .i64 a0_4], .slice A1 l1.length c1, .int .i64 a2] rfl qz2 ?_; (with_reducible refine (spec_l7Rank.calls a0_0 a0_1 a0_2 a0_3 a0_4 _ _ l1 a2 t149 _ ?_ ?_ A5.out).mono ?_); exact qz10; exact HC1.out; rintro e w17 ⟨rfl, hb⟩; refine ⟨_, rfl, ?_⟩; replace BK148 := bB_ BK148 hb; replace HB := bS_ hb; (try clear hb); obtain ⟨hcz18_0, hcz18_1, hcz18_2, hcz18_3, hcz18_4, hfz18_0, hfz18_1, hfz18_2, hfz18_3, hfz18_4⟩ := b10_ BK148.out) | ((with_reducible refine gate_callee (f := 124) rfl ?_); refine goesL_ (some 18) rfl rfl Try.func124 (by kernel_rfl) rfl #[.agg #[.int .i64 a0_0, .int .i64 a0_1, .int .i64 a0_2, .bool a0_3, .int .i64 a0_4], .slice A1 l1.length c1, .int .i64 a3] rfl qz2 ?_; (with_reducible refine (spec_l7Rank.calls a0_0 a0_1 a0_2 a0_3 a0_4 _ _ l1 a3 t150 _ ?_ ?_ A6.out).mono ?_); exact qz10; exact HC1.out; rintro e w19 ⟨rfl, hb⟩; refine ⟨_, rfl, ?_⟩; replace BK148 := bB_ BK148 hb; replace HB := bS_ hb; (try clear hb); obtain ⟨hcz20_0, hcz20_1, hcz20_2, hcz20_3, hcz20_4, hfz20_0, hfz20_1, hfz20_2, hfz20_3, hfz20_4⟩ := b10_ BK148.out))
 go_ret
 exact ⟨qzw, qz1⟩
 }
 }
 {
 obtain rfl := Option.some.inj H
 go_enter Try.func100, Try.ntmps100
 go_wp2_with (first | ((with_reducible refine gate_dst (N := 4) rfl ?_); refine bx_ 4 #[.int .i64 a0_0, .int .i64 a0_1, .int .i64 a0_2, .bool a0_3, .int .i64 a0_4] 37 ?_; intro gb148 hg w21 hbox hb; have BK148 := aM (hbox); have GW148 := aM (bz_ w hg qz1); have GE148 := GW148; replace HB := bS_ hb; clear hb hbox hg; obtain ⟨hcz22_0, hcz22_1, hcz22_2, hcz22_3, hcz22_4, hfz22_0, hfz22_1, hfz22_2, hfz22_3, hfz22_4⟩ := b10_ BK148.out) | ((with_reducible refine gate_callee (f := 124) rfl ?_); refine goesL_ (some 14) rfl rfl Try.func124 (by kernel_rfl) rfl #[.agg #[.int .i64 a0_0, .int .i64 a0_1, .int .i64 a0_2, .bool a0_3, .int .i64 a0_4], .slice A1 l1.length c1, .int .i64 a2] rfl qz2 ?_; (with_reducible refine (spec_l7Rank.calls a0_0 a0_1 a0_2 a0_3 a0_4 _ _ l1 a2 t149 _ ?_ ?_ A5.out).mono ?_); exact qz10; exact HC1.out; rintro e w23 ⟨rfl, hb⟩; refine ⟨_, rfl, ?_⟩; replace BK148 := bB_ BK148 hb; replace HB := bS_ hb; (try clear hb); obtain ⟨hcz24_0, hcz24_1, hcz24_2, hcz24_3, hcz24_4, hfz24_0, hfz24_1, hfz24_2, hfz24_3, hfz24_4⟩ := b10_ BK148.out) | ((with_reducible refine gate_callee (f := 124) rfl ?_); refine goesL_ (some 18) rfl rfl Try.func124 (by kernel_rfl) rfl #[.agg #[.int .i64 a0_0, .int .i64 a0_1, .int .i64 a0_2, .bool a0_3, .int .i64 a0_4], .slice A1 l1.length c1, .int .i64 a3] rfl qz2 ?_; (with_reducible refine (spec_l7Rank.calls a0_0 a0_1 a0_2 a0_3 a0_4 _ _ l1 a3 t150 _ ?_ ?_ A6.out).mono ?_); exact qz10; exact HC1.out; rintro e w25 ⟨rfl, hb⟩; refine ⟨_, rfl, ?_⟩; replace BK148 := bB_ BK148 hb; replace HB := bS_ hb; (try clear hb)))
 go_ret
 exact ⟨qzw, qz1⟩
 }
end Go.Proofs.Ytankmdbbgepmbaa.PFnClashes
