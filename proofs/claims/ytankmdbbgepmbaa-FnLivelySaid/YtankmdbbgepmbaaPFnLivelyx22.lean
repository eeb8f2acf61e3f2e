-- Made by a program of this session out of the translation. Lean checks it.
import Derived.Test.YtankmdbbgepmbaaPFnLivelyx9
import Derived.Test.YtankmdbbgepmbaaPFnLivelyx21
namespace Go.Proofs.Ytankmdbbgepmbaa.PFnLively
open Go.RowKit Go.Proofs.YtankmdbbgepmbaaW.PrintWords Go.Proofs.YtankmdbbgepmbaaW.PrintLast Go.Proofs.YtankmdbbgepmbaaW.PrintMore
attribute [local go_sem] max2_int min2_int max_two min_two max_three min_three max_four min_four   -- for this text's walks alone
set_option linter.unusedVariables false
set_option linter.unusedSimpArgs false

/-! ### impl_Widest: function 53 -/
mutual
def impl_Widest.l0 : Nat → Int → List Int → Int → Int → Int → Int → List Int → Option (Int)
 | 0, _, _, _, _, _, _, _ => none
 | k + 1, x3, x12, x13, x14, x523000, x523001, x523002 => if x14 < x13 then (if 0 ≤ x14 then (if x14 < (x12.length : Int) then (if (rd x12 x14) = 0 then (impl_Widest.l0 k x3 x12 x13 (wrap64 (x14 + 1)) x523000 x523001 x523002) else ((impl_field.f k x523000 x523001 x523002 x14 false).bind fun t525 => (impl_Widest.l1 k x3 x12 x13 x14 t525 (t525.length : Int) 0 x523000 x523001 x523002))) else (none)) else (none)) else (some x3)
def impl_Widest.l1 : Nat → Int → List Int → Int → Int → List Int → Int → Int → Int → Int → List Int → Option (Int)
 | 0, _, _, _, _, _, _, _, _, _, _ => none
 | k + 1, x3, x12, x13, x14, x23, x24, x25, x523000, x523001, x523002 => if x25 < x24 then (if 0 ≤ x25 then (if x25 < (x23.length : Int) then (impl_Widest.l1 k (mx x3 (rd x23 x25)) x12 x13 x14 x23 x24 (wrap64 (x25 + 1)) x523000 x523001 x523002) else (none)) else (none)) else (impl_Widest.l0 k x3 x12 x13 (wrap64 (x14 + 1)) x523000 x523001 x523002)
end
def impl_Widest.f (k : Nat) (a0_0 : Int) (a0_1 : Int) (l0_2 : List Int) : Option (Int) := (impl_FloorOk.f k a0_0 a0_1 l0_2).bind fun t523 => (if t523 = true then (impl_Widest.l0 k (-1) l0_2 (l0_2.length : Int) 0 a0_0 a0_1 l0_2) else (some (-1)))
theorem impl_Widest.mono_l : ∀ k, (∀ y0 y1 y2 y3 y4 y5 y6, LeO (impl_Widest.l0 k y0 y1 y2 y3 y4 y5 y6) (impl_Widest.l0 (k + 1) y0 y1 y2 y3 y4 y5 y6)) ∧ (∀ y0 y1 y2 y3 y4 y5 y6 y7 y8 y9, LeO (impl_Widest.l1 k y0 y1 y2 y3 y4 y5 y6 y7 y8 y9) (impl_Widest.l1 (k + 1) y0 y1 y2 y3 y4 y5 y6 y7 y8 y9))
 | 0 => ⟨fun _ _ _ _ _ _ _ r h => by simp [impl_Widest.l0] at h, fun _ _ _ _ _ _ _ _ _ _ r h => by simp [impl_Widest.l1] at h⟩
 | k + 1 => by
  obtain ⟨ih0, ih1⟩ := impl_Widest.mono_l k
  refine ⟨?_, ?_⟩
  {
  intro y0 y1 y2 y3 y4 y5 y6
  unfold impl_Widest.l0
  have j0 := @impl_FloorOk.mono
  have j1 := @impl_field.mono
  exact qL
  }
  {
  intro y0 y1 y2 y3 y4 y5 y6 y7 y8 y9
  unfold impl_Widest.l1
  have j0 := @impl_FloorOk.mono
  have j1 := @impl_field.mono
  exact qL
  }
theorem impl_Widest.mono : ∀ a0 a1 a2 k, LeO (impl_Widest.f k a0 a1 a2) (impl_Widest.f (k + 1) a0 a1 a2) := by
 intro a0 a1 a2 k
 obtain ⟨ih0, ih1⟩ := impl_Widest.mono_l k
 unfold impl_Widest.f
 have j0 := @impl_FloorOk.mono
 have j1 := @impl_field.mono
 exact qL
set_option maxHeartbeats 8000000 in
set_option maxRecDepth 100000 in
theorem impl_Widest.calls (k : Nat) (a0_0 : Int) (a0_1 : Int) (A0_2 : Option Addr) (c0_2 : Nat) (l0_2 : List Int) (r : Int) (w : World) (hr0_2 : Kd.C (Kd.int .i64) w A0_2 l0_2.length l0_2) (hc0_2 : l0_2.length ≤ c0_2) (h : impl_Widest.f k a0_0 a0_1 l0_2 = some r) :
  Calls Try.prog 53 #[.agg #[.int .i64 a0_0, .int .i64 a0_1, .slice A0_2 l0_2.length c0_2]] w fun e w' => e = .returned (.int .i64 r) ∧ Below w.heap.size w w' := by
 have hu43 := Try.underlying43
 have HR0_2 := aM hr0_2
 have HC0_2 := aM hc0_2
 clear hr0_2 hc0_2
 have HB := aM (Below.refl w.heap.size w)
 unfold impl_Widest.f at h
 have H := h
 clear h
 replace H := Option.bind_eq_some_iff.mp H
 obtain ⟨t523, A20, H⟩ := H
 have A2 := aM A20
 clear A20
 replace H := iB_ H
 rcases H with ⟨rfl, H⟩ | ⟨rfl, H⟩
 {
 have H' := aM H
 clear H
 go_enter Try.func53, Try.ntmps53
 go_wp2_with (first | ((with_reducible refine gate_dst (N := 1) rfl ?_); refine bx_ 1 #[.int .i64 a0_0, .int .i64 a0_1, .slice A0_2 l0_2.length c0_2] 43 ?_; intro gb522 hg w4 hbox hb; have BK522 := aM (hbox); have GW522 := aM (bz_ w hg qz1); have GE522 := GW522; replace HB := bS_ hb; clear hb hbox hg; obtain ⟨hcz5_0, hcz5_1, hcz5_2, hfz5_0, hfz5_1, hfz5_2⟩ := b6_ BK522.out) | ((with_reducible refine gate_callee (f := 64) rfl ?_); refine goesL_ (some 9) rfl rfl Try.func64 (by kernel_rfl) rfl #[.agg #[.int .i64 a0_0, .int .i64 a0_1, .slice A0_2 l0_2.length c0_2]] rfl qz2 ?_; (with_reducible refine (impl_FloorOk.calls k a0_0 a0_1 _ _ l0_2 true _ ?_ ?_ A2.out).mono ?_); exact qz5; exact qz14; rintro e w6 ⟨rfl, hb⟩; refine ⟨_, rfl, ?_⟩; replace BK522 := bB_ BK522 hb; replace HB := bS_ hb; (try clear hb); obtain ⟨hcz7_0, hcz7_1, hcz7_2, hfz7_0, hfz7_1, hfz7_2⟩ := b6_ BK522.out))
 go_loopg [3, 14] k (fun kq v3 v14 w' => ∃ (x3_1 : Int) (x14_1 : Int), v3 = .int .i64 x3_1 ∧ v14 = .int .i64 x14_1 ∧ Aside0 (impl_Widest.l0 kq x3_1 l0_2 (l0_2.length : Int) x14_1 a0_0 a0_1 l0_2 = some r) ∧ Aside0 (kq ≤ k) ∧ Aside0 (w'.heap[gb522]? = some (.cells #[.int .i64 a0_0, .int .i64 a0_1, (.slice A0_2 l0_2.length c0_2)] 43 (0, 0))) ∧ Aside0 (Below w.heap.size w w'))
 case atStart => exact ⟨((-1)), (0), qz6, qz6, H', ⟨Nat.le_refl _⟩, ⟨bk_ BK522.out⟩, ⟨qz1⟩⟩
 case round =>
 clear H'
 try clear c3
 try clear hcz5_0 hcz5_1 hcz5_2 hfz5_0 hfz5_1 hfz5_2
 try clear hcz7_0 hcz7_1 hcz7_2 hfz7_0 hfz7_1 hfz7_2
 obtain ⟨x3_1, x14_1, rfl, rfl, HA, HK1, BK522, HB⟩ := hrel
 cases gk with
 | zero => exact absurd HA.out (by simp [impl_Widest.l0])
 | succ k1 =>
 have H := HA.out
 clear HA
 simp only [impl_Widest.l0] at H
 replace H := iE_ H
 rcases H with ⟨c8b0, H⟩ | ⟨c8b0, H⟩
 {
 replace H := iD_ H
 obtain ⟨c9b0, H⟩ := H
 replace H := iD_ H
 obtain ⟨c10b0, H⟩ := H
 replace H := iQ_ H
 rcases H with ⟨c11b0, c11b1, H⟩ | ⟨c11, c11b0, c11b1, H⟩
 {
 have H' := aM H
 clear H
 have p524 : (0 ≤ (x14_1 : Int)) = True := et_
 have q524 : (x14_1 < (l0_2.length : Int)) = True := et_
 obtain ⟨ad524, e524, hx524_0⟩ := Kd.at_int HR0_2.out x14_1 dt_ dt_
 cases e524
 replace hx524_0 := cB_ hx524_0
 go_wp2
 go_roundg k1
 case measure => have := HK1.out; omega
 case rel => exact ⟨(x3_1), (wrap64 (x14_1 + 1)), qz6, qz6, H', ⟨by have := HK1.out; omega⟩, ⟨bk_ BK522.out⟩, ⟨qz1⟩⟩
 }
 {
 replace H := Option.bind_eq_some_iff.mp H
 obtain ⟨t525, A120, H⟩ := H
 have A12 := aM A120
 clear A120
 have H' := aM H
 clear H
 have p524 : (0 ≤ (x14_1 : Int)) = True := et_
 have q524 : (x14_1 < (l0_2.length : Int)) = True := et_
 obtain ⟨ad524, e524, hx524_0⟩ := Kd.at_int HR0_2.out x14_1 dt_ dt_
 cases e524
 replace hx524_0 := cB_ hx524_0
 obtain ⟨hcz13_0, hcz13_1, hcz13_2, hfz13_0, hfz13_1, hfz13_2⟩ := b6_ BK522.out
 go_wp2_with (first | ((with_reducible refine gate_callee (f := 69) rfl ?_); refine goesL_ (some 23) rfl rfl Try.func69 (by kernel_rfl) rfl #[.agg #[.int .i64 a0_0, .int .i64 a0_1, .slice (some ad524) l0_2.length c0_2], .int .i64 x14_1, .bool false] rfl qz2 ?_; (with_reducible refine (impl_field.calls k1 a0_0 a0_1 _ _ l0_2 x14_1 false t525 _ ?_ ?_ A12.out).mono ?_); exact qz5; exact qz14; rintro e w14 ⟨v526, rfl, ho0, hb⟩; refine ⟨_, rfl, ?_⟩; have HO527 := aM (Kd.R_lower ho0 (below_size qz1)); replace BK522 := bB_ BK522 hb; replace HB := bS_ hb; (try clear hb ho0); obtain ⟨Ao15, co15, eo15⟩ := Kd.R_slice HO527.out; subst eo15))
 go_loopg [3, 25] k1 (fun kq v3 v25 w' => ∃ (x3_2 : Int) (x25_2 : Int), v3 = .int .i64 x3_2 ∧ v25 = .int .i64 x25_2 ∧ Aside0 (impl_Widest.l1 kq x3_2 l0_2 (l0_2.length : Int) x14_1 t525 (t525.length : Int) x25_2 a0_0 a0_1 l0_2 = some r) ∧ Aside0 (kq ≤ k1) ∧ Aside0 (Kd.R (Kd.int .i64) 3 w' w.heap.size (fun _ => True) (.slice Ao15 t525.length co15) t525) ∧ Aside0 (w'.heap[gb522]? = some (.cells #[.int .i64 a0_0, .int .i64 a0_1, (.slice (some ad524) l0_2.length c0_2)] 43 (0, 0))) ∧ Aside0 (Below w.heap.size w w'))
 case atStart => exact ⟨(x3_1), (0), qz6, qz6, H', ⟨Nat.le_refl _⟩, ⟨rr_ HO527.out⟩, ⟨bk_ BK522.out⟩, ⟨qz1⟩⟩
 case round =>
 clear H'
 try clear c3
 try clear c8
 try clear c8b0
 try clear c9
 try clear c9b0
 try clear c10
 try clear c10b0
 try clear c11
 try clear c11b0
 try clear c11b1
 try clear hcz13_0 hcz13_1 hcz13_2 hfz13_0 hfz13_1 hfz13_2
 try clear hcz5_0 hcz5_1 hcz5_2 hfz5_0 hfz5_1 hfz5_2
 try clear hcz7_0 hcz7_1 hcz7_2 hfz7_0 hfz7_1 hfz7_2
 try clear hx524_0
 try clear p524
 try clear q524
 obtain ⟨x3_2, x25_2, rfl, rfl, HA, HK2, HO_23, BK522, HB⟩ := hrel
 cases gk with
 | zero => exact absurd HA.out (by simp [impl_Widest.l1])
 | succ k2 =>
 have H := HA.out
 clear HA
 simp only [impl_Widest.l1] at H
 replace H := iE_ H
 rcases H with ⟨c16b0, H⟩ | ⟨c16b0, H⟩
 {
 replace H := iD_ H
 obtain ⟨c17b0, H⟩ := H
 replace H := iD_ H
 obtain ⟨c18b0, H⟩ := H
 obtain ⟨ji19, hji19⟩ : ∃ j_ : Int, (mx x3_2 (rd t525 x25_2)) = j_ := ⟨_, rfl⟩
 replace H : (impl_Widest.l1 k2 ji19 l0_2 (l0_2.length : Int) x14_1 t525 (t525.length : Int) (wrap64 (x25_2 + 1)) a0_0 a0_1 l0_2) = some r := by first | (rw [hji19] at H; exact H) | (simp only [hji19] at H ⊢; exact H)
 have hji19_ : (if x3_2 < (rd t525 x25_2) then (rd t525 x25_2) else x3_2) = ji19 := hji19
 have H' := aM H
 clear H
 have p528 : (0 ≤ (x25_2 : Int)) = True := et_
 have q528 : (x25_2 < (t525.length : Int)) = True := et_
 obtain ⟨ad528, e528, hx528_0⟩ := Kd.at_int (Kd.R_reads' HO_23.out).2.2 x25_2 dt_ dt_
 cases e528
 go_wp2
 go_roundg k2
 case measure => have := HK1.out; have := HK2.out; omega
 case rel => exact ⟨(ji19), (wrap64 (x25_2 + 1)), (by first | rfl | (simp; done) | (simp only [← hji19] <;> (first | rfl | simp)) | (simp [*]; done)), qz6, H', ⟨by have := HK1.out; have := HK2.out; omega⟩, ⟨rm_ HO_23.out⟩, ⟨bk_ BK522.out⟩, ⟨qz1⟩⟩
 }
 {
 have H' := aM H
 clear H
 go_wp2
 go_roundg k2
 case measure => have := HK1.out; have := HK2.out; omega
 case rel => exact ⟨(x3_2), (wrap64 (x14_1 + 1)), qz6, qz6, H', ⟨by have := HK1.out; have := HK2.out; omega⟩, ⟨bk_ BK522.out⟩, ⟨qz1⟩⟩
 }
 }
 }
 {
 obtain rfl := Option.some.inj H
 go_wp2
 go_ret
 exact ⟨qzw, qz1⟩
 }
 }
 {
 obtain rfl := Option.some.inj H
 go_enter Try.func53, Try.ntmps53
 go_wp2_with (first | ((with_reducible refine gate_dst (N := 1) rfl ?_); refine bx_ 1 #[.int .i64 a0_0, .int .i64 a0_1, .slice A0_2 l0_2.length c0_2] 43 ?_; intro gb522 hg w20 hbox hb; have BK522 := aM (hbox); have GW522 := aM (bz_ w hg qz1); have GE522 := GW522; replace HB := bS_ hb; clear hb hbox hg; obtain ⟨hcz21_0, hcz21_1, hcz21_2, hfz21_0, hfz21_1, hfz21_2⟩ := b6_ BK522.out) | ((with_reducible refine gate_callee (f := 64) rfl ?_); refine goesL_ (some 9) rfl rfl Try.func64 (by kernel_rfl) rfl #[.agg #[.int .i64 a0_0, .int .i64 a0_1, .slice A0_2 l0_2.length c0_2]] rfl qz2 ?_; (with_reducible refine (impl_FloorOk.calls k a0_0 a0_1 _ _ l0_2 false _ ?_ ?_ A2.out).mono ?_); exact qz5; exact qz14; rintro e w22 ⟨rfl, hb⟩; refine ⟨_, rfl, ?_⟩; replace BK522 := bB_ BK522 hb; replace HB := bS_ hb; (try clear hb)))
 go_ret
 exact ⟨qzw, qz1⟩
 }
/-! ### laws_FnLively: function 13 -/
def laws_FnLively.l0 : Nat → List (S37) → List (S37) → List Bool → Int → Int → Int → List Int → Option (Bool)
 | 0, _, _, _, _, _, _, _ => none
 | k + 1, x4, x6, x7, x8, x539000, x539001, x539002 => if x8 < (x7.length : Int) then (if 0 ≤ x8 then (if rdOf false x7 x8 = true then (laws_FnLively.l0 k x4 x6 x7 (wrap64 (x8 + 1)) x539000 x539001 x539002) else (some false)) else (none)) else (if (x7.length : Int) = (x4.length : Int) then (if (x6.length : Int) = (x4.length : Int) then ((impl_CrewOk.f k x539000 x539001 x539002 x6).bind fun t548 => (some t548)) else (some false)) else (some false))
def laws_FnLively.f (k : Nat) (l0 : List Int) : Option (Bool) := (laws_big.f l0).bind fun t529 => (if t529 = true then (some true) else ((spec_DrawLively.f k l0).bind fun bt530 => ((impl_Sound.f k bt530.1 bt530.2.1 bt530.2.2.1).bind fun t539 => (if t539 = true then ((impl_Widest.f k bt530.1 bt530.2.1 bt530.2.2.1).bind fun t540 => ((impl_Drive.f k bt530.1 bt530.2.1 bt530.2.2.1 bt530.2.2.2 (wrap64 ((bt530.2.2.2.length : Int) * t540))).bind fun bt541 => (laws_FnLively.l0 k bt530.2.2.2 bt541.1 bt541.2 0 bt530.1 bt530.2.1 bt530.2.2.1))) else (some false)))))
theorem laws_FnLively.mono_l : ∀ k, (∀ y0 y1 y2 y3 y4 y5 y6, LeO (laws_FnLively.l0 k y0 y1 y2 y3 y4 y5 y6) (laws_FnLively.l0 (k + 1) y0 y1 y2 y3 y4 y5 y6))
 | 0 => fun _ _ _ _ _ _ _ r h => by simp [laws_FnLively.l0] at h
 | k + 1 => by
  have ih0 := laws_FnLively.mono_l k
  {
  intro y0 y1 y2 y3 y4 y5 y6
  unfold laws_FnLively.l0
  have j0 := @impl_CrewOk.mono
  have j1 := @impl_Drive.mono
  have j2 := @impl_Sound.mono
  have j3 := @impl_Widest.mono
  have j4 := @spec_DrawLively.mono
  exact qL
  }
theorem laws_FnLively.mono : ∀ a0 k, LeO (laws_FnLively.f k a0) (laws_FnLively.f (k + 1) a0) := by
 intro a0 k
 have ih0 := laws_FnLively.mono_l k
 unfold laws_FnLively.f
 have j0 := @impl_CrewOk.mono
 have j1 := @impl_Drive.mono
 have j2 := @impl_Sound.mono
 have j3 := @impl_Widest.mono
 have j4 := @spec_DrawLively.mono
 exact qL
set_option maxHeartbeats 8000000 in
set_option maxRecDepth 100000 in
theorem laws_FnLively.calls (k : Nat) (A0 : Option Addr) (c0 : Nat) (l0 : List Int) (r : Bool) (w : World) (hr0 : Kd.C (Kd.int .u8) w A0 l0.length l0) (hc0 : l0.length ≤ c0) (hT : r = true) (h : laws_FnLively.f k l0 = some r) :
  Calls Try.prog 13 #[.slice A0 l0.length c0] w fun e w' => e = .returned (.bool r) ∧ Below w.heap.size w w' := by
 have HTR_ := aM hT
 clear hT
 have hu43 := Try.underlying43
 have HR0 := aM hr0
 have HC0 := aM hc0
 clear hr0 hc0
 have HB := aM (Below.refl w.heap.size w)
 unfold laws_FnLively.f at h
 have H := h
 clear h
 replace H := Option.bind_eq_some_iff.mp H
 obtain ⟨t529, A20, H⟩ := H
 have A2 := aM A20
 clear A20
 replace H := iB_ H
 rcases H with ⟨rfl, H⟩ | ⟨rfl, H⟩
 {
 obtain rfl := Option.some.inj H
 go_enter Try.func13, Try.ntmps13
 go_wp2_with (first | ((with_reducible refine gate_callee (f := 23) rfl ?_); refine goesL_ (some 10) rfl rfl Try.func23 (by kernel_rfl) rfl #[.slice A0 l0.length c0] rfl qz2 ?_; (with_reducible refine (laws_big.calls _ _ l0 true _ ?_ ?_ A2.out).mono ?_); exact qz11; exact HC0.out; rintro e w' ⟨rfl, ⟨nd, rfl⟩⟩; refine ⟨_, rfl, ?_⟩))
 go_ret
 exact ⟨qzw, qz1⟩
 }
 {
 replace H := Option.bind_eq_some_iff.mp H
 obtain ⟨⟨t530, t531, t532, t535⟩, A40, H⟩ := H
 try dsimp only at H
 have A4 := aM A40
 clear A40
 replace H := Option.bind_eq_some_iff.mp H
 obtain ⟨t539, A50, H⟩ := H
 have A5 := aM A50
 clear A50
 replace H := iB_ H
 rcases H with ⟨rfl, H⟩ | ⟨rfl, H⟩
 {
 replace H := Option.bind_eq_some_iff.mp H
 obtain ⟨t540, A70, H⟩ := H
 have A7 := aM A70
 clear A70
 replace H := Option.bind_eq_some_iff.mp H
 obtain ⟨⟨t541, t544⟩, A80, H⟩ := H
 try dsimp only at H
 have A8 := aM A80
 clear A80
 have H' := aM H
 clear H
 go_enter Try.func13, Try.ntmps13
 go_wp2_with (first | ((with_reducible refine gate_callee (f := 23) rfl ?_); refine goesL_ (some 10) rfl rfl Try.func23 (by kernel_rfl) rfl #[.slice A0 l0.length c0] rfl qz2 ?_; (with_reducible refine (laws_big.calls _ _ l0 false _ ?_ ?_ A2.out).mono ?_); exact qz11; exact HC0.out; rintro e w' ⟨rfl, ⟨nd, rfl⟩⟩; refine ⟨_, rfl, ?_⟩) | ((with_reducible refine gate_callee (f := 50) rfl ?_); refine goesL_ (some 13) rfl rfl Try.func50 (by kernel_rfl) rfl #[.slice A0 l0.length c0] rfl qz2 ?_; (with_reducible refine (spec_DrawLively.calls k _ _ l0 t530 t531 t532 t535 _ ?_ ?_ A4.out).mono ?_); exact qz11; exact HC0.out; rintro e w9 ⟨v533, v536, rfl, ho0, ho1, hb⟩; refine ⟨_, rfl, ?_⟩; have HO534 := aM (Kd.R_lower ho0 (below_size qz1)); have HO537 := aM (Kd.R_lower ho1 (below_size qz1)); replace HB := bS_ hb; (try clear hb ho0 ho1)) | ((with_reducible refine gate_dst (N := 3) rfl ?_); (try (refine gate_guard (by rfl) ?_; dsimp only)); refine bx_ 3 #[.int .i64 0, .int .i64 0, .slice none 0 0] 43 ?_; intro gb538 hg w10 hbox hb; replace HO534 := aM (Kd.R_below (rr_ HO534.out) hb); replace HO537 := aM (Kd.R_below (rr_ HO537.out) hb); have BK538 := aM (hbox); have GW538 := aM (bz_ w hg qz1); have GE538 := GW538; replace HB := bS_ hb; clear hb hbox hg; obtain ⟨hcz11_0, hcz11_1, hcz11_2, hfz11_0, hfz11_1, hfz11_2⟩ := b6_ BK538.out; obtain ⟨Ao12, co12, eo12⟩ := Kd.R_slice HO534.out; subst eo12) | ((with_reducible refine gate_callee (f := 51) rfl ?_); refine goesL_ (some 17) rfl rfl Try.func51 (by kernel_rfl) rfl #[.agg #[.int .i64 t530, .int .i64 t531, .slice Ao12 t532.length co12]] rfl qz2 ?_; (with_reducible refine (impl_Sound.calls k t530 t531 _ _ t532 true _ ?side1 ?side2 A5.out).mono ?_); (case side1 => refine (Kd.R_reads' (e := 3) (base := w.heap.size) (ok := fun k_ => True) (n := t532.length) (c := co12) ?_).2.2; exact (by (with_reducible repeat (first | apply Kd.R_alloc | apply Kd.R_drewN | apply Kd.R_drew)); exact (Kd.R_mono (Kd.R_far (p := ⟨gb538, 2, none⟩) (Kd.R_far (p := ⟨gb538, 1, none⟩) (Kd.R_far (p := ⟨gb538, 0, none⟩) (Kd.R_types HO534.out BK538.out (by decide)) (fun _ hk => hk.2) (.int .i64 t530)) (fun _ hk => hk.2) (.int .i64 t531)) (fun _ hk => hk.2) (.slice Ao12 t532.length co12)) (fun _ h_ => h_.1)))); (case side2 => exact (Kd.R_reads' HO534.out).2.1); rintro e w13 ⟨rfl, hb⟩; refine ⟨_, rfl, ?_⟩; replace HO534 := aM (Kd.R_below (by (with_reducible repeat (first | apply Kd.R_alloc | apply Kd.R_drewN | apply Kd.R_drew)); exact (Kd.R_mono (Kd.R_far (p := ⟨gb538, 2, none⟩) (Kd.R_far (p := ⟨gb538, 1, none⟩) (Kd.R_far (p := ⟨gb538, 0, none⟩) (Kd.R_types HO534.out BK538.out (by decide)) (fun _ hk => hk.2) (.int .i64 t530)) (fun _ hk => hk.2) (.int .i64 t531)) (fun _ hk => hk.2) (.slice Ao12 t532.length co12)) (fun _ h_ => h_.1))) hb); replace HO537 := aM (Kd.R_below (by (with_reducible repeat (first | apply Kd.R_alloc | apply Kd.R_drewN | apply Kd.R_drew)); exact (Kd.R_mono (Kd.R_far (p := ⟨gb538, 2, none⟩) (Kd.R_far (p := ⟨gb538, 1, none⟩) (Kd.R_far (p := ⟨gb538, 0, none⟩) (Kd.R_types HO537.out BK538.out (by decide)) (fun _ hk => hk.2) (.int .i64 t530)) (fun _ hk => hk.2) (.int .i64 t531)) (fun _ hk => hk.2) (.slice Ao12 t532.length co12)) (fun _ h_ => h_.1))) hb); replace BK538 := aM (blk_below (g := gb538) (o := .cells #[.int .i64 t530, .int .i64 t531, .slice Ao12 t532.length co12] 43 (0, 0)) (by (with_reducible repeat (first | refine blk_drewN ?_ _ | refine blk_drew ?_ | refine blk_alloc ?_ _)); refine blk_put (cs := #[.int .i64 t530, .int .i64 t531, .slice none 0 0]) ?_ 2 _ rfl; (with_reducible repeat (first | refine blk_drewN ?_ _ | refine blk_drew ?_ | refine blk_alloc ?_ _)); refine blk_put (cs := #[.int .i64 t530, .int .i64 0, .slice none 0 0]) ?_ 1 _ rfl; (with_reducible repeat (first | refine blk_drewN ?_ _ | refine blk_drew ?_ | refine blk_alloc ?_ _)); refine blk_put (cs := #[.int .i64 0, .int .i64 0, .slice none 0 0]) ?_ 0 _ rfl; exact bk_ BK538.out) hb); replace HB := bS_ hb; (try clear hb); obtain ⟨Ao14, co14, eo14⟩ := Kd.R_slice HO537.out; subst eo14; obtain ⟨hcz15_0, hcz15_1, hcz15_2, hfz15_0, hfz15_1, hfz15_2⟩ := b6_ BK538.out) | ((with_reducible refine gate_callee (f := 53) rfl ?_); refine goesL_ (some 22) rfl rfl Try.func53 (by kernel_rfl) rfl #[.agg #[.int .i64 t530, .int .i64 t531, .slice Ao12 t532.length co12]] rfl qz2 ?_; (with_reducible refine (impl_Widest.calls k t530 t531 _ _ t532 t540 _ ?side1 ?side2 A7.out).mono ?_); (case side1 => repeat (first | exact (Kd.R_reads' HO534.out).2.2 | (with_reducible refine Kd.C_alloc ?_ _) | (with_reducible refine Kd.C_drewN ?_ _) | (with_reducible refine Kd.C_drew ?_))); (case side2 => exact (Kd.R_reads' HO534.out).2.1); rintro e w16 ⟨rfl, hb⟩; refine ⟨_, rfl, ?_⟩; replace HO534 := aM (Kd.R_below (rr_ HO534.out) hb); replace HO537 := aM (Kd.R_below (rr_ HO537.out) hb); replace BK538 := bB_ BK538 hb; replace HB := bS_ hb; (try clear hb); obtain ⟨hcz17_0, hcz17_1, hcz17_2, hfz17_0, hfz17_1, hfz17_2⟩ := b6_ BK538.out) | ((with_reducible refine gate_callee (f := 47) rfl ?_); refine goesL_ (some 28) rfl rfl Try.func47 (by kernel_rfl) rfl #[.agg #[.int .i64 t530, .int .i64 t531, .slice Ao12 t532.length co12], .slice Ao14 t535.length co14, .int .i64 (wrap64 ((t535.length : Int) * t540))] rfl qz2 ?_; (with_reducible refine (impl_Drive.calls k t530 t531 _ _ t532 _ _ t535 (wrap64 ((t535.length : Int) * t540)) t541 t544 _ ?side1 ?side2 ?side3 ?side4 A8.out).mono ?_); (case side1 => repeat (first | exact (Kd.R_reads' HO534.out).2.2 | (with_reducible refine Kd.C_alloc ?_ _) | (with_reducible refine Kd.C_drewN ?_ _) | (with_reducible refine Kd.C_drew ?_))); (case side2 => exact (Kd.R_reads' HO534.out).2.1); (case side3 => repeat (first | exact (Kd.R_reads' HO537.out).2.2 | (with_reducible refine Kd.C_alloc ?_ _) | (with_reducible refine Kd.C_drewN ?_ _) | (with_reducible refine Kd.C_drew ?_))); (case side4 => exact (Kd.R_reads' HO537.out).2.1); rintro e w18 ⟨v542, v545, rfl, ho0, ho1, hb⟩; refine ⟨_, rfl, ?_⟩; replace HO534 := aM (Kd.R_below (rr_ HO534.out) hb); have HO543 := aM (Kd.R_lower (Kd.R_new' ho0 (Kd.R_lt (rr_ HO537.out))) (below_size qz1)); replace HO537 := aM (Kd.R_elder' (rr_ HO537.out) (Kd.R_base ho0) hb); have HO546 := aM (Kd.R_lower ho1 (below_size qz1)); replace BK538 := bB_ BK538 hb; replace HB := bS_ hb; (try clear hb ho0 ho1)))
 go_loopg [8] k (fun kq v8 w' => ∃ (x8_1 : Int), v8 = .int .i64 x8_1 ∧ Aside0 (laws_FnLively.l0 kq t535 t541 t544 x8_1 t530 t531 t532 = some r) ∧ Aside0 (kq ≤ k) ∧ Aside0 (Kd.R k37 37 w' w.heap.size (fun k_ => some k_ ≠ (v542 : Value).ownBlock) (.slice Ao14 t535.length co14) t535) ∧ Aside0 (Kd.R k37 37 w' w.heap.size (fun k_ => some k_ ≠ ((.slice Ao14 t535.length co14) : Value).ownBlock) v542 t541) ∧ Aside0 (Kd.R Kd.bool 4 w' w.heap.size (fun _ => True) v545 t544) ∧ Aside0 (Kd.R (Kd.int .i64) 3 w' w.heap.size (fun _ => True) (.slice Ao12 t532.length co12) t532) ∧ Aside0 (w'.heap[gb538]? = some (.cells #[.int .i64 t530, .int .i64 t531, (.slice Ao12 t532.length co12)] 43 (0, 0))) ∧ Aside0 (Below w.heap.size w w'))
 case atStart => exact ⟨(0), qz6, H', ⟨Nat.le_refl _⟩, ⟨by (with_reducible repeat (first | apply Kd.R_alloc | apply Kd.R_drewN | apply Kd.R_drew)); exact Kd.R_mono HO537.out (fun _ hk => hk.2)⟩, ⟨by (with_reducible repeat (first | apply Kd.R_alloc | apply Kd.R_drewN | apply Kd.R_drew)); exact Kd.R_mono HO543.out (fun _ hk => hk.2)⟩, ⟨rr_ HO546.out⟩, ⟨rr_ HO534.out⟩, ⟨bk_ BK538.out⟩, ⟨qz1⟩⟩
 case round =>
 clear H'
 try clear c3
 try clear c6
 try clear hcz11_0 hcz11_1 hcz11_2 hfz11_0 hfz11_1 hfz11_2
 try clear hcz15_0 hcz15_1 hcz15_2 hfz15_0 hfz15_1 hfz15_2
 try clear hcz17_0 hcz17_1 hcz17_2 hfz17_0 hfz17_1 hfz17_2
 obtain ⟨x8_1, rfl, HA, HK1, HO_4, HO_6, HO_7, HO_539002, BK538, HB⟩ := hrel
 cases gk with
 | zero => exact absurd HA.out (by simp [laws_FnLively.l0])
 | succ k1 =>
 have H := HA.out
 clear HA
 simp only [laws_FnLively.l0] at H
 replace H := iE_ H
 rcases H with ⟨c19b0, H⟩ | ⟨c19b0, H⟩
 {
 replace H := iD_ H
 obtain ⟨c20b0, H⟩ := H
 obtain ⟨bq21, hbq21⟩ : ∃ b_ : Bool, b_ = (rdOf false t544 x8_1) := ⟨_, rfl⟩
 replace H : (if bq21 = true then (laws_FnLively.l0 k1 t535 t541 t544 (wrap64 (x8_1 + 1)) t530 t531 t532) else (some false)) = some r := by rw [← hbq21] at H; exact H
 have Nbq21 := aM hbq21
 clear hbq21
 replace H := iB_ H
 rcases H with ⟨rfl, H⟩ | ⟨rfl, H⟩
 {
 have H' := aM H
 clear H
 obtain ⟨Ao23, co23, eo23⟩ := Kd.R_slice HO_7.out
 subst eo23
 have p547 : (0 ≤ (x8_1 : Int)) = True := et_
 have q547 : (x8_1 < (t544.length : Int)) = True := et_
 obtain ⟨ad547, e547, hx547_0⟩ := Kd.at_bool (Kd.R_reads' HO_7.out).2.2 x8_1 dt_ dt_
 (try rw [← Nbq21.out] at hx547_0)
 cases e547
 go_wp2
 go_roundg k1
 case measure => have := HK1.out; omega
 case rel => exact ⟨(wrap64 (x8_1 + 1)), qz6, H', ⟨by have := HK1.out; omega⟩, ⟨rm_ HO_4.out⟩, ⟨rm_ HO_6.out⟩, ⟨rm_ HO_7.out⟩, ⟨rm_ HO_539002.out⟩, ⟨bk_ BK538.out⟩, ⟨qz1⟩⟩
 }
 {
 obtain rfl := Option.some.inj H
 exact absurd HTR_.out (by decide)
 }
 }
 {
 replace H := iS_ H
 rcases H with ⟨c24, H⟩ | ⟨c24, H⟩
 {
 have c24b0 := beq_iff_eq.mpr c24
 have c24b1 := bne_eq_false_iff_eq.mpr c24
 have c24b2 : (t544.length == t535.length) = true := by first | simpa using c24 | (simp at c24 ⊢; omega)
 clear c24
 replace H := iS_ H
 rcases H with ⟨c25, H⟩ | ⟨c25, H⟩
 {
 have c25b0 := beq_iff_eq.mpr c25
 have c25b1 := bne_eq_false_iff_eq.mpr c25
 have c25b2 : (t541.length == t535.length) = true := by first | simpa using c25 | (simp at c25 ⊢; omega)
 clear c25
 replace H := Option.bind_eq_some_iff.mp H
 obtain ⟨t548, A260, H⟩ := H
 have A26 := aM A260
 clear A260
 obtain rfl := Option.some.inj H
 obtain ⟨Ao27, co27, eo27⟩ := Kd.R_slice HO_7.out
 subst eo27
 obtain ⟨Ao28, co28, eo28⟩ := Kd.R_slice HO_6.out
 subst eo28
 obtain ⟨hcz29_0, hcz29_1, hcz29_2, hfz29_0, hfz29_1, hfz29_2⟩ := b6_ BK538.out
 go_wp2_with (first | (go_at_call 45; (with_reducible refine (impl_CrewOk.calls k1 t530 t531 _ _ t532 _ _ t541 t548 _ ?side1 ?side2 ?side3 ?side4 A26.out).mono ?_); (case side1 => repeat (first | exact (Kd.R_reads' HO_539002.out).2.2 | (with_reducible refine Kd.C_alloc ?_ _) | (with_reducible refine Kd.C_drewN ?_ _) | (with_reducible refine Kd.C_drew ?_))); (case side2 => exact (Kd.R_reads' HO_539002.out).2.1); (case side3 => repeat (first | exact (Kd.R_reads' HO_6.out).2.2 | (with_reducible refine Kd.C_alloc ?_ _) | (with_reducible refine Kd.C_drewN ?_ _) | (with_reducible refine Kd.C_drew ?_))); (case side4 => exact (Kd.R_reads' HO_6.out).2.1); rintro e w30 ⟨rfl, hb⟩; replace HO_4 := aM (Kd.R_below (rr_ HO_4.out) hb); replace HO_6 := aM (Kd.R_below (rr_ HO_6.out) hb); replace HO_7 := aM (Kd.R_below (rr_ HO_7.out) hb); replace HO_539002 := aM (Kd.R_below (rr_ HO_539002.out) hb); replace BK538 := bB_ BK538 hb; replace HB := bS_ hb; (try clear hb)))
 go_ret
 exact ⟨qzw, qz1⟩
 }
 {
 have c25b0 := beq_eq_false_iff_ne.mpr c25
 have c25b1 := bne_iff_ne.mpr c25
 have c25b2 : (t541.length == t535.length) = false := by first | simpa using c25 | (simp at c25 ⊢; omega)
 obtain rfl := Option.some.inj H
 exact absurd HTR_.out (by decide)
 }
 }
 {
 have c24b0 := beq_eq_false_iff_ne.mpr c24
 have c24b1 := bne_iff_ne.mpr c24
 have c24b2 : (t544.length == t535.length) = false := by first | simpa using c24 | (simp at c24 ⊢; omega)
 obtain rfl := Option.some.inj H
 exact absurd HTR_.out (by decide)
 }
 }
 }
 {
 obtain rfl := Option.some.inj H
 exact absurd HTR_.out (by decide)
 }
 }
/-- THE ONE PURE STATEMENT of laws_FnLively: yours. -/
def laws_FnLively.Pure : Prop := ∀ (l0 : List Int), l0.length ≤ maxLen → l0.length * 1 ≤ 140737488351232 → (∀ x ∈ l0, (Lit.int .u8 x).wf = true) → ∃ k, laws_FnLively.f k l0 = some true
theorem laws_FnLively.walk (P : laws_FnLively.Pure) (a0 : Option Addr) (len0 cap0 : Nat) (z0 : List Int) (w : World) (w0 : (a0 = none ∧ len0 = 0 ∧ cap0 = 0 ∧ z0 = []) ∨ ∃ x, a0 = some x ∧ len0 ≤ cap0 ∧ cap0 ≤ maxLen ∧ z0.length = cap0 ∧ (∀ i, i < z0.length → w.cell? (x.add i) = some (.int .u8 (z0.getD i 0))) ∧ ∀ n ∈ z0, (Lit.int .u8 n).wf = true) (y0 : len0 * 1 ≤ 140737488351232) :
  Calls Try.prog 13 #[.slice a0 len0 cap0] w fun e w' => e = .returned (.bool true) ∧ Below w.heap.size w w' := by
 obtain ⟨l0, rfl, hr0, hm0, hw0, hc0⟩ := ReadsInt.ofRowC w0
 obtain ⟨k, h⟩ := P l0 hm0 y0 hw0
 refine (laws_FnLively.calls k _ _ l0 true w (Kd.C_of_reads (d := (0 : Int)) (h1 := fun _ => rfl) hr0) hc0 rfl h).mono ?_
 rintro e w' ⟨rfl, hd⟩
 exact ⟨rfl, hd⟩

end Go.Proofs.Ytankmdbbgepmbaa.PFnLively
