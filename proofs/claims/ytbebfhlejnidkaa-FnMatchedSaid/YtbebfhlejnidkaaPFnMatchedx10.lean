-- Made by a program of this session out of the translation. Lean checks it.
import Derived.Test.YtbebfhlejnidkaaPFnMatchedx6
import Derived.Test.YtbebfhlejnidkaaPFnMatchedx7
import Derived.Test.YtbebfhlejnidkaaPFnMatchedx9
namespace Go.Proofs.Ytbebfhlejnidkaa.PFnMatched
open Go.RowKit Go.Proofs.YtbebfhlejnidkaaW.PrintWords Go.Proofs.YtbebfhlejnidkaaW.PrintLast Go.Proofs.YtbebfhlejnidkaaW.PrintMore
attribute [local go_sem] max2_int min2_int max_two min_two max_three min_three max_four min_four   -- for this text's walks alone
set_option linter.unusedVariables false
set_option linter.unusedSimpArgs false

/-! ### laws_FnMatched: function 4 -/
mutual
def laws_FnMatched.j0 : Nat → List (List Int) → List Int → Int → List Bool → Bool → Option (Bool)
 | 0, _, _, _, _, _ => none
 | k + 1, x3, x6, x7, x8, x64 => if x64 = true then (some false) else (laws_FnMatched.l0 k x3 x6 x7 x8 0 0)
def laws_FnMatched.l0 : Nat → List (List Int) → List Int → Int → List Bool → Int → Int → Option (Bool)
 | 0, _, _, _, _, _, _ => none
 | k + 1, x3, x6, x7, x8, x9, x10 => if x10 < (x3.length : Int) then (laws_FnMatched.l1 k x3 x6 x7 x8 x9 x10 0) else (some true)
def laws_FnMatched.l1 : Nat → List (List Int) → List Int → Int → List Bool → Int → Int → Int → Option (Bool)
 | 0, _, _, _, _, _, _, _ => none
 | k + 1, x3, x6, x7, x8, x9, x10, x11 => if 0 ≤ x10 then (if x10 < (x6.length : Int) then (if x11 < (rd x6 x10) then (if 0 ≤ x11 then (if x11 < (x8.length : Int) then (if rdOf false x8 x11 = true then (laws_FnMatched.l1 k x3 x6 x7 x8 x9 x10 (wrap64 (x11 + 1))) else (if x10 < (x3.length : Int) then (if x11 < ((rd_L1 x3 x10).length : Int) then ((laws_least.f k x3 (wrap64 (x10 + 1)) (x8.set (x11 : Int).toNat true)).bind fun bt349 => (if (wrap64 ((wrap64 (x9 + (rd (rd_L1 x3 x10) x11))) + bt349.1)) = x7 then (some false) else (laws_FnMatched.l1 k x3 x6 x7 (bt349.2.set (x11 : Int).toNat false) x9 x10 (wrap64 (x11 + 1))))) else (none)) else (none))) else (none)) else (none)) else (if 0 ≤ (rd x6 x10) then (if (rd x6 x10) < (x8.length : Int) then (if x10 < (x3.length : Int) then (if (rd x6 x10) < ((rd_L1 x3 x10).length : Int) then (laws_FnMatched.l0 k x3 x6 x7 (x8.set ((rd x6 x10) : Int).toNat true) (wrap64 (x9 + (rd (rd_L1 x3 x10) (rd x6 x10)))) (wrap64 (x10 + 1))) else (none)) else (none)) else (none)) else (none))) else (none)) else (none)
end
def laws_FnMatched.f (k : Nat) (l0 : List Int) : Option (Bool) := (laws_big.f l0).bind fun t316 => (if t316 = true then (some true) else ((spec_DrawCosts.f k l0).bind fun bt317 => ((impl_Match.f k bt317.1).bind fun bt326 => (if (bt317.1.length : Int) = 0 then (if (bt326.1.length : Int) = 0 then (if bt326.2 = 0 then ((impl_CostsOk.f k bt317.1).bind fun t330 => (some t330)) else (some false)) else (some false)) else (if 0 < (bt317.1.length : Int) then (if 0 ≤ ((rd_L1 bt317.1 0).length : Int) then (if (((rd_L1 bt317.1 0).length : Int) : Int).toNat ≤ 281474976710656 then ((laws_least.f k bt317.1 0 (List.replicate (((rd_L1 bt317.1 0).length : Int) : Int).toNat false)).bind fun bt335 => (if bt326.2 = bt335.1 then ((impl_SumOf.f k bt317.1 bt326.1).bind fun t337 => (if t337 = bt326.2 then ((impl_Proves.f k bt317.1 bt326.1 bt317.2.1 bt317.2.2).bind fun t338 => (laws_FnMatched.j0 k bt317.1 bt326.1 bt326.2 bt335.2 (!t338))) else (laws_FnMatched.j0 k bt317.1 bt326.1 bt326.2 bt335.2 true))) else (laws_FnMatched.j0 k bt317.1 bt326.1 bt326.2 bt335.2 true))) else (none)) else (none)) else (none))))))
theorem laws_FnMatched.mono_l : ∀ k, (∀ y0 y1 y2 y3 y4, LeO (laws_FnMatched.j0 k y0 y1 y2 y3 y4) (laws_FnMatched.j0 (k + 1) y0 y1 y2 y3 y4)) ∧ (∀ y0 y1 y2 y3 y4 y5, LeO (laws_FnMatched.l0 k y0 y1 y2 y3 y4 y5) (laws_FnMatched.l0 (k + 1) y0 y1 y2 y3 y4 y5)) ∧ (∀ y0 y1 y2 y3 y4 y5 y6, LeO (laws_FnMatched.l1 k y0 y1 y2 y3 y4 y5 y6) (laws_FnMatched.l1 (k + 1) y0 y1 y2 y3 y4 y5 y6))
 | 0 => ⟨fun _ _ _ _ _ r h => by simp [laws_FnMatched.j0] at h, fun _ _ _ _ _ _ r h => by simp [laws_FnMatched.l0] at h, fun _ _ _ _ _ _ _ r h => by simp [laws_FnMatched.l1] at h⟩
 | k + 1 => by
  obtain ⟨ih0, ih1, ih2⟩ := laws_FnMatched.mono_l k
  refine ⟨?_, ?_, ?_⟩
  {
  intro y0 y1 y2 y3 y4
  unfold laws_FnMatched.j0
  have j0 := @impl_CostsOk.mono
  have j1 := @impl_Match.mono
  have j2 := @impl_Proves.mono
  have j3 := @impl_SumOf.mono
  have j4 := @laws_least.mono
  have j5 := @spec_DrawCosts.mono
  exact qL
  }
  {
  intro y0 y1 y2 y3 y4 y5
  unfold laws_FnMatched.l0
  have j0 := @impl_CostsOk.mono
  have j1 := @impl_Match.mono
  have j2 := @impl_Proves.mono
  have j3 := @impl_SumOf.mono
  have j4 := @laws_least.mono
  have j5 := @spec_DrawCosts.mono
  exact qL
  }
  {
  intro y0 y1 y2 y3 y4 y5 y6
  unfold laws_FnMatched.l1
  have j0 := @impl_CostsOk.mono
  have j1 := @impl_Match.mono
  have j2 := @impl_Proves.mono
  have j3 := @impl_SumOf.mono
  have j4 := @laws_least.mono
  have j5 := @spec_DrawCosts.mono
  exact qL
  }
theorem laws_FnMatched.mono : ∀ a0 k, LeO (laws_FnMatched.f k a0) (laws_FnMatched.f (k + 1) a0) := by
 intro a0 k
 obtain ⟨ih0, ih1, ih2⟩ := laws_FnMatched.mono_l k
 unfold laws_FnMatched.f
 have j0 := @impl_CostsOk.mono
 have j1 := @impl_Match.mono
 have j2 := @impl_Proves.mono
 have j3 := @impl_SumOf.mono
 have j4 := @laws_least.mono
 have j5 := @spec_DrawCosts.mono
 exact qL
def laws_FnMatched.T19 : Bool × List (List Nat × List Nat) := (true, [([], []), ([], []), ([], []), ([1, 2], [1, 2]), ([3], [3]), ([], []), ([4, 5], [4, 5]), ([6], [6]), ([0, 7], [0, 7]), ([], []), ([], []), ([10], [10]), ([], []), ([9, 11, 12], [9, 11, 12]), ([8, 13], [8, 13]), ([14, 13, 0, 1, 2, 3, 4, 5, 6, 7, 8, 9, 10, 11, 12, 13, 14], [14])])
def laws_FnMatched.B19 : List Nat := [0, 0, 0, 6, 14, 0, 62, 126, 255, 0, 0, 1024, 0, 7680, 16383, 32767]
theorem laws_FnMatched.tab19 : rtab .any (opsOf Try.f4 19) = laws_FnMatched.T19 := by kernel_rfl
theorem laws_FnMatched.bits19 : waitsOk laws_FnMatched.T19.2 laws_FnMatched.B19 = true := by kernel_rfl
def laws_FnMatched.T24 : Bool × List (List Nat × List Nat) := (true, [([], []), ([], []), ([], []), ([1, 2], [1, 2]), ([3], [3]), ([], []), ([], []), ([5, 6], [5, 6]), ([7], [7]), ([4, 8], [4, 8]), ([9], [9]), ([0, 10], [0, 10]), ([11, 0, 1, 2, 3, 4, 5, 6, 7, 8, 9, 10, 11], [0, 11])])
def laws_FnMatched.B24 : List Nat := [0, 0, 0, 6, 14, 0, 0, 96, 224, 510, 1022, 2047, 4095]
theorem laws_FnMatched.tab24 : rtab .any (opsOf Try.f4 24) = laws_FnMatched.T24 := by kernel_rfl
theorem laws_FnMatched.bits24 : waitsOk laws_FnMatched.T24.2 laws_FnMatched.B24 = true := by kernel_rfl
set_option maxHeartbeats 8000000 in
set_option maxRecDepth 100000 in
theorem laws_FnMatched.calls (k : Nat) (A0 : Option Addr) (c0 : Nat) (l0 : List Int) (r : Bool) (w : World) (hr0 : Kd.C (Kd.int .u8) w A0 l0.length l0) (hc0 : l0.length ≤ c0) (hT : r = true) (h : laws_FnMatched.f k l0 = some r) :
  Calls Try.prog 4 #[.slice A0 l0.length c0] w fun e w' => e = .returned (.bool r) ∧ Below w.heap.size w w' := by
 have HTR_ := aM hT
 clear hT
 have HR0 := aM hr0
 have HC0 := aM hc0
 clear hr0 hc0
 have HB := aM (Below.refl w.heap.size w)
 unfold laws_FnMatched.f at h
 have H := h
 clear h
 replace H := Option.bind_eq_some_iff.mp H
 obtain ⟨t316, A20, H⟩ := H
 have A2 := aM A20
 clear A20
 replace H := iB_ H
 rcases H with ⟨rfl, H⟩ | ⟨rfl, H⟩
 {
 obtain rfl := Option.some.inj H
 go_enter Try.func4, Try.ntmps4
 go_wp2_with (first | ((with_reducible refine gate_callee (f := 16) rfl ?_); refine goesL_ (some 14) rfl rfl Try.func16 (by kernel_rfl) rfl #[.slice A0 l0.length c0] rfl qz4 ?_; (with_reducible refine (laws_big.calls _ _ l0 true _ ?_ ?_ A2.out).mono ?_); exact qz6; exact HC0.out; rintro e w' ⟨rfl, ⟨nd, rfl⟩⟩; refine ⟨_, rfl, ?_⟩))
 go_ret
 exact ⟨qzw, qz1⟩
 }
 {
 replace H := Option.bind_eq_some_iff.mp H
 obtain ⟨⟨t317, t318, t319⟩, A40, H⟩ := H
 try dsimp only at H
 have A4 := aM A40
 clear A40
 replace H := Option.bind_eq_some_iff.mp H
 obtain ⟨⟨t326, t327⟩, A50, H⟩ := H
 try dsimp only at H
 have A5 := aM A50
 clear A50
 replace H := iQ_ H
 rcases H with ⟨c6b0, c6b1, H⟩ | ⟨c6, c6b0, c6b1, H⟩
 {
 replace H := iQ_ H
 rcases H with ⟨c7b0, c7b1, H⟩ | ⟨c7, c7b0, c7b1, H⟩
 {
 replace H := iQ_ H
 rcases H with ⟨c8b0, c8b1, H⟩ | ⟨c8, c8b0, c8b1, H⟩
 {
 replace H := Option.bind_eq_some_iff.mp H
 obtain ⟨t330, A90, H⟩ := H
 have A9 := aM A90
 clear A90
 obtain rfl := Option.some.inj H
 go_enter Try.func4, Try.ntmps4
 go_wp2_with (first | ((with_reducible refine gate_callee (f := 16) rfl ?_); refine goesL_ (some 14) rfl rfl Try.func16 (by kernel_rfl) rfl #[.slice A0 l0.length c0] rfl qz4 ?_; (with_reducible refine (laws_big.calls _ _ l0 false _ ?_ ?_ A2.out).mono ?_); exact qz6; exact HC0.out; rintro e w' ⟨rfl, ⟨nd, rfl⟩⟩; refine ⟨_, rfl, ?_⟩) | ((with_reducible refine gate_callee (f := 17) rfl ?_); refine goesL_ (some 17) rfl rfl Try.func17 (by kernel_rfl) rfl #[.slice A0 l0.length c0] rfl qz4 ?_; (with_reducible refine (spec_DrawCosts.calls k _ _ l0 t317 t318 t319 _ ?_ ?_ A4.out).mono ?_); exact qz6; exact HC0.out; rintro e w10 ⟨v320, v322, v324, rfl, ho0, ho1, ho2, hb⟩; refine ⟨_, rfl, ?_⟩; have HO321 := aM (Kd.S_lower ho0 (below_size qz1)); have HO323 := aM (Kd.Q_lower ho1 (below_size qz1)); have HO325 := aM (Kd.Q_lower ho2 (below_size qz1)); replace HB := bS_ hb; (try clear hb ho0 ho1 ho2); obtain ⟨Ao11, co11, eo11⟩ := Kd.S_slice HO321.out; subst eo11) | ((with_reducible refine gate_callee (f := 10) rfl ?_); refine goesL_ (some 23) rfl rfl Try.func10 (by kernel_rfl) rfl #[.slice Ao11 t317.length co11] rfl qz4 ?_; (with_reducible refine (impl_Match.calls k _ _ t317 t326 t327 _ ?_ ?_ A5.out).mono ?_); exact qz9; exact (Kd.S_reads' HO321.out).2.1; rintro e w12 ⟨v328, rfl, ho0, hb⟩; refine ⟨_, rfl, ?_⟩; replace HO321 := aM (Kd.S_elder' (rs_ HO321.out) (Kd.R_base ho0) hb); have HO329 := aM (Kd.R_lower (Kd.R_new' (Kd.R_new' ho0 (Kd.Q_lt qz17)) (Kd.Q_lt qz18)) (below_size qz1)); replace HO323 := aM (Kd.Q_elder' qz17 (Kd.R_base ho0) hb); replace HO325 := aM (Kd.Q_elder' qz18 (Kd.R_base ho0) hb); replace HB := bS_ hb; (try clear hb ho0); obtain ⟨Ao13, co13, eo13⟩ := Kd.R_slice HO329.out; subst eo13) | (go_at_call 18; (with_reducible refine (impl_CostsOk.calls k _ _ t317 t330 _ ?_ ?_ A9.out).mono ?_); exact qz9; exact (Kd.S_reads' HO321.out).2.1; rintro e w' ⟨rfl, ⟨nd, rfl⟩⟩))
 go_ret
 exact ⟨qzw, qz1⟩
 }
 {
 obtain rfl := Option.some.inj H
 exact absurd HTR_.out (by decide)
 }
 }
 {
 have c7b2 : ¬ (t326 = []) := fun h_ => c7 (by rw [h_]; rfl)
 obtain rfl := Option.some.inj H
 exact absurd HTR_.out (by decide)
 }
 }
 {
 have c6b2 : ¬ (t317 = []) := fun h_ => c6 (by rw [h_]; rfl)
 replace H := iN_ H
 obtain ⟨c14, H⟩ := H
 have c14b0 := decide_eq_true c14
 have c14b1 : decide (0 < t317.length) = true := decide_eq_true (by omega)
 clear c14
 replace H := iN_ H
 obtain ⟨c15, H⟩ := H
 have c15b0 := eq_true c15
 have c15b1 := decide_eq_true c15
 clear c15
 replace H := iN_ H
 obtain ⟨c16, H⟩ := H
 have c16b0 := eq_true c16
 have c16b1 := decide_eq_true c16
 clear c16
 obtain ⟨y332, hy332⟩ : ∃ y_ : List Bool, y_ = (List.replicate (((rd_L1 t317 0).length : Int) : Int).toNat false) := ⟨_, rfl⟩
 replace H : ((laws_least.f k t317 0 y332).bind fun bt335 => (if t327 = bt335.1 then ((impl_SumOf.f k t317 t326).bind fun t337 => (if t337 = t327 then ((impl_Proves.f k t317 t326 t318 t319).bind fun t338 => (laws_FnMatched.j0 k t317 t326 t327 bt335.2 (!t338))) else (laws_FnMatched.j0 k t317 t326 t327 bt335.2 true))) else (laws_FnMatched.j0 k t317 t326 t327 bt335.2 true))) = some r := by first | (rw [hy332]; exact H) | exact H
 have Ny332 := aM hy332
 clear hy332
 have HC17 := aM H
 clear H
 go_enter Try.func4, Try.ntmps4
 go_upto_region 8 with (first | ((with_reducible refine gate_callee (f := 16) rfl ?_); refine goesL_ (some 14) rfl rfl Try.func16 (by kernel_rfl) rfl #[.slice A0 l0.length c0] rfl qz4 ?_; (with_reducible refine (laws_big.calls _ _ l0 false _ ?_ ?_ A2.out).mono ?_); exact qz6; exact HC0.out; rintro e w' ⟨rfl, ⟨nd, rfl⟩⟩; refine ⟨_, rfl, ?_⟩) | ((with_reducible refine gate_callee (f := 17) rfl ?_); refine goesL_ (some 17) rfl rfl Try.func17 (by kernel_rfl) rfl #[.slice A0 l0.length c0] rfl qz4 ?_; (with_reducible refine (spec_DrawCosts.calls k _ _ l0 t317 t318 t319 _ ?_ ?_ A4.out).mono ?_); exact qz6; exact HC0.out; rintro e w18 ⟨v320, v322, v324, rfl, ho0, ho1, ho2, hb⟩; refine ⟨_, rfl, ?_⟩; have HO321 := aM (Kd.S_lower ho0 (below_size qz1)); have HO323 := aM (Kd.Q_lower ho1 (below_size qz1)); have HO325 := aM (Kd.Q_lower ho2 (below_size qz1)); replace HB := bS_ hb; (try clear hb ho0 ho1 ho2); obtain ⟨Ao19, co19, eo19⟩ := Kd.S_slice HO321.out; subst eo19) | ((with_reducible refine gate_callee (f := 10) rfl ?_); refine goesL_ (some 23) rfl rfl Try.func10 (by kernel_rfl) rfl #[.slice Ao19 t317.length co19] rfl qz4 ?_; (with_reducible refine (impl_Match.calls k _ _ t317 t326 t327 _ ?_ ?_ A5.out).mono ?_); exact qz9; exact (Kd.S_reads' HO321.out).2.1; rintro e w20 ⟨v328, rfl, ho0, hb⟩; refine ⟨_, rfl, ?_⟩; replace HO321 := aM (Kd.S_elder' (rs_ HO321.out) (Kd.R_base ho0) hb); have HO329 := aM (Kd.R_lower (Kd.R_new' (Kd.R_new' ho0 (Kd.Q_lt qz17)) (Kd.Q_lt qz18)) (below_size qz1)); replace HO323 := aM (Kd.Q_elder' qz17 (Kd.R_base ho0) hb); replace HO325 := aM (Kd.Q_elder' qz18 (Kd.R_base ho0) hb); replace HB := bS_ hb; (try clear hb ho0); have p331 : 0 ≤ (0 : Int) := (by omega); have q331 : 0 < (t317.length : Int) := dt_; obtain ⟨ad331, A331_0, c331_0, e331, hx331_0, hl331_0, hi331_0⟩ := at_L1 (Kd.S_reads' HO321.out).2.2 0 p331 q331; cases e331; obtain ⟨ce331, hce331, hMe331, hcc331⟩ := Kd.S_get HO321.out [] 0 p331 (by first | exact q331 | exact dt_ | (have e_ := (Kd.S_reads' HO321.out).1; omega)); obtain ⟨ve331_0, rfl, ge331_0⟩ := hMe331; have hv331_0 := hcc331 0 _ rfl; rw [Nat.add_zero, show ((Kd.slice 3 (Kd.int .i64))).sz = 1 from rfl, Nat.mul_one] at hv331_0; replace hv331_0 := Option.some.inj (hv331_0.symm.trans hx331_0); rw [hv331_0] at ge331_0; have HL331_0 := aM (show Kd.R (Kd.int .i64) 3 _ _ _ _ (rd_L1 t317 0) from ge331_0); clear hv331_0 ge331_0; clear hcc331 hce331; have qi331 : (0 < t317.length) = True := eq_true (by omega); (try rw [show ((0 : Int)).toNat = 0 from rfl] at hx331_0); (try rw [Addr.add_zero'] at hx331_0); have HR331_0 := aM hi331_0; have HC331_0 := aM hl331_0; clear hi331_0 hl331_0; replace p331 := eq_true p331; replace q331 := eq_true q331) | ((with_reducible refine gate_dst (N := 44) rfl ?_); refine Kd.R_make Kd.bool _ 4 rfl (N := 44) rfl 36 _ _ rfl ((rd_L1 t317 0).length : Int) rfl rfl Try.underlying36 (.bool false) 1 info4 rfl (by decide) (by omega) false (ok := fun _ => True) (okp := fun _ => True) rfl (fun _ hk => hk) trivial (dt_) (Nat.le_trans (Nat.mul_le_mul_right _ (dt_ : ((rd_L1 t317 0).length : Int).toNat ≤ 281474976710656)) (by omega)) (Below.refl _ _) (Nat.le_refl _) ?_; intro v333 w21 ho22 hb hg_ hnew_; clear hg_ hnew_; (first | rw [← Ny332.out] at ho22 | (simp only [Int.reduceToNat] at ho22; rw [← Ny332.out] at ho22)); replace HO321 := aM (Kd.S_below (rs_ HO321.out) hb); replace HO323 := aM (Kd.Q_below qz17 hb); replace HO325 := aM (Kd.Q_below qz18 hb); replace HO329 := aM (Kd.R_below (rr_ HO329.out) hb); replace HL331_0 := aM (Kd.R_below (rr_ HL331_0.out) hb); have HO334 := aM (Kd.R_lower ho22 (below_size qz1)); replace HR331_0 := aM (Kd.C_below (by repeat (first | (with_reducible exact HR331_0.out) | (with_reducible refine Kd.C_alloc ?_ _) | (with_reducible refine Kd.C_drewN ?_ _) | (with_reducible refine Kd.C_drew ?_) | exact HR331_0.out)) hb); replace HB := bS_ hb; clear hb ho22))
 (try simp only [Act.put, List.setIfInBounds_toArray, List.set_cons_zero, List.set_cons_succ])
 go_cut [64] (fun v64 wc => ∃ (kq : Nat) (x8_16 : List Bool) (x64_16 : Bool), v64 = .bool x64_16 ∧ Aside0 (laws_FnMatched.j0 kq t317 t326 t327 x8_16 x64_16 = some r) ∧ Aside0 (kq ≤ k) ∧ Aside0 (Kd.S (Kd.slice 3 (Kd.int .i64)) 24 wc w.heap.size (fun k_ => some k_ ≠ (v328 : Value).ownBlock) (.slice (some ad331) t317.length co19) t317) ∧ Aside0 (Kd.R (Kd.int .i64) 3 wc w.heap.size (fun _ => True) v328 t326) ∧ Aside0 (Kd.R Kd.bool 4 wc w.heap.size (fun _ => True) v333 x8_16) ∧ Aside0 (Below w.heap.size w wc))
 case first =>
  have H := HC17.out
  clear HC17
  replace H := Option.bind_eq_some_iff.mp H
  obtain ⟨⟨t335, t336⟩, A230, H⟩ := H
  try dsimp only at H
  have A23 := aM A230
  clear A230
  replace H := iQ_ H
  rcases H with ⟨c24b0, c24b1, H⟩ | ⟨c24, c24b0, c24b1, H⟩
  {
  (first | rw [c24b0] | (simp only [i64_w, i32_w]; rw [c24b0]) | rw [@decide_eq_true _ _ (of_decide_eq_true c24b0)] | rw [@decide_eq_true _ _ (of_decide_eq_true c24b1)] | skip)
  replace H := Option.bind_eq_some_iff.mp H
  obtain ⟨t337, A250, H⟩ := H
  have A25 := aM A250
  clear A250
  replace H := iQ_ H
  rcases H with ⟨c26b0, c26b1, H⟩ | ⟨c26, c26b0, c26b1, H⟩
  {
  replace H := Option.bind_eq_some_iff.mp H
  obtain ⟨t338, A270, H⟩ := H
  have A27 := aM A270
  clear A270
  have H' := aM H
  clear H
  obtain ⟨Ao28, co28, eo28⟩ := Kd.R_slice HO334.out
  subst eo28
  go_wp2_with (first | ((with_reducible refine gate_callee (f := 19) rfl ?_); refine goesL_ (some 48) rfl rfl Try.func19 (by kernel_rfl) rfl #[.slice (some ad331) t317.length co19, .int .i64 0, .slice Ao28 y332.length co28] rfl qz4 ?_; (with_reducible refine (laws_least.calls k _ _ t317 0 (fun k_ => some k_ = (.slice Ao28 y332.length co28 : Value).ownBlock) (.slice Ao28 y332.length co28) y332 t335 t336 w _ ?_ ?_ ?_ ?_ A23.out).mono ?_); exact qz1; exact qz24; exact (Kd.S_reads' HO321.out).2.1; exact Kd.R_tight rfl HO334.out; rintro e w29 ⟨rfl, hy0, hb, hkp⟩; refine ⟨_, rfl, ?_⟩; replace HO321 := aM (Kd.S_mono (ok' := fun k_ => some k_ ≠ (v322 : Value).ownBlock ∧ some k_ ≠ (v324 : Value).ownBlock ∧ some k_ ≠ (v328 : Value).ownBlock) (Kd.S_keptB ((Kd.S_apart' HO321.out (Kd.R_typed HO334.out) (by decide))) hkp (fun k_ hk_ hs_ => (hk_.2) hs_)) (fun k_ hk_ => ⟨hk_.1.1.1.1, hk_.1.1.1.2, hk_.1.1.2⟩)); replace HO323 := aM (Kd.Q_mono (ok' := fun k_ => some k_ ≠ (v324 : Value).ownBlock ∧ some k_ ≠ (v328 : Value).ownBlock) (Kd.Q_keptB ((Kd.Q_apart' HO323.out (Kd.R_typed HO334.out) (by decide))) hkp (fun k_ hk_ hs_ => (hk_.2) hs_)) (fun k_ hk_ => ⟨hk_.1.1.1, hk_.1.1.2⟩)); replace HO325 := aM (Kd.Q_mono (ok' := fun k_ => some k_ ≠ (v322 : Value).ownBlock ∧ some k_ ≠ (v328 : Value).ownBlock) (Kd.Q_keptB ((Kd.Q_apart' HO325.out (Kd.R_typed HO334.out) (by decide))) hkp (fun k_ hk_ hs_ => (hk_.2) hs_)) (fun k_ hk_ => ⟨hk_.1.1.1, hk_.1.1.2⟩)); replace HO329 := aM (Kd.R_mono (ok' := fun k_ => some k_ ≠ (v322 : Value).ownBlock ∧ some k_ ≠ (v324 : Value).ownBlock) (Kd.R_keptB ((Kd.R_apart' HO329.out (Kd.R_typed HO334.out) (by decide))) hkp (fun k_ hk_ hs_ => (hk_.2) hs_)) (fun k_ hk_ => ⟨hk_.1.1.1.2, hk_.1.1.2⟩)); replace HO334 := aM (Kd.R_reok rfl hy0 (fun k_ e_ => HO334.out.1 k_ e_)); replace HB := aM (hb); clear HL331_0; (try clear hb); (try clear hkp); (try clear hy0); obtain ⟨Ao30, co30, eo30⟩ := Kd.R_slice HO329.out; subst eo30) | (go_at_call 20; (with_reducible refine (impl_SumOf.calls k _ _ t317 _ _ t326 t337 _ ?_ ?_ ?_ ?_ A25.out).mono ?_); exact qz9; exact (Kd.S_reads' HO321.out).2.1; exact qz23; exact (Kd.R_reads' HO329.out).2.1; rintro e w' ⟨rfl, ⟨nd, rfl⟩⟩; obtain ⟨Ao31, co31, eo31, _⟩ := Kd.Q_slice HO323.out; subst eo31; obtain ⟨Ao32, co32, eo32, _⟩ := Kd.Q_slice HO325.out; subst eo32) | (go_at_call 21; (with_reducible refine (impl_Proves.calls k _ _ t317 _ _ t326 _ _ t318 _ _ t319 t338 _ ?side1 ?side2 ?side3 ?side4 ?side5 ?side6 ?side7 ?side8 A27.out).mono ?_); (case side1 => exact qz9); (case side2 => exact (Kd.S_reads' HO321.out).2.1); (case side3 => exact qz23); (case side4 => exact (Kd.R_reads' HO329.out).2.1); (case side5 => repeat (first | exact (Kd.Q_reads' HO323.out).2.2 | (with_reducible refine Kd.C_alloc ?_ _) | (with_reducible refine Kd.C_drewN ?_ _) | (with_reducible refine Kd.C_drew ?_))); (case side6 => exact (Kd.Q_reads' HO323.out).2.1); (case side7 => repeat (first | exact (Kd.Q_reads' HO325.out).2.2 | (with_reducible refine Kd.C_alloc ?_ _) | (with_reducible refine Kd.C_drewN ?_ _) | (with_reducible refine Kd.C_drew ?_))); (case side8 => exact (Kd.Q_reads' HO325.out).2.1); rintro e w' ⟨rfl, ⟨nd, rfl⟩⟩))
  go_meet
  case rel => exact ⟨_, (t336), (!t338), qz3, H', ⟨by first | omega | exact Nat.le_refl _⟩, ⟨by (with_reducible repeat (first | apply Kd.S_alloc | apply Kd.S_drewN | apply Kd.S_drew)); exact Kd.S_mono HO321.out (fun _ hk => hk.2.2)⟩, ⟨by (with_reducible repeat (first | apply Kd.R_alloc | apply Kd.R_drewN | apply Kd.R_drew)); exact Kd.R_mono HO329.out (fun _ hk => trivial)⟩, ⟨rm_ HO334.out⟩, ⟨qz1⟩⟩
  }
  {
  have H' := aM H
  clear H
  obtain ⟨Ao33, co33, eo33⟩ := Kd.R_slice HO334.out
  subst eo33
  go_wp2_with (first | ((with_reducible refine gate_callee (f := 19) rfl ?_); refine goesL_ (some 48) rfl rfl Try.func19 (by kernel_rfl) rfl #[.slice (some ad331) t317.length co19, .int .i64 0, .slice Ao33 y332.length co33] rfl qz4 ?_; (with_reducible refine (laws_least.calls k _ _ t317 0 (fun k_ => some k_ = (.slice Ao33 y332.length co33 : Value).ownBlock) (.slice Ao33 y332.length co33) y332 t335 t336 w _ ?_ ?_ ?_ ?_ A23.out).mono ?_); exact qz1; exact qz24; exact (Kd.S_reads' HO321.out).2.1; exact Kd.R_tight rfl HO334.out; rintro e w34 ⟨rfl, hy0, hb, hkp⟩; refine ⟨_, rfl, ?_⟩; replace HO321 := aM (Kd.S_mono (ok' := fun k_ => some k_ ≠ (v322 : Value).ownBlock ∧ some k_ ≠ (v324 : Value).ownBlock ∧ some k_ ≠ (v328 : Value).ownBlock) (Kd.S_keptB ((Kd.S_apart' HO321.out (Kd.R_typed HO334.out) (by decide))) hkp (fun k_ hk_ hs_ => (hk_.2) hs_)) (fun k_ hk_ => ⟨hk_.1.1.1.1, hk_.1.1.1.2, hk_.1.1.2⟩)); replace HO323 := aM (Kd.Q_mono (ok' := fun k_ => some k_ ≠ (v324 : Value).ownBlock ∧ some k_ ≠ (v328 : Value).ownBlock) (Kd.Q_keptB ((Kd.Q_apart' HO323.out (Kd.R_typed HO334.out) (by decide))) hkp (fun k_ hk_ hs_ => (hk_.2) hs_)) (fun k_ hk_ => ⟨hk_.1.1.1, hk_.1.1.2⟩)); replace HO325 := aM (Kd.Q_mono (ok' := fun k_ => some k_ ≠ (v322 : Value).ownBlock ∧ some k_ ≠ (v328 : Value).ownBlock) (Kd.Q_keptB ((Kd.Q_apart' HO325.out (Kd.R_typed HO334.out) (by decide))) hkp (fun k_ hk_ hs_ => (hk_.2) hs_)) (fun k_ hk_ => ⟨hk_.1.1.1, hk_.1.1.2⟩)); replace HO329 := aM (Kd.R_mono (ok' := fun k_ => some k_ ≠ (v322 : Value).ownBlock ∧ some k_ ≠ (v324 : Value).ownBlock) (Kd.R_keptB ((Kd.R_apart' HO329.out (Kd.R_typed HO334.out) (by decide))) hkp (fun k_ hk_ hs_ => (hk_.2) hs_)) (fun k_ hk_ => ⟨hk_.1.1.1.2, hk_.1.1.2⟩)); replace HO334 := aM (Kd.R_reok rfl hy0 (fun k_ e_ => HO334.out.1 k_ e_)); replace HB := aM (hb); clear HL331_0; (try clear hb); (try clear hkp); (try clear hy0); obtain ⟨Ao35, co35, eo35⟩ := Kd.R_slice HO329.out; subst eo35) | (go_at_call 20; (with_reducible refine (impl_SumOf.calls k _ _ t317 _ _ t326 t337 _ ?_ ?_ ?_ ?_ A25.out).mono ?_); exact qz9; exact (Kd.S_reads' HO321.out).2.1; exact qz23; exact (Kd.R_reads' HO329.out).2.1; rintro e w' ⟨rfl, ⟨nd, rfl⟩⟩))
  go_meet
  case rel => exact ⟨_, (t336), (true), qz3, H', ⟨by first | omega | exact Nat.le_refl _⟩, ⟨by (with_reducible repeat (first | apply Kd.S_alloc | apply Kd.S_drewN | apply Kd.S_drew)); exact Kd.S_mono HO321.out (fun _ hk => hk.2.2)⟩, ⟨by (with_reducible repeat (first | apply Kd.R_alloc | apply Kd.R_drewN | apply Kd.R_drew)); exact Kd.R_mono HO329.out (fun _ hk => trivial)⟩, ⟨rm_ HO334.out⟩, ⟨qz1⟩⟩
  }
  }
  {
  (first | rw [c24b0] | (simp only [i64_w, i32_w]; rw [c24b0]) | rw [@decide_eq_false _ _ (of_decide_eq_false c24b0)] | rw [@decide_eq_false _ _ (of_decide_eq_false c24b1)] | skip)
  have H' := aM H
  clear H
  obtain ⟨Ao36, co36, eo36⟩ := Kd.R_slice HO334.out
  subst eo36
  go_wp2_with (first | ((with_reducible refine gate_callee (f := 19) rfl ?_); refine goesL_ (some 48) rfl rfl Try.func19 (by kernel_rfl) rfl #[.slice (some ad331) t317.length co19, .int .i64 0, .slice Ao36 y332.length co36] rfl qz4 ?_; (with_reducible refine (laws_least.calls k _ _ t317 0 (fun k_ => some k_ = (.slice Ao36 y332.length co36 : Value).ownBlock) (.slice Ao36 y332.length co36) y332 t335 t336 w _ ?_ ?_ ?_ ?_ A23.out).mono ?_); exact qz1; exact qz24; exact (Kd.S_reads' HO321.out).2.1; exact Kd.R_tight rfl HO334.out; rintro e w37 ⟨rfl, hy0, hb, hkp⟩; refine ⟨_, rfl, ?_⟩; replace HO321 := aM (Kd.S_mono (ok' := fun k_ => some k_ ≠ (v322 : Value).ownBlock ∧ some k_ ≠ (v324 : Value).ownBlock ∧ some k_ ≠ (v328 : Value).ownBlock) (Kd.S_keptB ((Kd.S_apart' HO321.out (Kd.R_typed HO334.out) (by decide))) hkp (fun k_ hk_ hs_ => (hk_.2) hs_)) (fun k_ hk_ => ⟨hk_.1.1.1.1, hk_.1.1.1.2, hk_.1.1.2⟩)); replace HO323 := aM (Kd.Q_mono (ok' := fun k_ => some k_ ≠ (v324 : Value).ownBlock ∧ some k_ ≠ (v328 : Value).ownBlock) (Kd.Q_keptB ((Kd.Q_apart' HO323.out (Kd.R_typed HO334.out) (by decide))) hkp (fun k_ hk_ hs_ => (hk_.2) hs_)) (fun k_ hk_ => ⟨hk_.1.1.1, hk_.1.1.2⟩)); replace HO325 := aM (Kd.Q_mono (ok' := fun k_ => some k_ ≠ (v322 : Value).ownBlock ∧ some k_ ≠ (v328 : Value).ownBlock) (Kd.Q_keptB ((Kd.Q_apart' HO325.out (Kd.R_typed HO334.out) (by decide))) hkp (fun k_ hk_ hs_ => (hk_.2) hs_)) (fun k_ hk_ => ⟨hk_.1.1.1, hk_.1.1.2⟩)); replace HO329 := aM (Kd.R_mono (ok' := fun k_ => some k_ ≠ (v322 : Value).ownBlock ∧ some k_ ≠ (v324 : Value).ownBlock) (Kd.R_keptB ((Kd.R_apart' HO329.out (Kd.R_typed HO334.out) (by decide))) hkp (fun k_ hk_ hs_ => (hk_.2) hs_)) (fun k_ hk_ => ⟨hk_.1.1.1.2, hk_.1.1.2⟩)); replace HO334 := aM (Kd.R_reok rfl hy0 (fun k_ e_ => HO334.out.1 k_ e_)); replace HB := aM (hb); clear HL331_0; (try clear hb); (try clear hkp); (try clear hy0)))
  go_meet
  case rel => exact ⟨_, (t336), (true), qz3, H', ⟨by first | omega | exact Nat.le_refl _⟩, ⟨by (with_reducible repeat (first | apply Kd.S_alloc | apply Kd.S_drewN | apply Kd.S_drew)); exact Kd.S_mono HO321.out (fun _ hk => hk.2.2)⟩, ⟨by (with_reducible repeat (first | apply Kd.R_alloc | apply Kd.R_drewN | apply Kd.R_drew)); exact Kd.R_mono HO329.out (fun _ hk => trivial)⟩, ⟨rm_ HO334.out⟩, ⟨qz1⟩⟩
  }
 case rest =>
 clear HC17
 try clear c3
 try clear qi3
 try clear c6
 try clear c6b0
 try clear c6b1
 try clear c6b2
 try clear c14
 try clear c14b0
 try clear c14b1
 try clear c15
 try clear c15b0
 try clear c15b1
 try clear c16
 try clear c16b0
 try clear c16b1
 try clear qi33
 try clear hx331_0
 try clear p331
 try clear q331
 obtain ⟨kq, x8_16, x64_16, rfl, HA, HJ16, HO_3, HO_6, HO_8, HB⟩ := hcut
 cases kq with
 | zero => exact absurd HA.out (by simp [laws_FnMatched.j0])
 | succ kj16 =>
 have H := HA.out
 clear HA
 simp only [laws_FnMatched.j0] at H
 replace H := iB_ H
 rcases H with ⟨rfl, H⟩ | ⟨rfl, H⟩
 {
 obtain rfl := Option.some.inj H
 exact absurd HTR_.out (by decide)
 }
 {
 have H' := aM H
 clear H
 go_wp2
 go_loopg [9, 10] kj16 (fun kq v9 v10 w' => ∃ (x8_2 : List Bool) (x9_2 : Int) (x10_2 : Int), v9 = .int .i64 x9_2 ∧ v10 = .int .i64 x10_2 ∧ Aside0 (laws_FnMatched.l0 kq t317 t326 t327 x8_2 x9_2 x10_2 = some r) ∧ Aside0 (kq ≤ kj16) ∧ Aside0 (Kd.S (Kd.slice 3 (Kd.int .i64)) 24 w' w.heap.size (fun k_ => some k_ ≠ (v328 : Value).ownBlock) (.slice (some ad331) t317.length co19) t317) ∧ Aside0 (Kd.R (Kd.int .i64) 3 w' w.heap.size (fun _ => True) v328 t326) ∧ Aside0 (Kd.R Kd.bool 4 w' w.heap.size (fun _ => True) v333 x8_2) ∧ Aside0 (Below w.heap.size w w'))
 case atStart => exact ⟨(x8_16), (0), (0), qz3, qz3, H', ⟨Nat.le_refl _⟩, ⟨rs_ HO_3.out⟩, ⟨rr_ HO_6.out⟩, ⟨rr_ HO_8.out⟩, ⟨qz1⟩⟩
 case round =>
 clear H'
 try clear c3
 try clear qi3
 try clear c6
 try clear c6b0
 try clear c6b1
 try clear c6b2
 try clear c14
 try clear c14b0
 try clear c14b1
 try clear c15
 try clear c15b0
 try clear c15b1
 try clear c16
 try clear c16b0
 try clear c16b1
 try clear qi33
 try clear c38
 try clear hx331_0
 try clear p331
 try clear q331
 obtain ⟨x8_2, x9_2, x10_2, rfl, rfl, HA, HK2, HO_3, HO_6, HO_8, HB⟩ := hrel
 cases gk with
 | zero => exact absurd HA.out (by simp [laws_FnMatched.l0])
 | succ k2 =>
 have H := HA.out
 clear HA
 simp only [laws_FnMatched.l0] at H
 replace H := iE_ H
 rcases H with ⟨c39b0, H⟩ | ⟨c39b0, H⟩
 {
 have H' := aM H
 clear H
 go_wp2
 go_loopg [11] k2 (fun kq v11 w' => ∃ (x8_3 : List Bool) (x11_3 : Int), v11 = .int .i64 x11_3 ∧ Aside0 (laws_FnMatched.l1 kq t317 t326 t327 x8_3 x9_2 x10_2 x11_3 = some r) ∧ Aside0 (kq ≤ k2) ∧ Aside0 (Kd.S (Kd.slice 3 (Kd.int .i64)) 24 w' w.heap.size (fun k_ => some k_ ≠ (v328 : Value).ownBlock) (.slice (some ad331) t317.length co19) t317) ∧ Aside0 (Kd.R (Kd.int .i64) 3 w' w.heap.size (fun _ => True) v328 t326) ∧ Aside0 (Kd.R Kd.bool 4 w' w.heap.size (fun _ => True) v333 x8_3) ∧ Aside0 (Below w.heap.size w w'))
 case atStart => exact ⟨(x8_2), (0), qz3, H', ⟨Nat.le_refl _⟩, ⟨rs_ HO_3.out⟩, ⟨rr_ HO_6.out⟩, ⟨rr_ HO_8.out⟩, ⟨qz1⟩⟩
 case round =>
 clear H'
 try clear c3
 try clear qi3
 try clear c6
 try clear c6b0
 try clear c6b1
 try clear c6b2
 try clear c14
 try clear c14b0
 try clear c14b1
 try clear c15
 try clear c15b0
 try clear c15b1
 try clear c16
 try clear c16b0
 try clear c16b1
 try clear qi33
 try clear c38
 try clear c39
 try clear c39b0
 try clear hx331_0
 try clear p331
 try clear q331
 obtain ⟨x8_3, x11_3, rfl, HA, HK3, HO_3, HO_6, HO_8, HB⟩ := hrel
 cases gk with
 | zero => exact absurd HA.out (by simp [laws_FnMatched.l1])
 | succ k3 =>
 have H := HA.out
 clear HA
 simp only [laws_FnMatched.l1] at H
 replace H := iD_ H
 obtain ⟨c40b0, H⟩ := H
 replace H := iD_ H
 obtain ⟨c41b0, H⟩ := H
 replace H := iE_ H
 rcases H with ⟨c42b0, H⟩ | ⟨c42b0, H⟩
 {
 replace H := iD_ H
 obtain ⟨c43b0, H⟩ := H
 replace H := iD_ H
 obtain ⟨c44b0, H⟩ := H
 obtain ⟨bq45, hbq45⟩ : ∃ b_ : Bool, b_ = (rdOf false x8_3 x11_3) := ⟨_, rfl⟩
 replace H : (if bq45 = true then (laws_FnMatched.l1 k3 t317 t326 t327 x8_3 x9_2 x10_2 (wrap64 (x11_3 + 1))) else (if x10_2 < (t317.length : Int) then (if x11_3 < ((rd_L1 t317 x10_2).length : Int) then ((laws_least.f k3 t317 (wrap64 (x10_2 + 1)) (x8_3.set (x11_3 : Int).toNat true)).bind fun bt349 => (if (wrap64 ((wrap64 (x9_2 + (rd (rd_L1 t317 x10_2) x11_3))) + bt349.1)) = t327 then (some false) else (laws_FnMatched.l1 k3 t317 t326 t327 (bt349.2.set (x11_3 : Int).toNat false) x9_2 x10_2 (wrap64 (x11_3 + 1))))) else (none)) else (none))) = some r := by rw [← hbq45] at H; exact H
 have Nbq45 := aM hbq45
 clear hbq45
 replace H := iB_ H
 rcases H with ⟨rfl, H⟩ | ⟨rfl, H⟩
 {
 have H' := aM H
 clear H
 obtain ⟨Ao47, co47, eo47⟩ := Kd.R_slice HO_6.out
 subst eo47
 have p339 : (0 ≤ (x10_2 : Int)) = True := et_
 have q339 : (x10_2 < (t326.length : Int)) = True := et_
 obtain ⟨ad339, e339, hx339_0⟩ := Kd.at_int (Kd.R_reads' HO_6.out).2.2 x10_2 dt_ dt_
 cases e339
 obtain ⟨Ao48, co48, eo48⟩ := Kd.R_slice HO_8.out
 subst eo48
 have p345 : (0 ≤ (x11_3 : Int)) = True := et_
 have q345 : (x11_3 < (x8_3.length : Int)) = True := et_
 obtain ⟨ad345, e345, hx345_0⟩ := Kd.at_bool (Kd.R_reads' HO_8.out).2.2 x11_3 dt_ dt_
 (try rw [← Nbq45.out] at hx345_0)
 cases e345
 go_wp2
 go_roundg k3
 case measure => have := HJ16.out; have := HK2.out; have := HK3.out; omega
 case rel => exact ⟨(x8_3), (wrap64 (x11_3 + 1)), qz3, H', ⟨by have := HJ16.out; have := HK2.out; have := HK3.out; omega⟩, ⟨rm_ HO_3.out⟩, ⟨rm_ HO_6.out⟩, ⟨rm_ HO_8.out⟩, ⟨qz1⟩⟩
 }
 {
 obtain ⟨y346, hy346⟩ : ∃ y_ : List Bool, y_ = (x8_3.set (x11_3 : Int).toNat true) := ⟨_, rfl⟩
 replace H : (if x10_2 < (t317.length : Int) then (if x11_3 < ((rd_L1 t317 x10_2).length : Int) then ((laws_least.f k3 t317 (wrap64 (x10_2 + 1)) y346).bind fun bt349 => (if (wrap64 ((wrap64 (x9_2 + (rd (rd_L1 t317 x10_2) x11_3))) + bt349.1)) = t327 then (some false) else (laws_FnMatched.l1 k3 t317 t326 t327 (bt349.2.set (x11_3 : Int).toNat false) x9_2 x10_2 (wrap64 (x11_3 + 1))))) else (none)) else (none)) = some r := by first | (rw [hy346]; exact H) | exact H
 have Ny346 := aM hy346
 clear hy346
 replace H := iD_ H
 obtain ⟨c50b0, H⟩ := H
 replace H := iD_ H
 obtain ⟨c51b0, H⟩ := H
 replace H := Option.bind_eq_some_iff.mp H
 obtain ⟨⟨t349, t350⟩, A520, H⟩ := H
 try dsimp only at H
 have A52 := aM A520
 clear A520
 obtain ⟨y351, hy351⟩ : ∃ y_ : List Bool, y_ = (t350.set (x11_3 : Int).toNat false) := ⟨_, rfl⟩
 replace H : (if (wrap64 ((wrap64 (x9_2 + (rd (rd_L1 t317 x10_2) x11_3))) + t349)) = t327 then (some false) else (laws_FnMatched.l1 k3 t317 t326 t327 y351 x9_2 x10_2 (wrap64 (x11_3 + 1)))) = some r := by first | (rw [hy351]; exact H) | exact H
 have Ny351 := aM hy351
 clear hy351
 replace H := iQ_ H
 rcases H with ⟨c54b0, c54b1, H⟩ | ⟨c54, c54b0, c54b1, H⟩
 {
 obtain rfl := Option.some.inj H
 exact absurd HTR_.out (by decide)
 }
 {
 have H' := aM H
 clear H
 obtain ⟨Ao55, co55, eo55⟩ := Kd.R_slice HO_6.out
 subst eo55
 have p339 : (0 ≤ (x10_2 : Int)) = True := et_
 have q339 : (x10_2 < (t326.length : Int)) = True := et_
 obtain ⟨ad339, e339, hx339_0⟩ := Kd.at_int (Kd.R_reads' HO_6.out).2.2 x10_2 dt_ dt_
 cases e339
 obtain ⟨Ao56, co56, eo56⟩ := Kd.R_slice HO_8.out
 subst eo56
 have p345 : (0 ≤ (x11_3 : Int)) = True := et_
 have q345 : (x11_3 < (x8_3.length : Int)) = True := et_
 obtain ⟨ad345, e345, hx345_0⟩ := Kd.at_bool (Kd.R_reads' HO_8.out).2.2 x11_3 dt_ dt_
 (try rw [← Nbq45.out] at hx345_0)
 cases e345
 have p49 : 0 ≤ (x11_3 : Int) := dt_
 have q49 : (x11_3 : Int) < ((x8_3.length : Int) : Int) := dt_
 obtain ⟨go49, co49, eo49, gb49, gl49, cl49, HG49⟩ := Kd.R_form HO_8.out (by omega)
 (first | cases eo49 | (injection eo49 with ea_ en_ ec_; (first | subst ea_ | (injection ea_ with ea_; subst ea_)); subst ec_; clear en_))
 have GB49 := aM gb49
 have GG49 := aM HG49
 clear gb49 gl49 HG49
 (first | simp only [add_plain] at hx345_0 | skip)
 obtain ⟨hx49_0, hf49_0⟩ := Kd.R_celln false HO_8.out (x11_3 : Int) p49 q49
 replace p49 := eq_true p49
 replace q49 := eq_true q49
 obtain ⟨hy57_, hz57_⟩ := Kd.R_celln false HO_8.out (x11_3 : Int) (dt_) (dt_)
 have HP57 := Kd.R_putg HO_8.out (x11_3 : Int) true
 try go_wp2_with (first | ((with_reducible refine gate_store (t := 4) (p := 85) rfl ?_); refine store_event (t := 4) (p := 85) (v := ?vo_w58) (w1 := (wr.setCell ⟨go49, (x11_3 : Int).toNat, none⟩ (.bool true))) ?hg ?ho ?hn ?hr ?_; (case ho => rfl); (case hg => rfl); (case hn => rfl); (case hr => exact qz10); intro w58 hw; have hg : wr.grownBy w58 (some go49) := (by rw [hw]; exact HP57.2); have hp_ : Kd.R Kd.bool 4 w58 w.heap.size (fun _ => True) (.slice (some ⟨go49, 0, none⟩) x8_3.length co56) y346 := (by rw [hw, Ny346.out]; exact HP57.1); clear HP57; replace HO_3 := aM (Kd.S_over' (v := (.slice (some ⟨go49, 0, none⟩) x8_3.length co56)) (rs_ HO_3.out) (Kd.R_typed HO_8.out) (by decide) hg); replace HO_6 := aM (Kd.R_over' (v := (.slice (some ⟨go49, 0, none⟩) x8_3.length co56)) (rr_ HO_6.out) (Kd.R_typed HO_8.out) (by decide) hg); replace HO_8 := aM (hp_); replace HB := aM ((by rw [hw]; exact below_set (HB.out) GB49.out : Below w.heap.size w w58)); clear hg hw hp_))
 replace HO_3 := aM (Kd.S_drew HO_3.out)
 replace HO_6 := aM (Kd.R_drew HO_6.out)
 replace HO_8 := aM (Kd.R_drew HO_8.out)
 replace HB := aM (below_drew1 HB.out)
 have p347 : 0 ≤ (x10_2 : Int) := dt_
 have q347 : x10_2 < (t317.length : Int) := dt_
 obtain ⟨ad347, A347_0, c347_0, e347, hx347_0, hl347_0, hi347_0⟩ := at_L1 (Kd.S_reads' HO_3.out).2.2 x10_2 p347 q347
 obtain rfl : ad331 = ad347 := (by injection e347)
 obtain ⟨ce347, hce347, hMe347, hcc347⟩ := Kd.S_get HO_3.out [] x10_2 p347 (by first | exact q347 | exact dt_ | (have e_ := (Kd.S_reads' HO_3.out).1; omega))
 obtain ⟨ve347_0, rfl, ge347_0⟩ := hMe347
 have hv347_0 := hcc347 0 _ rfl
 rw [Nat.add_zero, show ((Kd.slice 3 (Kd.int .i64))).sz = 1 from rfl, Nat.mul_one] at hv347_0
 replace hv347_0 := Option.some.inj (hv347_0.symm.trans hx347_0)
 rw [hv347_0] at ge347_0
 have HL347_0 := aM (show Kd.R (Kd.int .i64) 3 _ _ _ _ (rd_L1 t317 x10_2) from ge347_0)
 clear hv347_0 ge347_0 hcc347 hce347
 have HR347_0 := aM hi347_0
 have HC347_0 := aM hl347_0
 clear hi347_0 hl347_0
 replace p347 := eq_true p347
 replace q347 := eq_true q347
 have p348 : (0 ≤ (x11_3 : Int)) = True := et_
 have q348 : (x11_3 < ((rd_L1 t317 x10_2).length : Int)) = True := et_
 obtain ⟨ad348, e348, hx348_0⟩ := Kd.at_int (by repeat (first | (with_reducible exact HR347_0.out) | (with_reducible refine Kd.C_alloc ?_ _) | (with_reducible refine Kd.C_drewN ?_ _) | (with_reducible refine Kd.C_drew ?_) | exact HR347_0.out)) x11_3 dt_ dt_
 cases e348
 refine start_ (n := 16) (S := fun w' => w'.cell? (ad331.add (x10_2).toNat) = some (.slice (some ad348) (rd_L1 t317 x10_2).length c347_0) ∧ w'.cell? (ad348.add (x11_3).toNat) = some (.int .i64 (rd (rd_L1 t317 x10_2) x11_3))) (ds := []) #[false, false, false, false, false, false, false, false, false, false, false, false, false, false, false, false] (by kernel_rfl) rfl rfl ⟨hx347_0, hx348_0⟩ (fun hHeld => ?_); refine with_tabW laws_FnMatched.tab19 laws_FnMatched.bits19 (fun HT_ HW_ => ?_)
 generalize w58.drew = w59 at HO_3 HO_6 HO_8 HB HL347_0 HR347_0 hx347_0 hx348_0 hHeld ⊢
 refine pI_ 0 86 (bqz 16 1) ?_
 refine jI_ 1 87 ?_
 refine jI_ 2 88 ?_
 refine jI_ 3 89 ?_
 refine jI_ 5 91 ?_
 refine jI_ 9 95 ?_
 refine jI_ 10 96 ?_
 refine jI_ 11 97 ?_
 refine jI_ 12 98 ?_
 refine sI2_ 4 90 ?_
 refine jI_ 6 92 ?_
 refine sI2_ 7 93 ?_
 refine jI_ 8 94 ?_
 refine oI_ 13 99 (bqz 16 16383) (fun K hK => ?_)
 refine goes_ Try.func19 (by kernel_rfl) rfl #[.slice (some ad331) t317.length co19, .int .i64 (wrap64 (x10_2 + 1)), .slice (some ⟨go49, 0, none⟩) x8_3.length co56] (by rfl) rfl rfl qz4 ?_
 with_reducible refine (laws_least.calls k3 _ _ t317 (wrap64 (x10_2 + 1)) (fun k_ => some k_ = (.slice (some ⟨go49, 0, none⟩) x8_3.length co56 : Value).ownBlock) (.slice (some ⟨go49, 0, none⟩) x8_3.length co56) y346 t349 t350 w _ ?side1 ?side2 ?side3 ?side4 A52.out).mono ?_
 (case side1 => exact qz1)
 (case side2 => exact Kd.C_kept_own ((Kd.S_R (Kd.S_apart' HO_3.out (Kd.R_typed HO_8.out) (by decide)))) (fun k_ hk_ hs_ => (hk_.2) hs_))
 (case side3 => exact (Kd.S_reads' HO_3.out).2.1)
 (case side4 => exact Kd.R_tight rfl HO_8.out)
 rintro e w60 ⟨rfl, hy0, hb, hkp⟩
 have HS0_ := cell_kept (hHeld.1) hkp (by first | (rw [add_block]; exact (fun hs_ => ((((Kd.S_R (Kd.S_apart' HO_3.out (Kd.R_typed HO_8.out) (by decide)))).1 _ rfl).2) hs_)) | (show ¬ _; simp only [add_block]; exact (fun hs_ => ((((Kd.S_R (Kd.S_apart' HO_3.out (Kd.R_typed HO_8.out) (by decide)))).1 _ rfl).2) hs_)) | exact (fun hs_ => ((((Kd.S_R (Kd.S_apart' HO_3.out (Kd.R_typed HO_8.out) (by decide)))).1 _ rfl).2) hs_))
 have HS1_ := cell_kept (hHeld.2) hkp (by first | (rw [add_block]; exact (fun hs_ => ((((Kd.R_apart' HL347_0.out (Kd.R_typed HO_8.out) (by decide))).1 _ rfl).2) hs_)) | (show ¬ _; simp only [add_block]; exact (fun hs_ => ((((Kd.R_apart' HL347_0.out (Kd.R_typed HO_8.out) (by decide))).1 _ rfl).2) hs_)) | exact (fun hs_ => ((((Kd.R_apart' HL347_0.out (Kd.R_typed HO_8.out) (by decide))).1 _ rfl).2) hs_))
 refine ⟨_, rfl, ?_⟩
 replace HO_3 := aM (Kd.S_mono (ok' := fun k_ => some k_ ≠ (.slice (some ad339) t326.length co55 : Value).ownBlock) (Kd.S_keptB ((Kd.S_apart' HO_3.out (Kd.R_typed HO_8.out) (by decide))) hkp (fun k_ hk_ hs_ => (hk_.2) hs_)) (fun k_ hk_ => hk_.1.1))
 replace HO_6 := aM (Kd.R_mono (ok' := fun k_ => True) (Kd.R_keptB ((Kd.R_apart' HO_6.out (Kd.R_typed HO_8.out) (by decide))) hkp (fun k_ hk_ hs_ => (hk_.2) hs_)) (fun k_ hk_ => trivial))
 replace HO_8 := aM (Kd.R_reok rfl hy0 (fun k_ e_ => HO_8.out.1 k_ e_))
 replace HB := aM (hb)
 clear HL347_0
 (try clear hb)
 (try clear hkp)
 (try clear hy0)
 refine hK.out _ _ ⟨HS0_, HS1_⟩ (fun hHeld => ?_)
 clear hK K
 refine nm_ 99 ?_
 refine pI_ 14 100 (bqz 16 32767) ?_
 refine jI_ 15 12 ?_
 refine done_ (done_of HT_.out (by kernel_rfl)) ?_
 have p53 : (0 ≤ (x11_3 : Int)) = True := et_
 have q53 : ((x11_3 : Int) < ((x8_3.length : Int) : Int)) = True := et_
 obtain ⟨hx53_0, hf53_0⟩ := Kd.R_celln false HO_8.out (x11_3 : Int) dt_ dt_
 obtain ⟨hy61_, hz61_⟩ := Kd.R_celln false HO_8.out (x11_3 : Int) (dt_) (dt_)
 have HP61 := Kd.R_putg HO_8.out (x11_3 : Int) false
 try go_wp2_with (first | ((with_reducible refine gate_store (t := 4) (p := 103) rfl ?_); refine store_event (t := 4) (p := 103) (v := ?vo_w62) (w1 := (w60.setCell ⟨go49, (x11_3 : Int).toNat, none⟩ (.bool false))) ?hg ?ho ?hn ?hr ?_; (case ho => rfl); (case hg => rfl); (case hn => rfl); (case hr => exact qz10); intro w62 hw; have hg : w60.grownBy w62 (some go49) := (by rw [hw]; exact HP61.2); have hp_ : Kd.R Kd.bool 4 w62 w.heap.size (fun _ => True) (.slice (some ⟨go49, 0, none⟩) x8_3.length co56) y351 := (by rw [hw, Ny351.out]; exact HP61.1); clear HP61; replace HO_3 := aM (Kd.S_over' (v := (.slice (some ⟨go49, 0, none⟩) x8_3.length co56)) (rs_ HO_3.out) (Kd.R_typed HO_8.out) (by decide) hg); replace HO_6 := aM (Kd.R_over' (v := (.slice (some ⟨go49, 0, none⟩) x8_3.length co56)) (rr_ HO_6.out) (Kd.R_typed HO_8.out) (by decide) hg); replace HO_8 := aM (hp_); replace HB := aM ((by rw [hw]; exact below_set (HB.out) GB49.out : Below w.heap.size w w62)); clear hg hw hp_))
 go_roundg k3
 case measure => have := HJ16.out; have := HK2.out; have := HK3.out; omega
 case rel => exact ⟨(y351), (wrap64 (x11_3 + 1)), qz3, H', ⟨by have := HJ16.out; have := HK2.out; have := HK3.out; omega⟩, ⟨rm_ HO_3.out⟩, ⟨rm_ HO_6.out⟩, ⟨rm_ HO_8.out⟩, ⟨qz1⟩⟩
 }
 }
 }
 {
 replace H := iD_ H
 obtain ⟨c63b0, H⟩ := H
 replace H := iD_ H
 obtain ⟨c64b0, H⟩ := H
 obtain ⟨y341, hy341⟩ : ∃ y_ : List Bool, y_ = (x8_3.set ((rd t326 x10_2) : Int).toNat true) := ⟨_, rfl⟩
 replace H : (if x10_2 < (t317.length : Int) then (if (rd t326 x10_2) < ((rd_L1 t317 x10_2).length : Int) then (laws_FnMatched.l0 k3 t317 t326 t327 y341 (wrap64 (x9_2 + (rd (rd_L1 t317 x10_2) (rd t326 x10_2)))) (wrap64 (x10_2 + 1))) else (none)) else (none)) = some r := by first | (rw [hy341]; exact H) | exact H
 have Ny341 := aM hy341
 clear hy341
 replace H := iD_ H
 obtain ⟨c66b0, H⟩ := H
 replace H := iD_ H
 obtain ⟨c67b0, H⟩ := H
 have H' := aM H
 clear H
 obtain ⟨Ao68, co68, eo68⟩ := Kd.R_slice HO_6.out
 subst eo68
 have p339 : (0 ≤ (x10_2 : Int)) = True := et_
 have q339 : (x10_2 < (t326.length : Int)) = True := et_
 obtain ⟨ad339, e339, hx339_0⟩ := Kd.at_int (Kd.R_reads' HO_6.out).2.2 x10_2 dt_ dt_
 cases e339
 have p340 : (0 ≤ (x10_2 : Int)) = True := et_
 have q340 : (x10_2 < (t326.length : Int)) = True := et_
 obtain ⟨ad340, e340, hx340_0⟩ := Kd.at_int (Kd.R_reads' HO_6.out).2.2 x10_2 dt_ dt_
 obtain rfl : ad339 = ad340 := (by injection e340)
 have p65 : 0 ≤ ((rd t326 x10_2) : Int) := dt_
 have q65 : ((rd t326 x10_2) : Int) < ((x8_3.length : Int) : Int) := dt_
 obtain ⟨go65, co65, eo65, gb65, gl65, cl65, HG65⟩ := Kd.R_form HO_8.out (by omega)
 (first | cases eo65 | (injection eo65 with ea_ en_ ec_; (first | subst ea_ | (injection ea_ with ea_; subst ea_)); subst ec_; clear en_))
 have GB65 := aM gb65
 have GG65 := aM HG65
 clear gb65 gl65 HG65
 obtain ⟨hx65_0, hf65_0⟩ := Kd.R_celln false HO_8.out ((rd t326 x10_2) : Int) p65 q65
 replace p65 := eq_true p65
 replace q65 := eq_true q65
 obtain ⟨hy69_, hz69_⟩ := Kd.R_celln false HO_8.out ((rd t326 x10_2) : Int) (dt_) (dt_)
 have HP69 := Kd.R_putg HO_8.out ((rd t326 x10_2) : Int) true
 try go_wp2_with (first | ((with_reducible refine gate_store (t := 4) (p := 112) rfl ?_); refine store_event (t := 4) (p := 112) (v := ?vo_w70) (w1 := (wr.setCell ⟨go65, ((rd t326 x10_2) : Int).toNat, none⟩ (.bool true))) ?hg ?ho ?hn ?hr ?_; (case ho => rfl); (case hg => rfl); (case hn => rfl); (case hr => exact qz10); intro w70 hw; have hg : wr.grownBy w70 (some go65) := (by rw [hw]; exact HP69.2); have hp_ : Kd.R Kd.bool 4 w70 w.heap.size (fun _ => True) (.slice (some ⟨go65, 0, none⟩) x8_3.length co65) y341 := (by rw [hw, Ny341.out]; exact HP69.1); clear HP69; replace HO_3 := aM (Kd.S_over' (v := (.slice (some ⟨go65, 0, none⟩) x8_3.length co65)) (rs_ HO_3.out) (Kd.R_typed HO_8.out) (by decide) hg); replace HO_6 := aM (Kd.R_over' (v := (.slice (some ⟨go65, 0, none⟩) x8_3.length co65)) (rr_ HO_6.out) (Kd.R_typed HO_8.out) (by decide) hg); replace HO_8 := aM (hp_); replace HB := aM ((by rw [hw]; exact below_set (HB.out) GB65.out : Below w.heap.size w w70)); clear hg hw hp_))
 replace HO_3 := aM (Kd.S_drew HO_3.out)
 replace HO_6 := aM (Kd.R_drew HO_6.out)
 replace HO_8 := aM (Kd.R_drew HO_8.out)
 replace HB := aM (below_drew1 HB.out)
 have p342 : 0 ≤ (x10_2 : Int) := dt_
 have q342 : x10_2 < (t317.length : Int) := dt_
 obtain ⟨ad342, A342_0, c342_0, e342, hx342_0, hl342_0, hi342_0⟩ := at_L1 (Kd.S_reads' HO_3.out).2.2 x10_2 p342 q342
 obtain rfl : ad331 = ad342 := (by injection e342)
 obtain ⟨ce342, hce342, hMe342, hcc342⟩ := Kd.S_get HO_3.out [] x10_2 p342 (by first | exact q342 | exact dt_ | (have e_ := (Kd.S_reads' HO_3.out).1; omega))
 obtain ⟨ve342_0, rfl, ge342_0⟩ := hMe342
 have hv342_0 := hcc342 0 _ rfl
 rw [Nat.add_zero, show ((Kd.slice 3 (Kd.int .i64))).sz = 1 from rfl, Nat.mul_one] at hv342_0
 replace hv342_0 := Option.some.inj (hv342_0.symm.trans hx342_0)
 rw [hv342_0] at ge342_0
 have HL342_0 := aM (show Kd.R (Kd.int .i64) 3 _ _ _ _ (rd_L1 t317 x10_2) from ge342_0)
 clear hv342_0 ge342_0 hcc342 hce342
 have HR342_0 := aM hi342_0
 have HC342_0 := aM hl342_0
 clear hi342_0 hl342_0
 replace p342 := eq_true p342
 replace q342 := eq_true q342
 have p343 : (0 ≤ (x10_2 : Int)) = True := et_
 have q343 : (x10_2 < (t326.length : Int)) = True := et_
 obtain ⟨ad343, e343, hx343_0⟩ := Kd.at_int (Kd.R_reads' HO_6.out).2.2 x10_2 dt_ dt_
 obtain rfl : ad339 = ad343 := (by injection e343)
 have p344 : (0 ≤ ((rd t326 x10_2) : Int)) = True := et_
 have q344 : ((rd t326 x10_2) < ((rd_L1 t317 x10_2).length : Int)) = True := et_
 obtain ⟨ad344, e344, hx344_0⟩ := Kd.at_int (by repeat (first | (with_reducible exact HR342_0.out) | (with_reducible refine Kd.C_alloc ?_ _) | (with_reducible refine Kd.C_drewN ?_ _) | (with_reducible refine Kd.C_drew ?_) | exact HR342_0.out)) (rd t326 x10_2) dt_ dt_
 cases e344
 refine start_ (n := 13) (S := fun w' => w'.cell? (ad331.add (x10_2).toNat) = some (.slice (some ad344) (rd_L1 t317 x10_2).length c342_0) ∧ w'.cell? (ad339.add (x10_2).toNat) = some (.int .i64 (rd t326 x10_2)) ∧ w'.cell? (ad344.add ((rd t326 x10_2)).toNat) = some (.int .i64 (rd (rd_L1 t317 x10_2) (rd t326 x10_2)))) (ds := []) #[false, false, false, false, false, false, false, false, false, false, false, false, false] (by kernel_rfl) rfl rfl ⟨hx342_0, hx343_0, hx344_0⟩ (fun hHeld => ?_); refine with_tabW laws_FnMatched.tab24 laws_FnMatched.bits24 (fun HT_ HW_ => ?_)
 generalize w70.drew = w71 at HO_3 HO_6 HO_8 HB HL342_0 HR342_0 hx342_0 hx343_0 hx344_0 hHeld ⊢
 refine pI_ 0 113 (bqz 13 1) ?_
 refine jI_ 1 114 ?_
 refine jI_ 2 115 ?_
 refine jI_ 3 116 ?_
 refine jI_ 5 118 ?_
 refine jI_ 6 119 ?_
 refine jI_ 7 120 ?_
 refine sI3_ 4 117 ?_
 refine sI3_ 8 121 ?_
 refine jI_ 9 122 ?_
 refine sI3_ 10 123 ?_
 refine jI_ 11 124 ?_
 refine jI_ 12 9 ?_
 refine done_ (done_of HT_.out (by kernel_rfl)) ?_
 try go_wp2
 go_roundg k3
 case measure => have := HJ16.out; have := HK2.out; have := HK3.out; omega
 case rel => exact ⟨(y341), (wrap64 (x9_2 + (rd (rd_L1 t317 x10_2) (rd t326 x10_2)))), (wrap64 (x10_2 + 1)), qz3, qz3, H', ⟨by have := HJ16.out; have := HK2.out; have := HK3.out; omega⟩, ⟨rm_ HO_3.out⟩, ⟨rm_ HO_6.out⟩, ⟨rm_ HO_8.out⟩, ⟨qz1⟩⟩
 }
 }
 {
 obtain rfl := Option.some.inj H
 go_wp2
 go_ret
 exact ⟨qzw, qz1⟩
 }
 }
 }
 }
/-- THE ONE PURE STATEMENT of laws_FnMatched: yours. -/
def laws_FnMatched.Pure : Prop := ∀ (l0 : List Int), l0.length ≤ maxLen → l0.length * 1 ≤ 140737488351232 → (∀ x ∈ l0, (Lit.int .u8 x).wf = true) → ∃ k, laws_FnMatched.f k l0 = some true
theorem laws_FnMatched.walk (P : laws_FnMatched.Pure) (a0 : Option Addr) (len0 cap0 : Nat) (z0 : List Int) (w : World) (w0 : (a0 = none ∧ len0 = 0 ∧ cap0 = 0 ∧ z0 = []) ∨ ∃ x, a0 = some x ∧ len0 ≤ cap0 ∧ cap0 ≤ maxLen ∧ z0.length = cap0 ∧ (∀ i, i < z0.length → w.cell? (x.add i) = some (.int .u8 (z0.getD i 0))) ∧ ∀ n ∈ z0, (Lit.int .u8 n).wf = true) (y0 : len0 * 1 ≤ 140737488351232) :
  Calls Try.prog 4 #[.slice a0 len0 cap0] w fun e w' => e = .returned (.bool true) ∧ Below w.heap.size w w' := by
 obtain ⟨l0, rfl, hr0, hm0, hw0, hc0⟩ := ReadsInt.ofRowC w0
 obtain ⟨k, h⟩ := P l0 hm0 y0 hw0
 refine (laws_FnMatched.calls k _ _ l0 true w (Kd.C_of_reads (d := (0 : Int)) (h1 := fun _ => rfl) hr0) hc0 rfl h).mono ?_
 rintro e w' ⟨rfl, hd⟩
 exact ⟨rfl, hd⟩

end Go.Proofs.Ytbebfhlejnidkaa.PFnMatched
