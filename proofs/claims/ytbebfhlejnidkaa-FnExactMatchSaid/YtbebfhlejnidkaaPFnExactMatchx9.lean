-- Made by a program of this session out of the translation. Lean checks it.
import Derived.Test.YtbebfhlejnidkaaPFnExactMatchx4
import Derived.Test.YtbebfhlejnidkaaPFnExactMatchx8
namespace Go.Proofs.Ytbebfhlejnidkaa.PFnExactMatch
open Go.RowKit Go.Proofs.YtbebfhlejnidkaaW.PrintWords Go.Proofs.YtbebfhlejnidkaaW.PrintLast Go.Proofs.YtbebfhlejnidkaaW.PrintMore
attribute [local go_sem] max2_int min2_int max_two min_two max_three min_three max_four min_four   -- for this text's walks alone
set_option linter.unusedVariables false
set_option linter.unusedSimpArgs false

/-! ### laws_FnExactMatch: function 3 -/
mutual
def laws_FnExactMatch.j0 : Nat → List (List Int) → List Int → Int → List (List Int) → List Int → Int → Bool → Option (Bool)
 | 0, _, _, _, _, _, _, _ => none
 | k + 1, x0, x4, x5, x6, x7, x8, x40 => if x40 = true then (some false) else ((laws_toIntSS.f k x0).bind fun t323 => ((laws_eqIntSS.f k x6 t323).bind fun t326 => (if t326 = true then ((laws_markIntSS.f k x6 1).bind fun t327 => (if t327 < 0 then (laws_FnExactMatch.j1 k x0 x4 x5 x7 true) else ((laws_eqIntS.f k x7 x4).bind fun t328 => (if t328 = true then (laws_FnExactMatch.j1 k x0 x4 x5 x7 (x8 != x5)) else (laws_FnExactMatch.j1 k x0 x4 x5 x7 true))))) else (some false))))
def laws_FnExactMatch.j1 : Nat → List (List Int) → List Int → Int → List Int → Bool → Option (Bool)
 | 0, _, _, _, _, _ => none
 | k + 1, x0, x4, x5, x7, x61 => if x61 = true then (some false) else ((laws_markIntS.f k x7 1).bind fun bt329 => ((laws_heldIntS.f k bt329.2 1).bind fun t331 => (if t331 < 0 then (some false) else (if t331 = bt329.1 then ((laws_toIntSS.f k x0).bind fun t332 => ((impl_Match.f k t332).bind fun bt335 => ((laws_eqIntS.f k bt335.1 x4).bind fun t339 => (if t339 = true then (laws_FnExactMatch.j2 k bt329.2 bt329.1 (bt335.2 != x5)) else (laws_FnExactMatch.j2 k bt329.2 bt329.1 true))))) else (some false)))))
def laws_FnExactMatch.j2 : Nat → List Int → Int → Bool → Option (Bool)
 | 0, _, _, _ => none
 | k + 1, x7, x10, x87 => if x87 = true then (some false) else ((laws_heldIntS.f k x7 1).bind fun t340 => (if t340 < 0 then (some false) else (if t340 = x10 then (some true) else (some false))))
end
def laws_FnExactMatch.f (k : Nat) (l0 : List (List Int)) : Option (Bool) := (laws_szIntSS.f k l0 1048576).bind fun t307 => (if t307 < 0 then (some true) else ((laws_toIntSS.f k l0).bind fun t308 => ((spec_Match.f k t308).bind fun bt311 => ((laws_toIntSS.f k l0).bind fun t315 => ((impl_Match.f k t315).bind fun bt318 => ((laws_eqIntS.f k bt318.1 bt311.1).bind fun t322 => (if t322 = true then (laws_FnExactMatch.j0 k l0 bt311.1 bt311.2 t315 bt318.1 bt318.2 (bt318.2 != bt311.2)) else (laws_FnExactMatch.j0 k l0 bt311.1 bt311.2 t315 bt318.1 bt318.2 true))))))))
theorem laws_FnExactMatch.mono_l : ∀ k, (∀ y0 y1 y2 y3 y4 y5 y6, LeO (laws_FnExactMatch.j0 k y0 y1 y2 y3 y4 y5 y6) (laws_FnExactMatch.j0 (k + 1) y0 y1 y2 y3 y4 y5 y6)) ∧ (∀ y0 y1 y2 y3 y4, LeO (laws_FnExactMatch.j1 k y0 y1 y2 y3 y4) (laws_FnExactMatch.j1 (k + 1) y0 y1 y2 y3 y4)) ∧ (∀ y0 y1 y2, LeO (laws_FnExactMatch.j2 k y0 y1 y2) (laws_FnExactMatch.j2 (k + 1) y0 y1 y2))
 | 0 => ⟨fun _ _ _ _ _ _ _ r h => by simp [laws_FnExactMatch.j0] at h, fun _ _ _ _ _ r h => by simp [laws_FnExactMatch.j1] at h, fun _ _ _ r h => by simp [laws_FnExactMatch.j2] at h⟩
 | k + 1 => by
  obtain ⟨ih0, ih1, ih2⟩ := laws_FnExactMatch.mono_l k
  refine ⟨?_, ?_, ?_⟩
  {
  intro y0 y1 y2 y3 y4 y5 y6
  unfold laws_FnExactMatch.j0
  have j0 := @impl_Match.mono
  have j1 := @laws_eqIntS.mono
  have j2 := @laws_eqIntSS.mono
  have j3 := @laws_heldIntS.mono
  have j4 := @laws_markIntS.mono
  have j5 := @laws_markIntSS.mono
  have j6 := @laws_szIntSS.mono
  have j7 := @laws_toIntSS.mono
  have j8 := @spec_Match.mono
  exact qL
  }
  {
  intro y0 y1 y2 y3 y4
  unfold laws_FnExactMatch.j1
  have j0 := @impl_Match.mono
  have j1 := @laws_eqIntS.mono
  have j2 := @laws_eqIntSS.mono
  have j3 := @laws_heldIntS.mono
  have j4 := @laws_markIntS.mono
  have j5 := @laws_markIntSS.mono
  have j6 := @laws_szIntSS.mono
  have j7 := @laws_toIntSS.mono
  have j8 := @spec_Match.mono
  exact qL
  }
  {
  intro y0 y1 y2
  unfold laws_FnExactMatch.j2
  have j0 := @impl_Match.mono
  have j1 := @laws_eqIntS.mono
  have j2 := @laws_eqIntSS.mono
  have j3 := @laws_heldIntS.mono
  have j4 := @laws_markIntS.mono
  have j5 := @laws_markIntSS.mono
  have j6 := @laws_szIntSS.mono
  have j7 := @laws_toIntSS.mono
  have j8 := @spec_Match.mono
  exact qL
  }
theorem laws_FnExactMatch.mono : ∀ a0 k, LeO (laws_FnExactMatch.f k a0) (laws_FnExactMatch.f (k + 1) a0) := by
 intro a0 k
 obtain ⟨ih0, ih1, ih2⟩ := laws_FnExactMatch.mono_l k
 unfold laws_FnExactMatch.f
 have j0 := @impl_Match.mono
 have j1 := @laws_eqIntS.mono
 have j2 := @laws_eqIntSS.mono
 have j3 := @laws_heldIntS.mono
 have j4 := @laws_markIntS.mono
 have j5 := @laws_markIntSS.mono
 have j6 := @laws_szIntSS.mono
 have j7 := @laws_toIntSS.mono
 have j8 := @spec_Match.mono
 exact qL
set_option maxHeartbeats 8000000 in
set_option maxRecDepth 100000 in
theorem laws_FnExactMatch.calls (k : Nat) (A0 : Option Addr) (c0 : Nat) (l0 : List (List Int)) (r : Bool) (w : World) (hr0 : Kd.C (Kd.slice 3 (Kd.int .i64)) w A0 l0.length l0) (hc0 : l0.length ≤ c0) (hT : r = true) (h : laws_FnExactMatch.f k l0 = some r) :
  Calls Try.prog 3 #[.slice A0 l0.length c0] w fun e w' => e = .returned (.bool r) ∧ Below w.heap.size w w' := by
 have HTR_ := aM hT
 clear hT
 have HR0 := aM hr0
 have HC0 := aM hc0
 clear hr0 hc0
 have HB := aM (Below.refl w.heap.size w)
 have H : ((laws_szIntSS.f k l0 1048576).bind fun t307 => (if t307 < 0 then (some true) else ((laws_toIntSS.f k l0).bind fun t308 => ((spec_Match.f k t308).bind fun bt311 => ((laws_toIntSS.f k l0).bind fun t315 => ((impl_Match.f k t315).bind fun bt318 => ((laws_eqIntS.f k bt318.1 bt311.1).bind fun t322 => (if t322 = true then (laws_FnExactMatch.j0 k l0 bt311.1 bt311.2 t315 bt318.1 bt318.2 (bt318.2 != bt311.2)) else (laws_FnExactMatch.j0 k l0 bt311.1 bt311.2 t315 bt318.1 bt318.2 true))))))))) = some r := h
 clear h
 replace H := Option.bind_eq_some_iff.mp H
 obtain ⟨t307, A20, H⟩ := H
 replace H : (if t307 < 0 then (some true) else ((laws_toIntSS.f k l0).bind fun t308 => ((spec_Match.f k t308).bind fun bt311 => ((laws_toIntSS.f k l0).bind fun t315 => ((impl_Match.f k t315).bind fun bt318 => ((laws_eqIntS.f k bt318.1 bt311.1).bind fun t322 => (if t322 = true then (laws_FnExactMatch.j0 k l0 bt311.1 bt311.2 t315 bt318.1 bt318.2 (bt318.2 != bt311.2)) else (laws_FnExactMatch.j0 k l0 bt311.1 bt311.2 t315 bt318.1 bt318.2 true)))))))) = some r := H
 have A2 := aM A20
 clear A20
 by_cases c3 : t307 < 0
 {
 rw [if_pos c3] at H
 have c3b0 := decide_eq_true c3
 clear c3
 obtain rfl := Option.some.inj H
 simp only [Option.some.injEq, Prod.mk.injEq] at H
 obtain ⟨rfl⟩ := H
 go_enter Try.func3, Try.ntmps3
 go_wp2_with (first | ((with_reducible refine gate_callee (f := 7) rfl ?_); refine goesL_ (some 16) rfl rfl Try.func7 (by kernel_rfl) rfl #[.slice A0 l0.length c0, .int .i64 1048576] rfl qz4 ?_; (with_reducible refine (laws_szIntSS.calls k _ _ l0 1048576 t307 _ ?side1 ?side2 A2.out).mono ?_); (case side1 => exact qz5); (case side2 => exact HC0.out); rintro e w' ⟨rfl, ⟨nd, rfl⟩⟩; refine ⟨_, rfl, ?_⟩))
 go_ret
 exact ⟨qzw, qz1⟩
 }
 {
 rw [if_neg c3] at H
 have c3b0 := decide_eq_false c3
 clear c3
 replace H := Option.bind_eq_some_iff.mp H
 obtain ⟨t308, A40, H⟩ := H
 replace H : ((spec_Match.f k t308).bind fun bt311 => ((laws_toIntSS.f k l0).bind fun t315 => ((impl_Match.f k t315).bind fun bt318 => ((laws_eqIntS.f k bt318.1 bt311.1).bind fun t322 => (if t322 = true then (laws_FnExactMatch.j0 k l0 bt311.1 bt311.2 t315 bt318.1 bt318.2 (bt318.2 != bt311.2)) else (laws_FnExactMatch.j0 k l0 bt311.1 bt311.2 t315 bt318.1 bt318.2 true)))))) = some r := H
 have A4 := aM A40
 clear A40
 replace H := Option.bind_eq_some_iff.mp H
 obtain ⟨⟨t311, t314⟩, A50, H⟩ := H
 replace H : ((laws_toIntSS.f k l0).bind fun t315 => ((impl_Match.f k t315).bind fun bt318 => ((laws_eqIntS.f k bt318.1 t311).bind fun t322 => (if t322 = true then (laws_FnExactMatch.j0 k l0 t311 t314 t315 bt318.1 bt318.2 (bt318.2 != t314)) else (laws_FnExactMatch.j0 k l0 t311 t314 t315 bt318.1 bt318.2 true))))) = some r := H
 have A5 := aM A50
 clear A50
 replace H := Option.bind_eq_some_iff.mp H
 obtain ⟨t315, A60, H⟩ := H
 replace H : ((impl_Match.f k t315).bind fun bt318 => ((laws_eqIntS.f k bt318.1 t311).bind fun t322 => (if t322 = true then (laws_FnExactMatch.j0 k l0 t311 t314 t315 bt318.1 bt318.2 (bt318.2 != t314)) else (laws_FnExactMatch.j0 k l0 t311 t314 t315 bt318.1 bt318.2 true)))) = some r := H
 have A6 := aM A60
 clear A60
 replace H := Option.bind_eq_some_iff.mp H
 obtain ⟨⟨t318, t319⟩, A70, H⟩ := H
 replace H : ((laws_eqIntS.f k t318 t311).bind fun t322 => (if t322 = true then (laws_FnExactMatch.j0 k l0 t311 t314 t315 t318 t319 (t319 != t314)) else (laws_FnExactMatch.j0 k l0 t311 t314 t315 t318 t319 true))) = some r := H
 have A7 := aM A70
 clear A70
 have HC8 := aM H
 clear H
 go_enter Try.func3, Try.ntmps3
 go_upto_region 8 with (first | ((with_reducible refine gate_callee (f := 7) rfl ?_); refine goesL_ (some 16) rfl rfl Try.func7 (by kernel_rfl) rfl #[.slice A0 l0.length c0, .int .i64 1048576] rfl qz4 ?_; (with_reducible refine (laws_szIntSS.calls k _ _ l0 1048576 t307 _ ?side1 ?side2 A2.out).mono ?_); (case side1 => exact qz5); (case side2 => exact HC0.out); rintro e w' ⟨rfl, ⟨nd, rfl⟩⟩; refine ⟨_, rfl, ?_⟩) | ((with_reducible refine gate_callee (f := 9) rfl ?_); refine goesL_ (some 21) rfl rfl Try.func9 (by kernel_rfl) rfl #[.slice A0 l0.length c0] rfl qz4 ?_; (with_reducible refine (laws_toIntSS.calls k _ _ l0 t308 _ ?side1 ?side2 A4.out).mono ?_); (case side1 => exact qz5); (case side2 => exact HC0.out); rintro e w9 ⟨v309, rfl, ho0, hb⟩; refine ⟨_, rfl, ?_⟩; have HO310 := aM (Kd.S_lower ho0 (below_size qz1)); replace HB := bS_ hb; (try clear hb ho0); obtain ⟨Ao10, co10, eo10⟩ := Kd.S_slice HO310.out; subst eo10) | ((with_reducible refine gate_callee (f := 8) rfl ?_); refine goesL_ (some 22) rfl rfl Try.func8 (by kernel_rfl) rfl #[.slice Ao10 t308.length co10] rfl qz4 ?_; (with_reducible refine (spec_Match.calls k (fun k_ => True) _ _ t308 t311 t314 _ ?side1 A5.out).mono ?_); (case side1 => exact Kd.S_V (HO310.out)); rintro e w11 ⟨v312, rfl, ho0, hb⟩; refine ⟨_, rfl, ?_⟩; replace HO310 := aM (Kd.S_elder' (rs_ HO310.out) (Kd.R_base ho0) hb); have HO313 := aM (Kd.R_lower (Kd.R_mono (ok' := fun k_ => True) ho0 (fun _ hk_ => trivial)) (below_size qz1)); replace HB := bS_ hb; (try clear hb ho0)) | ((with_reducible refine gate_callee (f := 9) rfl ?_); refine goesL_ (some 26) rfl rfl Try.func9 (by kernel_rfl) rfl #[.slice A0 l0.length c0] rfl qz4 ?_; (with_reducible refine (laws_toIntSS.calls k _ _ l0 t315 _ ?side1 ?side2 A6.out).mono ?_); (case side1 => repeat (first | exact (Kd.C_below HR0.out HB.out) | (with_reducible refine Kd.C_alloc ?_ _) | (with_reducible refine Kd.C_drewN ?_ _) | (with_reducible refine Kd.C_drew ?_))); (case side2 => exact HC0.out); rintro e w12 ⟨v316, rfl, ho0, hb⟩; refine ⟨_, rfl, ?_⟩; have HO317 := aM (Kd.S_lower (Kd.S_new' (Kd.S_new' ho0 (Kd.S_lt (rs_ HO310.out))) (Kd.R_lt (rr_ HO313.out))) (below_size qz1)); replace HO310 := aM (Kd.S_elder' (rs_ HO310.out) (Kd.S_base ho0) hb); replace HO313 := aM (Kd.R_below (rr_ HO313.out) hb); replace HB := bS_ hb; (try clear hb ho0); obtain ⟨Ao13, co13, eo13⟩ := Kd.S_slice HO317.out; subst eo13) | ((with_reducible refine gate_callee (f := 10) rfl ?_); refine goesL_ (some 29) rfl rfl Try.func10 (by kernel_rfl) rfl #[.slice Ao13 t315.length co13] rfl qz4 ?_; (with_reducible refine (impl_Match.calls k _ _ t315 t318 t319 _ ?side1 ?side2 A7.out).mono ?_); (case side1 => repeat (first | exact (Kd.S_reads' HO317.out).2.2 | (with_reducible refine Kd.C_alloc ?_ _) | (with_reducible refine Kd.C_drewN ?_ _) | (with_reducible refine Kd.C_drew ?_))); (case side2 => exact (Kd.S_reads' HO317.out).2.1); rintro e w14 ⟨v320, rfl, ho0, hb⟩; refine ⟨_, rfl, ?_⟩; replace HO310 := aM (Kd.S_elder' (rs_ HO310.out) (Kd.R_base ho0) hb); replace HO317 := aM (Kd.S_elder' (rs_ HO317.out) (Kd.R_base ho0) hb); have HO321 := aM (Kd.R_lower (Kd.R_new' ho0 (Kd.R_lt (rr_ HO313.out))) (below_size qz1)); replace HO313 := aM (Kd.R_elder' (rr_ HO313.out) (Kd.R_base ho0) hb); replace HB := bS_ hb; (try clear hb ho0)))
 (try simp only [Act.put, List.setIfInBounds_toArray, List.set_cons_zero, List.set_cons_succ])
 go_cut [40] (fun v40 wc => ∃ (kq : Nat) (x40_7 : Bool), v40 = .bool x40_7 ∧ Aside0 (laws_FnExactMatch.j0 kq l0 t311 t314 t315 t318 t319 x40_7 = some r) ∧ Aside0 (kq ≤ k) ∧ Aside0 (Kd.R (Kd.int .i64) 3 wc w.heap.size (fun k_ => some k_ ≠ (v320 : Value).ownBlock) v312 t311) ∧ Aside0 (Kd.S (Kd.slice 3 (Kd.int .i64)) 24 wc w.heap.size (fun k_ => some k_ ≠ (v312 : Value).ownBlock ∧ some k_ ≠ (v320 : Value).ownBlock) (.slice Ao13 t315.length co13) t315) ∧ Aside0 (Kd.R (Kd.int .i64) 3 wc w.heap.size (fun k_ => some k_ ≠ (v312 : Value).ownBlock) v320 t318) ∧ Aside0 (Below w.heap.size w wc))
 case first =>
  have H := HC8.out
  clear HC8
  replace H := Option.bind_eq_some_iff.mp H
  obtain ⟨t322, A150, H⟩ := H
  replace H : (if t322 = true then (laws_FnExactMatch.j0 k l0 t311 t314 t315 t318 t319 (t319 != t314)) else (laws_FnExactMatch.j0 k l0 t311 t314 t315 t318 t319 true)) = some r := H
  have A15 := aM A150
  clear A150
  by_cases c16 : t322 = true
  {
  subst c16
  rw [if_pos rfl] at H
  have H' := aM H
  clear H
  obtain ⟨Ao17, co17, eo17⟩ := Kd.R_slice HO321.out
  subst eo17
  obtain ⟨Ao18, co18, eo18⟩ := Kd.R_slice HO313.out
  subst eo18
  go_wp2_with (first | ((with_reducible refine gate_callee (f := 11) rfl ?_); refine goesL_ (some 34) rfl rfl Try.func11 (by kernel_rfl) rfl #[.slice Ao17 t318.length co17, .slice Ao18 t311.length co18] rfl qz4 ?_; (with_reducible refine (laws_eqIntS.calls k _ _ t318 _ _ t311 true _ ?side1 ?side2 ?side3 ?side4 A15.out).mono ?_); (case side1 => repeat (first | exact (Kd.R_reads' HO321.out).2.2 | (with_reducible refine Kd.C_alloc ?_ _) | (with_reducible refine Kd.C_drewN ?_ _) | (with_reducible refine Kd.C_drew ?_))); (case side2 => exact (Kd.R_reads' HO321.out).2.1); (case side3 => repeat (first | exact (Kd.R_reads' HO313.out).2.2 | (with_reducible refine Kd.C_alloc ?_ _) | (with_reducible refine Kd.C_drewN ?_ _) | (with_reducible refine Kd.C_drew ?_))); (case side4 => exact (Kd.R_reads' HO313.out).2.1); rintro e w' ⟨rfl, ⟨nd, rfl⟩⟩; refine ⟨_, rfl, ?_⟩))
  go_meet
  case rel => exact ⟨_, ((t319 != t314)), qz3, H', ⟨by first | omega | exact Nat.le_refl _⟩, ⟨by (with_reducible repeat (first | apply Kd.R_alloc | apply Kd.R_drewN | apply Kd.R_drew)); exact Kd.R_mono HO313.out (fun _ hk => hk.2)⟩, ⟨by (with_reducible repeat (first | apply Kd.S_alloc | apply Kd.S_drewN | apply Kd.S_drew)); exact Kd.S_mono HO317.out (fun _ hk => ⟨hk.1.2, hk.2⟩)⟩, ⟨by (with_reducible repeat (first | apply Kd.R_alloc | apply Kd.R_drewN | apply Kd.R_drew)); exact Kd.R_mono HO321.out (fun _ hk => hk.2)⟩, ⟨qz1⟩⟩
  }
  {
  replace c16 := Bool.eq_false_iff.mpr c16
  subst c16
  rw [if_neg (show ¬ (false = true) by decide)] at H
  have H' := aM H
  clear H
  obtain ⟨Ao19, co19, eo19⟩ := Kd.R_slice HO321.out
  subst eo19
  obtain ⟨Ao20, co20, eo20⟩ := Kd.R_slice HO313.out
  subst eo20
  go_wp2_with (first | ((with_reducible refine gate_callee (f := 11) rfl ?_); refine goesL_ (some 34) rfl rfl Try.func11 (by kernel_rfl) rfl #[.slice Ao19 t318.length co19, .slice Ao20 t311.length co20] rfl qz4 ?_; (with_reducible refine (laws_eqIntS.calls k _ _ t318 _ _ t311 false _ ?side1 ?side2 ?side3 ?side4 A15.out).mono ?_); (case side1 => repeat (first | exact (Kd.R_reads' HO321.out).2.2 | (with_reducible refine Kd.C_alloc ?_ _) | (with_reducible refine Kd.C_drewN ?_ _) | (with_reducible refine Kd.C_drew ?_))); (case side2 => exact (Kd.R_reads' HO321.out).2.1); (case side3 => repeat (first | exact (Kd.R_reads' HO313.out).2.2 | (with_reducible refine Kd.C_alloc ?_ _) | (with_reducible refine Kd.C_drewN ?_ _) | (with_reducible refine Kd.C_drew ?_))); (case side4 => exact (Kd.R_reads' HO313.out).2.1); rintro e w' ⟨rfl, ⟨nd, rfl⟩⟩; refine ⟨_, rfl, ?_⟩))
  go_meet
  case rel => exact ⟨_, (true), qz3, H', ⟨by first | omega | exact Nat.le_refl _⟩, ⟨by (with_reducible repeat (first | apply Kd.R_alloc | apply Kd.R_drewN | apply Kd.R_drew)); exact Kd.R_mono HO313.out (fun _ hk => hk.2)⟩, ⟨by (with_reducible repeat (first | apply Kd.S_alloc | apply Kd.S_drewN | apply Kd.S_drew)); exact Kd.S_mono HO317.out (fun _ hk => ⟨hk.1.2, hk.2⟩)⟩, ⟨by (with_reducible repeat (first | apply Kd.R_alloc | apply Kd.R_drewN | apply Kd.R_drew)); exact Kd.R_mono HO321.out (fun _ hk => hk.2)⟩, ⟨qz1⟩⟩
  }
 case rest =>
  clear HC8
  try clear c1
  try clear p2
  try clear c3
  try clear c3b0
  try clear c7
  try clear c8
  try clear c9
  try clear c10
  try clear c11
  try clear c16
  obtain ⟨kq, x40_7, rfl, HA, HJ7, HO_4, HO_6, HO_7, HB⟩ := hcut
  cases kq with
  | zero => exact absurd HA.out (by simp [laws_FnExactMatch.j0])
  | succ kj7 =>
   have H := HA.out
   clear HA
   simp only [laws_FnExactMatch.j0] at H
   by_cases c21 : x40_7 = true
   {
   subst c21
   rw [if_pos rfl] at H
   obtain rfl := Option.some.inj H
   exact absurd HTR_.out (by decide)
   }
   {
   replace c21 := Bool.eq_false_iff.mpr c21
   subst c21
   rw [if_neg (show ¬ (false = true) by decide)] at H
   replace H := Option.bind_eq_some_iff.mp H
   obtain ⟨t323, A220, H⟩ := H
   replace H : ((laws_eqIntSS.f kj7 t315 t323).bind fun t326 => (if t326 = true then ((laws_markIntSS.f kj7 t315 1).bind fun t327 => (if t327 < 0 then (laws_FnExactMatch.j1 kj7 l0 t311 t314 t318 true) else ((laws_eqIntS.f kj7 t318 t311).bind fun t328 => (if t328 = true then (laws_FnExactMatch.j1 kj7 l0 t311 t314 t318 (t319 != t314)) else (laws_FnExactMatch.j1 kj7 l0 t311 t314 t318 true))))) else (some false))) = some r := H
   have A22 := aM A220
   clear A220
   replace H := Option.bind_eq_some_iff.mp H
   obtain ⟨t326, A230, H⟩ := H
   replace H : (if t326 = true then ((laws_markIntSS.f kj7 t315 1).bind fun t327 => (if t327 < 0 then (laws_FnExactMatch.j1 kj7 l0 t311 t314 t318 true) else ((laws_eqIntS.f kj7 t318 t311).bind fun t328 => (if t328 = true then (laws_FnExactMatch.j1 kj7 l0 t311 t314 t318 (t319 != t314)) else (laws_FnExactMatch.j1 kj7 l0 t311 t314 t318 true))))) else (some false)) = some r := H
   have A23 := aM A230
   clear A230
   by_cases c24 : t326 = true
   {
   subst c24
   rw [if_pos rfl] at H
   replace H := Option.bind_eq_some_iff.mp H
   obtain ⟨t327, A250, H⟩ := H
   replace H : (if t327 < 0 then (laws_FnExactMatch.j1 kj7 l0 t311 t314 t318 true) else ((laws_eqIntS.f kj7 t318 t311).bind fun t328 => (if t328 = true then (laws_FnExactMatch.j1 kj7 l0 t311 t314 t318 (t319 != t314)) else (laws_FnExactMatch.j1 kj7 l0 t311 t314 t318 true)))) = some r := H
   have A25 := aM A250
   clear A250
   have HC26 := aM H
   clear H
   go_upto_region 14 with (first | ((with_reducible refine gate_callee (f := 9) rfl ?_); refine goesL_ (some 43) rfl rfl Try.func9 (by kernel_rfl) rfl #[.slice A0 l0.length c0] rfl qz4 ?_; (with_reducible refine (laws_toIntSS.calls kj7 _ _ l0 t323 _ ?side1 ?side2 A22.out).mono ?_); (case side1 => repeat (first | exact (Kd.C_below HR0.out HB.out) | (with_reducible refine Kd.C_alloc ?_ _) | (with_reducible refine Kd.C_drewN ?_ _) | (with_reducible refine Kd.C_drew ?_))); (case side2 => exact HC0.out); rintro e w27 ⟨v324, rfl, ho0, hb⟩; refine ⟨_, rfl, ?_⟩; have HO325 := aM (Kd.S_lower (Kd.S_new' (Kd.S_new' (Kd.S_new' ho0 (Kd.R_lt (rr_ HO_4.out))) (Kd.S_lt (rs_ HO_6.out))) (Kd.R_lt (rr_ HO_7.out))) (below_size qz1)); replace HO_4 := aM (Kd.R_below (rr_ HO_4.out) hb); replace HO_6 := aM (Kd.S_elder' (rs_ HO_6.out) (Kd.S_base ho0) hb); replace HO_7 := aM (Kd.R_below (rr_ HO_7.out) hb); replace HB := bS_ hb; (try clear hb ho0); obtain ⟨Ao28, co28, eo28⟩ := Kd.S_slice HO325.out; subst eo28) | ((with_reducible refine gate_callee (f := 12) rfl ?_); refine goesL_ (some 44) rfl rfl Try.func12 (by kernel_rfl) rfl #[.slice Ao13 t315.length co13, .slice Ao28 t323.length co28] rfl qz4 ?_; (with_reducible refine (laws_eqIntSS.calls kj7 _ _ t315 _ _ t323 true _ ?side1 ?side2 ?side3 ?side4 A23.out).mono ?_); (case side1 => repeat (first | exact (Kd.S_reads' HO_6.out).2.2 | (with_reducible refine Kd.C_alloc ?_ _) | (with_reducible refine Kd.C_drewN ?_ _) | (with_reducible refine Kd.C_drew ?_))); (case side2 => exact (Kd.S_reads' HO_6.out).2.1); (case side3 => repeat (first | exact (Kd.S_reads' HO325.out).2.2 | (with_reducible refine Kd.C_alloc ?_ _) | (with_reducible refine Kd.C_drewN ?_ _) | (with_reducible refine Kd.C_drew ?_))); (case side4 => exact (Kd.S_reads' HO325.out).2.1); rintro e w' ⟨rfl, ⟨nd, rfl⟩⟩; refine ⟨_, rfl, ?_⟩) | ((with_reducible refine gate_callee (f := 13) rfl ?_); refine goesL_ (some 48) rfl rfl Try.func13 (by kernel_rfl) rfl #[.slice Ao13 t315.length co13, .int .i64 1] rfl qz4 ?_; (first | refine (laws_markIntSS.calls kj7 _ _ t315 1 t327 w _ ?side1 (Kd.S_drewN HO_6.out _) A25.out).mono ?_ | refine (laws_markIntSS.calls kj7 _ _ t315 1 t327 w _ ?side1 HO_6.out A25.out).mono ?_); (case side1 => exact qz1); rintro e w29 ⟨rfl, hb2, hk2⟩; refine ⟨_, rfl, ?_⟩; replace HO_4 := aM (laws_markIntSS.keep hk2 (rr_ HO_4.out) (fun k_ hp_ => qz25)); replace HO_7 := aM (laws_markIntSS.keep hk2 (rr_ HO_7.out) (fun k_ hp_ => qz25)); replace HB := aM hb2; clear HO_6 HO325 hb2 hk2))
   (try simp only [Act.put, List.setIfInBounds_toArray, List.set_cons_zero, List.set_cons_succ])
   go_cut [61] (fun v61 wc => ∃ (kq : Nat) (x61_25 : Bool), v61 = .bool x61_25 ∧ Aside0 (laws_FnExactMatch.j1 kq l0 t311 t314 t318 x61_25 = some r) ∧ Aside0 (kq ≤ kj7) ∧ Aside0 (Kd.R (Kd.int .i64) 3 wc w.heap.size (fun k_ => some k_ ≠ (v320 : Value).ownBlock) v312 t311) ∧ Aside0 (Kd.R (Kd.int .i64) 3 wc w.heap.size (fun k_ => some k_ ≠ (v312 : Value).ownBlock) v320 t318) ∧ Aside0 (Below w.heap.size w wc))
   case first =>
    have H := HC26.out
    clear HC26
    by_cases c30 : t327 < 0
    {
    rw [if_pos c30] at H
    have c30b0 := decide_eq_true c30
    clear c30
    (first | rw [c30b0] | (simp only [i64_w, i32_w]; rw [c30b0]) | rw [@decide_eq_true _ _ (of_decide_eq_true c30b0)] | rw [@decide_eq_true _ _ (of_decide_eq_true c30b1)] | skip)
    have H' := aM H
    clear H
    go_wp2
    go_meet
    case rel => exact ⟨_, (true), qz3, H', ⟨by have := HJ7.out; first | omega | exact Nat.le_refl _⟩, ⟨rm_ HO_4.out⟩, ⟨rm_ HO_7.out⟩, ⟨qz1⟩⟩
    }
    {
    rw [if_neg c30] at H
    have c30b0 := decide_eq_false c30
    clear c30
    (first | rw [c30b0] | (simp only [i64_w, i32_w]; rw [c30b0]) | rw [@decide_eq_false _ _ (of_decide_eq_false c30b0)] | rw [@decide_eq_false _ _ (of_decide_eq_false c30b1)] | skip)
    replace H := Option.bind_eq_some_iff.mp H
    obtain ⟨t328, A310, H⟩ := H
    replace H : (if t328 = true then (laws_FnExactMatch.j1 kj7 l0 t311 t314 t318 (t319 != t314)) else (laws_FnExactMatch.j1 kj7 l0 t311 t314 t318 true)) = some r := H
    have A31 := aM A310
    clear A310
    by_cases c32 : t328 = true
    {
    subst c32
    rw [if_pos rfl] at H
    have H' := aM H
    clear H
    obtain ⟨Ao33, co33, eo33⟩ := Kd.R_slice HO_7.out
    subst eo33
    obtain ⟨Ao34, co34, eo34⟩ := Kd.R_slice HO_4.out
    subst eo34
    go_wp2_with (first | (go_at_call 11; (with_reducible refine (laws_eqIntS.calls kj7 _ _ t318 _ _ t311 true _ ?side1 ?side2 ?side3 ?side4 A31.out).mono ?_); (case side1 => exact qz20); (case side2 => exact (Kd.R_reads' HO_7.out).2.1); (case side3 => exact qz21); (case side4 => exact (Kd.R_reads' HO_4.out).2.1); rintro e w' ⟨rfl, ⟨nd, rfl⟩⟩))
    go_meet
    case rel => exact ⟨_, ((t319 != t314)), qz3, H', ⟨by have := HJ7.out; first | omega | exact Nat.le_refl _⟩, ⟨rm_ HO_4.out⟩, ⟨rm_ HO_7.out⟩, ⟨qz1⟩⟩
    }
    {
    replace c32 := Bool.eq_false_iff.mpr c32
    subst c32
    rw [if_neg (show ¬ (false = true) by decide)] at H
    have H' := aM H
    clear H
    obtain ⟨Ao35, co35, eo35⟩ := Kd.R_slice HO_7.out
    subst eo35
    obtain ⟨Ao36, co36, eo36⟩ := Kd.R_slice HO_4.out
    subst eo36
    go_wp2_with (first | (go_at_call 11; (with_reducible refine (laws_eqIntS.calls kj7 _ _ t318 _ _ t311 false _ ?side1 ?side2 ?side3 ?side4 A31.out).mono ?_); (case side1 => exact qz20); (case side2 => exact (Kd.R_reads' HO_7.out).2.1); (case side3 => exact qz21); (case side4 => exact (Kd.R_reads' HO_4.out).2.1); rintro e w' ⟨rfl, ⟨nd, rfl⟩⟩))
    go_meet
    case rel => exact ⟨_, (true), qz3, H', ⟨by have := HJ7.out; first | omega | exact Nat.le_refl _⟩, ⟨rm_ HO_4.out⟩, ⟨rm_ HO_7.out⟩, ⟨qz1⟩⟩
    }
    }
   case rest =>
    clear HC26
    try clear c1
    try clear c2
    try clear p2
    try clear c3
    try clear c3b0
    try clear c7
    try clear c8
    try clear c9
    try clear c10
    try clear c11
    try clear c12
    try clear c13
    try clear c16
    try clear c21
    try clear c24
    try clear c30
    try clear c30b0
    try clear c30b1
    try clear c32
    obtain ⟨kq, x61_25, rfl, HA, HJ25, HO_4, HO_7, HB⟩ := hcut
    cases kq with
    | zero => exact absurd HA.out (by simp [laws_FnExactMatch.j1])
    | succ kj25 =>
     have H := HA.out
     clear HA
     simp only [laws_FnExactMatch.j1] at H
     by_cases c37 : x61_25 = true
     {
     subst c37
     rw [if_pos rfl] at H
     obtain rfl := Option.some.inj H
     exact absurd HTR_.out (by decide)
     }
     {
     replace c37 := Bool.eq_false_iff.mpr c37
     subst c37
     rw [if_neg (show ¬ (false = true) by decide)] at H
     replace H := Option.bind_eq_some_iff.mp H
     obtain ⟨⟨t329, t330⟩, A380, H⟩ := H
     replace H : ((laws_heldIntS.f kj25 t330 1).bind fun t331 => (if t331 < 0 then (some false) else (if t331 = t329 then ((laws_toIntSS.f kj25 l0).bind fun t332 => ((impl_Match.f kj25 t332).bind fun bt335 => ((laws_eqIntS.f kj25 bt335.1 t311).bind fun t339 => (if t339 = true then (laws_FnExactMatch.j2 kj25 t330 t329 (bt335.2 != t314)) else (laws_FnExactMatch.j2 kj25 t330 t329 true))))) else (some false)))) = some r := H
     have A38 := aM A380
     clear A380
     replace H := Option.bind_eq_some_iff.mp H
     obtain ⟨t331, A390, H⟩ := H
     replace H : (if t331 < 0 then (some false) else (if t331 = t329 then ((laws_toIntSS.f kj25 l0).bind fun t332 => ((impl_Match.f kj25 t332).bind fun bt335 => ((laws_eqIntS.f kj25 bt335.1 t311).bind fun t339 => (if t339 = true then (laws_FnExactMatch.j2 kj25 t330 t329 (bt335.2 != t314)) else (laws_FnExactMatch.j2 kj25 t330 t329 true))))) else (some false))) = some r := H
     have A39 := aM A390
     clear A390
     by_cases c40 : t331 < 0
     {
     rw [if_pos c40] at H
     have c40b0 := decide_eq_true c40
     clear c40
     obtain rfl := Option.some.inj H
     exact absurd HTR_.out (by decide)
     }
     {
     rw [if_neg c40] at H
     have c40b0 := decide_eq_false c40
     clear c40
     by_cases c41 : t331 = t329
     {
     rw [if_pos c41] at H
     have c41b0 := beq_iff_eq.mpr c41
     have c41b1 := bne_eq_false_iff_eq.mpr c41
     clear c41
     replace H := Option.bind_eq_some_iff.mp H
     obtain ⟨t332, A420, H⟩ := H
     replace H : ((impl_Match.f kj25 t332).bind fun bt335 => ((laws_eqIntS.f kj25 bt335.1 t311).bind fun t339 => (if t339 = true then (laws_FnExactMatch.j2 kj25 t330 t329 (bt335.2 != t314)) else (laws_FnExactMatch.j2 kj25 t330 t329 true)))) = some r := H
     have A42 := aM A420
     clear A420
     replace H := Option.bind_eq_some_iff.mp H
     obtain ⟨⟨t335, t336⟩, A430, H⟩ := H
     replace H : ((laws_eqIntS.f kj25 t335 t311).bind fun t339 => (if t339 = true then (laws_FnExactMatch.j2 kj25 t330 t329 (t336 != t314)) else (laws_FnExactMatch.j2 kj25 t330 t329 true))) = some r := H
     have A43 := aM A430
     clear A430
     have HC44 := aM H
     clear H
     obtain ⟨Ao45, co45, eo45⟩ := Kd.R_slice HO_7.out
     subst eo45
     go_upto_region 25 with (first | ((with_reducible refine gate_callee (f := 14) rfl ?_); refine goesL_ (some 64) rfl rfl Try.func14 (by kernel_rfl) rfl #[.slice Ao45 t318.length co45, .int .i64 1] rfl qz4 ?_; (with_reducible refine (laws_markIntS.calls kj25 (fun k_ => some k_ = (.slice Ao45 t318.length co45 : Value).ownBlock) (.slice Ao45 t318.length co45) t318 1 t329 t330 w _ ?side1 ?side2 A38.out).mono ?_); (case side1 => exact qz1); (case side2 => exact Kd.R_tight rfl HO_7.out); rintro e w46 ⟨rfl, hy0, hb, hkp⟩; refine ⟨_, rfl, ?_⟩; replace HO_4 := aM (Kd.R_mono (ok' := fun k_ => some k_ ≠ (.slice Ao45 t318.length co45 : Value).ownBlock) (Kd.R_keptB (HO_4.out) hkp (fun k_ hk_ hs_ => (hk_) hs_)) (fun k_ hk_ => hk_.1)); replace HO_7 := aM (Kd.R_reok rfl hy0 (fun k_ e_ => HO_7.out.1 k_ e_)); replace HB := aM (hb); (try clear hb); (try clear hkp); (try clear hy0)) | ((with_reducible refine gate_callee (f := 15) rfl ?_); refine goesL_ (some 67) rfl rfl Try.func15 (by kernel_rfl) rfl #[.slice Ao45 t330.length co45, .int .i64 1] rfl (by (try simp only [List.map_toArray, List.map_cons, List.map_nil]); first | done | (rw [show t330.length = t318.length from (Kd.R_reads' HO_7.out).1.symm] <;> rfl) | rfl | (simp only [List.length_drop, List.length_take]; rfl)) ?_; (with_reducible refine (laws_heldIntS.calls kj25 _ _ t330 1 t331 _ ?side1 ?side2 A39.out).mono ?_); (case side1 => exact qz20); (case side2 => rw [show t330.length = t318.length from (Kd.R_reads' HO_7.out).1.symm]; exact (Kd.R_reads' HO_7.out).2.1); rintro e w' ⟨rfl, ⟨nd, rfl⟩⟩; refine ⟨_, rfl, ?_⟩) | ((with_reducible refine gate_callee (f := 9) rfl ?_); refine goesL_ (some 75) rfl rfl Try.func9 (by kernel_rfl) rfl #[.slice A0 l0.length c0] rfl qz4 ?_; (with_reducible refine (laws_toIntSS.calls kj25 _ _ l0 t332 _ ?side1 ?side2 A42.out).mono ?_); (case side1 => repeat (first | exact (Kd.C_below HR0.out qz1) | (with_reducible refine Kd.C_alloc ?_ _) | (with_reducible refine Kd.C_drewN ?_ _) | (with_reducible refine Kd.C_drew ?_))); (case side2 => exact HC0.out); rintro e w47 ⟨v333, rfl, ho0, hb⟩; refine ⟨_, rfl, ?_⟩; have HO334 := aM (Kd.S_lower (Kd.S_new' (Kd.S_new' ho0 (Kd.R_lt (rr_ HO_4.out))) (Kd.R_lt (rr_ HO_7.out))) (below_size qz1)); replace HO_4 := aM (Kd.R_below (rr_ HO_4.out) hb); replace HO_7 := aM (Kd.R_below (rr_ HO_7.out) hb); replace HB := bS_ hb; (try clear hb ho0); obtain ⟨Ao48, co48, eo48⟩ := Kd.S_slice HO334.out; subst eo48) | ((with_reducible refine gate_callee (f := 10) rfl ?_); refine goesL_ (some 76) rfl rfl Try.func10 (by kernel_rfl) rfl #[.slice Ao48 t332.length co48] rfl qz4 ?_; (with_reducible refine (impl_Match.calls kj25 _ _ t332 t335 t336 _ ?side1 ?side2 A43.out).mono ?_); (case side1 => repeat (first | exact (Kd.S_reads' HO334.out).2.2 | (with_reducible refine Kd.C_alloc ?_ _) | (with_reducible refine Kd.C_drewN ?_ _) | (with_reducible refine Kd.C_drew ?_))); (case side2 => exact (Kd.S_reads' HO334.out).2.1); rintro e w49 ⟨v337, rfl, ho0, hb⟩; refine ⟨_, rfl, ?_⟩; replace HO334 := aM (Kd.S_elder' (rs_ HO334.out) (Kd.R_base ho0) hb); have HO338 := aM (Kd.R_lower (Kd.R_new' (Kd.R_new' ho0 (Kd.R_lt (rr_ HO_4.out))) (Kd.R_lt (rr_ HO_7.out))) (below_size qz1)); replace HO_4 := aM (Kd.R_elder' (rr_ HO_4.out) (Kd.R_base ho0) hb); replace HO_7 := aM (Kd.R_elder' (rr_ HO_7.out) (Kd.R_base ho0) hb); replace HB := bS_ hb; (try clear hb ho0)))
     (try simp only [Act.put, List.setIfInBounds_toArray, List.set_cons_zero, List.set_cons_succ])
     go_cut [87] (fun v87 wc => ∃ (kq : Nat) (x87_43 : Bool), v87 = .bool x87_43 ∧ Aside0 (laws_FnExactMatch.j2 kq t330 t329 x87_43 = some r) ∧ Aside0 (kq ≤ kj25) ∧ Aside0 (Kd.R (Kd.int .i64) 3 wc w.heap.size (fun _ => True) (.slice Ao45 t318.length co45) t330) ∧ Aside0 (Below w.heap.size w wc))
     case first =>
      have H := HC44.out
      clear HC44
      replace H := Option.bind_eq_some_iff.mp H
      obtain ⟨t339, A500, H⟩ := H
      replace H : (if t339 = true then (laws_FnExactMatch.j2 kj25 t330 t329 (t336 != t314)) else (laws_FnExactMatch.j2 kj25 t330 t329 true)) = some r := H
      have A50 := aM A500
      clear A500
      by_cases c51 : t339 = true
      {
      subst c51
      rw [if_pos rfl] at H
      have H' := aM H
      clear H
      obtain ⟨Ao52, co52, eo52⟩ := Kd.R_slice HO338.out
      subst eo52
      obtain ⟨Ao53, co53, eo53⟩ := Kd.R_slice HO_4.out
      subst eo53
      go_wp2_with (first | ((with_reducible refine gate_callee (f := 11) rfl ?_); refine goesL_ (some 81) rfl rfl Try.func11 (by kernel_rfl) rfl #[.slice Ao52 t335.length co52, .slice Ao53 t311.length co53] rfl qz4 ?_; (with_reducible refine (laws_eqIntS.calls kj25 _ _ t335 _ _ t311 true _ ?side1 ?side2 ?side3 ?side4 A50.out).mono ?_); (case side1 => repeat (first | exact (Kd.R_reads' HO338.out).2.2 | (with_reducible refine Kd.C_alloc ?_ _) | (with_reducible refine Kd.C_drewN ?_ _) | (with_reducible refine Kd.C_drew ?_))); (case side2 => exact (Kd.R_reads' HO338.out).2.1); (case side3 => exact qz21); (case side4 => exact (Kd.R_reads' HO_4.out).2.1); rintro e w' ⟨rfl, ⟨nd, rfl⟩⟩; refine ⟨_, rfl, ?_⟩))
      go_meet
      case rel => exact ⟨_, ((t336 != t314)), qz3, H', ⟨by have := HJ7.out; have := HJ25.out; first | omega | exact Nat.le_refl _⟩, ⟨by (with_reducible repeat (first | apply Kd.R_alloc | apply Kd.R_drewN | apply Kd.R_drew)); exact Kd.R_mono HO_7.out (fun _ hk => trivial)⟩, ⟨qz1⟩⟩
      }
      {
      replace c51 := Bool.eq_false_iff.mpr c51
      subst c51
      rw [if_neg (show ¬ (false = true) by decide)] at H
      have H' := aM H
      clear H
      obtain ⟨Ao54, co54, eo54⟩ := Kd.R_slice HO338.out
      subst eo54
      obtain ⟨Ao55, co55, eo55⟩ := Kd.R_slice HO_4.out
      subst eo55
      go_wp2_with (first | ((with_reducible refine gate_callee (f := 11) rfl ?_); refine goesL_ (some 81) rfl rfl Try.func11 (by kernel_rfl) rfl #[.slice Ao54 t335.length co54, .slice Ao55 t311.length co55] rfl qz4 ?_; (with_reducible refine (laws_eqIntS.calls kj25 _ _ t335 _ _ t311 false _ ?side1 ?side2 ?side3 ?side4 A50.out).mono ?_); (case side1 => repeat (first | exact (Kd.R_reads' HO338.out).2.2 | (with_reducible refine Kd.C_alloc ?_ _) | (with_reducible refine Kd.C_drewN ?_ _) | (with_reducible refine Kd.C_drew ?_))); (case side2 => exact (Kd.R_reads' HO338.out).2.1); (case side3 => exact qz21); (case side4 => exact (Kd.R_reads' HO_4.out).2.1); rintro e w' ⟨rfl, ⟨nd, rfl⟩⟩; refine ⟨_, rfl, ?_⟩))
      go_meet
      case rel => exact ⟨_, (true), qz3, H', ⟨by have := HJ7.out; have := HJ25.out; first | omega | exact Nat.le_refl _⟩, ⟨by (with_reducible repeat (first | apply Kd.R_alloc | apply Kd.R_drewN | apply Kd.R_drew)); exact Kd.R_mono HO_7.out (fun _ hk => trivial)⟩, ⟨qz1⟩⟩
      }
     case rest =>
      clear HC44
      try clear c1
      try clear c2
      try clear p2
      try clear c3
      try clear c3b0
      try clear c4
      try clear c5
      try clear c7
      try clear c8
      try clear c9
      try clear c10
      try clear c11
      try clear c12
      try clear c13
      try clear c14
      try clear c15
      try clear c16
      try clear c21
      try clear c24
      try clear c30
      try clear c30b0
      try clear c30b1
      try clear c32
      try clear c37
      try clear c40
      try clear c40b0
      try clear c41
      try clear c41b0
      try clear c41b1
      try clear c51
      obtain ⟨kq, x87_43, rfl, HA, HJ43, HO_7, HB⟩ := hcut
      have hl7_43 := (Kd.R_reads' HO_7.out).1
      rw [hl7_43] at HO_7
      (try simp only [hl7_43])
      cases kq with
      | zero => exact absurd HA.out (by simp [laws_FnExactMatch.j2])
      | succ kj43 =>
       have H := HA.out
       clear HA
       simp only [laws_FnExactMatch.j2] at H
       by_cases c56 : x87_43 = true
       {
       subst c56
       rw [if_pos rfl] at H
       obtain rfl := Option.some.inj H
       exact absurd HTR_.out (by decide)
       }
       {
       replace c56 := Bool.eq_false_iff.mpr c56
       subst c56
       rw [if_neg (show ¬ (false = true) by decide)] at H
       replace H := Option.bind_eq_some_iff.mp H
       obtain ⟨t340, A570, H⟩ := H
       replace H : (if t340 < 0 then (some false) else (if t340 = t329 then (some true) else (some false))) = some r := H
       have A57 := aM A570
       clear A570
       by_cases c58 : t340 < 0
       {
       rw [if_pos c58] at H
       have c58b0 := decide_eq_true c58
       clear c58
       obtain rfl := Option.some.inj H
       exact absurd HTR_.out (by decide)
       }
       {
       rw [if_neg c58] at H
       have c58b0 := decide_eq_false c58
       clear c58
       by_cases c59 : t340 = t329
       {
       rw [if_pos c59] at H
       have c59b0 := beq_iff_eq.mpr c59
       have c59b1 := bne_eq_false_iff_eq.mpr c59
       clear c59
       obtain rfl := Option.some.inj H
       simp only [Option.some.injEq, Prod.mk.injEq] at H
       obtain ⟨rfl⟩ := H
       go_wp2_with (first | ((with_reducible refine gate_callee (f := 15) rfl ?_); refine goesL_ (some 90) rfl rfl Try.func15 (by kernel_rfl) rfl #[.slice Ao45 t330.length co45, .int .i64 1] rfl qz4 ?_; (with_reducible refine (laws_heldIntS.calls kj43 _ _ t330 1 t340 _ ?side1 ?side2 A57.out).mono ?_); (case side1 => exact qz20); (case side2 => exact (Kd.R_reads' HO_7.out).2.1); rintro e w' ⟨rfl, ⟨nd, rfl⟩⟩; refine ⟨_, rfl, ?_⟩))
       go_ret
       exact ⟨qzw, qz1⟩
       }
       {
       rw [if_neg c59] at H
       have c59b0 := beq_eq_false_iff_ne.mpr c59
       have c59b1 := bne_iff_ne.mpr c59
       obtain rfl := Option.some.inj H
       exact absurd HTR_.out (by decide)
       }
       }
       }
     }
     {
     rw [if_neg c41] at H
     have c41b0 := beq_eq_false_iff_ne.mpr c41
     have c41b1 := bne_iff_ne.mpr c41
     obtain rfl := Option.some.inj H
     exact absurd HTR_.out (by decide)
     }
     }
     }
   }
   {
   replace c24 := Bool.eq_false_iff.mpr c24
   subst c24
   rw [if_neg (show ¬ (false = true) by decide)] at H
   obtain rfl := Option.some.inj H
   exact absurd HTR_.out (by decide)

   }
   }
 }
end Go.Proofs.Ytbebfhlejnidkaa.PFnExactMatch
