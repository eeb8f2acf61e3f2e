-- Made by a program of this session out of the translation. Lean checks it.
import Derived.Test.YtankmdbbgepmbaaPFnTurnsx6
namespace Go.Proofs.Ytankmdbbgepmbaa.PFnTurns
open Go.RowKit Go.Proofs.YtankmdbbgepmbaaW.PrintWords Go.Proofs.YtankmdbbgepmbaaW.PrintLast Go.Proofs.YtankmdbbgepmbaaW.PrintMore
attribute [local go_sem] max2_int min2_int max_two min_two max_three min_three max_four min_four   -- for this text's walks alone
set_option linter.unusedVariables false
set_option linter.unusedSimpArgs false

/-! ### laws_FnTurns: function 4 -/
mutual
def laws_FnTurns.l0 : Nat → List (S37) → List Int → Int → Option (Bool)
 | 0, _, _, _ => none
 | k + 1, x3, x4, x5 => if x5 < (x4.length : Int) then (if 0 ≤ x5 then (if (rd x4 x5) < 0 then (laws_FnTurns.j1 k x3 x4 x5 true) else (if (rd x4 x5) ≥ (x3.length : Int) then (laws_FnTurns.j1 k x3 x4 x5 true) else (if x5 > 0 then (if 0 ≤ (wrap64 (x5 - 1)) then (if (wrap64 (x5 - 1)) < (x4.length : Int) then (if 0 ≤ (rd x4 (wrap64 (x5 - 1))) then (if (rd x4 (wrap64 (x5 - 1))) < (x3.length : Int) then (if 0 ≤ (rd x4 x5) then (if (rd x4 x5) < (x3.length : Int) then (laws_FnTurns.j1 k x3 x4 x5 (decide (((rd_T37 x3 (rd x4 (wrap64 (x5 - 1)))).f4) < ((rd_T37 x3 (rd x4 x5)).f4)))) else (none)) else (none)) else (none)) else (none)) else (none)) else (none)) else (laws_FnTurns.j1 k x3 x4 x5 false)))) else (none)) else (some ((x4.length : Int) == (x3.length : Int)))
def laws_FnTurns.j1 : Nat → List (S37) → List Int → Int → Bool → Option (Bool)
 | 0, _, _, _, _ => none
 | k + 1, x3, x4, x5, x56 => if x56 = true then (some false) else (laws_FnTurns.l1 k x3 x4 x5 0)
def laws_FnTurns.l1 : Nat → List (S37) → List Int → Int → Int → Option (Bool)
 | 0, _, _, _, _ => none
 | k + 1, x3, x4, x5, x6 => if x6 < x5 then (if 0 ≤ x6 then (if x6 < (x4.length : Int) then (if 0 ≤ x5 then (if x5 < (x4.length : Int) then (if (rd x4 x6) = (rd x4 x5) then (some false) else (laws_FnTurns.l1 k x3 x4 x5 (wrap64 (x6 + 1)))) else (none)) else (none)) else (none)) else (none)) else (laws_FnTurns.l0 k x3 x4 (wrap64 (x5 + 1)))
end
def laws_FnTurns.f (k : Nat) (l0 : List Int) : Option (Bool) := (laws_big.f l0).bind fun t277 => (if t277 = true then (some true) else ((spec_DrawTurns.f k l0).bind fun t278 => ((impl_Turns.f t278).bind fun t281 => (laws_FnTurns.l0 k t278 t281 0))))
theorem laws_FnTurns.mono_l : ∀ k, (∀ y0 y1 y2, LeO (laws_FnTurns.l0 k y0 y1 y2) (laws_FnTurns.l0 (k + 1) y0 y1 y2)) ∧ (∀ y0 y1 y2 y3, LeO (laws_FnTurns.j1 k y0 y1 y2 y3) (laws_FnTurns.j1 (k + 1) y0 y1 y2 y3)) ∧ (∀ y0 y1 y2 y3, LeO (laws_FnTurns.l1 k y0 y1 y2 y3) (laws_FnTurns.l1 (k + 1) y0 y1 y2 y3))
 | 0 => ⟨fun _ _ _ r h => by simp [laws_FnTurns.l0] at h, fun _ _ _ _ r h => by simp [laws_FnTurns.j1] at h, fun _ _ _ _ r h => by simp [laws_FnTurns.l1] at h⟩
 | k + 1 => by
  obtain ⟨ih0, ih1, ih2⟩ := laws_FnTurns.mono_l k
  refine ⟨?_, ?_, ?_⟩
  {
  intro y0 y1 y2
  unfold laws_FnTurns.l0
  have j0 := @spec_DrawTurns.mono
  exact qL
  }
  {
  intro y0 y1 y2 y3
  unfold laws_FnTurns.j1
  have j0 := @spec_DrawTurns.mono
  exact qL
  }
  {
  intro y0 y1 y2 y3
  unfold laws_FnTurns.l1
  have j0 := @spec_DrawTurns.mono
  exact qL
  }
theorem laws_FnTurns.mono : ∀ a0 k, LeO (laws_FnTurns.f k a0) (laws_FnTurns.f (k + 1) a0) := by
 intro a0 k
 obtain ⟨ih0, ih1, ih2⟩ := laws_FnTurns.mono_l k
 unfold laws_FnTurns.f
 have j0 := @spec_DrawTurns.mono
 exact qL
set_option maxHeartbeats 8000000 in
set_option maxRecDepth 100000 in
theorem laws_FnTurns.calls (k : Nat) (A0 : Option Addr) (c0 : Nat) (l0 : List Int) (r : Bool) (w : World) (hr0 : Kd.C (Kd.int .u8) w A0 l0.length l0) (hc0 : l0.length ≤ c0) (hT : r = true) (h : laws_FnTurns.f k l0 = some r) :
  Calls Try.prog 4 #[.slice A0 l0.length c0] w fun e w' => e = .returned (.bool r) ∧ Below w.heap.size w w' := by
 have HTR_ := aM hT
 clear hT
 have HR0 := aM hr0
 have HC0 := aM hc0
 clear hr0 hc0
 have HB := aM (Below.refl w.heap.size w)
 have H : ((laws_big.f l0).bind fun t277 => (if t277 = true then (some true) else ((spec_DrawTurns.f k l0).bind fun t278 => ((impl_Turns.f t278).bind fun t281 => (laws_FnTurns.l0 k t278 t281 0))))) = some r := h
 clear h
 replace H := Option.bind_eq_some_iff.mp H
 obtain ⟨t277, A20, H⟩ := H
 replace H : (if t277 = true then (some true) else ((spec_DrawTurns.f k l0).bind fun t278 => ((impl_Turns.f t278).bind fun t281 => (laws_FnTurns.l0 k t278 t281 0)))) = some r := H
 have A2 := aM A20
 clear A20
 by_cases c3 : t277 = true
 {
 subst c3
 rw [if_pos rfl] at H
 obtain rfl := Option.some.inj H
 simp only [Option.some.injEq, Prod.mk.injEq] at H
 obtain ⟨rfl⟩ := H
 go_enter Try.func4, Try.ntmps4
 go_wp2_with (first | (go_at_call 23; (with_reducible refine (laws_big.calls _ _ l0 true _ ?side1 ?side2 A2.out).mono ?_); (case side1 => exact qz8); (case side2 => exact HC0.out); rintro e w' ⟨rfl, ⟨nd, rfl⟩⟩; (try first | exact ⟨rfl, _, World.drewN_drewN _ _ _⟩ | exact ⟨rfl, _, Eq.trans (World.drewN_drewN _ _ _) (congrArg (World.drewN _) (Nat.add_assoc _ _ _))⟩)))
 repeat (go_quiet (first | (go_at_call 23; (with_reducible refine (laws_big.calls _ _ l0 true _ ?side1 ?side2 A2.out).mono ?_); (case side1 => exact qz8); (case side2 => exact HC0.out); rintro e w' ⟨rfl, ⟨nd, rfl⟩⟩; (try first | exact ⟨rfl, _, World.drewN_drewN _ _ _⟩ | exact ⟨rfl, _, Eq.trans (World.drewN_drewN _ _ _) (congrArg (World.drewN _) (Nat.add_assoc _ _ _))⟩))); try go_wp2_with (first | (go_at_call 23; (with_reducible refine (laws_big.calls _ _ l0 true _ ?side1 ?side2 A2.out).mono ?_); (case side1 => exact qz8); (case side2 => exact HC0.out); rintro e w' ⟨rfl, ⟨nd, rfl⟩⟩; (try first | exact ⟨rfl, _, World.drewN_drewN _ _ _⟩ | exact ⟨rfl, _, Eq.trans (World.drewN_drewN _ _ _) (congrArg (World.drewN _) (Nat.add_assoc _ _ _))⟩))))
 go_ret
 exact ⟨qzw, qz1⟩
 }
 {
 replace c3 := Bool.eq_false_iff.mpr c3
 subst c3
 rw [if_neg (show ¬ (false = true) by decide)] at H
 replace H := Option.bind_eq_some_iff.mp H
 obtain ⟨t278, A40, H⟩ := H
 replace H : ((impl_Turns.f t278).bind fun t281 => (laws_FnTurns.l0 k t278 t281 0)) = some r := H
 have A4 := aM A40
 clear A40
 replace H := Option.bind_eq_some_iff.mp H
 obtain ⟨t281, A50, H⟩ := H
 replace H : (laws_FnTurns.l0 k t278 t281 0) = some r := H
 have A5 := aM A50
 clear A50
 have H' := aM H
 clear H
 go_enter Try.func4, Try.ntmps4
 go_wp2_with (first | (go_at_call 23; (with_reducible refine (laws_big.calls _ _ l0 false _ ?side1 ?side2 A2.out).mono ?_); (case side1 => exact qz8); (case side2 => exact HC0.out); rintro e w' ⟨rfl, ⟨nd, rfl⟩⟩; (try first | exact ⟨rfl, _, World.drewN_drewN _ _ _⟩ | exact ⟨rfl, _, Eq.trans (World.drewN_drewN _ _ _) (congrArg (World.drewN _) (Nat.add_assoc _ _ _))⟩)) | (go_at_call 24; (with_reducible refine (spec_DrawTurns.calls k _ _ l0 t278 _ ?side1 ?side2 A4.out).mono ?_); (case side1 => exact qz8); (case side2 => exact HC0.out); rintro e w6 ⟨v279, rfl, ho0, hb⟩; have HO280 := aM (Kd.R_lower ho0 (below_size qz1)); replace HB := bS_ hb; (try clear hb ho0); obtain ⟨Ao7, co7, eo7⟩ := Kd.R_slice HO280.out; subst eo7) | (go_at_call 17; (with_reducible refine (impl_Turns.calls _ _ t278 t281 _ ?side1 ?side2 A5.out).mono ?_); (case side1 => exact qz11); (case side2 => exact (Kd.R_reads' HO280.out).2.1); rintro e w8 ⟨v282, rfl, ho0, hb⟩; replace HO280 := aM (Kd.R_below (rr_ HO280.out) hb); have HO283 := aM (Kd.R_lower ho0 (below_size qz1)); replace HB := bS_ hb; (try clear hb ho0)))
 repeat (go_quiet (first | (go_at_call 23; (with_reducible refine (laws_big.calls _ _ l0 false _ ?side1 ?side2 A2.out).mono ?_); (case side1 => exact qz8); (case side2 => exact HC0.out); rintro e w' ⟨rfl, ⟨nd, rfl⟩⟩; (try first | exact ⟨rfl, _, World.drewN_drewN _ _ _⟩ | exact ⟨rfl, _, Eq.trans (World.drewN_drewN _ _ _) (congrArg (World.drewN _) (Nat.add_assoc _ _ _))⟩)) | (go_at_call 24; (with_reducible refine (spec_DrawTurns.calls k _ _ l0 t278 _ ?side1 ?side2 A4.out).mono ?_); (case side1 => exact qz8); (case side2 => exact HC0.out); rintro e w6 ⟨v279, rfl, ho0, hb⟩; have HO280 := aM (Kd.R_lower ho0 (below_size qz1)); replace HB := bS_ hb; (try clear hb ho0); obtain ⟨Ao7, co7, eo7⟩ := Kd.R_slice HO280.out; subst eo7) | (go_at_call 17; (with_reducible refine (impl_Turns.calls _ _ t278 t281 _ ?side1 ?side2 A5.out).mono ?_); (case side1 => exact qz11); (case side2 => exact (Kd.R_reads' HO280.out).2.1); rintro e w8 ⟨v282, rfl, ho0, hb⟩; replace HO280 := aM (Kd.R_below (rr_ HO280.out) hb); have HO283 := aM (Kd.R_lower ho0 (below_size qz1)); replace HB := bS_ hb; (try clear hb ho0))); try go_wp2_with (first | (go_at_call 23; (with_reducible refine (laws_big.calls _ _ l0 false _ ?side1 ?side2 A2.out).mono ?_); (case side1 => exact qz8); (case side2 => exact HC0.out); rintro e w' ⟨rfl, ⟨nd, rfl⟩⟩; (try first | exact ⟨rfl, _, World.drewN_drewN _ _ _⟩ | exact ⟨rfl, _, Eq.trans (World.drewN_drewN _ _ _) (congrArg (World.drewN _) (Nat.add_assoc _ _ _))⟩)) | (go_at_call 24; (with_reducible refine (spec_DrawTurns.calls k _ _ l0 t278 _ ?side1 ?side2 A4.out).mono ?_); (case side1 => exact qz8); (case side2 => exact HC0.out); rintro e w6 ⟨v279, rfl, ho0, hb⟩; have HO280 := aM (Kd.R_lower ho0 (below_size qz1)); replace HB := bS_ hb; (try clear hb ho0); obtain ⟨Ao7, co7, eo7⟩ := Kd.R_slice HO280.out; subst eo7) | (go_at_call 17; (with_reducible refine (impl_Turns.calls _ _ t278 t281 _ ?side1 ?side2 A5.out).mono ?_); (case side1 => exact qz11); (case side2 => exact (Kd.R_reads' HO280.out).2.1); rintro e w8 ⟨v282, rfl, ho0, hb⟩; replace HO280 := aM (Kd.R_below (rr_ HO280.out) hb); have HO283 := aM (Kd.R_lower ho0 (below_size qz1)); replace HB := bS_ hb; (try clear hb ho0))))
 go_loopg [5] k (fun kq v5 w' => ∃ (x5_1 : Int), v5 = .int .i64 x5_1 ∧ Aside0 (laws_FnTurns.l0 kq t278 t281 x5_1 = some r) ∧ Aside0 (kq ≤ k) ∧ Aside0 (Kd.R k37 37 w' w.heap.size (fun _ => True) (.slice Ao7 t278.length co7) t278) ∧ Aside0 (Kd.R (Kd.int .i64) 3 w' w.heap.size (fun _ => True) v282 t281) ∧ Aside0 (Below w.heap.size w w'))
 case atStart => exact ⟨(0), qz6, H', ⟨Nat.le_refl _⟩, ⟨rr_ HO280.out⟩, ⟨rr_ HO283.out⟩, ⟨qz1⟩⟩
 case round =>
  clear H'
  try clear p2
  try clear c3
  try clear c4
  obtain ⟨x5_1, rfl, HA, HK1, HO_3, HO_4, HB⟩ := hrel
  cases gk with
  | zero => exact absurd HA.out (by simp [laws_FnTurns.l0])
  | succ k1 =>
   have H := HA.out
   clear HA
   simp only [laws_FnTurns.l0] at H
   by_cases c9 : x5_1 < (t281.length : Int)
   {
   rw [if_pos c9] at H
   have c9b0 := decide_eq_true c9
   clear c9
   have HC10 := aM H
   clear H
   obtain ⟨Ao11, co11, eo11⟩ := Kd.R_slice HO_4.out
   subst eo11
   go_upto_region 8 with (fail)
   repeat (go_quiet (fail); go_upto_region 8 with (fail))
   go_cut [56] (fun v56 wc => ∃ (kq : Nat) (x56_9 : Bool), v56 = .bool x56_9 ∧ Aside0 (laws_FnTurns.j1 kq t278 t281 x5_1 x56_9 = some r) ∧ Aside0 (kq ≤ k1) ∧ Aside0 (Kd.R k37 37 wc w.heap.size (fun _ => True) (.slice Ao7 t278.length co7) t278) ∧ Aside0 (Kd.R (Kd.int .i64) 3 wc w.heap.size (fun _ => True) (.slice Ao11 t281.length co11) t281) ∧ Aside0 (Below w.heap.size w wc))
   case first =>
    have H := HC10.out
    clear HC10
    by_cases c12 : 0 ≤ x5_1
    {
    rw [if_pos c12] at H
    have c12b0 := decide_eq_true c12
    clear c12
    (first | rw [c12b0] | (simp only [i64_w, i32_w]; rw [c12b0]) | rw [@decide_eq_true _ _ (of_decide_eq_true c12b0)] | rw [@decide_eq_true _ _ (of_decide_eq_true c12b1)] | skip)
    by_cases c13 : (rd t281 x5_1) < 0
    {
    rw [if_pos c13] at H
    have c13b0 := decide_eq_true c13
    clear c13
    have H' := aM H
    clear H
    have p284 : 0 ≤ (x5_1 : Int) := dt_
    have q284 : x5_1 < (t281.length : Int) := dt_
    obtain ⟨ad284, e284, hx284_0⟩ := Kd.at_int (Kd.R_reads' HO_4.out).2.2 x5_1 p284 q284
    cases e284
    replace p284 := eq_true p284
    replace q284 := eq_true q284
    go_wp2
    repeat (go_quiet (fail); try go_wp2)
    go_meet
    case rel => exact ⟨_, (true), qz6, H', ⟨by have := HK1.out; first | omega | exact Nat.le_refl _⟩, ⟨rm_ HO_3.out⟩, ⟨rm_ HO_4.out⟩, ⟨qz1⟩⟩
    }
    {
    rw [if_neg c13] at H
    have c13b0 := decide_eq_false c13
    clear c13
    by_cases c14 : (rd t281 x5_1) ≥ (t278.length : Int)
    {
    rw [if_pos c14] at H
    have c14b0 := decide_eq_true c14
    clear c14
    have H' := aM H
    clear H
    have p284 : 0 ≤ (x5_1 : Int) := dt_
    have q284 : x5_1 < (t281.length : Int) := dt_
    obtain ⟨ad284, e284, hx284_0⟩ := Kd.at_int (Kd.R_reads' HO_4.out).2.2 x5_1 p284 q284
    cases e284
    replace p284 := eq_true p284
    replace q284 := eq_true q284
    have p285 : 0 ≤ (x5_1 : Int) := dt_
    have q285 : x5_1 < (t281.length : Int) := dt_
    obtain ⟨ad285, e285, hx285_0⟩ := Kd.at_int (Kd.R_reads' HO_4.out).2.2 x5_1 p285 q285
    obtain rfl : ad284 = ad285 := (by injection e285)
    replace p285 := eq_true p285
    replace q285 := eq_true q285
    go_wp2
    repeat (go_quiet (fail); try go_wp2)
    go_meet
    case rel => exact ⟨_, (true), qz6, H', ⟨by have := HK1.out; first | omega | exact Nat.le_refl _⟩, ⟨rm_ HO_3.out⟩, ⟨rm_ HO_4.out⟩, ⟨qz1⟩⟩
    }
    {
    rw [if_neg c14] at H
    have c14b0 := decide_eq_false c14
    clear c14
    by_cases c15 : x5_1 > 0
    {
    rw [if_pos c15] at H
    have c15b0 := decide_eq_true c15
    clear c15
    obtain ⟨ji16, hji16⟩ : ∃ j_ : Int, (wrap64 (x5_1 - 1)) = j_ := ⟨_, rfl⟩
    replace H : (if 0 ≤ (ji16) then (if (ji16) < (t281.length : Int) then (if 0 ≤ (rd t281 (ji16)) then (if (rd t281 (ji16)) < (t278.length : Int) then (if 0 ≤ (rd t281 x5_1) then (if (rd t281 x5_1) < (t278.length : Int) then (laws_FnTurns.j1 k1 t278 t281 x5_1 (decide (((rd_T37 t278 (rd t281 (ji16))).f4) < ((rd_T37 t278 (rd t281 x5_1)).f4)))) else (none)) else (none)) else (none)) else (none)) else (none)) else (none)) = some r := by first | (rw [hji16] at H; exact H) | (simp only [hji16] at H ⊢; exact H)
    have hji16w : (IntKind.i64.wrap (x5_1 - 1)) = ji16 := (i64_w _).trans hji16
    by_cases c17 : 0 ≤ (ji16)
    {
    rw [if_pos c17] at H
    have c17b0 := decide_eq_true c17
    clear c17
    by_cases c18 : (ji16) < (t281.length : Int)
    {
    rw [if_pos c18] at H
    have c18b0 := decide_eq_true c18
    clear c18
    by_cases c19 : 0 ≤ (rd t281 (ji16))
    {
    rw [if_pos c19] at H
    have c19b0 := decide_eq_true c19
    clear c19
    by_cases c20 : (rd t281 (ji16)) < (t278.length : Int)
    {
    rw [if_pos c20] at H
    have c20b0 := decide_eq_true c20
    clear c20
    by_cases c21 : 0 ≤ (rd t281 x5_1)
    {
    rw [if_pos c21] at H
    have c21b0 := decide_eq_true c21
    clear c21
    by_cases c22 : (rd t281 x5_1) < (t278.length : Int)
    {
    rw [if_pos c22] at H
    have c22b0 := decide_eq_true c22
    clear c22
    have H' := aM H
    clear H
    have p284 : 0 ≤ (x5_1 : Int) := dt_
    have q284 : x5_1 < (t281.length : Int) := dt_
    obtain ⟨ad284, e284, hx284_0⟩ := Kd.at_int (Kd.R_reads' HO_4.out).2.2 x5_1 p284 q284
    cases e284
    replace p284 := eq_true p284
    replace q284 := eq_true q284
    have p285 : 0 ≤ (x5_1 : Int) := dt_
    have q285 : x5_1 < (t281.length : Int) := dt_
    obtain ⟨ad285, e285, hx285_0⟩ := Kd.at_int (Kd.R_reads' HO_4.out).2.2 x5_1 p285 q285
    obtain rfl : ad284 = ad285 := (by injection e285)
    replace p285 := eq_true p285
    replace q285 := eq_true q285
    have p286 : 0 ≤ ((ji16) : Int) := dt_
    have q286 : (ji16) < (t281.length : Int) := dt_
    obtain ⟨ad286, e286, hx286_0⟩ := Kd.at_int (Kd.R_reads' HO_4.out).2.2 (ji16) p286 q286
    obtain rfl : ad284 = ad286 := (by injection e286)
    replace p286 := eq_true p286
    replace q286 := eq_true q286
    have p287 : 0 ≤ ((rd t281 (ji16)) : Int) := dt_
    have q287 : (rd t281 (ji16)) < (t278.length : Int) := dt_
    obtain ⟨ad287, e287, hx287_0, hx287_1, hx287_2, hx287_3, hx287_4⟩ := at_T37 (Kd.R_reads' HO_3.out).2.2 (rd t281 (ji16)) p287 q287
    cases e287
    replace p287 := eq_true p287
    replace q287 := eq_true q287
    have p288 : 0 ≤ (x5_1 : Int) := dt_
    have q288 : x5_1 < (t281.length : Int) := dt_
    obtain ⟨ad288, e288, hx288_0⟩ := Kd.at_int (Kd.R_reads' HO_4.out).2.2 x5_1 p288 q288
    obtain rfl : ad284 = ad288 := (by injection e288)
    replace p288 := eq_true p288
    replace q288 := eq_true q288
    have p289 : 0 ≤ ((rd t281 x5_1) : Int) := dt_
    have q289 : (rd t281 x5_1) < (t278.length : Int) := dt_
    obtain ⟨ad289, e289, hx289_0, hx289_1, hx289_2, hx289_3, hx289_4⟩ := at_T37 (Kd.R_reads' HO_3.out).2.2 (rd t281 x5_1) p289 q289
    obtain rfl : ad287 = ad289 := (by injection e289)
    replace p289 := eq_true p289
    replace q289 := eq_true q289
    go_wp2
    repeat (go_quiet (fail); try go_wp2)
    go_meet
    case rel => exact ⟨_, (decide (((rd_T37 t278 (rd t281 (ji16))).f4) < ((rd_T37 t278 (rd t281 x5_1)).f4))), (by first | rfl | (simp; done) | (simp only [← hji16] <;> (first | rfl | simp)) | (simp [*]; done)), H', ⟨by have := HK1.out; first | omega | exact Nat.le_refl _⟩, ⟨rm_ HO_3.out⟩, ⟨rm_ HO_4.out⟩, ⟨qz1⟩⟩
    }
    {
    exact an_ c22 H
    }
    }
    {
    exact an_ c21 H
    }
    }
    {
    exact an_ c20 H
    }
    }
    {
    exact an_ c19 H
    }
    }
    {
    exact an_ c18 H
    }
    }
    {
    exact an_ c17 H
    }
    }
    {
    rw [if_neg c15] at H
    have c15b0 := decide_eq_false c15
    clear c15
    have H' := aM H
    clear H
    have p284 : 0 ≤ (x5_1 : Int) := dt_
    have q284 : x5_1 < (t281.length : Int) := dt_
    obtain ⟨ad284, e284, hx284_0⟩ := Kd.at_int (Kd.R_reads' HO_4.out).2.2 x5_1 p284 q284
    cases e284
    replace p284 := eq_true p284
    replace q284 := eq_true q284
    have p285 : 0 ≤ (x5_1 : Int) := dt_
    have q285 : x5_1 < (t281.length : Int) := dt_
    obtain ⟨ad285, e285, hx285_0⟩ := Kd.at_int (Kd.R_reads' HO_4.out).2.2 x5_1 p285 q285
    obtain rfl : ad284 = ad285 := (by injection e285)
    replace p285 := eq_true p285
    replace q285 := eq_true q285
    go_wp2
    repeat (go_quiet (fail); try go_wp2)
    go_meet
    case rel => exact ⟨_, (false), qz6, H', ⟨by have := HK1.out; first | omega | exact Nat.le_refl _⟩, ⟨rm_ HO_3.out⟩, ⟨rm_ HO_4.out⟩, ⟨qz1⟩⟩
    }
    }
    }
    }
    {
    exact an_ c12 H
    }
   case rest =>
    clear HC10
    try clear c1
    try clear c2
    try clear p2
    try clear q2
    try clear hx2
    try clear c3
    try clear c4
    try clear p6
    try clear c9
    try clear c9b0
    try clear c12
    try clear c12b0
    try clear c12b1
    try clear c13
    try clear c13b0
    try clear c14
    try clear c14b0
    try clear c15
    try clear c15b0
    try clear c17
    try clear c17b0
    try clear c18
    try clear c18b0
    try clear c19
    try clear c19b0
    try clear c20
    try clear c20b0
    try clear c21
    try clear c21b0
    try clear c22
    try clear c22b0
    try clear hx284_0
    try clear hx285_0
    try clear hx286_0
    try clear hx287_0
    try clear hx287_1
    try clear hx287_2
    try clear hx287_3
    try clear hx287_4
    try clear hx288_0
    try clear hx289_0
    try clear hx289_1
    try clear hx289_2
    try clear hx289_3
    try clear hx289_4
    try clear p284
    try clear p285
    try clear p286
    try clear p287
    try clear p288
    try clear p289
    try clear q284
    try clear q285
    try clear q286
    try clear q287
    try clear q288
    try clear q289
    obtain ⟨kq, x56_9, rfl, HA, HJ9, HO_3, HO_4, HB⟩ := hcut
    cases kq with
    | zero => exact absurd HA.out (by simp [laws_FnTurns.j1])
    | succ kj9 =>
     have H := HA.out
     clear HA
     simp only [laws_FnTurns.j1] at H
     by_cases c23 : x56_9 = true
     {
     subst c23
     rw [if_pos rfl] at H
     obtain rfl := Option.some.inj H
     exact absurd HTR_.out (by decide)
     }
     {
     replace c23 := Bool.eq_false_iff.mpr c23
     subst c23
     rw [if_neg (show ¬ (false = true) by decide)] at H
     have H' := aM H
     clear H
     go_wp2
     repeat (go_quiet (fail); try go_wp2)
     go_loopg [6] kj9 (fun kq v6 w' => ∃ (x6_3 : Int), v6 = .int .i64 x6_3 ∧ Aside0 (laws_FnTurns.l1 kq t278 t281 x5_1 x6_3 = some r) ∧ Aside0 (kq ≤ kj9) ∧ Aside0 (Kd.R k37 37 w' w.heap.size (fun _ => True) (.slice Ao7 t278.length co7) t278) ∧ Aside0 (Kd.R (Kd.int .i64) 3 w' w.heap.size (fun _ => True) (.slice Ao11 t281.length co11) t281) ∧ Aside0 (Below w.heap.size w w'))
     case atStart => exact ⟨(0), qz6, H', ⟨Nat.le_refl _⟩, ⟨rr_ HO_3.out⟩, ⟨rr_ HO_4.out⟩, ⟨qz1⟩⟩
     case round =>
      clear H'
      try clear c1
      try clear c2
      try clear p2
      try clear q2
      try clear hx2
      try clear c3
      try clear c4
      try clear p6
      try clear c9
      try clear c9b0
      try clear c12
      try clear c12b0
      try clear c12b1
      try clear c13
      try clear c13b0
      try clear c14
      try clear c14b0
      try clear c15
      try clear c15b0
      try clear c17
      try clear c17b0
      try clear c18
      try clear c18b0
      try clear c19
      try clear c19b0
      try clear c20
      try clear c20b0
      try clear c21
      try clear c21b0
      try clear c22
      try clear c22b0
      try clear c23
      try clear hx284_0
      try clear hx285_0
      try clear hx286_0
      try clear hx287_0
      try clear hx287_1
      try clear hx287_2
      try clear hx287_3
      try clear hx287_4
      try clear hx288_0
      try clear hx289_0
      try clear hx289_1
      try clear hx289_2
      try clear hx289_3
      try clear hx289_4
      try clear p284
      try clear p285
      try clear p286
      try clear p287
      try clear p288
      try clear p289
      try clear q284
      try clear q285
      try clear q286
      try clear q287
      try clear q288
      try clear q289
      obtain ⟨x6_3, rfl, HA, HK3, HO_3, HO_4, HB⟩ := hrel
      cases gk with
      | zero => exact absurd HA.out (by simp [laws_FnTurns.l1])
      | succ k3 =>
       have H := HA.out
       clear HA
       simp only [laws_FnTurns.l1] at H
       by_cases c24 : x6_3 < x5_1
       {
       rw [if_pos c24] at H
       have c24b0 := decide_eq_true c24
       clear c24
       by_cases c25 : 0 ≤ x6_3
       {
       rw [if_pos c25] at H
       have c25b0 := decide_eq_true c25
       clear c25
       by_cases c26 : x6_3 < (t281.length : Int)
       {
       rw [if_pos c26] at H
       have c26b0 := decide_eq_true c26
       clear c26
       by_cases c27 : 0 ≤ x5_1
       {
       rw [if_pos c27] at H
       have c27b0 := decide_eq_true c27
       clear c27
       by_cases c28 : x5_1 < (t281.length : Int)
       {
       rw [if_pos c28] at H
       have c28b0 := decide_eq_true c28
       clear c28
       by_cases c29 : (rd t281 x6_3) = (rd t281 x5_1)
       {
       rw [if_pos c29] at H
       have c29b0 := beq_iff_eq.mpr c29
       have c29b1 := bne_eq_false_iff_eq.mpr c29
       clear c29
       obtain rfl := Option.some.inj H
       exact absurd HTR_.out (by decide)
       }
       {
       rw [if_neg c29] at H
       have c29b0 := beq_eq_false_iff_ne.mpr c29
       have c29b1 := bne_iff_ne.mpr c29
       have H' := aM H
       clear H
       have p290 : 0 ≤ (x6_3 : Int) := dt_
       have q290 : x6_3 < (t281.length : Int) := dt_
       obtain ⟨ad290, e290, hx290_0⟩ := Kd.at_int (Kd.R_reads' HO_4.out).2.2 x6_3 p290 q290
       cases e290
       replace p290 := eq_true p290
       replace q290 := eq_true q290
       have p291 : 0 ≤ (x5_1 : Int) := dt_
       have q291 : x5_1 < (t281.length : Int) := dt_
       obtain ⟨ad291, e291, hx291_0⟩ := Kd.at_int (Kd.R_reads' HO_4.out).2.2 x5_1 p291 q291
       obtain rfl : ad290 = ad291 := (by injection e291)
       replace p291 := eq_true p291
       replace q291 := eq_true q291
       go_wp2
       repeat (go_quiet (fail); try go_wp2)
       go_roundg k3
       case measure => have := HK1.out; have := HJ9.out; have := HK3.out; omega
       case rel => exact ⟨(wrap64 (x6_3 + 1)), qz6, H', ⟨by have := HK1.out; have := HJ9.out; have := HK3.out; omega⟩, ⟨rm_ HO_3.out⟩, ⟨rm_ HO_4.out⟩, ⟨qz1⟩⟩
       }
       }
       {
       exact an_ c28 H
       }
       }
       {
       exact an_ c27 H
       }
       }
       {
       exact an_ c26 H
       }
       }
       {
       exact an_ c25 H
       }
       }
       {
       rw [if_neg c24] at H
       have c24b0 := decide_eq_false c24
       clear c24
       have H' := aM H
       clear H
       go_wp2
       repeat (go_quiet (fail); try go_wp2)
       go_roundg k3
       case measure => have := HK1.out; have := HJ9.out; have := HK3.out; omega
       case rel => exact ⟨(wrap64 (x5_1 + 1)), qz6, H', ⟨by have := HK1.out; have := HJ9.out; have := HK3.out; omega⟩, ⟨rm_ HO_3.out⟩, ⟨rm_ HO_4.out⟩, ⟨qz1⟩⟩
       }
     }
   }
   {
   rw [if_neg c9] at H
   have c9b0 := decide_eq_false c9
   clear c9
   obtain rfl := Option.some.inj H
   simp only [Option.some.injEq, Prod.mk.injEq] at H
   obtain ⟨rfl⟩ := H
   obtain ⟨Ao30, co30, eo30⟩ := Kd.R_slice HO_4.out
   subst eo30
   go_wp2
   repeat (go_quiet (fail); try go_wp2)
   go_ret
   exact ⟨qzw, qz1⟩

   }
 }
/-- THE ONE PURE STATEMENT of laws_FnTurns: yours. -/
def laws_FnTurns.Pure : Prop := ∀ (l0 : List Int), l0.length ≤ maxLen → l0.length * 1 ≤ 140737488351232 → (∀ x ∈ l0, (Lit.int .u8 x).wf = true) → ∃ k, laws_FnTurns.f k l0 = some true
theorem laws_FnTurns.walk (P : laws_FnTurns.Pure) (a0 : Option Addr) (len0 cap0 : Nat) (z0 : List Int) (w : World) (w0 : (a0 = none ∧ len0 = 0 ∧ cap0 = 0 ∧ z0 = []) ∨ ∃ x, a0 = some x ∧ len0 ≤ cap0 ∧ cap0 ≤ maxLen ∧ z0.length = cap0 ∧ (∀ i, i < z0.length → w.cell? (x.add i) = some (.int .u8 (z0.getD i 0))) ∧ ∀ n ∈ z0, (Lit.int .u8 n).wf = true) (y0 : len0 * 1 ≤ 140737488351232) :
  Calls Try.prog 4 #[.slice a0 len0 cap0] w fun e w' => e = .returned (.bool true) ∧ Below w.heap.size w w' := by
 obtain ⟨l0, rfl, hr0, hm0, hw0, hc0⟩ := ReadsInt.ofRowC w0
 obtain ⟨k, h⟩ := P l0 hm0 y0 hw0
 refine (laws_FnTurns.calls k _ _ l0 true w (Kd.C_of_reads (d := (0 : Int)) (h1 := fun _ => rfl) hr0) hc0 rfl h).mono ?_
 rintro e w' ⟨rfl, hd⟩
 exact ⟨rfl, hd⟩

end Go.Proofs.Ytankmdbbgepmbaa.PFnTurns
