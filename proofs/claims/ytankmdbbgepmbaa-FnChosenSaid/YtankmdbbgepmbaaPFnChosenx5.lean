-- Made by a program of this session out of the translation. Lean checks it.
import Derived.Test.YtankmdbbgepmbaaPFnChosenx3
import Derived.Test.YtankmdbbgepmbaaPFnChosenx4
namespace Go.Proofs.Ytankmdbbgepmbaa.PFnChosen
open Go.RowKit Go.Proofs.YtankmdbbgepmbaaW.PrintWords Go.Proofs.YtankmdbbgepmbaaW.PrintLast Go.Proofs.YtankmdbbgepmbaaW.PrintMore
attribute [local go_sem] max2_int min2_int max_two min_two max_three min_three max_four min_four   -- for this text's walks alone
set_option linter.unusedVariables false
set_option linter.unusedSimpArgs false

/-! ### spec_Choices: function 26 -/
def spec_Choices.j0 : Nat → Bool → Int → Int → List Int → Int → Int → Int → Bool → Int → Option (List Int)
 | 0, _, _, _, _, _, _, _, _, _ => none
 | k + 1, x26, x227000, x227001, x227002, x228000, x228001, x228002, x228003, x228004 => if x26 = true then (some (([] : List Int))) else ((spec_l7Field.f k x227000 x227001 x227002 x228000 x228001 x228002 x228003 x228004).bind fun t234 => ((spec_l7Choices.f k x227000 x227001 x227002 x228000 x228001 x228002 x228003 x228004 t234).bind fun t237 => (some t237)))
def spec_Choices.f (k : Nat) (a0_0 : Int) (a0_1 : Int) (l0_2 : List Int) (a1_0 : Int) (a1_1 : Int) (a1_2 : Int) (a1_3 : Bool) (a1_4 : Int) : Option (List Int) := (spec_FloorOk.f k a0_0 a0_1 l0_2).bind fun t228 => (if t228 = true then ((spec_l7Free.f a0_0 a0_1 l0_2 a1_1).bind fun t229 => (if t229 = true then (if a1_2 = (-1) then (spec_Choices.j0 k false a0_0 a0_1 l0_2 a1_0 a1_1 a1_2 a1_3 a1_4) else ((spec_l7Free.f a0_0 a0_1 l0_2 a1_2).bind fun t230 => (spec_Choices.j0 k (!t230) a0_0 a0_1 l0_2 a1_0 a1_1 a1_2 a1_3 a1_4))) else (spec_Choices.j0 k true a0_0 a0_1 l0_2 a1_0 a1_1 a1_2 a1_3 a1_4))) else (spec_Choices.j0 k true a0_0 a0_1 l0_2 a1_0 a1_1 a1_2 a1_3 a1_4))
theorem spec_Choices.mono_l : ∀ k, (∀ y0 y1 y2 y3 y4 y5 y6 y7 y8, LeO (spec_Choices.j0 k y0 y1 y2 y3 y4 y5 y6 y7 y8) (spec_Choices.j0 (k + 1) y0 y1 y2 y3 y4 y5 y6 y7 y8))
 | 0 => fun _ _ _ _ _ _ _ _ _ r h => by simp [spec_Choices.j0] at h
 | k + 1 => by
  have ih0 := spec_Choices.mono_l k
  {
  intro y0 y1 y2 y3 y4 y5 y6 y7 y8
  unfold spec_Choices.j0
  have j0 := @spec_FloorOk.mono
  have j1 := @spec_l7Choices.mono
  have j2 := @spec_l7Field.mono
  exact qL
  }
theorem spec_Choices.mono : ∀ a0 a1 a2 a3 a4 a5 a6 a7 k, LeO (spec_Choices.f k a0 a1 a2 a3 a4 a5 a6 a7) (spec_Choices.f (k + 1) a0 a1 a2 a3 a4 a5 a6 a7) := by
 intro a0 a1 a2 a3 a4 a5 a6 a7 k
 have ih0 := spec_Choices.mono_l k
 unfold spec_Choices.f
 have j0 := @spec_FloorOk.mono
 have j1 := @spec_l7Choices.mono
 have j2 := @spec_l7Field.mono
 exact qL
set_option maxHeartbeats 8000000 in
set_option maxRecDepth 100000 in
theorem spec_Choices.calls (k : Nat) (a0_0 : Int) (a0_1 : Int) (A0_2 : Option Addr) (c0_2 : Nat) (l0_2 : List Int) (a1_0 : Int) (a1_1 : Int) (a1_2 : Int) (a1_3 : Bool) (a1_4 : Int) (r : List Int) (w : World) (hr0_2 : Kd.C (Kd.int .i64) w A0_2 l0_2.length l0_2) (hc0_2 : l0_2.length ≤ c0_2) (h : spec_Choices.f k a0_0 a0_1 l0_2 a1_0 a1_1 a1_2 a1_3 a1_4 = some r) :
  Calls Try.prog 26 #[.agg #[.int .i64 a0_0, .int .i64 a0_1, .slice A0_2 l0_2.length c0_2], .agg #[.int .i64 a1_0, .int .i64 a1_1, .int .i64 a1_2, .bool a1_3, .int .i64 a1_4]] w fun e w' => ∃ v0_ : Value, e = .returned (v0_) ∧ Kd.R (Kd.int .i64) 3 w' w.heap.size (fun _ => True) v0_ r ∧ Below w.heap.size w w' := by
 have hu43 := Try.underlying43
 have hu37 := Try.underlying37
 have HR0_2 := aM hr0_2
 have HC0_2 := aM hc0_2
 clear hr0_2 hc0_2
 have HB := aM (Below.refl w.heap.size w)
 have H : ((spec_FloorOk.f k a0_0 a0_1 l0_2).bind fun t228 => (if t228 = true then ((spec_l7Free.f a0_0 a0_1 l0_2 a1_1).bind fun t229 => (if t229 = true then (if a1_2 = (-1) then (spec_Choices.j0 k false a0_0 a0_1 l0_2 a1_0 a1_1 a1_2 a1_3 a1_4) else ((spec_l7Free.f a0_0 a0_1 l0_2 a1_2).bind fun t230 => (spec_Choices.j0 k (!t230) a0_0 a0_1 l0_2 a1_0 a1_1 a1_2 a1_3 a1_4))) else (spec_Choices.j0 k true a0_0 a0_1 l0_2 a1_0 a1_1 a1_2 a1_3 a1_4))) else (spec_Choices.j0 k true a0_0 a0_1 l0_2 a1_0 a1_1 a1_2 a1_3 a1_4))) = some r := h
 clear h
 have HC3 := aM H
 clear H
 go_enter Try.func26, Try.ntmps26
 go_upto_region 1 with (first | ((with_reducible refine gate_dst (N := 2) rfl ?_); refine bx_ 2 #[.int .i64 a0_0, .int .i64 a0_1, .slice A0_2 l0_2.length c0_2] 43 ?_; intro gb226 hg w4 hbox hb; have BK226 := aM (hbox); have GW226 := aM (bz_ w hg qz1); have GE226 := GW226; replace HB := bS_ hb; clear hb hbox hg) | ((with_reducible refine gate_dst (N := 3) rfl ?_); refine bx_ 3 #[.int .i64 a1_0, .int .i64 a1_1, .int .i64 a1_2, .bool a1_3, .int .i64 a1_4] 37 ?_; intro gb227 hg w5 hbox hb; have BK227 := aM (hbox); have GW227 := aM (bz_ w hg qz1); have GE227 := GW227; replace HB := bS_ hb; obtain ⟨NB226_227, NB227_226⟩ := nb_ hg (bk_ BK226.out); replace BK226 := bB_ BK226 hb; clear hb hbox hg))
 (try simp only [Act.put, List.setIfInBounds_toArray, List.set_cons_zero, List.set_cons_succ])
 go_cut [26] (fun v26 wc => ∃ (kq : Nat) (x26_2 : Bool), v26 = .bool x26_2 ∧ Aside0 (spec_Choices.j0 kq x26_2 a0_0 a0_1 l0_2 a1_0 a1_1 a1_2 a1_3 a1_4 = some r) ∧ Aside0 (kq ≤ k) ∧ Aside0 (wc.heap[gb226]? = some (.cells #[.int .i64 a0_0, .int .i64 a0_1, (.slice A0_2 l0_2.length c0_2)] 43 (0, 0))) ∧ Aside0 (wc.heap[gb227]? = some (.cells #[.int .i64 a1_0, .int .i64 a1_1, .int .i64 a1_2, .bool a1_3, .int .i64 a1_4] 37 (0, 0))) ∧ Aside0 (Below w.heap.size w wc))
 case first =>
  have H := HC3.out
  clear HC3
  replace H := Option.bind_eq_some_iff.mp H
  obtain ⟨t228, A60, H⟩ := H
  replace H : (if t228 = true then ((spec_l7Free.f a0_0 a0_1 l0_2 a1_1).bind fun t229 => (if t229 = true then (if a1_2 = (-1) then (spec_Choices.j0 k false a0_0 a0_1 l0_2 a1_0 a1_1 a1_2 a1_3 a1_4) else ((spec_l7Free.f a0_0 a0_1 l0_2 a1_2).bind fun t230 => (spec_Choices.j0 k (!t230) a0_0 a0_1 l0_2 a1_0 a1_1 a1_2 a1_3 a1_4))) else (spec_Choices.j0 k true a0_0 a0_1 l0_2 a1_0 a1_1 a1_2 a1_3 a1_4))) else (spec_Choices.j0 k true a0_0 a0_1 l0_2 a1_0 a1_1 a1_2 a1_3 a1_4)) = some r := H
  have A6 := aM A60
  clear A60
  by_cases c7 : t228 = true
  {
  subst c7
  rw [if_pos rfl] at H
  replace H := Option.bind_eq_some_iff.mp H
  obtain ⟨t229, A80, H⟩ := H
  replace H : (if t229 = true then (if a1_2 = (-1) then (spec_Choices.j0 k false a0_0 a0_1 l0_2 a1_0 a1_1 a1_2 a1_3 a1_4) else ((spec_l7Free.f a0_0 a0_1 l0_2 a1_2).bind fun t230 => (spec_Choices.j0 k (!t230) a0_0 a0_1 l0_2 a1_0 a1_1 a1_2 a1_3 a1_4))) else (spec_Choices.j0 k true a0_0 a0_1 l0_2 a1_0 a1_1 a1_2 a1_3 a1_4)) = some r := H
  have A8 := aM A80
  clear A80
  by_cases c9 : t229 = true
  {
  subst c9
  rw [if_pos rfl] at H
  by_cases c10 : a1_2 = (-1)
  {
  rw [if_pos c10] at H
  have c10b0 := beq_iff_eq.mpr c10
  have c10b1 := bne_eq_false_iff_eq.mpr c10
  clear c10
  (first | rw [c10b0] | (simp only [i64_w, i32_w]; rw [c10b0]) | rw [@decide_eq_true _ _ (of_decide_eq_true c10b0)] | rw [@decide_eq_true _ _ (of_decide_eq_true c10b1)] | skip)
  have H' := aM H
  clear H
  have hnb11 := NB226_227.out
  have hnc11 := NB227_226.out
  obtain ⟨hcz12_0, hcz12_1, hcz12_2, hfz12_0, hfz12_1, hfz12_2⟩ := b6_ BK226.out
  go_wp2_with (first | ((with_reducible refine gate_callee (f := 60) rfl ?_); refine goesL_ (some 6) rfl rfl Try.func60 (by kernel_rfl) rfl #[.agg #[.int .i64 a0_0, .int .i64 a0_1, .slice A0_2 l0_2.length c0_2]] rfl qz4 ?_; (with_reducible refine (spec_FloorOk.calls k a0_0 a0_1 _ _ l0_2 true _ ?side1 ?side2 A6.out).mono ?_); (case side1 => exact qz6); (case side2 => exact HC0_2.out); rintro e w13 ⟨rfl, hb⟩; refine ⟨_, rfl, ?_⟩; replace BK226 := bB_ BK226 hb; replace BK227 := bB_ BK227 hb; replace HB := bS_ hb; (try clear hb); obtain ⟨hcz14_0, hcz14_1, hcz14_2, hfz14_0, hfz14_1, hfz14_2⟩ := b6_ BK226.out; have hcz15_0 := bc0_ BK227.out; have hcz15_1 := bc1_ BK227.out; have hcz15_2 := bc2_ BK227.out; have hcz15_3 := bc3_ BK227.out; have hcz15_4 := bc4_ BK227.out; have hfz15_0 := blk_frozen BK227.out 0; have hfz15_1 := blk_frozen BK227.out 1; have hfz15_2 := blk_frozen BK227.out 2; have hfz15_3 := blk_frozen BK227.out 3; have hfz15_4 := blk_frozen BK227.out 4) | (go_at_call 61; (with_reducible refine (spec_l7Free.calls a0_0 a0_1 _ _ l0_2 a1_1 true _ ?side1 ?side2 A8.out).mono ?_); (case side1 => exact qz6); (case side2 => exact HC0_2.out); rintro e w16 ⟨rfl, hb⟩; replace BK226 := bB_ BK226 hb; replace BK227 := bB_ BK227 hb; replace HB := bS_ hb; (try clear hb); have hcz17_0 := bc0_ BK227.out; have hcz17_1 := bc1_ BK227.out; have hcz17_2 := bc2_ BK227.out; have hcz17_3 := bc3_ BK227.out; have hcz17_4 := bc4_ BK227.out; have hfz17_0 := blk_frozen BK227.out 0; have hfz17_1 := blk_frozen BK227.out 1; have hfz17_2 := blk_frozen BK227.out 2; have hfz17_3 := blk_frozen BK227.out 3; have hfz17_4 := blk_frozen BK227.out 4))
  go_meet
  case rel => exact ⟨_, (false), qz8, H', ⟨by first | omega | exact Nat.le_refl _⟩, ⟨bk_ BK226.out⟩, ⟨bk_ BK227.out⟩, ⟨qz1⟩⟩
  }
  {
  rw [if_neg c10] at H
  have c10b0 := beq_eq_false_iff_ne.mpr c10
  have c10b1 := bne_iff_ne.mpr c10
  (first | rw [c10b0] | (simp only [i64_w, i32_w]; rw [c10b0]) | rw [@decide_eq_false _ _ (of_decide_eq_false c10b0)] | rw [@decide_eq_false _ _ (of_decide_eq_false c10b1)] | skip)
  replace H := Option.bind_eq_some_iff.mp H
  obtain ⟨t230, A180, H⟩ := H
  replace H : (spec_Choices.j0 k (!t230) a0_0 a0_1 l0_2 a1_0 a1_1 a1_2 a1_3 a1_4) = some r := H
  have A18 := aM A180
  clear A180
  have H' := aM H
  clear H
  have hnb19 := NB226_227.out
  have hnc19 := NB227_226.out
  obtain ⟨hcz20_0, hcz20_1, hcz20_2, hfz20_0, hfz20_1, hfz20_2⟩ := b6_ BK226.out
  go_wp2_with (first | ((with_reducible refine gate_callee (f := 60) rfl ?_); refine goesL_ (some 6) rfl rfl Try.func60 (by kernel_rfl) rfl #[.agg #[.int .i64 a0_0, .int .i64 a0_1, .slice A0_2 l0_2.length c0_2]] rfl qz4 ?_; (with_reducible refine (spec_FloorOk.calls k a0_0 a0_1 _ _ l0_2 true _ ?side1 ?side2 A6.out).mono ?_); (case side1 => exact qz6); (case side2 => exact HC0_2.out); rintro e w21 ⟨rfl, hb⟩; refine ⟨_, rfl, ?_⟩; replace BK226 := bB_ BK226 hb; replace BK227 := bB_ BK227 hb; replace HB := bS_ hb; (try clear hb); obtain ⟨hcz22_0, hcz22_1, hcz22_2, hfz22_0, hfz22_1, hfz22_2⟩ := b6_ BK226.out; have hcz23_0 := bc0_ BK227.out; have hcz23_1 := bc1_ BK227.out; have hcz23_2 := bc2_ BK227.out; have hcz23_3 := bc3_ BK227.out; have hcz23_4 := bc4_ BK227.out; have hfz23_0 := blk_frozen BK227.out 0; have hfz23_1 := blk_frozen BK227.out 1; have hfz23_2 := blk_frozen BK227.out 2; have hfz23_3 := blk_frozen BK227.out 3; have hfz23_4 := blk_frozen BK227.out 4) | (go_at_call 61; (with_reducible refine (spec_l7Free.calls a0_0 a0_1 _ _ l0_2 a1_1 true _ ?side1 ?side2 A8.out).mono ?_); (case side1 => exact qz6); (case side2 => exact HC0_2.out); rintro e w24 ⟨rfl, hb⟩; replace BK226 := bB_ BK226 hb; replace BK227 := bB_ BK227 hb; replace HB := bS_ hb; (try clear hb); have hcz25_0 := bc0_ BK227.out; have hcz25_1 := bc1_ BK227.out; have hcz25_2 := bc2_ BK227.out; have hcz25_3 := bc3_ BK227.out; have hcz25_4 := bc4_ BK227.out; have hfz25_0 := blk_frozen BK227.out 0; have hfz25_1 := blk_frozen BK227.out 1; have hfz25_2 := blk_frozen BK227.out 2; have hfz25_3 := blk_frozen BK227.out 3; have hfz25_4 := blk_frozen BK227.out 4; obtain ⟨hcz26_0, hcz26_1, hcz26_2, hfz26_0, hfz26_1, hfz26_2⟩ := b6_ BK226.out) | (go_at_call 61; (with_reducible refine (spec_l7Free.calls a0_0 a0_1 _ _ l0_2 a1_2 t230 _ ?side1 ?side2 A18.out).mono ?_); (case side1 => exact qz6); (case side2 => exact HC0_2.out); rintro e w27 ⟨rfl, hb⟩; replace BK226 := bB_ BK226 hb; replace BK227 := bB_ BK227 hb; replace HB := bS_ hb; (try clear hb)))
  go_meet
  case rel => exact ⟨_, (!t230), qz8, H', ⟨by first | omega | exact Nat.le_refl _⟩, ⟨bk_ BK226.out⟩, ⟨bk_ BK227.out⟩, ⟨qz1⟩⟩
  }
  }
  {
  replace c9 := Bool.eq_false_iff.mpr c9
  subst c9
  rw [if_neg (show ¬ (false = true) by decide)] at H
  have H' := aM H
  clear H
  have hnb28 := NB226_227.out
  have hnc28 := NB227_226.out
  obtain ⟨hcz29_0, hcz29_1, hcz29_2, hfz29_0, hfz29_1, hfz29_2⟩ := b6_ BK226.out
  go_wp2_with (first | ((with_reducible refine gate_callee (f := 60) rfl ?_); refine goesL_ (some 6) rfl rfl Try.func60 (by kernel_rfl) rfl #[.agg #[.int .i64 a0_0, .int .i64 a0_1, .slice A0_2 l0_2.length c0_2]] rfl qz4 ?_; (with_reducible refine (spec_FloorOk.calls k a0_0 a0_1 _ _ l0_2 true _ ?side1 ?side2 A6.out).mono ?_); (case side1 => exact qz6); (case side2 => exact HC0_2.out); rintro e w30 ⟨rfl, hb⟩; refine ⟨_, rfl, ?_⟩; replace BK226 := bB_ BK226 hb; replace BK227 := bB_ BK227 hb; replace HB := bS_ hb; (try clear hb); obtain ⟨hcz31_0, hcz31_1, hcz31_2, hfz31_0, hfz31_1, hfz31_2⟩ := b6_ BK226.out; have hcz32_0 := bc0_ BK227.out; have hcz32_1 := bc1_ BK227.out; have hcz32_2 := bc2_ BK227.out; have hcz32_3 := bc3_ BK227.out; have hcz32_4 := bc4_ BK227.out; have hfz32_0 := blk_frozen BK227.out 0; have hfz32_1 := blk_frozen BK227.out 1; have hfz32_2 := blk_frozen BK227.out 2; have hfz32_3 := blk_frozen BK227.out 3; have hfz32_4 := blk_frozen BK227.out 4) | (go_at_call 61; (with_reducible refine (spec_l7Free.calls a0_0 a0_1 _ _ l0_2 a1_1 false _ ?side1 ?side2 A8.out).mono ?_); (case side1 => exact qz6); (case side2 => exact HC0_2.out); rintro e w33 ⟨rfl, hb⟩; replace BK226 := bB_ BK226 hb; replace BK227 := bB_ BK227 hb; replace HB := bS_ hb; (try clear hb)))
  go_meet
  case rel => exact ⟨_, (true), qz8, H', ⟨by first | omega | exact Nat.le_refl _⟩, ⟨bk_ BK226.out⟩, ⟨bk_ BK227.out⟩, ⟨qz1⟩⟩
  }
  }
  {
  replace c7 := Bool.eq_false_iff.mpr c7
  subst c7
  rw [if_neg (show ¬ (false = true) by decide)] at H
  have H' := aM H
  clear H
  have hnb34 := NB226_227.out
  have hnc34 := NB227_226.out
  obtain ⟨hcz35_0, hcz35_1, hcz35_2, hfz35_0, hfz35_1, hfz35_2⟩ := b6_ BK226.out
  go_wp2_with (first | ((with_reducible refine gate_callee (f := 60) rfl ?_); refine goesL_ (some 6) rfl rfl Try.func60 (by kernel_rfl) rfl #[.agg #[.int .i64 a0_0, .int .i64 a0_1, .slice A0_2 l0_2.length c0_2]] rfl qz4 ?_; (with_reducible refine (spec_FloorOk.calls k a0_0 a0_1 _ _ l0_2 false _ ?side1 ?side2 A6.out).mono ?_); (case side1 => exact qz6); (case side2 => exact HC0_2.out); rintro e w36 ⟨rfl, hb⟩; refine ⟨_, rfl, ?_⟩; replace BK226 := bB_ BK226 hb; replace BK227 := bB_ BK227 hb; replace HB := bS_ hb; (try clear hb)))
  go_meet
  case rel => exact ⟨_, (true), qz8, H', ⟨by first | omega | exact Nat.le_refl _⟩, ⟨bk_ BK226.out⟩, ⟨bk_ BK227.out⟩, ⟨qz1⟩⟩
  }
 case rest =>
  clear HC3
  try clear c1
  try clear c2
  try clear p2
  try clear c3
  try clear c6
  try clear c7
  try clear c9
  try clear c10
  try clear c10b0
  try clear c10b1
  try clear c11
  try clear c19
  try clear c26
  try clear c28
  try clear c34
  try clear hcz12_0 hcz12_1 hcz12_2 hfz12_0 hfz12_1 hfz12_2
  try clear hcz14_0 hcz14_1 hcz14_2 hfz14_0 hfz14_1 hfz14_2
  try clear hcz15_0 hcz15_1 hcz15_2 hcz15_3 hcz15_4 hfz15_0 hfz15_1 hfz15_2 hfz15_3 hfz15_4
  try clear hcz17_0 hcz17_1 hcz17_2 hcz17_3 hcz17_4 hfz17_0 hfz17_1 hfz17_2 hfz17_3 hfz17_4
  try clear hcz20_0 hcz20_1 hcz20_2 hfz20_0 hfz20_1 hfz20_2
  try clear hcz22_0 hcz22_1 hcz22_2 hfz22_0 hfz22_1 hfz22_2
  try clear hcz23_0 hcz23_1 hcz23_2 hcz23_3 hcz23_4 hfz23_0 hfz23_1 hfz23_2 hfz23_3 hfz23_4
  try clear hcz25_0 hcz25_1 hcz25_2 hcz25_3 hcz25_4 hfz25_0 hfz25_1 hfz25_2 hfz25_3 hfz25_4
  try clear hcz26_0 hcz26_1 hcz26_2 hfz26_0 hfz26_1 hfz26_2
  try clear hcz29_0 hcz29_1 hcz29_2 hfz29_0 hfz29_1 hfz29_2
  try clear hcz31_0 hcz31_1 hcz31_2 hfz31_0 hfz31_1 hfz31_2
  try clear hcz32_0 hcz32_1 hcz32_2 hcz32_3 hcz32_4 hfz32_0 hfz32_1 hfz32_2 hfz32_3 hfz32_4
  try clear hcz35_0 hcz35_1 hcz35_2 hfz35_0 hfz35_1 hfz35_2
  obtain ⟨kq, x26_2, rfl, HA, HJ2, BK226, BK227, HB⟩ := hcut
  cases kq with
  | zero => exact absurd HA.out (by simp [spec_Choices.j0])
  | succ kj2 =>
   have H := HA.out
   clear HA
   simp only [spec_Choices.j0] at H
   by_cases c37 : x26_2 = true
   {
   subst c37
   rw [if_pos rfl] at H
   obtain ⟨y231, hy231⟩ : ∃ y_ : List Int, y_ = (([] : List Int)) := ⟨_, rfl⟩
   replace H : (some y231) = some r := by first | (rw [hy231]; with_reducible exact H) | (have H2_ := (Option.bind_some _ _).symm.trans H; rw [hy231]; with_reducible exact H2_) | (have H2_ := (Option.bind_some _ _).symm.trans H; with_reducible exact H2_) | with_reducible exact H | (rw [hy231]; exact H) | exact H
   have Ny231 := aM hy231
   clear hy231
   obtain rfl := Option.some.inj H
   simp only [Option.some.injEq, Prod.mk.injEq] at H
   obtain ⟨rfl⟩ := H
   go_wp2_with (first | ((with_reducible refine gate_dst (N := 27) rfl ?_); refine Kd.R_lit (Kd.int .i64) _ 3 ?hg (N := 27) ?hd (xs := ([] : List Int)) (inner := []) (ok := fun _ => True) (okp := fun _ => True) ?hr ?hp (fun _ hk => hk) trivial (Below.refl _ _) (Nat.le_refl _) (by simp) ?_; (case hd => rfl); (case hg => rfl); (case hr => exact qz10); (case hp => exact qz30); intro v232 w38 ho39 hb hg_ hnew_; clear hg_ hnew_; (first | rw [← Ny231.out] at ho39 | (simp only [Int.reduceToNat] at ho39; rw [← Ny231.out] at ho39)); have HO233 := aM (Kd.R_lower ho39 (below_size qz1)); replace BK226 := bB_ BK226 hb; replace BK227 := bB_ BK227 hb; replace HB := bS_ hb; clear hb ho39))
   go_ret
   exact ⟨_, qzw, by (with_reducible repeat (first | apply Kd.R_alloc | apply Kd.R_drewN | apply Kd.R_drew)); exact HO233.out, qz1⟩
   }
   {
   replace c37 := Bool.eq_false_iff.mpr c37
   subst c37
   rw [if_neg (show ¬ (false = true) by decide)] at H
   replace H := Option.bind_eq_some_iff.mp H
   obtain ⟨t234, A400, H⟩ := H
   replace H : ((spec_l7Choices.f kj2 a0_0 a0_1 l0_2 a1_0 a1_1 a1_2 a1_3 a1_4 t234).bind fun t237 => (some t237)) = some r := H
   have A40 := aM A400
   clear A400
   replace H := Option.bind_eq_some_iff.mp H
   obtain ⟨t237, A410, H⟩ := H
   replace H : (some t237) = some r := H
   have A41 := aM A410
   clear A410
   obtain rfl := Option.some.inj H
   simp only [Option.some.injEq, Prod.mk.injEq] at H
   obtain ⟨rfl⟩ := H
   try go_wp2
   replace BK226 := aM (blk_drew BK226.out)
   replace BK227 := aM (blk_drew BK227.out)
   replace HB := aM (below_drew1 HB.out)
   refine start_ (n := 7) (S := fun w' => w'.cell? ⟨gb226, 0, none⟩ = some (.int .i64 a0_0) ∧ w'.cell? ⟨gb226, 1, none⟩ = some (.int .i64 a0_1) ∧ w'.cell? ⟨gb226, 2, none⟩ = some (.slice A0_2 l0_2.length c0_2) ∧ w'.cell? ⟨gb227, 0, none⟩ = some (.int .i64 a1_0) ∧ w'.cell? ⟨gb227, 1, none⟩ = some (.int .i64 a1_1) ∧ w'.cell? ⟨gb227, 2, none⟩ = some (.int .i64 a1_2) ∧ w'.cell? ⟨gb227, 3, none⟩ = some (.bool a1_3) ∧ w'.cell? ⟨gb227, 4, none⟩ = some (.int .i64 a1_4)) (ds := []) #[false, false, false, false, false, false, false] (by kernel_rfl) rfl rfl ⟨(blk_cell BK226.out 0).trans rfl, (blk_cell BK226.out 1).trans rfl, (blk_cell BK226.out 2).trans rfl, (blk_cell BK227.out 0).trans rfl, (blk_cell BK227.out 1).trans rfl, (blk_cell BK227.out 2).trans rfl, (blk_cell BK227.out 3).trans rfl, (blk_cell BK227.out 4).trans rfl⟩ (fun hHeld => ?_)
   generalize wc.drew = w42 at BK226 BK227 HB hHeld ⊢
   refine take_ (i := 0) (N := some 28) (v := ?_) (a' := ?_) #[true, false, false, false, false, false, false] rfl rfl (by kernel_rfl) qzd (Or.inl ⟨by rfl, ?_⟩) hHeld ?_ ?_
   rotate_left
   {
   rintro w' ⟨s0, s1, s2, s3, s4, s5, s6, s7⟩
   go_simp
   with_reducible rfl
   }
   rotate_left
   {
   simp only [qzs]
   rfl
   }
   refine take_ (i := 1) (N := some 29) (v := ?_) (a' := ?_) #[true, true, false, false, false, false, false] rfl rfl (by kernel_rfl) qzd (Or.inl ⟨by rfl, ?_⟩) hHeld ?_ ?_
   rotate_left
   {
   rintro w' ⟨s0, s1, s2, s3, s4, s5, s6, s7⟩
   go_simp
   with_reducible rfl
   }
   rotate_left
   {
   simp only [qzs]
   rfl
   }
   refine take_ (i := 2) (N := some 30) (v := ?_) (a' := ?_) #[true, true, true, false, false, false, false] rfl rfl (by kernel_rfl) qzd (Or.inl ⟨by rfl, ?_⟩) hHeld ?_ ?_
   rotate_left
   {
   rintro w' ⟨s0, s1, s2, s3, s4, s5, s6, s7⟩
   go_simp
   with_reducible rfl
   }
   rotate_left
   {
   simp only [qzs]
   rfl
   }
   refine take_ (i := 3) (N := some 31) (v := ?_) (a' := ?_) #[true, true, true, true, false, false, false] rfl rfl (by kernel_rfl) qzd (Or.inl ⟨by rfl, ?_⟩) hHeld ?_ ?_
   rotate_left
   {
   rintro w' ⟨s0, s1, s2, s3, s4, s5, s6, s7⟩
   go_simp
   with_reducible rfl
   }
   rotate_left
   {
   simp only [qzs]
   rfl
   }
   refine one_ (i := 4) (N := some 32) #[true, true, true, true, true, false, false] rfl rfl (by kernel_rfl) (by decide) (fun K hK => ?_)
   refine goes_ Try.func63 (by kernel_rfl) rfl #[.agg #[.int .i64 a0_0, .int .i64 a0_1, .slice A0_2 l0_2.length c0_2], .agg #[.int .i64 a1_0, .int .i64 a1_1, .int .i64 a1_2, .bool a1_3, .int .i64 a1_4]] (by rfl) rfl rfl qz4 ?_
   with_reducible refine (spec_l7Field.calls kj2 a0_0 a0_1 _ _ l0_2 a1_0 a1_1 a1_2 a1_3 a1_4 t234 _ ?side1 ?side2 A40.out).mono ?_
   (case side1 => exact qz6)
   (case side2 => exact HC0_2.out)
   rintro e w43 ⟨v235, rfl, ho0, hb⟩
   refine ⟨_, rfl, ?_⟩
   have HO236 := aM (Kd.R_lower ho0 (below_size qz1))
   replace BK226 := bB_ BK226 hb
   replace BK227 := bB_ BK227 hb
   replace HB := bS_ hb
   (try clear hb)
   (try clear hb2)
   (try clear hk)
   (try clear hi)
   (try clear ho0)
   obtain ⟨Ao44, co44, eo44⟩ := Kd.R_slice HO236.out
   (first | subst eo44 | (injection eo44 with f1_ f2_ f3_; have f4_ := f1_.symm; have f5_ := f3_.symm; clear f1_ f2_ f3_; subst f4_; subst f5_))
   refine hK.out _ _ ⟨(blk_cell BK226.out 0).trans rfl, (blk_cell BK226.out 1).trans rfl, (blk_cell BK226.out 2).trans rfl, (blk_cell BK227.out 0).trans rfl, (blk_cell BK227.out 1).trans rfl, (blk_cell BK227.out 2).trans rfl, (blk_cell BK227.out 3).trans rfl, (blk_cell BK227.out 4).trans rfl⟩ (fun hHeld => ?_)
   clear hK K
   refine nm_ 32 ?_
   refine one_ (i := 5) (N := some 33) #[true, true, true, true, true, true, false] rfl rfl (by kernel_rfl) (by decide) (fun K hK => ?_)
   refine goes_ Try.func62 (by kernel_rfl) rfl #[.agg #[.int .i64 a0_0, .int .i64 a0_1, .slice A0_2 l0_2.length c0_2], .agg #[.int .i64 a1_0, .int .i64 a1_1, .int .i64 a1_2, .bool a1_3, .int .i64 a1_4], .slice Ao44 t234.length co44] (by rfl) rfl rfl qz4 ?_
   with_reducible refine (spec_l7Choices.calls kj2 a0_0 a0_1 _ _ l0_2 a1_0 a1_1 a1_2 a1_3 a1_4 _ _ t234 t237 _ ?side1 ?side2 ?side3 ?side4 A41.out).mono ?_
   (case side1 => exact qz6)
   (case side2 => exact HC0_2.out)
   (case side3 => repeat (first | exact (Kd.R_reads' HO236.out).2.2 | (with_reducible refine Kd.C_alloc ?_ _) | (with_reducible refine Kd.C_drewN ?_ _) | (with_reducible refine Kd.C_drew ?_)))
   (case side4 => exact (Kd.R_reads' HO236.out).2.1)
   rintro e w45 ⟨v238, rfl, ho0, hb⟩
   refine ⟨_, rfl, ?_⟩
   have HO239 := aM (Kd.R_lower (Kd.R_new' ho0 (Kd.R_lt (rr_ HO236.out))) (below_size qz1))
   replace HO236 := aM (Kd.R_elder' (rr_ HO236.out) (Kd.R_base ho0) hb)
   replace BK226 := bB_ BK226 hb
   replace BK227 := bB_ BK227 hb
   replace HB := bS_ hb
   (try clear hb)
   (try clear hb2)
   (try clear hk)
   (try clear hi)
   (try clear ho0)
   refine hK.out _ _ ⟨(blk_cell BK226.out 0).trans rfl, (blk_cell BK226.out 1).trans rfl, (blk_cell BK226.out 2).trans rfl, (blk_cell BK227.out 0).trans rfl, (blk_cell BK227.out 1).trans rfl, (blk_cell BK227.out 2).trans rfl, (blk_cell BK227.out 3).trans rfl, (blk_cell BK227.out 4).trans rfl⟩ (fun hHeld => ?_)
   clear hK K
   refine nm_ 33 ?_
   refine pure_ (i := 6) (N := some 4) (v := ?_) (a' := ?_) #[true, true, true, true, true, true, true] rfl rfl (by kernel_rfl) qzd (Or.inl ⟨by rfl, ?_⟩) ?_ ?_
   rotate_left
   {
   intro w'
   go_simp
   with_reducible rfl
   }
   rotate_left
   {
   simp only [qzs]
   rfl
   }
   refine done_ (by kernel_rfl) ?_
   try go_wp2
   go_ret
   exact ⟨_, qzw, by (with_reducible repeat (first | apply Kd.R_alloc | apply Kd.R_drewN | apply Kd.R_drew)); exact Kd.R_mono HO239.out (fun _ hk => trivial), qz1⟩

   }
-- NOT PRINTED: function 93 (reflectlite_ValueOf)

-- NOT PRINTED: function 94 (reflectlite_Swapper)

-- NOT PRINTED: function 121 (sort_insertionSort_func)

-- NOT PRINTED: function 134 (sort_swapRange_func)

-- NOT PRINTED: function 131 (sort_rotate_func)

-- NOT PRINTED: function 122 (sort_symMerge_func)

-- NOT PRINTED: function 95 (sort_stable_func)

-- NOT PRINTED: function 96 (reflectlite_Value_Len)

-- NOT PRINTED: function 54 (sort_SliceStable)

/-! ### impl_in: function 88 -/
def impl_in.f (a0 : Int) (a1 : Int) (a2 : Int) : Option (Bool) := if a0 ≥ a1 then (some (decide (a0 ≤ a2))) else (some false)
set_option maxHeartbeats 8000000 in
set_option maxRecDepth 100000 in
theorem impl_in.calls (a0 : Int) (a1 : Int) (a2 : Int) (r : Bool) (w : World) (h : impl_in.f a0 a1 a2 = some r) :
  Calls Try.prog 88 #[.int .i64 a0, .int .i64 a1, .int .i64 a2] w fun e w' => e = .returned (.bool r) ∧ Drawn0 w w' := by
 have H : (if a0 ≥ a1 then (some (decide (a0 ≤ a2))) else (some false)) = some r := h
 clear h
 by_cases c4 : a0 ≥ a1
 {
 rw [if_pos c4] at H
 have c4b0 := decide_eq_true c4
 clear c4
 obtain rfl := Option.some.inj H
 simp only [Option.some.injEq, Prod.mk.injEq] at H
 obtain ⟨rfl⟩ := H
 go_enter Try.func88, Try.ntmps88
 go_wp2
 go_ret
 exact ⟨by first | rfl | (simp; done) | (simp [*]; done), by repeat (first | exact Drawn0.refl _ | apply Drawn0.step)⟩
 }
 {
 rw [if_neg c4] at H
 have c4b0 := decide_eq_false c4
 clear c4
 obtain rfl := Option.some.inj H
 simp only [Option.some.injEq, Prod.mk.injEq] at H
 obtain ⟨rfl⟩ := H
 go_enter Try.func88, Try.ntmps88
 go_wp2
 go_ret
 exact ⟨by first | rfl | (simp; done) | (simp [*]; done), by repeat (first | exact Drawn0.refl _ | apply Drawn0.step)⟩

 }
/-! ### impl_FloorOk: function 64 -/
mutual
def impl_FloorOk.j0 : Nat → Bool → Int → Int → List Int → Option (Bool)
 | 0, _, _, _, _ => none
 | k + 1, x25, x241000, x241001, x241002 => if x25 = true then (some false) else (impl_FloorOk.l0 k x241002 (x241002.length : Int) 0)
def impl_FloorOk.l0 : Nat → List Int → Int → Int → Option (Bool)
 | 0, _, _, _ => none
 | k + 1, x27, x28, x29 => if x29 < x28 then (if 0 ≤ x29 then (if x29 < (x27.length : Int) then ((impl_in.f (rd x27 x29) 0 4).bind fun t244 => (if t244 = true then (impl_FloorOk.l0 k x27 x28 (wrap64 (x29 + 1))) else (some false))) else (none)) else (none)) else (some true)
end
def impl_FloorOk.f (k : Nat) (a0_0 : Int) (a0_1 : Int) (l0_2 : List Int) : Option (Bool) := (impl_in.f a0_0 1 10).bind fun t241 => (if t241 = true then ((impl_in.f a0_1 1 10).bind fun t242 => (if t242 = true then (impl_FloorOk.j0 k ((l0_2.length : Int) != (wrap64 (a0_0 * a0_1))) a0_0 a0_1 l0_2) else (impl_FloorOk.j0 k true a0_0 a0_1 l0_2))) else (impl_FloorOk.j0 k true a0_0 a0_1 l0_2))
theorem impl_FloorOk.mono_l : ∀ k, (∀ y0 y1 y2 y3, LeO (impl_FloorOk.j0 k y0 y1 y2 y3) (impl_FloorOk.j0 (k + 1) y0 y1 y2 y3)) ∧ (∀ y0 y1 y2, LeO (impl_FloorOk.l0 k y0 y1 y2) (impl_FloorOk.l0 (k + 1) y0 y1 y2))
 | 0 => ⟨fun _ _ _ _ r h => by simp [impl_FloorOk.j0] at h, fun _ _ _ r h => by simp [impl_FloorOk.l0] at h⟩
 | k + 1 => by
  obtain ⟨ih0, ih1⟩ := impl_FloorOk.mono_l k
  refine ⟨?_, ?_⟩
  {
  intro y0 y1 y2 y3
  unfold impl_FloorOk.j0
  exact qL
  }
  {
  intro y0 y1 y2
  unfold impl_FloorOk.l0
  exact qL
  }
theorem impl_FloorOk.mono : ∀ a0 a1 a2 k, LeO (impl_FloorOk.f k a0 a1 a2) (impl_FloorOk.f (k + 1) a0 a1 a2) := by
 intro a0 a1 a2 k
 obtain ⟨ih0, ih1⟩ := impl_FloorOk.mono_l k
 unfold impl_FloorOk.f
 exact qL
set_option maxHeartbeats 8000000 in
set_option maxRecDepth 100000 in
theorem impl_FloorOk.calls (k : Nat) (a0_0 : Int) (a0_1 : Int) (A0_2 : Option Addr) (c0_2 : Nat) (l0_2 : List Int) (r : Bool) (w : World) (hr0_2 : Kd.C (Kd.int .i64) w A0_2 l0_2.length l0_2) (hc0_2 : l0_2.length ≤ c0_2) (h : impl_FloorOk.f k a0_0 a0_1 l0_2 = some r) :
  Calls Try.prog 64 #[.agg #[.int .i64 a0_0, .int .i64 a0_1, .slice A0_2 l0_2.length c0_2]] w fun e w' => e = .returned (.bool r) ∧ Below w.heap.size w w' := by
 have hu43 := Try.underlying43
 have HR0_2 := aM hr0_2
 have HC0_2 := aM hc0_2
 clear hr0_2 hc0_2
 have HB := aM (Below.refl w.heap.size w)
 have H : ((impl_in.f a0_0 1 10).bind fun t241 => (if t241 = true then ((impl_in.f a0_1 1 10).bind fun t242 => (if t242 = true then (impl_FloorOk.j0 k ((l0_2.length : Int) != (wrap64 (a0_0 * a0_1))) a0_0 a0_1 l0_2) else (impl_FloorOk.j0 k true a0_0 a0_1 l0_2))) else (impl_FloorOk.j0 k true a0_0 a0_1 l0_2))) = some r := h
 clear h
 have HC2 := aM H
 clear H
 go_enter Try.func64, Try.ntmps64
 go_upto_region 1 with (first | ((with_reducible refine gate_dst (N := 1) rfl ?_); (try (refine gate_guard (by rfl) ?_; dsimp only)); refine bx_ 1 #[.int .i64 a0_0, .int .i64 a0_1, .slice A0_2 l0_2.length c0_2] 43 ?_; intro gb240 hg w3 hbox hb; have BK240 := aM (hbox); have GW240 := aM (bz_ w hg qz1); have GE240 := GW240; replace HB := bS_ hb; clear hb hbox hg))
 (try simp only [Act.put, List.setIfInBounds_toArray, List.set_cons_zero, List.set_cons_succ])
 go_cut [25] (fun v25 wc => ∃ (kq : Nat) (x25_1 : Bool), v25 = .bool x25_1 ∧ Aside0 (impl_FloorOk.j0 kq x25_1 a0_0 a0_1 l0_2 = some r) ∧ Aside0 (kq ≤ k) ∧ Aside0 (wc.heap[gb240]? = some (.cells #[.int .i64 a0_0, .int .i64 a0_1, (.slice A0_2 l0_2.length c0_2)] 43 (0, 0))) ∧ Aside0 (Below w.heap.size w wc))
 case first =>
  have H := HC2.out
  clear HC2
  replace H := Option.bind_eq_some_iff.mp H
  obtain ⟨t241, A40, H⟩ := H
  replace H : (if t241 = true then ((impl_in.f a0_1 1 10).bind fun t242 => (if t242 = true then (impl_FloorOk.j0 k ((l0_2.length : Int) != (wrap64 (a0_0 * a0_1))) a0_0 a0_1 l0_2) else (impl_FloorOk.j0 k true a0_0 a0_1 l0_2))) else (impl_FloorOk.j0 k true a0_0 a0_1 l0_2)) = some r := H
  have A4 := aM A40
  clear A40
  by_cases c5 : t241 = true
  {
  subst c5
  rw [if_pos rfl] at H
  replace H := Option.bind_eq_some_iff.mp H
  obtain ⟨t242, A60, H⟩ := H
  replace H : (if t242 = true then (impl_FloorOk.j0 k ((l0_2.length : Int) != (wrap64 (a0_0 * a0_1))) a0_0 a0_1 l0_2) else (impl_FloorOk.j0 k true a0_0 a0_1 l0_2)) = some r := H
  have A6 := aM A60
  clear A60
  by_cases c7 : t242 = true
  {
  subst c7
  rw [if_pos rfl] at H
  have H' := aM H
  clear H
  obtain ⟨hcz8_0, hcz8_1, hcz8_2, hfz8_0, hfz8_1, hfz8_2⟩ := b6_ BK240.out
  go_wp2_with (first | ((with_reducible refine gate_callee (f := 88) rfl ?_); refine goesL_ (some 7) rfl rfl Try.func88 (by kernel_rfl) rfl #[.int .i64 a0_0, .int .i64 1, .int .i64 10] rfl qz4 ?_; (with_reducible refine (impl_in.calls a0_0 1 10 true _ A4.out).mono ?_); rintro e w' ⟨rfl, ⟨nd, rfl⟩⟩; refine ⟨_, rfl, ?_⟩) | (go_at_call 88; (with_reducible refine (impl_in.calls a0_1 1 10 true _ A6.out).mono ?_); rintro e w' ⟨rfl, ⟨nd, rfl⟩⟩))
  go_meet
  case rel => exact ⟨_, (((l0_2.length : Int) != (wrap64 (a0_0 * a0_1)))), qz8, H', ⟨by first | omega | exact Nat.le_refl _⟩, ⟨bk_ BK240.out⟩, ⟨qz1⟩⟩
  }
  {
  replace c7 := Bool.eq_false_iff.mpr c7
  subst c7
  rw [if_neg (show ¬ (false = true) by decide)] at H
  have H' := aM H
  clear H
  obtain ⟨hcz9_0, hcz9_1, hcz9_2, hfz9_0, hfz9_1, hfz9_2⟩ := b6_ BK240.out
  go_wp2_with (first | ((with_reducible refine gate_callee (f := 88) rfl ?_); refine goesL_ (some 7) rfl rfl Try.func88 (by kernel_rfl) rfl #[.int .i64 a0_0, .int .i64 1, .int .i64 10] rfl qz4 ?_; (with_reducible refine (impl_in.calls a0_0 1 10 true _ A4.out).mono ?_); rintro e w' ⟨rfl, ⟨nd, rfl⟩⟩; refine ⟨_, rfl, ?_⟩) | (go_at_call 88; (with_reducible refine (impl_in.calls a0_1 1 10 false _ A6.out).mono ?_); rintro e w' ⟨rfl, ⟨nd, rfl⟩⟩))
  go_meet
  case rel => exact ⟨_, (true), qz8, H', ⟨by first | omega | exact Nat.le_refl _⟩, ⟨bk_ BK240.out⟩, ⟨qz1⟩⟩
  }
  }
  {
  replace c5 := Bool.eq_false_iff.mpr c5
  subst c5
  rw [if_neg (show ¬ (false = true) by decide)] at H
  have H' := aM H
  clear H
  obtain ⟨hcz10_0, hcz10_1, hcz10_2, hfz10_0, hfz10_1, hfz10_2⟩ := b6_ BK240.out
  go_wp2_with (first | ((with_reducible refine gate_callee (f := 88) rfl ?_); refine goesL_ (some 7) rfl rfl Try.func88 (by kernel_rfl) rfl #[.int .i64 a0_0, .int .i64 1, .int .i64 10] rfl qz4 ?_; (with_reducible refine (impl_in.calls a0_0 1 10 false _ A4.out).mono ?_); rintro e w' ⟨rfl, ⟨nd, rfl⟩⟩; refine ⟨_, rfl, ?_⟩))
  go_meet
  case rel => exact ⟨_, (true), qz8, H', ⟨by first | omega | exact Nat.le_refl _⟩, ⟨bk_ BK240.out⟩, ⟨qz1⟩⟩
  }
 case rest =>
  clear HC2
  try clear p2
  try clear c5
  try clear c6
  try clear p6
  try clear c7
  try clear c8
  try clear hcz10_0 hcz10_1 hcz10_2 hfz10_0 hfz10_1 hfz10_2
  try clear hcz8_0 hcz8_1 hcz8_2 hfz8_0 hfz8_1 hfz8_2
  try clear hcz9_0 hcz9_1 hcz9_2 hfz9_0 hfz9_1 hfz9_2
  obtain ⟨kq, x25_1, rfl, HA, HJ1, BK240, HB⟩ := hcut
  cases kq with
  | zero => exact absurd HA.out (by simp [impl_FloorOk.j0])
  | succ kj1 =>
   have H := HA.out
   clear HA
   simp only [impl_FloorOk.j0] at H
   by_cases c11 : x25_1 = true
   {
   subst c11
   rw [if_pos rfl] at H
   obtain rfl := Option.some.inj H
   simp only [Option.some.injEq, Prod.mk.injEq] at H
   obtain ⟨rfl⟩ := H
   go_wp2
   go_ret
   exact ⟨qzw, qz1⟩
   }
   {
   replace c11 := Bool.eq_false_iff.mpr c11
   subst c11
   rw [if_neg (show ¬ (false = true) by decide)] at H
   have H' := aM H
   clear H
   obtain ⟨hcz12_0, hcz12_1, hcz12_2, hfz12_0, hfz12_1, hfz12_2⟩ := b6_ BK240.out
   go_wp2
   go_loopg [29] kj1 (fun kq v29 w' => ∃ (x29_2 : Int), v29 = .int .i64 x29_2 ∧ Aside0 (impl_FloorOk.l0 kq l0_2 (l0_2.length : Int) x29_2 = some r) ∧ Aside0 (kq ≤ kj1) ∧ Aside0 (w'.heap[gb240]? = some (.cells #[.int .i64 a0_0, .int .i64 a0_1, (.slice A0_2 l0_2.length c0_2)] 43 (0, 0))) ∧ Aside0 (Below w.heap.size w w'))
   case atStart => exact ⟨(0), qz8, H', ⟨Nat.le_refl _⟩, ⟨bk_ BK240.out⟩, ⟨qz1⟩⟩
   case round =>
    clear H'
    try clear c1
    try clear p2
    try clear c5
    try clear c6
    try clear p6
    try clear c7
    try clear c8
    try clear c11
    try clear hcz10_0 hcz10_1 hcz10_2 hfz10_0 hfz10_1 hfz10_2
    try clear hcz12_0 hcz12_1 hcz12_2 hfz12_0 hfz12_1 hfz12_2
    try clear hcz8_0 hcz8_1 hcz8_2 hfz8_0 hfz8_1 hfz8_2
    try clear hcz9_0 hcz9_1 hcz9_2 hfz9_0 hfz9_1 hfz9_2
    obtain ⟨x29_2, rfl, HA, HK2, BK240, HB⟩ := hrel
    cases gk with
    | zero => exact absurd HA.out (by simp [impl_FloorOk.l0])
    | succ k2 =>
     have H := HA.out
     clear HA
     simp only [impl_FloorOk.l0] at H
     by_cases c13 : x29_2 < (l0_2.length : Int)
     {
     rw [if_pos c13] at H
     have c13b0 := decide_eq_true c13
     clear c13
     by_cases c14 : 0 ≤ x29_2
     {
     rw [if_pos c14] at H
     have c14b0 := decide_eq_true c14
     clear c14
     by_cases c15 : x29_2 < (l0_2.length : Int)
     {
     rw [if_pos c15] at H
     have c15b0 := decide_eq_true c15
     clear c15
     replace H := Option.bind_eq_some_iff.mp H
     obtain ⟨t244, A160, H⟩ := H
     replace H : (if t244 = true then (impl_FloorOk.l0 k2 l0_2 (l0_2.length : Int) (wrap64 (x29_2 + 1))) else (some false)) = some r := H
     have A16 := aM A160
     clear A160
     by_cases c17 : t244 = true
     {
     subst c17
     rw [if_pos rfl] at H
     have H' := aM H
     clear H
     have p243 : 0 ≤ (x29_2 : Int) := dt_
     have q243 : x29_2 < (l0_2.length : Int) := dt_
     obtain ⟨ad243, e243, hx243_0⟩ := Kd.at_int HR0_2.out x29_2 p243 q243
     cases e243
     replace hx243_0 := cB_ hx243_0
     replace p243 := eq_true p243
     replace q243 := eq_true q243
     go_wp2_with (first | ((with_reducible refine gate_callee (f := 88) rfl ?_); refine goesL_ (some 34) rfl rfl Try.func88 (by kernel_rfl) rfl #[.int .i64 (rd l0_2 x29_2), .int .i64 0, .int .i64 4] rfl qz4 ?_; (with_reducible refine (impl_in.calls (rd l0_2 x29_2) 0 4 true _ A16.out).mono ?_); rintro e w' ⟨rfl, ⟨nd, rfl⟩⟩; refine ⟨_, rfl, ?_⟩))
     go_roundg k2
     case measure => have := HJ1.out; have := HK2.out; omega
     case rel => exact ⟨(wrap64 (x29_2 + 1)), qz8, H', ⟨by have := HJ1.out; have := HK2.out; omega⟩, ⟨bk_ BK240.out⟩, ⟨qz1⟩⟩
     }
     {
     replace c17 := Bool.eq_false_iff.mpr c17
     subst c17
     rw [if_neg (show ¬ (false = true) by decide)] at H
     obtain rfl := Option.some.inj H
     simp only [Option.some.injEq, Prod.mk.injEq] at H
     obtain ⟨rfl⟩ := H
     have p243 : 0 ≤ (x29_2 : Int) := dt_
     have q243 : x29_2 < (l0_2.length : Int) := dt_
     obtain ⟨ad243, e243, hx243_0⟩ := Kd.at_int HR0_2.out x29_2 p243 q243
     cases e243
     replace hx243_0 := cB_ hx243_0
     replace p243 := eq_true p243
     replace q243 := eq_true q243
     go_wp2_with (first | ((with_reducible refine gate_callee (f := 88) rfl ?_); refine goesL_ (some 34) rfl rfl Try.func88 (by kernel_rfl) rfl #[.int .i64 (rd l0_2 x29_2), .int .i64 0, .int .i64 4] rfl qz4 ?_; (with_reducible refine (impl_in.calls (rd l0_2 x29_2) 0 4 false _ A16.out).mono ?_); rintro e w' ⟨rfl, ⟨nd, rfl⟩⟩; refine ⟨_, rfl, ?_⟩))
     go_ret
     exact ⟨qzw, qz1⟩
     }
     }
     {
     exact an_ c15 H
     }
     }
     {
     exact an_ c14 H
     }
     }
     {
     rw [if_neg c13] at H
     have c13b0 := decide_eq_false c13
     clear c13
     obtain rfl := Option.some.inj H
     simp only [Option.some.injEq, Prod.mk.injEq] at H
     obtain ⟨rfl⟩ := H
     go_wp2
     go_ret
     exact ⟨qzw, qz1⟩

     }
   }
/-! ### impl_isCell: function 74 -/
def impl_isCell.f (a0_0 : Int) (a0_1 : Int) (l0_2 : List Int) (a1 : Int) : Option (Bool) := (impl_in.f a1 0 (wrap64 ((l0_2.length : Int) - 1))).bind fun t246 => (some t246)
set_option maxHeartbeats 8000000 in
set_option maxRecDepth 100000 in
theorem impl_isCell.calls (a0_0 : Int) (a0_1 : Int) (A0_2 : Option Addr) (c0_2 : Nat) (l0_2 : List Int) (a1 : Int) (r : Bool) (w : World) (hr0_2 : Kd.C (Kd.int .i64) w A0_2 l0_2.length l0_2) (hc0_2 : l0_2.length ≤ c0_2) (h : impl_isCell.f a0_0 a0_1 l0_2 a1 = some r) :
  Calls Try.prog 74 #[.agg #[.int .i64 a0_0, .int .i64 a0_1, .slice A0_2 l0_2.length c0_2], .int .i64 a1] w fun e w' => e = .returned (.bool r) ∧ Below w.heap.size w w' := by
 have hu43 := Try.underlying43
 have HR0_2 := aM hr0_2
 have HC0_2 := aM hc0_2
 clear hr0_2 hc0_2
 have HB := aM (Below.refl w.heap.size w)
 have H : ((impl_in.f a1 0 (wrap64 ((l0_2.length : Int) - 1))).bind fun t246 => (some t246)) = some r := h
 clear h
 replace H := Option.bind_eq_some_iff.mp H
 obtain ⟨t246, A30, H⟩ := H
 replace H : (some t246) = some r := H
 have A3 := aM A30
 clear A30
 obtain rfl := Option.some.inj H
 simp only [Option.some.injEq, Prod.mk.injEq] at H
 obtain ⟨rfl⟩ := H
 go_enter Try.func74, Try.ntmps74
 go_wp2_with (first | ((with_reducible refine gate_dst (N := 2) rfl ?_); refine bx_ 2 #[.int .i64 a0_0, .int .i64 a0_1, .slice A0_2 l0_2.length c0_2] 43 ?_; intro gb245 hg w4 hbox hb; have BK245 := aM (hbox); have GW245 := aM (bz_ w hg qz1); have GE245 := GW245; replace HB := bS_ hb; clear hb hbox hg; obtain ⟨hcz5_0, hcz5_1, hcz5_2, hfz5_0, hfz5_1, hfz5_2⟩ := b6_ BK245.out) | ((with_reducible refine gate_callee (f := 88) rfl ?_); refine goesL_ (some 10) rfl rfl Try.func88 (by kernel_rfl) rfl #[.int .i64 a1, .int .i64 0, .int .i64 (wrap64 ((l0_2.length : Int) - 1))] rfl qz4 ?_; (with_reducible refine (impl_in.calls a1 0 (wrap64 ((l0_2.length : Int) - 1)) t246 _ A3.out).mono ?_); rintro e w' ⟨rfl, ⟨nd, rfl⟩⟩; refine ⟨_, rfl, ?_⟩))
 go_ret
 exact ⟨qzw, qz1⟩

end Go.Proofs.Ytankmdbbgepmbaa.PFnChosen
