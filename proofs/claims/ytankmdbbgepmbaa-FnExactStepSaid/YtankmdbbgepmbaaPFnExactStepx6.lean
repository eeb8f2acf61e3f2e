-- Made by a program of this session out of the translation. Lean checks it.
import Derived.Test.YtankmdbbgepmbaaPFnExactStepx0
namespace Go.Proofs.Ytankmdbbgepmbaa.PFnExactStep
open Go.RowKit Go.Proofs.YtankmdbbgepmbaaW.PrintWords Go.Proofs.YtankmdbbgepmbaaW.PrintLast Go.Proofs.YtankmdbbgepmbaaW.PrintMore
attribute [local go_sem] max2_int min2_int max_two min_two max_three min_three max_four min_four   -- for this text's walks alone
set_option linter.unusedVariables false
set_option linter.unusedSimpArgs false

/-! ### spec_l1Beside: function 123 -/
mutual
def spec_l1Beside.j0 : Nat → Int → List Int → Int → Int → Int → Int → List Int → Option (List Int)
 | 0, _, _, _, _, _, _, _ => none
 | k + 1, x1, x5, x6, x7, x190000, x190001, x190002 => if x6 > 0 then (if x5.length < 17592186044416 then (spec_l1Beside.j1 k x1 (x5 ++ [wrap64 (x1 - 1)]) x6 x7 x190000 x190001 x190002) else (none)) else (spec_l1Beside.j1 k x1 x5 x6 x7 x190000 x190001 x190002)
def spec_l1Beside.j1 : Nat → Int → List Int → Int → Int → Int → Int → List Int → Option (List Int)
 | 0, _, _, _, _, _, _, _ => none
 | k + 1, x1, x5, x6, x7, x190000, x190001, x190002 => if x6 < (wrap64 (x190000 - 1)) then (if x5.length < 17592186044416 then ((some (x5 ++ [wrap64 (x1 + 1)] : List Int)).bind fun y199 => (if x7 < (wrap64 (x190001 - 1)) then (if y199.length < 17592186044416 then (some (y199 ++ [wrap64 (x1 + x190000)])) else (none)) else (some y199))) else (none)) else (if x7 < (wrap64 (x190001 - 1)) then (if x5.length < 17592186044416 then (some (x5 ++ [wrap64 (x1 + x190000)])) else (none)) else (some x5))
end
def spec_l1Beside.f (k : Nat) (a0_0 : Int) (a0_1 : Int) (l0_2 : List Int) (a1 : Int) : Option (List Int) := (some (([] : List Int) : List Int)).bind fun y190 => (if a0_0 = 0 then (none) else (if (wrap64 (Int.tdiv a1 a0_0)) > 0 then (if y190.length < 17592186044416 then (spec_l1Beside.j0 k a1 (y190 ++ [wrap64 (a1 - a0_0)]) (Int.tmod a1 a0_0) (wrap64 (Int.tdiv a1 a0_0)) a0_0 a0_1 l0_2) else (none)) else (spec_l1Beside.j0 k a1 y190 (Int.tmod a1 a0_0) (wrap64 (Int.tdiv a1 a0_0)) a0_0 a0_1 l0_2)))
theorem spec_l1Beside.mono_l : ∀ k, (∀ y0 y1 y2 y3 y4 y5 y6, LeO (spec_l1Beside.j0 k y0 y1 y2 y3 y4 y5 y6) (spec_l1Beside.j0 (k + 1) y0 y1 y2 y3 y4 y5 y6)) ∧ (∀ y0 y1 y2 y3 y4 y5 y6, LeO (spec_l1Beside.j1 k y0 y1 y2 y3 y4 y5 y6) (spec_l1Beside.j1 (k + 1) y0 y1 y2 y3 y4 y5 y6))
 | 0 => ⟨fun _ _ _ _ _ _ _ r h => by simp [spec_l1Beside.j0] at h, fun _ _ _ _ _ _ _ r h => by simp [spec_l1Beside.j1] at h⟩
 | k + 1 => by
  obtain ⟨ih0, ih1⟩ := spec_l1Beside.mono_l k
  refine ⟨?_, ?_⟩
  {
  intro y0 y1 y2 y3 y4 y5 y6
  unfold spec_l1Beside.j0
  exact qL
  }
  {
  intro y0 y1 y2 y3 y4 y5 y6
  unfold spec_l1Beside.j1
  exact qL
  }
theorem spec_l1Beside.mono : ∀ a0 a1 a2 a3 k, LeO (spec_l1Beside.f k a0 a1 a2 a3) (spec_l1Beside.f (k + 1) a0 a1 a2 a3) := by
 intro a0 a1 a2 a3 k
 obtain ⟨ih0, ih1⟩ := spec_l1Beside.mono_l k
 unfold spec_l1Beside.f
 exact qL
set_option maxHeartbeats 8000000 in
set_option maxRecDepth 100000 in
theorem spec_l1Beside.calls (k : Nat) (a0_0 : Int) (a0_1 : Int) (A0_2 : Option Addr) (c0_2 : Nat) (l0_2 : List Int) (a1 : Int) (r : List Int) (w : World) (hr0_2 : Kd.C (Kd.int .i64) w A0_2 l0_2.length l0_2) (hc0_2 : l0_2.length ≤ c0_2) (h : spec_l1Beside.f k a0_0 a0_1 l0_2 a1 = some r) :
  Calls Try.prog 123 #[.agg #[.int .i64 a0_0, .int .i64 a0_1, .slice A0_2 l0_2.length c0_2], .int .i64 a1] w fun e w' => ∃ v0_ : Value, e = .returned (v0_) ∧ Kd.R (Kd.int .i64) 3 w' w.heap.size (fun _ => True) v0_ r ∧ Below w.heap.size w w' := by
 have hu43 := Try.underlying43
 have HR0_2 := aM hr0_2
 have HC0_2 := aM hc0_2
 clear hr0_2 hc0_2
 have HB := aM (Below.refl w.heap.size w)
 have H : ((some (([] : List Int) : List Int)).bind fun y190 => (if a0_0 = 0 then (none) else (if (wrap64 (Int.tdiv a1 a0_0)) > 0 then (if y190.length < 17592186044416 then (spec_l1Beside.j0 k a1 (y190 ++ [wrap64 (a1 - a0_0)]) (Int.tmod a1 a0_0) (wrap64 (Int.tdiv a1 a0_0)) a0_0 a0_1 l0_2) else (none)) else (spec_l1Beside.j0 k a1 y190 (Int.tmod a1 a0_0) (wrap64 (Int.tdiv a1 a0_0)) a0_0 a0_1 l0_2)))) = some r := h
 clear h
 obtain ⟨y190, hy190⟩ : ∃ y_ : List Int, y_ = (([] : List Int)) := ⟨_, rfl⟩
 replace H : (if a0_0 = 0 then (none) else (if (wrap64 (Int.tdiv a1 a0_0)) > 0 then (if y190.length < 17592186044416 then (spec_l1Beside.j0 k a1 (y190 ++ [wrap64 (a1 - a0_0)]) (Int.tmod a1 a0_0) (wrap64 (Int.tdiv a1 a0_0)) a0_0 a0_1 l0_2) else (none)) else (spec_l1Beside.j0 k a1 y190 (Int.tmod a1 a0_0) (wrap64 (Int.tdiv a1 a0_0)) a0_0 a0_1 l0_2))) = some r := by first | (rw [hy190]; with_reducible exact H) | (have H2_ := (Option.bind_some _ _).symm.trans H; rw [hy190]; with_reducible exact H2_) | (have H2_ := (Option.bind_some _ _).symm.trans H; with_reducible exact H2_) | with_reducible exact H | (rw [hy190]; exact H) | exact H
 have Ny190 := aM hy190
 clear hy190
 by_cases c3 : a0_0 = 0
 {
 exact ap_ c3 H
 }
 {
 rw [if_neg c3] at H
 have c3b0 := beq_eq_false_iff_ne.mpr c3
 have c3b1 := bne_iff_ne.mpr c3
 have HC4 := aM H
 clear H
 go_enter Try.func123, Try.ntmps123
 go_upto_if 18 with (first | ((with_reducible refine gate_dst (N := 2) rfl ?_); refine bx_ 2 #[.int .i64 a0_0, .int .i64 a0_1, .slice A0_2 l0_2.length c0_2] 43 ?_; intro gb189 hg w5 hbox hb; have BK189 := aM (hbox); have GW189 := aM (bz_ w hg qz1); have GE189 := GW189; replace HB := bS_ hb; clear hb hbox hg) | ((with_reducible refine gate_dst (N := 8) rfl ?_); refine Kd.R_lit (Kd.int .i64) _ 3 ?hg (N := 8) ?hd (xs := ([] : List Int)) (inner := []) (ok := fun _ => True) (okp := fun _ => True) ?hr ?hp (fun _ hk => hk) trivial (Below.refl _ _) (Nat.le_refl _) (by simp) ?_; (case hd => rfl); (case hg => rfl); (case hr => exact qz6); (case hp => exact (Reps.none _ _)); intro v191 w6 ho7 hb hg_ hnew_; clear hg_ hnew_; (first | rw [← Ny190.out] at ho7 | (simp only [Int.reduceToNat] at ho7; rw [← Ny190.out] at ho7)); have HO192 := aM (Kd.R_lower ho7 (below_size qz1)); replace BK189 := bB_ BK189 hb; replace HB := bS_ hb; clear hb ho7; obtain ⟨hcz8_0, hcz8_1, hcz8_2, hfz8_0, hfz8_1, hfz8_2⟩ := b6_ BK189.out))
 (try simp only [Act.put, List.setIfInBounds_toArray, List.set_cons_zero, List.set_cons_succ])
 go_cut [5] (fun v5 wc => ∃ (kq : Nat) (x5_3 : List Int), Aside0 (spec_l1Beside.j0 kq a1 x5_3 (Int.tmod a1 a0_0) (wrap64 (Int.tdiv a1 a0_0)) a0_0 a0_1 l0_2 = some r) ∧ Aside0 (kq ≤ k) ∧ Aside0 (Kd.R (Kd.int .i64) 3 wc w.heap.size (fun _ => True) v5 x5_3) ∧ Aside0 (wc.heap[gb189]? = some (.cells #[.int .i64 a0_0, .int .i64 a0_1, (.slice A0_2 l0_2.length c0_2)] 43 (0, 0))) ∧ Aside0 (Below w.heap.size w wc))
 case first =>
  have H := HC4.out
  clear HC4
  by_cases c9 : (wrap64 (Int.tdiv a1 a0_0)) > 0
  {
  rw [if_pos c9] at H
  have c9b0 := decide_eq_true c9
  clear c9
  (first | rw [c9b0] | (simp only [i64_w, i32_w]; rw [c9b0]) | rw [@decide_eq_true _ _ (of_decide_eq_true c9b0)] | rw [@decide_eq_true _ _ (of_decide_eq_true c9b1)] | skip)
  by_cases c10 : y190.length < 17592186044416
  {
  rw [if_pos c10] at H
  have LMc10 := aM c10
  clear c10
  obtain ⟨y193, hy193⟩ : ∃ y_ : List Int, y_ = (y190 ++ [wrap64 (a1 - a0_0)]) := ⟨_, rfl⟩
  replace H : (spec_l1Beside.j0 k a1 y193 (Int.tmod a1 a0_0) (wrap64 (Int.tdiv a1 a0_0)) a0_0 a0_1 l0_2) = some r := by first | (rw [hy193]; with_reducible exact H) | (have H2_ := (Option.bind_some _ _).symm.trans H; rw [hy193]; with_reducible exact H2_) | (have H2_ := (Option.bind_some _ _).symm.trans H; with_reducible exact H2_) | with_reducible exact H | (rw [hy193]; exact H) | exact H
  have Ny193 := aM hy193
  clear hy193
  have H' := aM H
  clear H
  obtain ⟨hcz11_0, hcz11_1, hcz11_2, hfz11_0, hfz11_1, hfz11_2⟩ := b6_ BK189.out
  go_wp2_with (first | ((with_reducible refine gate_builtin (b := .append) (xs := #[.tmp 19, .tmp 24]) rfl ?_); at_builtin; refine Kd.R_append (Kd.int .i64) (w0 := w) w.heap.size rfl (.tmp 19) (.tmp 24) 24 3 (.int .i64 0) 8 rfl Try.underlying24 info3 rfl (by decide) (by omega) v191 y190 (wrap64 (a1 - a0_0)) [.int .i64 (wrap64 (a1 - a0_0))] (fun _ => True) (fun _ => False) rfl rfl ?aP (fun _ hk => hk.elim) ?aF ?aO ?aB ?aS ?aL ?_; (case aP => exact rfl); (case aB => exact qz1); (case aF => exact qz9); (case aO => exact (rr_ HO192.out)); (case aS => exact qz19); (case aL => have := LMc10.out; omega); intro v194 w12 ho hb hg hat; rw [← Ny193.out] at ho; replace BK189 := aM (blk_grown (bk_ BK189.out) hg (Kd.R_ne HO192.out BK189.out (by decide))); replace HB := aM (hb); have HO195 := aM (ho); clear HO192; clear ho hb hg hat))
  go_meet
  case rel => exact ⟨_, (y193), H', ⟨by first | omega | exact Nat.le_refl _⟩, ⟨rm_ HO195.out⟩, ⟨bk_ BK189.out⟩, ⟨qz1⟩⟩
  }
  {
  exact an_ c10 H
  }
  }
  {
  rw [if_neg c9] at H
  have c9b0 := decide_eq_false c9
  clear c9
  (first | rw [c9b0] | (simp only [i64_w, i32_w]; rw [c9b0]) | rw [@decide_eq_false _ _ (of_decide_eq_false c9b0)] | rw [@decide_eq_false _ _ (of_decide_eq_false c9b1)] | skip)
  have H' := aM H
  clear H
  go_wp2
  go_meet
  case rel => exact ⟨_, (y190), H', ⟨by first | omega | exact Nat.le_refl _⟩, ⟨rm_ HO192.out⟩, ⟨bk_ BK189.out⟩, ⟨qz1⟩⟩
  }
 case rest =>
  clear HC4
  try clear c1
  try clear p2
  try clear c3
  try clear c3b0
  try clear c3b1
  try clear p6
  try clear c9
  try clear c9b0
  try clear c9b1
  try clear c10
  try clear c12
  try clear hcz11_0 hcz11_1 hcz11_2 hfz11_0 hfz11_1 hfz11_2
  try clear hcz8_0 hcz8_1 hcz8_2 hfz8_0 hfz8_1 hfz8_2
  obtain ⟨kq, x5_3, HA, HJ3, HO_5, BK189, HB⟩ := hcut
  cases kq with
  | zero => exact absurd HA.out (by simp [spec_l1Beside.j0])
  | succ kj3 =>
   have H := HA.out
   clear HA
   simp only [spec_l1Beside.j0] at H
   have HC13 := aM H
   clear H
   go_upto_if 27 with (fail)
   go_cut [5] (fun v5 wc => ∃ (kq : Nat) (x5_12 : List Int), Aside0 (spec_l1Beside.j1 kq a1 x5_12 (Int.tmod a1 a0_0) (wrap64 (Int.tdiv a1 a0_0)) a0_0 a0_1 l0_2 = some r) ∧ Aside0 (kq ≤ kj3) ∧ Aside0 (Kd.R (Kd.int .i64) 3 wc w.heap.size (fun _ => True) v5 x5_12) ∧ Aside0 (wc.heap[gb189]? = some (.cells #[.int .i64 a0_0, .int .i64 a0_1, (.slice A0_2 l0_2.length c0_2)] 43 (0, 0))) ∧ Aside0 (Below w.heap.size w wc))
   case first =>
    have H := HC13.out
    clear HC13
    by_cases c14 : (Int.tmod a1 a0_0) > 0
    {
    rw [if_pos c14] at H
    have c14b0 := decide_eq_true c14
    clear c14
    (first | rw [c14b0] | (simp only [i64_w, i32_w]; rw [c14b0]) | rw [@decide_eq_true _ _ (of_decide_eq_true c14b0)] | rw [@decide_eq_true _ _ (of_decide_eq_true c14b1)] | skip)
    by_cases c15 : x5_3.length < 17592186044416
    {
    rw [if_pos c15] at H
    have LMc15 := aM c15
    clear c15
    obtain ⟨y196, hy196⟩ : ∃ y_ : List Int, y_ = (x5_3 ++ [wrap64 (a1 - 1)]) := ⟨_, rfl⟩
    replace H : (spec_l1Beside.j1 kj3 a1 y196 (Int.tmod a1 a0_0) (wrap64 (Int.tdiv a1 a0_0)) a0_0 a0_1 l0_2) = some r := by first | (rw [hy196]; with_reducible exact H) | (have H2_ := (Option.bind_some _ _).symm.trans H; rw [hy196]; with_reducible exact H2_) | (have H2_ := (Option.bind_some _ _).symm.trans H; with_reducible exact H2_) | with_reducible exact H | (rw [hy196]; exact H) | exact H
    have Ny196 := aM hy196
    clear hy196
    have H' := aM H
    clear H
    go_wp2_with (first | ((with_reducible refine gate_builtin (b := .append) (xs := #[.tmp 28, .tmp 31]) rfl ?_); at_builtin; refine Kd.R_append (Kd.int .i64) (w0 := w) w.heap.size rfl (.tmp 28) (.tmp 31) 24 3 (.int .i64 0) 8 rfl Try.underlying24 info3 rfl (by decide) (by omega) u5 x5_3 (wrap64 (a1 - 1)) [.int .i64 (wrap64 (a1 - 1))] (fun _ => True) (fun _ => False) rfl rfl ?aP (fun _ hk => hk.elim) ?aF ?aO ?aB ?aS ?aL ?_; (case aP => exact rfl); (case aB => exact qz1); (case aF => exact qz9); (case aO => exact (rr_ HO_5.out)); (case aS => exact qz19); (case aL => have := LMc15.out; omega); intro v197 w16 ho hb hg hat; rw [← Ny196.out] at ho; replace BK189 := aM (blk_grown (bk_ BK189.out) hg (Kd.R_ne HO_5.out BK189.out (by decide))); replace HB := aM (hb); have HO198 := aM (ho); clear HO_5; clear ho hb hg hat))
    go_meet
    case rel => exact ⟨_, (y196), H', ⟨by have := HJ3.out; first | omega | exact Nat.le_refl _⟩, ⟨rm_ HO198.out⟩, ⟨bk_ BK189.out⟩, ⟨qz1⟩⟩
    }
    {
    exact an_ c15 H
    }
    }
    {
    rw [if_neg c14] at H
    have c14b0 := decide_eq_false c14
    clear c14
    (first | rw [c14b0] | (simp only [i64_w, i32_w]; rw [c14b0]) | rw [@decide_eq_false _ _ (of_decide_eq_false c14b0)] | rw [@decide_eq_false _ _ (of_decide_eq_false c14b1)] | skip)
    have H' := aM H
    clear H
    go_wp2
    go_meet
    case rel => exact ⟨_, (x5_3), H', ⟨by have := HJ3.out; first | omega | exact Nat.le_refl _⟩, ⟨rm_ HO_5.out⟩, ⟨bk_ BK189.out⟩, ⟨qz1⟩⟩
    }
   case rest =>
    clear HC13
    try clear c1
    try clear p2
    try clear c3
    try clear c3b0
    try clear c3b1
    try clear p6
    try clear c9
    try clear c9b0
    try clear c9b1
    try clear c10
    try clear c12
    try clear c14
    try clear c14b0
    try clear c14b1
    try clear c15
    try clear hcz11_0 hcz11_1 hcz11_2 hfz11_0 hfz11_1 hfz11_2
    try clear hcz8_0 hcz8_1 hcz8_2 hfz8_0 hfz8_1 hfz8_2
    obtain ⟨kq, x5_12, HA, HJ12, HO_5, BK189, HB⟩ := hcut
    cases kq with
    | zero => exact absurd HA.out (by simp [spec_l1Beside.j1])
    | succ kj12 =>
     have H := HA.out
     clear HA
     simp only [spec_l1Beside.j1] at H
     by_cases c17 : (Int.tmod a1 a0_0) < (wrap64 (a0_0 - 1))
     {
     rw [if_pos c17] at H
     have c17b0 := decide_eq_true c17
     clear c17
     by_cases c18 : x5_12.length < 17592186044416
     {
     rw [if_pos c18] at H
     have LMc18 := aM c18
     clear c18
     obtain ⟨y199, hy199⟩ : ∃ y_ : List Int, y_ = (x5_12 ++ [wrap64 (a1 + 1)]) := ⟨_, rfl⟩
     replace H : (if (wrap64 (Int.tdiv a1 a0_0)) < (wrap64 (a0_1 - 1)) then (if y199.length < 17592186044416 then (some (y199 ++ [wrap64 (a1 + a0_0)])) else (none)) else (some y199)) = some r := by first | (rw [hy199]; with_reducible exact H) | (have H2_ := (Option.bind_some _ _).symm.trans H; rw [hy199]; with_reducible exact H2_) | (have H2_ := (Option.bind_some _ _).symm.trans H; with_reducible exact H2_) | with_reducible exact H | (rw [hy199]; exact H) | exact H
     have Ny199 := aM hy199
     clear hy199
     by_cases c19 : (wrap64 (Int.tdiv a1 a0_0)) < (wrap64 (a0_1 - 1))
     {
     rw [if_pos c19] at H
     have c19b0 := decide_eq_true c19
     clear c19
     by_cases c20 : y199.length < 17592186044416
     {
     rw [if_pos c20] at H
     have LMc20 := aM c20
     clear c20
     obtain ⟨y202, hy202⟩ : ∃ y_ : List Int, y_ = (y199 ++ [wrap64 (a1 + a0_0)]) := ⟨_, rfl⟩
     replace H : (some y202) = some r := by first | (rw [hy202]; with_reducible exact H) | (have H2_ := (Option.bind_some _ _).symm.trans H; rw [hy202]; with_reducible exact H2_) | (have H2_ := (Option.bind_some _ _).symm.trans H; with_reducible exact H2_) | with_reducible exact H | (rw [hy202]; exact H) | exact H
     have Ny202 := aM hy202
     clear hy202
     obtain rfl := Option.some.inj H
     simp only [Option.some.injEq, Prod.mk.injEq] at H
     obtain ⟨rfl⟩ := H
     obtain ⟨hcz21_0, hcz21_1, hcz21_2, hfz21_0, hfz21_1, hfz21_2⟩ := b6_ BK189.out
     go_wp2_with (first | ((with_reducible refine gate_builtin (b := .append) (xs := #[.tmp 38, .tmp 41]) rfl ?_); at_builtin; refine Kd.R_append (Kd.int .i64) (w0 := w) w.heap.size rfl (.tmp 38) (.tmp 41) 24 3 (.int .i64 0) 8 rfl Try.underlying24 info3 rfl (by decide) (by omega) u5 x5_12 (wrap64 (a1 + 1)) [.int .i64 (wrap64 (a1 + 1))] (fun _ => True) (fun _ => False) rfl rfl ?aP (fun _ hk => hk.elim) ?aF ?aO ?aB ?aS ?aL ?_; (case aP => exact rfl); (case aB => exact qz1); (case aF => exact qz9); (case aO => exact (rr_ HO_5.out)); (case aS => exact qz19); (case aL => have := LMc18.out; omega); intro v200 w22 ho hb hg hat; rw [← Ny199.out] at ho; replace BK189 := aM (blk_grown (bk_ BK189.out) hg (Kd.R_ne HO_5.out BK189.out (by decide))); replace HB := aM (hb); have HO201 := aM (ho); clear HO_5; clear ho hb hg hat; obtain ⟨hcz23_0, hcz23_1, hcz23_2, hfz23_0, hfz23_1, hfz23_2⟩ := b6_ BK189.out) | ((with_reducible refine gate_builtin (b := .append) (xs := #[.tmp 48, .tmp 53]) rfl ?_); at_builtin; refine Kd.R_append (Kd.int .i64) (w0 := w) w.heap.size rfl (.tmp 48) (.tmp 53) 24 3 (.int .i64 0) 8 rfl Try.underlying24 info3 rfl (by decide) (by omega) v200 y199 (wrap64 (a1 + a0_0)) [.int .i64 (wrap64 (a1 + a0_0))] (fun _ => True) (fun _ => False) rfl rfl ?aP (fun _ hk => hk.elim) ?aF ?aO ?aB ?aS ?aL ?_; (case aP => exact rfl); (case aB => exact qz1); (case aF => exact qz9); (case aO => exact (rr_ HO201.out)); (case aS => exact qz19); (case aL => have := LMc20.out; omega); intro v203 w24 ho hb hg hat; rw [← Ny202.out] at ho; replace BK189 := aM (blk_grown (bk_ BK189.out) hg (Kd.R_ne HO201.out BK189.out (by decide))); replace HB := aM (hb); have HO204 := aM (ho); clear HO201; clear ho hb hg hat))
     go_ret
     exact ⟨_, qzw, by (with_reducible repeat (first | apply Kd.R_alloc | apply Kd.R_drewN | apply Kd.R_drew)); exact HO204.out, qz1⟩
     }
     {
     exact an_ c20 H
     }
     }
     {
     rw [if_neg c19] at H
     have c19b0 := decide_eq_false c19
     clear c19
     obtain rfl := Option.some.inj H
     simp only [Option.some.injEq, Prod.mk.injEq] at H
     obtain ⟨rfl⟩ := H
     obtain ⟨hcz25_0, hcz25_1, hcz25_2, hfz25_0, hfz25_1, hfz25_2⟩ := b6_ BK189.out
     go_wp2_with (first | ((with_reducible refine gate_builtin (b := .append) (xs := #[.tmp 38, .tmp 41]) rfl ?_); at_builtin; refine Kd.R_append (Kd.int .i64) (w0 := w) w.heap.size rfl (.tmp 38) (.tmp 41) 24 3 (.int .i64 0) 8 rfl Try.underlying24 info3 rfl (by decide) (by omega) u5 x5_12 (wrap64 (a1 + 1)) [.int .i64 (wrap64 (a1 + 1))] (fun _ => True) (fun _ => False) rfl rfl ?aP (fun _ hk => hk.elim) ?aF ?aO ?aB ?aS ?aL ?_; (case aP => exact rfl); (case aB => exact qz1); (case aF => exact qz9); (case aO => exact (rr_ HO_5.out)); (case aS => exact qz19); (case aL => have := LMc18.out; omega); intro v200 w26 ho hb hg hat; rw [← Ny199.out] at ho; replace BK189 := aM (blk_grown (bk_ BK189.out) hg (Kd.R_ne HO_5.out BK189.out (by decide))); replace HB := aM (hb); have HO201 := aM (ho); clear HO_5; clear ho hb hg hat; obtain ⟨hcz27_0, hcz27_1, hcz27_2, hfz27_0, hfz27_1, hfz27_2⟩ := b6_ BK189.out))
     go_ret
     exact ⟨_, qzw, by (with_reducible repeat (first | apply Kd.R_alloc | apply Kd.R_drewN | apply Kd.R_drew)); exact HO201.out, qz1⟩
     }
     }
     {
     exact an_ c18 H
     }
     }
     {
     rw [if_neg c17] at H
     have c17b0 := decide_eq_false c17
     clear c17
     by_cases c28 : (wrap64 (Int.tdiv a1 a0_0)) < (wrap64 (a0_1 - 1))
     {
     rw [if_pos c28] at H
     have c28b0 := decide_eq_true c28
     clear c28
     by_cases c29 : x5_12.length < 17592186044416
     {
     rw [if_pos c29] at H
     have LMc29 := aM c29
     clear c29
     obtain ⟨y205, hy205⟩ : ∃ y_ : List Int, y_ = (x5_12 ++ [wrap64 (a1 + a0_0)]) := ⟨_, rfl⟩
     replace H : (some y205) = some r := by first | (rw [hy205]; with_reducible exact H) | (have H2_ := (Option.bind_some _ _).symm.trans H; rw [hy205]; with_reducible exact H2_) | (have H2_ := (Option.bind_some _ _).symm.trans H; with_reducible exact H2_) | with_reducible exact H | (rw [hy205]; exact H) | exact H
     have Ny205 := aM hy205
     clear hy205
     obtain rfl := Option.some.inj H
     simp only [Option.some.injEq, Prod.mk.injEq] at H
     obtain ⟨rfl⟩ := H
     obtain ⟨hcz30_0, hcz30_1, hcz30_2, hfz30_0, hfz30_1, hfz30_2⟩ := b6_ BK189.out
     go_wp2_with (first | ((with_reducible refine gate_builtin (b := .append) (xs := #[.tmp 48, .tmp 53]) rfl ?_); at_builtin; refine Kd.R_append (Kd.int .i64) (w0 := w) w.heap.size rfl (.tmp 48) (.tmp 53) 24 3 (.int .i64 0) 8 rfl Try.underlying24 info3 rfl (by decide) (by omega) u5 x5_12 (wrap64 (a1 + a0_0)) [.int .i64 (wrap64 (a1 + a0_0))] (fun _ => True) (fun _ => False) rfl rfl ?aP (fun _ hk => hk.elim) ?aF ?aO ?aB ?aS ?aL ?_; (case aP => exact rfl); (case aB => exact qz1); (case aF => exact qz9); (case aO => exact (rr_ HO_5.out)); (case aS => exact qz19); (case aL => have := LMc29.out; omega); intro v206 w31 ho hb hg hat; rw [← Ny205.out] at ho; replace BK189 := aM (blk_grown (bk_ BK189.out) hg (Kd.R_ne HO_5.out BK189.out (by decide))); replace HB := aM (hb); have HO207 := aM (ho); clear HO_5; clear ho hb hg hat))
     go_ret
     exact ⟨_, qzw, by (with_reducible repeat (first | apply Kd.R_alloc | apply Kd.R_drewN | apply Kd.R_drew)); exact HO207.out, qz1⟩
     }
     {
     exact an_ c29 H
     }
     }
     {
     rw [if_neg c28] at H
     have c28b0 := decide_eq_false c28
     clear c28
     obtain rfl := Option.some.inj H
     simp only [Option.some.injEq, Prod.mk.injEq] at H
     obtain ⟨rfl⟩ := H
     obtain ⟨hcz32_0, hcz32_1, hcz32_2, hfz32_0, hfz32_1, hfz32_2⟩ := b6_ BK189.out
     go_wp2
     go_ret
     exact ⟨_, qzw, by (with_reducible repeat (first | apply Kd.R_alloc | apply Kd.R_drewN | apply Kd.R_drew)); exact HO_5.out, qz1⟩

     }
     }
 }
/-! ### spec_l1Near: function 99 -/
def spec_l1Near.l0 : Nat → Bool → List Int → List Int → Int → Int → Int → List Int → Option (List Int)
 | 0, _, _, _, _, _, _, _ => none
 | k + 1, x2, x7, x8, x9, x209000, x209001, x209002 => if x9 < (x8.length : Int) then (if 0 ≤ x9 then (if 0 ≤ (rd x8 x9) then (if (rd x8 x9) < (x209002.length : Int) then (if (rd x209002 (rd x8 x9)) = 0 then (spec_l1Near.l0 k x2 x7 x8 (wrap64 (x9 + 1)) x209000 x209001 x209002) else (if x2 = true then (if ((rd x209002 (rd x8 x9)) = 2) then (spec_l1Near.l0 k x2 x7 x8 (wrap64 (x9 + 1)) x209000 x209001 x209002) else (if x7.length < 17592186044416 then (spec_l1Near.l0 k x2 (x7 ++ [rd x8 x9]) x8 (wrap64 (x9 + 1)) x209000 x209001 x209002) else (none))) else (if x7.length < 17592186044416 then (spec_l1Near.l0 k x2 (x7 ++ [rd x8 x9]) x8 (wrap64 (x9 + 1)) x209000 x209001 x209002) else (none)))) else (none)) else (none)) else (none)) else (some x7)
def spec_l1Near.f (k : Nat) (a0_0 : Int) (a0_1 : Int) (l0_2 : List Int) (a1 : Int) (a2 : Bool) : Option (List Int) := (spec_l1Beside.f k a0_0 a0_1 l0_2 a1).bind fun t212 => (spec_l1Near.l0 k a2 (([] : List Int)) t212 0 a0_0 a0_1 l0_2)
theorem spec_l1Near.mono_l : ∀ k, (∀ y0 y1 y2 y3 y4 y5 y6, LeO (spec_l1Near.l0 k y0 y1 y2 y3 y4 y5 y6) (spec_l1Near.l0 (k + 1) y0 y1 y2 y3 y4 y5 y6))
 | 0 => fun _ _ _ _ _ _ _ r h => by simp [spec_l1Near.l0] at h
 | k + 1 => by
  have ih0 := spec_l1Near.mono_l k
  {
  intro y0 y1 y2 y3 y4 y5 y6
  unfold spec_l1Near.l0
  have j0 := @spec_l1Beside.mono
  exact qL
  }
theorem spec_l1Near.mono : ∀ a0 a1 a2 a3 a4 k, LeO (spec_l1Near.f k a0 a1 a2 a3 a4) (spec_l1Near.f (k + 1) a0 a1 a2 a3 a4) := by
 intro a0 a1 a2 a3 a4 k
 have ih0 := spec_l1Near.mono_l k
 unfold spec_l1Near.f
 have j0 := @spec_l1Beside.mono
 exact qL
set_option maxHeartbeats 8000000 in
set_option maxRecDepth 100000 in
theorem spec_l1Near.calls (k : Nat) (a0_0 : Int) (a0_1 : Int) (A0_2 : Option Addr) (c0_2 : Nat) (l0_2 : List Int) (a1 : Int) (a2 : Bool) (r : List Int) (w : World) (hr0_2 : Kd.C (Kd.int .i64) w A0_2 l0_2.length l0_2) (hc0_2 : l0_2.length ≤ c0_2) (h : spec_l1Near.f k a0_0 a0_1 l0_2 a1 a2 = some r) :
  Calls Try.prog 99 #[.agg #[.int .i64 a0_0, .int .i64 a0_1, .slice A0_2 l0_2.length c0_2], .int .i64 a1, .bool a2] w fun e w' => ∃ v0_ : Value, e = .returned (v0_) ∧ Kd.R (Kd.int .i64) 3 w' w.heap.size (fun _ => True) v0_ r ∧ Below w.heap.size w w' := by
 have hu43 := Try.underlying43
 have HR0_2 := aM hr0_2
 have HC0_2 := aM hc0_2
 clear hr0_2 hc0_2
 have HB := aM (Below.refl w.heap.size w)
 have H : ((spec_l1Beside.f k a0_0 a0_1 l0_2 a1).bind fun t212 => (spec_l1Near.l0 k a2 (([] : List Int)) t212 0 a0_0 a0_1 l0_2)) = some r := h
 clear h
 obtain ⟨y209, hy209⟩ : ∃ y_ : List Int, y_ = (([] : List Int)) := ⟨_, rfl⟩
 replace H : ((spec_l1Beside.f k a0_0 a0_1 l0_2 a1).bind fun t212 => (spec_l1Near.l0 k a2 y209 t212 0 a0_0 a0_1 l0_2)) = some r := by first | (rw [hy209]; with_reducible exact H) | (have H2_ := (Option.bind_some _ _).symm.trans H; rw [hy209]; with_reducible exact H2_) | (have H2_ := (Option.bind_some _ _).symm.trans H; with_reducible exact H2_) | with_reducible exact H | (rw [hy209]; exact H) | exact H
 have Ny209 := aM hy209
 clear hy209
 replace H := Option.bind_eq_some_iff.mp H
 obtain ⟨t212, A40, H⟩ := H
 replace H : (spec_l1Near.l0 k a2 y209 t212 0 a0_0 a0_1 l0_2) = some r := H
 have A4 := aM A40
 clear A40
 have H' := aM H
 clear H
 go_enter Try.func99, Try.ntmps99
 go_wp2_with (first | ((with_reducible refine gate_dst (N := 3) rfl ?_); refine bx_ 3 #[.int .i64 a0_0, .int .i64 a0_1, .slice A0_2 l0_2.length c0_2] 43 ?_; intro gb208 hg w5 hbox hb; have BK208 := aM (hbox); have GW208 := aM (bz_ w hg qz1); have GE208 := GW208; replace HB := bS_ hb; clear hb hbox hg) | ((with_reducible refine gate_dst (N := 11) rfl ?_); refine Kd.R_lit (Kd.int .i64) _ 3 ?hg (N := 11) ?hd (xs := ([] : List Int)) (inner := []) (ok := fun _ => True) (okp := fun _ => True) ?hr ?hp (fun _ hk => hk) trivial (Below.refl _ _) (Nat.le_refl _) (by simp) ?_; (case hd => rfl); (case hg => rfl); (case hr => exact qz6); (case hp => exact (Reps.none _ _)); intro v210 w6 ho7 hb hg_ hnew_; clear hg_ hnew_; (first | rw [← Ny209.out] at ho7 | (simp only [Int.reduceToNat] at ho7; rw [← Ny209.out] at ho7)); have HO211 := aM (Kd.R_lower ho7 (below_size qz1)); replace BK208 := bB_ BK208 hb; replace HB := bS_ hb; clear hb ho7; obtain ⟨hcz8_0, hcz8_1, hcz8_2, hfz8_0, hfz8_1, hfz8_2⟩ := b6_ BK208.out) | (go_at_call 123; (with_reducible refine (spec_l1Beside.calls k a0_0 a0_1 _ _ l0_2 a1 t212 _ ?side1 ?side2 A4.out).mono ?_); (case side1 => exact qz3); (case side2 => exact qz15); rintro e w9 ⟨v213, rfl, ho0, hb⟩; have HO214 := aM (Kd.R_lower (Kd.R_new' ho0 (Kd.R_lt (rr_ HO211.out))) (below_size qz1)); replace HO211 := aM (Kd.R_elder' (rr_ HO211.out) (Kd.R_base ho0) hb); replace BK208 := bB_ BK208 hb; replace HB := bS_ hb; (try clear hb ho0)))
 repeat (go_quiet (first | ((with_reducible refine gate_dst (N := 3) rfl ?_); refine bx_ 3 #[.int .i64 a0_0, .int .i64 a0_1, .slice A0_2 l0_2.length c0_2] 43 ?_; intro gb208 hg w5 hbox hb; have BK208 := aM (hbox); have GW208 := aM (bz_ w hg qz1); have GE208 := GW208; replace HB := bS_ hb; clear hb hbox hg) | ((with_reducible refine gate_dst (N := 11) rfl ?_); refine Kd.R_lit (Kd.int .i64) _ 3 ?hg (N := 11) ?hd (xs := ([] : List Int)) (inner := []) (ok := fun _ => True) (okp := fun _ => True) ?hr ?hp (fun _ hk => hk) trivial (Below.refl _ _) (Nat.le_refl _) (by simp) ?_; (case hd => rfl); (case hg => rfl); (case hr => exact qz6); (case hp => exact (Reps.none _ _)); intro v210 w6 ho7 hb hg_ hnew_; clear hg_ hnew_; (first | rw [← Ny209.out] at ho7 | (simp only [Int.reduceToNat] at ho7; rw [← Ny209.out] at ho7)); have HO211 := aM (Kd.R_lower ho7 (below_size qz1)); replace BK208 := bB_ BK208 hb; replace HB := bS_ hb; clear hb ho7; obtain ⟨hcz8_0, hcz8_1, hcz8_2, hfz8_0, hfz8_1, hfz8_2⟩ := b6_ BK208.out) | (go_at_call 123; (with_reducible refine (spec_l1Beside.calls k a0_0 a0_1 _ _ l0_2 a1 t212 _ ?side1 ?side2 A4.out).mono ?_); (case side1 => exact qz3); (case side2 => exact qz15); rintro e w9 ⟨v213, rfl, ho0, hb⟩; have HO214 := aM (Kd.R_lower (Kd.R_new' ho0 (Kd.R_lt (rr_ HO211.out))) (below_size qz1)); replace HO211 := aM (Kd.R_elder' (rr_ HO211.out) (Kd.R_base ho0) hb); replace BK208 := bB_ BK208 hb; replace HB := bS_ hb; (try clear hb ho0))); try go_wp2_with (first | ((with_reducible refine gate_dst (N := 3) rfl ?_); refine bx_ 3 #[.int .i64 a0_0, .int .i64 a0_1, .slice A0_2 l0_2.length c0_2] 43 ?_; intro gb208 hg w5 hbox hb; have BK208 := aM (hbox); have GW208 := aM (bz_ w hg qz1); have GE208 := GW208; replace HB := bS_ hb; clear hb hbox hg) | ((with_reducible refine gate_dst (N := 11) rfl ?_); refine Kd.R_lit (Kd.int .i64) _ 3 ?hg (N := 11) ?hd (xs := ([] : List Int)) (inner := []) (ok := fun _ => True) (okp := fun _ => True) ?hr ?hp (fun _ hk => hk) trivial (Below.refl _ _) (Nat.le_refl _) (by simp) ?_; (case hd => rfl); (case hg => rfl); (case hr => exact qz6); (case hp => exact (Reps.none _ _)); intro v210 w6 ho7 hb hg_ hnew_; clear hg_ hnew_; (first | rw [← Ny209.out] at ho7 | (simp only [Int.reduceToNat] at ho7; rw [← Ny209.out] at ho7)); have HO211 := aM (Kd.R_lower ho7 (below_size qz1)); replace BK208 := bB_ BK208 hb; replace HB := bS_ hb; clear hb ho7; obtain ⟨hcz8_0, hcz8_1, hcz8_2, hfz8_0, hfz8_1, hfz8_2⟩ := b6_ BK208.out) | (go_at_call 123; (with_reducible refine (spec_l1Beside.calls k a0_0 a0_1 _ _ l0_2 a1 t212 _ ?side1 ?side2 A4.out).mono ?_); (case side1 => exact qz3); (case side2 => exact qz15); rintro e w9 ⟨v213, rfl, ho0, hb⟩; have HO214 := aM (Kd.R_lower (Kd.R_new' ho0 (Kd.R_lt (rr_ HO211.out))) (below_size qz1)); replace HO211 := aM (Kd.R_elder' (rr_ HO211.out) (Kd.R_base ho0) hb); replace BK208 := bB_ BK208 hb; replace HB := bS_ hb; (try clear hb ho0))))
 go_loopg [7, 9] k (fun kq v7 v9 w' => ∃ (x7_1 : List Int) (x9_1 : Int), v9 = .int .i64 x9_1 ∧ Aside0 (spec_l1Near.l0 kq a2 x7_1 t212 x9_1 a0_0 a0_1 l0_2 = some r) ∧ Aside0 (kq ≤ k) ∧ Aside0 (Kd.R (Kd.int .i64) 3 w' w.heap.size (fun k_ => some k_ ≠ (v213 : Value).ownBlock) v7 x7_1) ∧ Aside0 (Kd.R (Kd.int .i64) 3 w' w.heap.size (fun k_ => some k_ ≠ (v7 : Value).ownBlock) v213 t212) ∧ Aside0 (w'.heap[gb208]? = some (.cells #[.int .i64 a0_0, .int .i64 a0_1, (.slice A0_2 l0_2.length c0_2)] 43 (0, 0))) ∧ Aside0 (Below w.heap.size w w'))
 case atStart => exact ⟨(y209), (0), qz4, H', ⟨Nat.le_refl _⟩, ⟨by (with_reducible repeat (first | apply Kd.R_alloc | apply Kd.R_drewN | apply Kd.R_drew)); exact Kd.R_mono HO211.out (fun _ hk => hk.2)⟩, ⟨by (with_reducible repeat (first | apply Kd.R_alloc | apply Kd.R_drewN | apply Kd.R_drew)); exact Kd.R_mono HO214.out (fun _ hk => hk.2)⟩, ⟨bk_ BK208.out⟩, ⟨qz1⟩⟩
 case round =>
  clear H'
  try clear p2
  try clear c9
  try clear hcz8_0 hcz8_1 hcz8_2 hfz8_0 hfz8_1 hfz8_2
  obtain ⟨x7_1, x9_1, rfl, HA, HK1, HO_7, HO_8, BK208, HB⟩ := hrel
  cases gk with
  | zero => exact absurd HA.out (by simp [spec_l1Near.l0])
  | succ k1 =>
   have H := HA.out
   clear HA
   simp only [spec_l1Near.l0] at H
   by_cases c10 : x9_1 < (t212.length : Int)
   {
   rw [if_pos c10] at H
   have c10b0 := decide_eq_true c10
   clear c10
   by_cases c11 : 0 ≤ x9_1
   {
   rw [if_pos c11] at H
   have c11b0 := decide_eq_true c11
   clear c11
   by_cases c12 : 0 ≤ (rd t212 x9_1)
   {
   rw [if_pos c12] at H
   have c12b0 := decide_eq_true c12
   clear c12
   by_cases c13 : (rd t212 x9_1) < (l0_2.length : Int)
   {
   rw [if_pos c13] at H
   have c13b0 := decide_eq_true c13
   clear c13
   by_cases c14 : (rd l0_2 (rd t212 x9_1)) = 0
   {
   rw [if_pos c14] at H
   have c14b0 := beq_iff_eq.mpr c14
   have c14b1 := bne_eq_false_iff_eq.mpr c14
   clear c14
   have H' := aM H
   clear H
   obtain ⟨Ao15, co15, eo15⟩ := Kd.R_slice HO_8.out
   subst eo15
   obtain ⟨hcz16_0, hcz16_1, hcz16_2, hfz16_0, hfz16_1, hfz16_2⟩ := b6_ BK208.out
   have p215 : 0 ≤ (x9_1 : Int) := dt_
   have q215 : x9_1 < (t212.length : Int) := dt_
   obtain ⟨ad215, e215, hx215_0⟩ := Kd.at_int (Kd.R_reads' HO_8.out).2.2 x9_1 p215 q215
   cases e215
   replace p215 := eq_true p215
   replace q215 := eq_true q215
   have p216 : 0 ≤ ((rd t212 x9_1) : Int) := dt_
   have q216 : (rd t212 x9_1) < (l0_2.length : Int) := dt_
   obtain ⟨ad216, e216, hx216_0⟩ := Kd.at_int HR0_2.out (rd t212 x9_1) p216 q216
   cases e216
   replace hx216_0 := cB_ hx216_0
   replace p216 := eq_true p216
   replace q216 := eq_true q216
   go_wp2
   repeat (go_quiet (fail); try go_wp2)
   go_roundg k1
   case measure => have := HK1.out; omega
   case rel => exact ⟨(x7_1), (wrap64 (x9_1 + 1)), qz4, H', ⟨by have := HK1.out; omega⟩, ⟨rm_ HO_7.out⟩, ⟨rm_ HO_8.out⟩, ⟨bk_ BK208.out⟩, ⟨qz1⟩⟩
   }
   {
   rw [if_neg c14] at H
   have c14b0 := beq_eq_false_iff_ne.mpr c14
   have c14b1 := bne_iff_ne.mpr c14
   by_cases c17 : a2 = true
   {
   subst c17
   rw [if_pos rfl] at H
   by_cases c18 : ((rd l0_2 (rd t212 x9_1)) = 2)
   {
   rw [if_pos c18] at H
   have c18b0 := beq_iff_eq.mpr c18
   have c18b1 := bne_eq_false_iff_eq.mpr c18
   clear c18
   have H' := aM H
   clear H
   obtain ⟨Ao19, co19, eo19⟩ := Kd.R_slice HO_8.out
   subst eo19
   obtain ⟨hcz20_0, hcz20_1, hcz20_2, hfz20_0, hfz20_1, hfz20_2⟩ := b6_ BK208.out
   have p215 : 0 ≤ (x9_1 : Int) := dt_
   have q215 : x9_1 < (t212.length : Int) := dt_
   obtain ⟨ad215, e215, hx215_0⟩ := Kd.at_int (Kd.R_reads' HO_8.out).2.2 x9_1 p215 q215
   cases e215
   replace p215 := eq_true p215
   replace q215 := eq_true q215
   have p216 : 0 ≤ ((rd t212 x9_1) : Int) := dt_
   have q216 : (rd t212 x9_1) < (l0_2.length : Int) := dt_
   obtain ⟨ad216, e216, hx216_0⟩ := Kd.at_int HR0_2.out (rd t212 x9_1) p216 q216
   cases e216
   replace hx216_0 := cB_ hx216_0
   replace p216 := eq_true p216
   replace q216 := eq_true q216
   go_wp2
   repeat (go_quiet (fail); try go_wp2)
   go_roundg k1
   case measure => have := HK1.out; omega
   case rel => exact ⟨(x7_1), (wrap64 (x9_1 + 1)), qz4, H', ⟨by have := HK1.out; omega⟩, ⟨rm_ HO_7.out⟩, ⟨rm_ HO_8.out⟩, ⟨bk_ BK208.out⟩, ⟨qz1⟩⟩
   }
   {
   rw [if_neg c18] at H
   have c18b0 := beq_eq_false_iff_ne.mpr c18
   have c18b1 := bne_iff_ne.mpr c18
   by_cases c21 : x7_1.length < 17592186044416
   {
   rw [if_pos c21] at H
   have LMc21 := aM c21
   clear c21
   obtain ⟨y218, hy218⟩ : ∃ y_ : List Int, y_ = (x7_1 ++ [rd t212 x9_1]) := ⟨_, rfl⟩
   replace H : (spec_l1Near.l0 k1 true y218 t212 (wrap64 (x9_1 + 1)) a0_0 a0_1 l0_2) = some r := by first | (rw [hy218]; with_reducible exact H) | (have H2_ := (Option.bind_some _ _).symm.trans H; rw [hy218]; with_reducible exact H2_) | (have H2_ := (Option.bind_some _ _).symm.trans H; with_reducible exact H2_) | with_reducible exact H | (rw [hy218]; exact H) | exact H
   have Ny218 := aM hy218
   clear hy218
   have H' := aM H
   clear H
   obtain ⟨Ao22, co22, eo22⟩ := Kd.R_slice HO_8.out
   subst eo22
   obtain ⟨hcz23_0, hcz23_1, hcz23_2, hfz23_0, hfz23_1, hfz23_2⟩ := b6_ BK208.out
   have p215 : 0 ≤ (x9_1 : Int) := dt_
   have q215 : x9_1 < (t212.length : Int) := dt_
   obtain ⟨ad215, e215, hx215_0⟩ := Kd.at_int (Kd.R_reads' HO_8.out).2.2 x9_1 p215 q215
   cases e215
   replace p215 := eq_true p215
   replace q215 := eq_true q215
   have p216 : 0 ≤ ((rd t212 x9_1) : Int) := dt_
   have q216 : (rd t212 x9_1) < (l0_2.length : Int) := dt_
   obtain ⟨ad216, e216, hx216_0⟩ := Kd.at_int HR0_2.out (rd t212 x9_1) p216 q216
   cases e216
   replace hx216_0 := cB_ hx216_0
   replace p216 := eq_true p216
   replace q216 := eq_true q216
   have p217 : 0 ≤ (x9_1 : Int) := dt_
   have q217 : x9_1 < (t212.length : Int) := dt_
   obtain ⟨ad217, e217, hx217_0⟩ := Kd.at_int (Kd.R_reads' HO_8.out).2.2 x9_1 p217 q217
   obtain rfl : ad215 = ad217 := (by injection e217)
   replace p217 := eq_true p217
   replace q217 := eq_true q217
   go_wp2_with (first | ((with_reducible refine gate_builtin (b := .append) (xs := #[.tmp 39, .tmp 44]) rfl ?_); at_builtin; refine Kd.R_append (Kd.int .i64) (w0 := w) w.heap.size rfl (.tmp 39) (.tmp 44) 24 3 (.int .i64 0) 8 rfl Try.underlying24 info3 rfl (by decide) (by omega) u7 x7_1 (rd t212 x9_1) [.int .i64 (rd t212 x9_1)] (fun k_ => some k_ ≠ (.slice (some ad215) t212.length co22 : Value).ownBlock) (fun _ => False) rfl rfl ?aP (fun _ hk => hk.elim) ?aF ?aO ?aB ?aS ?aL ?_; (case aP => exact rfl); (case aB => exact qz1); (case aF => exact qz10); (case aO => exact (rr_ HO_7.out)); (case aS => exact qz19); (case aL => have := LMc21.out; omega); intro v219 w24 ho hb hg hat; rw [← Ny218.out] at ho; replace HO_8 := aM (Kd.R_after (ok := (fun _ => True)) qz8 hg hat); replace BK208 := aM (blk_grown (bk_ BK208.out) hg (Kd.R_ne HO_7.out BK208.out (by decide))); replace HB := aM (hb); have HO220 := aM (ho); clear HO_7; clear ho hb hg hat))
   repeat (go_quiet (first | ((with_reducible refine gate_builtin (b := .append) (xs := #[.tmp 39, .tmp 44]) rfl ?_); at_builtin; refine Kd.R_append (Kd.int .i64) (w0 := w) w.heap.size rfl (.tmp 39) (.tmp 44) 24 3 (.int .i64 0) 8 rfl Try.underlying24 info3 rfl (by decide) (by omega) u7 x7_1 (rd t212 x9_1) [.int .i64 (rd t212 x9_1)] (fun k_ => some k_ ≠ (.slice (some ad215) t212.length co22 : Value).ownBlock) (fun _ => False) rfl rfl ?aP (fun _ hk => hk.elim) ?aF ?aO ?aB ?aS ?aL ?_; (case aP => exact rfl); (case aB => exact qz1); (case aF => exact qz10); (case aO => exact (rr_ HO_7.out)); (case aS => exact qz19); (case aL => have := LMc21.out; omega); intro v219 w24 ho hb hg hat; rw [← Ny218.out] at ho; replace HO_8 := aM (Kd.R_after (ok := (fun _ => True)) qz8 hg hat); replace BK208 := aM (blk_grown (bk_ BK208.out) hg (Kd.R_ne HO_7.out BK208.out (by decide))); replace HB := aM (hb); have HO220 := aM (ho); clear HO_7; clear ho hb hg hat)); try go_wp2_with (first | ((with_reducible refine gate_builtin (b := .append) (xs := #[.tmp 39, .tmp 44]) rfl ?_); at_builtin; refine Kd.R_append (Kd.int .i64) (w0 := w) w.heap.size rfl (.tmp 39) (.tmp 44) 24 3 (.int .i64 0) 8 rfl Try.underlying24 info3 rfl (by decide) (by omega) u7 x7_1 (rd t212 x9_1) [.int .i64 (rd t212 x9_1)] (fun k_ => some k_ ≠ (.slice (some ad215) t212.length co22 : Value).ownBlock) (fun _ => False) rfl rfl ?aP (fun _ hk => hk.elim) ?aF ?aO ?aB ?aS ?aL ?_; (case aP => exact rfl); (case aB => exact qz1); (case aF => exact qz10); (case aO => exact (rr_ HO_7.out)); (case aS => exact qz19); (case aL => have := LMc21.out; omega); intro v219 w24 ho hb hg hat; rw [← Ny218.out] at ho; replace HO_8 := aM (Kd.R_after (ok := (fun _ => True)) qz8 hg hat); replace BK208 := aM (blk_grown (bk_ BK208.out) hg (Kd.R_ne HO_7.out BK208.out (by decide))); replace HB := aM (hb); have HO220 := aM (ho); clear HO_7; clear ho hb hg hat)))
   go_roundg k1
   case measure => have := HK1.out; omega
   case rel => exact ⟨(y218), (wrap64 (x9_1 + 1)), qz4, H', ⟨by have := HK1.out; omega⟩, ⟨rm_ HO220.out⟩, ⟨by (with_reducible repeat (first | apply Kd.R_alloc | apply Kd.R_drewN | apply Kd.R_drew)); exact Kd.R_mono HO_8.out (fun _ hk => hk.2)⟩, ⟨bk_ BK208.out⟩, ⟨qz1⟩⟩
   }
   {
   exact an_ c21 H
   }
   }
   }
   {
   replace c17 := Bool.eq_false_iff.mpr c17
   subst c17
   rw [if_neg (show ¬ (false = true) by decide)] at H
   by_cases c25 : x7_1.length < 17592186044416
   {
   rw [if_pos c25] at H
   have LMc25 := aM c25
   clear c25
   obtain ⟨y222, hy222⟩ : ∃ y_ : List Int, y_ = (x7_1 ++ [rd t212 x9_1]) := ⟨_, rfl⟩
   replace H : (spec_l1Near.l0 k1 false y222 t212 (wrap64 (x9_1 + 1)) a0_0 a0_1 l0_2) = some r := by first | (rw [hy222]; with_reducible exact H) | (have H2_ := (Option.bind_some _ _).symm.trans H; rw [hy222]; with_reducible exact H2_) | (have H2_ := (Option.bind_some _ _).symm.trans H; with_reducible exact H2_) | with_reducible exact H | (rw [hy222]; exact H) | exact H
   have Ny222 := aM hy222
   clear hy222
   have H' := aM H
   clear H
   obtain ⟨Ao26, co26, eo26⟩ := Kd.R_slice HO_8.out
   subst eo26
   obtain ⟨hcz27_0, hcz27_1, hcz27_2, hfz27_0, hfz27_1, hfz27_2⟩ := b6_ BK208.out
   have p215 : 0 ≤ (x9_1 : Int) := dt_
   have q215 : x9_1 < (t212.length : Int) := dt_
   obtain ⟨ad215, e215, hx215_0⟩ := Kd.at_int (Kd.R_reads' HO_8.out).2.2 x9_1 p215 q215
   cases e215
   replace p215 := eq_true p215
   replace q215 := eq_true q215
   have p216 : 0 ≤ ((rd t212 x9_1) : Int) := dt_
   have q216 : (rd t212 x9_1) < (l0_2.length : Int) := dt_
   obtain ⟨ad216, e216, hx216_0⟩ := Kd.at_int HR0_2.out (rd t212 x9_1) p216 q216
   cases e216
   replace hx216_0 := cB_ hx216_0
   replace p216 := eq_true p216
   replace q216 := eq_true q216
   have p221 : 0 ≤ (x9_1 : Int) := dt_
   have q221 : x9_1 < (t212.length : Int) := dt_
   obtain ⟨ad221, e221, hx221_0⟩ := Kd.at_int (Kd.R_reads' HO_8.out).2.2 x9_1 p221 q221
   obtain rfl : ad215 = ad221 := (by injection e221)
   replace p221 := eq_true p221
   replace q221 := eq_true q221
   go_wp2_with (first | ((with_reducible refine gate_builtin (b := .append) (xs := #[.tmp 39, .tmp 44]) rfl ?_); at_builtin; refine Kd.R_append (Kd.int .i64) (w0 := w) w.heap.size rfl (.tmp 39) (.tmp 44) 24 3 (.int .i64 0) 8 rfl Try.underlying24 info3 rfl (by decide) (by omega) u7 x7_1 (rd t212 x9_1) [.int .i64 (rd t212 x9_1)] (fun k_ => some k_ ≠ (.slice (some ad215) t212.length co26 : Value).ownBlock) (fun _ => False) rfl rfl ?aP (fun _ hk => hk.elim) ?aF ?aO ?aB ?aS ?aL ?_; (case aP => exact rfl); (case aB => exact qz1); (case aF => exact qz10); (case aO => exact (rr_ HO_7.out)); (case aS => exact qz19); (case aL => have := LMc25.out; omega); intro v223 w28 ho hb hg hat; rw [← Ny222.out] at ho; replace HO_8 := aM (Kd.R_after (ok := (fun _ => True)) qz8 hg hat); replace BK208 := aM (blk_grown (bk_ BK208.out) hg (Kd.R_ne HO_7.out BK208.out (by decide))); replace HB := aM (hb); have HO224 := aM (ho); clear HO_7; clear ho hb hg hat))
   repeat (go_quiet (first | ((with_reducible refine gate_builtin (b := .append) (xs := #[.tmp 39, .tmp 44]) rfl ?_); at_builtin; refine Kd.R_append (Kd.int .i64) (w0 := w) w.heap.size rfl (.tmp 39) (.tmp 44) 24 3 (.int .i64 0) 8 rfl Try.underlying24 info3 rfl (by decide) (by omega) u7 x7_1 (rd t212 x9_1) [.int .i64 (rd t212 x9_1)] (fun k_ => some k_ ≠ (.slice (some ad215) t212.length co26 : Value).ownBlock) (fun _ => False) rfl rfl ?aP (fun _ hk => hk.elim) ?aF ?aO ?aB ?aS ?aL ?_; (case aP => exact rfl); (case aB => exact qz1); (case aF => exact qz10); (case aO => exact (rr_ HO_7.out)); (case aS => exact qz19); (case aL => have := LMc25.out; omega); intro v223 w28 ho hb hg hat; rw [← Ny222.out] at ho; replace HO_8 := aM (Kd.R_after (ok := (fun _ => True)) qz8 hg hat); replace BK208 := aM (blk_grown (bk_ BK208.out) hg (Kd.R_ne HO_7.out BK208.out (by decide))); replace HB := aM (hb); have HO224 := aM (ho); clear HO_7; clear ho hb hg hat)); try go_wp2_with (first | ((with_reducible refine gate_builtin (b := .append) (xs := #[.tmp 39, .tmp 44]) rfl ?_); at_builtin; refine Kd.R_append (Kd.int .i64) (w0 := w) w.heap.size rfl (.tmp 39) (.tmp 44) 24 3 (.int .i64 0) 8 rfl Try.underlying24 info3 rfl (by decide) (by omega) u7 x7_1 (rd t212 x9_1) [.int .i64 (rd t212 x9_1)] (fun k_ => some k_ ≠ (.slice (some ad215) t212.length co26 : Value).ownBlock) (fun _ => False) rfl rfl ?aP (fun _ hk => hk.elim) ?aF ?aO ?aB ?aS ?aL ?_; (case aP => exact rfl); (case aB => exact qz1); (case aF => exact qz10); (case aO => exact (rr_ HO_7.out)); (case aS => exact qz19); (case aL => have := LMc25.out; omega); intro v223 w28 ho hb hg hat; rw [← Ny222.out] at ho; replace HO_8 := aM (Kd.R_after (ok := (fun _ => True)) qz8 hg hat); replace BK208 := aM (blk_grown (bk_ BK208.out) hg (Kd.R_ne HO_7.out BK208.out (by decide))); replace HB := aM (hb); have HO224 := aM (ho); clear HO_7; clear ho hb hg hat)))
   go_roundg k1
   case measure => have := HK1.out; omega
   case rel => exact ⟨(y222), (wrap64 (x9_1 + 1)), qz4, H', ⟨by have := HK1.out; omega⟩, ⟨rm_ HO224.out⟩, ⟨by (with_reducible repeat (first | apply Kd.R_alloc | apply Kd.R_drewN | apply Kd.R_drew)); exact Kd.R_mono HO_8.out (fun _ hk => hk.2)⟩, ⟨bk_ BK208.out⟩, ⟨qz1⟩⟩
   }
   {
   exact an_ c25 H
   }
   }
   }
   }
   {
   exact an_ c13 H
   }
   }
   {
   exact an_ c12 H
   }
   }
   {
   exact an_ c11 H
   }
   }
   {
   rw [if_neg c10] at H
   have c10b0 := decide_eq_false c10
   clear c10
   obtain rfl := Option.some.inj H
   simp only [Option.some.injEq, Prod.mk.injEq] at H
   obtain ⟨rfl⟩ := H
   obtain ⟨Ao29, co29, eo29⟩ := Kd.R_slice HO_8.out
   subst eo29
   go_wp2
   repeat (go_quiet (fail); try go_wp2)
   go_ret
   exact ⟨_, qzw, by (with_reducible repeat (first | apply Kd.R_alloc | apply Kd.R_drewN | apply Kd.R_drew)); exact Kd.R_mono HO_7.out (fun _ hk => trivial), qz1⟩

   }
end Go.Proofs.Ytankmdbbgepmbaa.PFnExactStep
