-- Made by a program of this session out of the translation. Lean checks it.
import Derived.Test.YtankmdbbgepmbaaPFnExactChoicesx0
namespace Go.Proofs.Ytankmdbbgepmbaa.PFnExactChoices
open Go.RowKit Go.Proofs.YtankmdbbgepmbaaW.PrintWords Go.Proofs.YtankmdbbgepmbaaW.PrintLast Go.Proofs.YtankmdbbgepmbaaW.PrintMore
attribute [local go_sem] max2_int min2_int max_two min_two max_three min_three max_four min_four   -- for this text's walks alone
set_option linter.unusedVariables false
set_option linter.unusedSimpArgs false

/-! ### spec_l1Beside: function 123 -/
mutual
def spec_l1Beside.j0 : Nat → Int → List Int → Int → Int → Int → Int → List Int → Option (List Int)
 | 0, _, _, _, _, _, _, _ => none
 | k + 1, x1, x5, x6, x7, x116000, x116001, x116002 => if x6 > 0 then (if x5.length < 17592186044416 then (spec_l1Beside.j1 k x1 (x5 ++ [wrap64 (x1 - 1)]) x6 x7 x116000 x116001 x116002) else (none)) else (spec_l1Beside.j1 k x1 x5 x6 x7 x116000 x116001 x116002)
def spec_l1Beside.j1 : Nat → Int → List Int → Int → Int → Int → Int → List Int → Option (List Int)
 | 0, _, _, _, _, _, _, _ => none
 | k + 1, x1, x5, x6, x7, x116000, x116001, x116002 => if x6 < (wrap64 (x116000 - 1)) then (if x5.length < 17592186044416 then ((some (x5 ++ [wrap64 (x1 + 1)] : List Int)).bind fun y125 => (if x7 < (wrap64 (x116001 - 1)) then (if y125.length < 17592186044416 then (some (y125 ++ [wrap64 (x1 + x116000)])) else (none)) else (some y125))) else (none)) else (if x7 < (wrap64 (x116001 - 1)) then (if x5.length < 17592186044416 then (some (x5 ++ [wrap64 (x1 + x116000)])) else (none)) else (some x5))
end
def spec_l1Beside.f (k : Nat) (a0_0 : Int) (a0_1 : Int) (l0_2 : List Int) (a1 : Int) : Option (List Int) := (some (([] : List Int) : List Int)).bind fun y116 => (if a0_0 = 0 then (none) else (if (wrap64 (Int.tdiv a1 a0_0)) > 0 then (if y116.length < 17592186044416 then (spec_l1Beside.j0 k a1 (y116 ++ [wrap64 (a1 - a0_0)]) (Int.tmod a1 a0_0) (wrap64 (Int.tdiv a1 a0_0)) a0_0 a0_1 l0_2) else (none)) else (spec_l1Beside.j0 k a1 y116 (Int.tmod a1 a0_0) (wrap64 (Int.tdiv a1 a0_0)) a0_0 a0_1 l0_2)))
theorem spec_l1Beside.mono_l : ∀ k, (∀ y0 y1 y2 y3 y4 y5 y6, LeO (spec_l1Beside.j0 k y0 y1 y2 y3 y4 y5 y6) (spec_l1Beside.j0 (k + 1) y0 y1 y2 y3 y4 y5 y6)) ∧ (∀ y0 y1 y2 y3 y4 y5 y6, LeO (spec_l1Beside.j1 k y0 y1 y2 y3 y4 y5 y6) (spec_l1Beside.j1 (k + 1) y0 y1 y2 y3 y4 y5 y6))
 | 0 => ⟨fun _ _ _ _ _ _ _ r h => by simp [spec_l1Beside.j0] at h, fun _ _ _ _ _ _ _ r h => by simp [spec_l1Beside.j1] at h⟩
 | k + 1 => by
  obtain ⟨ih0, ih1⟩ := spec_l1Beside.mono_l k
  refine ⟨?_, ?_⟩
  {
  intro y0 y1 y2 y3 y4 y5 y6
  unfold spec_l1Beside.j0
  exact qL
  }
  {
  intro y0 y1 y2 y3 y4 y5 y6
  unfold spec_l1Beside.j1
  exact qL
  }
theorem spec_l1Beside.mono : ∀ a0 a1 a2 a3 k, LeO (spec_l1Beside.f k a0 a1 a2 a3) (spec_l1Beside.f (k + 1) a0 a1 a2 a3) := by
 intro a0 a1 a2 a3 k
 obtain ⟨ih0, ih1⟩ := spec_l1Beside.mono_l k
 unfold spec_l1Beside.f
 exact qL
set_option maxHeartbeats 8000000 in
set_option maxRecDepth 100000 in
theorem spec_l1Beside.calls (k : Nat) (a0_0 : Int) (a0_1 : Int) (A0_2 : Option Addr) (c0_2 : Nat) (l0_2 : List Int) (a1 : Int) (r : List Int) (w : World) (hr0_2 : Kd.C (Kd.int .i64) w A0_2 l0_2.length l0_2) (hc0_2 : l0_2.length ≤ c0_2) (h : spec_l1Beside.f k a0_0 a0_1 l0_2 a1 = some r) :
  Calls Try.prog 123 #[.agg #[.int .i64 a0_0, .int .i64 a0_1, .slice A0_2 l0_2.length c0_2], .int .i64 a1] w fun e w' => ∃ v0_ : Value, e = .returned (v0_) ∧ Kd.R (Kd.int .i64) 3 w' w.heap.size (fun _ => True) v0_ r ∧ Below w.heap.size w w' := by
 have hu43 := Try.underlying43
 have HR0_2 := aM hr0_2
 have HC0_2 := aM hc0_2
 clear hr0_2 hc0_2
 have HB := aM (Below.refl w.heap.size w)
 have H : ((some (([] : List Int) : List Int)).bind fun y116 => (if a0_0 = 0 then (none) else (if (wrap64 (Int.tdiv a1 a0_0)) > 0 then (if y116.length < 17592186044416 then (spec_l1Beside.j0 k a1 (y116 ++ [wrap64 (a1 - a0_0)]) (Int.tmod a1 a0_0) (wrap64 (Int.tdiv a1 a0_0)) a0_0 a0_1 l0_2) else (none)) else (spec_l1Beside.j0 k a1 y116 (Int.tmod a1 a0_0) (wrap64 (Int.tdiv a1 a0_0)) a0_0 a0_1 l0_2)))) = some r := h
 clear h
 obtain ⟨y116, hy116⟩ : ∃ y_ : List Int, y_ = (([] : List Int)) := ⟨_, rfl⟩
 replace H : (if a0_0 = 0 then (none) else (if (wrap64 (Int.tdiv a1 a0_0)) > 0 then (if y116.length < 17592186044416 then (spec_l1Beside.j0 k a1 (y116 ++ [wrap64 (a1 - a0_0)]) (Int.tmod a1 a0_0) (wrap64 (Int.tdiv a1 a0_0)) a0_0 a0_1 l0_2) else (none)) else (spec_l1Beside.j0 k a1 y116 (Int.tmod a1 a0_0) (wrap64 (Int.tdiv a1 a0_0)) a0_0 a0_1 l0_2))) = some r := by first | (rw [hy116]; with_reducible exact H) | (have H2_ := (Option.bind_some _ _).symm.trans H; rw [hy116]; with_reducible exact H2_) | (have H2_ := (Option.bind_some _ _).symm.trans H; with_reducible exact H2_) | with_reducible exact H | (rw [hy116]; exact H) | exact H
 have Ny116 := aM hy116
 clear hy116
 by_cases c3 : a0_0 = 0
 {
 exact ap_ c3 H
 }
 {
 rw [if_neg c3] at H
 have c3b0 := beq_eq_false_iff_ne.mpr c3
 have c3b1 := bne_iff_ne.mpr c3
 have HC4 := aM H
 clear H
 go_enter Try.func123, Try.ntmps123
 go_upto_if 18 with (first | ((with_reducible refine gate_dst (N := 2) rfl ?_); refine bx_ 2 #[.int .i64 a0_0, .int .i64 a0_1, .slice A0_2 l0_2.length c0_2] 43 ?_; intro gb115 hg w5 hbox hb; have BK115 := aM (hbox); have GW115 := aM (bz_ w hg qz1); have GE115 := GW115; replace HB := bS_ hb; clear hb hbox hg) | ((with_reducible refine gate_dst (N := 8) rfl ?_); refine Kd.R_lit (Kd.int .i64) _ 3 ?hg (N := 8) ?hd (xs := ([] : List Int)) (inner := []) (ok := fun _ => True) (okp := fun _ => True) ?hr ?hp (fun _ hk => hk) trivial (Below.refl _ _) (Nat.le_refl _) (by simp) ?_; (case hd => rfl); (case hg => rfl); (case hr => exact qz7); (case hp => exact (Reps.none _ _)); intro v117 w6 ho7 hb hg_ hnew_; clear hg_ hnew_; (first | rw [← Ny116.out] at ho7 | (simp only [Int.reduceToNat] at ho7; rw [← Ny116.out] at ho7)); have HO118 := aM (Kd.R_lower ho7 (below_size qz1)); replace BK115 := bB_ BK115 hb; replace HB := bS_ hb; clear hb ho7; obtain ⟨hcz8_0, hcz8_1, hcz8_2, hfz8_0, hfz8_1, hfz8_2⟩ := b6_ BK115.out))
 (try simp only [Act.put, List.setIfInBounds_toArray, List.set_cons_zero, List.set_cons_succ])
 go_cut [5] (fun v5 wc => ∃ (kq : Nat) (x5_3 : List Int), Aside0 (spec_l1Beside.j0 kq a1 x5_3 (Int.tmod a1 a0_0) (wrap64 (Int.tdiv a1 a0_0)) a0_0 a0_1 l0_2 = some r) ∧ Aside0 (kq ≤ k) ∧ Aside0 (Kd.R (Kd.int .i64) 3 wc w.heap.size (fun _ => True) v5 x5_3) ∧ Aside0 (wc.heap[gb115]? = some (.cells #[.int .i64 a0_0, .int .i64 a0_1, (.slice A0_2 l0_2.length c0_2)] 43 (0, 0))) ∧ Aside0 (Below w.heap.size w wc))
 case first =>
  have H := HC4.out
  clear HC4
  by_cases c9 : (wrap64 (Int.tdiv a1 a0_0)) > 0
  {
  rw [if_pos c9] at H
  have c9b0 := decide_eq_true c9
  clear c9
  (first | rw [c9b0] | (simp only [i64_w, i32_w]; rw [c9b0]) | rw [@decide_eq_true _ _ (of_decide_eq_true c9b0)] | rw [@decide_eq_true _ _ (of_decide_eq_true c9b1)] | skip)
  by_cases c10 : y116.length < 17592186044416
  {
  rw [if_pos c10] at H
  have LMc10 := aM c10
  clear c10
  obtain ⟨y119, hy119⟩ : ∃ y_ : List Int, y_ = (y116 ++ [wrap64 (a1 - a0_0)]) := ⟨_, rfl⟩
  replace H : (spec_l1Beside.j0 k a1 y119 (Int.tmod a1 a0_0) (wrap64 (Int.tdiv a1 a0_0)) a0_0 a0_1 l0_2) = some r := by first | (rw [hy119]; with_reducible exact H) | (have H2_ := (Option.bind_some _ _).symm.trans H; rw [hy119]; with_reducible exact H2_) | (have H2_ := (Option.bind_some _ _).symm.trans H; with_reducible exact H2_) | with_reducible exact H | (rw [hy119]; exact H) | exact H
  have Ny119 := aM hy119
  clear hy119
  have H' := aM H
  clear H
  obtain ⟨hcz11_0, hcz11_1, hcz11_2, hfz11_0, hfz11_1, hfz11_2⟩ := b6_ BK115.out
  go_wp2_with (first | ((with_reducible refine gate_builtin (b := .append) (xs := #[.tmp 19, .tmp 24]) rfl ?_); at_builtin; refine Kd.R_append (Kd.int .i64) (w0 := w) w.heap.size rfl (.tmp 19) (.tmp 24) 24 3 (.int .i64 0) 8 rfl Try.underlying24 info3 rfl (by decide) (by omega) v117 y116 (wrap64 (a1 - a0_0)) [.int .i64 (wrap64 (a1 - a0_0))] (fun _ => True) (fun _ => False) rfl rfl ?aP (fun _ hk => hk.elim) ?aF ?aO ?aB ?aS ?aL ?_; (case aP => exact rfl); (case aB => exact qz1); (case aF => exact qz11); (case aO => exact (rr_ HO118.out)); (case aS => exact qz16); (case aL => have := LMc10.out; omega); intro v120 w12 ho hb hg hat; rw [← Ny119.out] at ho; replace BK115 := aM (blk_grown (bk_ BK115.out) hg (Kd.R_ne HO118.out BK115.out (by decide))); replace HB := aM (hb); have HO121 := aM (ho); clear HO118; clear ho hb hg hat))
  go_meet
  case rel => exact ⟨_, (y119), H', ⟨by first | omega | exact Nat.le_refl _⟩, ⟨rm_ HO121.out⟩, ⟨bk_ BK115.out⟩, ⟨qz1⟩⟩
  }
  {
  exact an_ c10 H
  }
  }
  {
  rw [if_neg c9] at H
  have c9b0 := decide_eq_false c9
  clear c9
  (first | rw [c9b0] | (simp only [i64_w, i32_w]; rw [c9b0]) | rw [@decide_eq_false _ _ (of_decide_eq_false c9b0)] | rw [@decide_eq_false _ _ (of_decide_eq_false c9b1)] | skip)
  have H' := aM H
  clear H
  go_wp2
  go_meet
  case rel => exact ⟨_, (y116), H', ⟨by first | omega | exact Nat.le_refl _⟩, ⟨rm_ HO118.out⟩, ⟨bk_ BK115.out⟩, ⟨qz1⟩⟩
  }
 case rest =>
  clear HC4
  try clear c1
  try clear p2
  try clear c3
  try clear c3b0
  try clear c3b1
  try clear p6
  try clear c9
  try clear c9b0
  try clear c9b1
  try clear c10
  try clear c12
  try clear hcz11_0 hcz11_1 hcz11_2 hfz11_0 hfz11_1 hfz11_2
  try clear hcz8_0 hcz8_1 hcz8_2 hfz8_0 hfz8_1 hfz8_2
  obtain ⟨kq, x5_3, HA, HJ3, HO_5, BK115, HB⟩ := hcut
  cases kq with
  | zero => exact absurd HA.out (by simp [spec_l1Beside.j0])
  | succ kj3 =>
   have H := HA.out
   clear HA
   simp only [spec_l1Beside.j0] at H
   have HC13 := aM H
   clear H
   go_upto_if 27 with (fail)
   go_cut [5] (fun v5 wc => ∃ (kq : Nat) (x5_12 : List Int), Aside0 (spec_l1Beside.j1 kq a1 x5_12 (Int.tmod a1 a0_0) (wrap64 (Int.tdiv a1 a0_0)) a0_0 a0_1 l0_2 = some r) ∧ Aside0 (kq ≤ kj3) ∧ Aside0 (Kd.R (Kd.int .i64) 3 wc w.heap.size (fun _ => True) v5 x5_12) ∧ Aside0 (wc.heap[gb115]? = some (.cells #[.int .i64 a0_0, .int .i64 a0_1, (.slice A0_2 l0_2.length c0_2)] 43 (0, 0))) ∧ Aside0 (Below w.heap.size w wc))
   case first =>
    have H := HC13.out
    clear HC13
    by_cases c14 : (Int.tmod a1 a0_0) > 0
    {
    rw [if_pos c14] at H
    have c14b0 := decide_eq_true c14
    clear c14
    (first | rw [c14b0] | (simp only [i64_w, i32_w]; rw [c14b0]) | rw [@decide_eq_true _ _ (of_decide_eq_true c14b0)] | rw [@decide_eq_true _ _ (of_decide_eq_true c14b1)] | skip)
    by_cases c15 : x5_3.length < 17592186044416
    {
    rw [if_pos c15] at H
    have LMc15 := aM c15
    clear c15
    obtain ⟨y122, hy122⟩ : ∃ y_ : List Int, y_ = (x5_3 ++ [wrap64 (a1 - 1)]) := ⟨_, rfl⟩
    replace H : (spec_l1Beside.j1 kj3 a1 y122 (Int.tmod a1 a0_0) (wrap64 (Int.tdiv a1 a0_0)) a0_0 a0_1 l0_2) = some r := by first | (rw [hy122]; with_reducible exact H) | (have H2_ := (Option.bind_some _ _).symm.trans H; rw [hy122]; with_reducible exact H2_) | (have H2_ := (Option.bind_some _ _).symm.trans H; with_reducible exact H2_) | with_reducible exact H | (rw [hy122]; exact H) | exact H
    have Ny122 := aM hy122
    clear hy122
    have H' := aM H
    clear H
    go_wp2_with (first | ((with_reducible refine gate_builtin (b := .append) (xs := #[.tmp 28, .tmp 31]) rfl ?_); at_builtin; refine Kd.R_append (Kd.int .i64) (w0 := w) w.heap.size rfl (.tmp 28) (.tmp 31) 24 3 (.int .i64 0) 8 rfl Try.underlying24 info3 rfl (by decide) (by omega) u5 x5_3 (wrap64 (a1 - 1)) [.int .i64 (wrap64 (a1 - 1))] (fun _ => True) (fun _ => False) rfl rfl ?aP (fun _ hk => hk.elim) ?aF ?aO ?aB ?aS ?aL ?_; (case aP => exact rfl); (case aB => exact qz1); (case aF => exact qz11); (case aO => exact (rr_ HO_5.out)); (case aS => exact qz16); (case aL => have := LMc15.out; omega); intro v123 w16 ho hb hg hat; rw [← Ny122.out] at ho; replace BK115 := aM (blk_grown (bk_ BK115.out) hg (Kd.R_ne HO_5.out BK115.out (by decide))); replace HB := aM (hb); have HO124 := aM (ho); clear HO_5; clear ho hb hg hat))
    go_meet
    case rel => exact ⟨_, (y122), H', ⟨by have := HJ3.out; first | omega | exact Nat.le_refl _⟩, ⟨rm_ HO124.out⟩, ⟨bk_ BK115.out⟩, ⟨qz1⟩⟩
    }
    {
    exact an_ c15 H
    }
    }
    {
    rw [if_neg c14] at H
    have c14b0 := decide_eq_false c14
    clear c14
    (first | rw [c14b0] | (simp only [i64_w, i32_w]; rw [c14b0]) | rw [@decide_eq_false _ _ (of_decide_eq_false c14b0)] | rw [@decide_eq_false _ _ (of_decide_eq_false c14b1)] | skip)
    have H' := aM H
    clear H
    go_wp2
    go_meet
    case rel => exact ⟨_, (x5_3), H', ⟨by have := HJ3.out; first | omega | exact Nat.le_refl _⟩, ⟨rm_ HO_5.out⟩, ⟨bk_ BK115.out⟩, ⟨qz1⟩⟩
    }
   case rest =>
    clear HC13
    try clear c1
    try clear p2
    try clear c3
    try clear c3b0
    try clear c3b1
    try clear p6
    try clear c9
    try clear c9b0
    try clear c9b1
    try clear c10
    try clear c12
    try clear c14
    try clear c14b0
    try clear c14b1
    try clear c15
    try clear hcz11_0 hcz11_1 hcz11_2 hfz11_0 hfz11_1 hfz11_2
    try clear hcz8_0 hcz8_1 hcz8_2 hfz8_0 hfz8_1 hfz8_2
    obtain ⟨kq, x5_12, HA, HJ12, HO_5, BK115, HB⟩ := hcut
    cases kq with
    | zero => exact absurd HA.out (by simp [spec_l1Beside.j1])
    | succ kj12 =>
     have H := HA.out
     clear HA
     simp only [spec_l1Beside.j1] at H
     by_cases c17 : (Int.tmod a1 a0_0) < (wrap64 (a0_0 - 1))
     {
     rw [if_pos c17] at H
     have c17b0 := decide_eq_true c17
     clear c17
     by_cases c18 : x5_12.length < 17592186044416
     {
     rw [if_pos c18] at H
     have LMc18 := aM c18
     clear c18
     obtain ⟨y125, hy125⟩ : ∃ y_ : List Int, y_ = (x5_12 ++ [wrap64 (a1 + 1)]) := ⟨_, rfl⟩
     replace H : (if (wrap64 (Int.tdiv a1 a0_0)) < (wrap64 (a0_1 - 1)) then (if y125.length < 17592186044416 then (some (y125 ++ [wrap64 (a1 + a0_0)])) else (none)) else (some y125)) = some r := by first | (rw [hy125]; with_reducible exact H) | (have H2_ := (Option.bind_some _ _).symm.trans H; rw [hy125]; with_reducible exact H2_) | (have H2_ := (Option.bind_some _ _).symm.trans H; with_reducible exact H2_) | with_reducible exact H | (rw [hy125]; exact H) | exact H
     have Ny125 := aM hy125
     clear hy125
     by_cases c19 : (wrap64 (Int.tdiv a1 a0_0)) < (wrap64 (a0_1 - 1))
     {
     rw [if_pos c19] at H
     have c19b0 := decide_eq_true c19
     clear c19
     by_cases c20 : y125.length < 17592186044416
     {
     rw [if_pos c20] at H
     have LMc20 := aM c20
     clear c20
     obtain ⟨y128, hy128⟩ : ∃ y_ : List Int, y_ = (y125 ++ [wrap64 (a1 + a0_0)]) := ⟨_, rfl⟩
     replace H : (some y128) = some r := by first | (rw [hy128]; with_reducible exact H) | (have H2_ := (Option.bind_some _ _).symm.trans H; rw [hy128]; with_reducible exact H2_) | (have H2_ := (Option.bind_some _ _).symm.trans H; with_reducible exact H2_) | with_reducible exact H | (rw [hy128]; exact H) | exact H
     have Ny128 := aM hy128
     clear hy128
     obtain rfl := Option.some.inj H
     simp only [Option.some.injEq, Prod.mk.injEq] at H
     obtain ⟨rfl⟩ := H
     obtain ⟨hcz21_0, hcz21_1, hcz21_2, hfz21_0, hfz21_1, hfz21_2⟩ := b6_ BK115.out
     go_wp2_with (first | ((with_reducible refine gate_builtin (b := .append) (xs := #[.tmp 38, .tmp 41]) rfl ?_); at_builtin; refine Kd.R_append (Kd.int .i64) (w0 := w) w.heap.size rfl (.tmp 38) (.tmp 41) 24 3 (.int .i64 0) 8 rfl Try.underlying24 info3 rfl (by decide) (by omega) u5 x5_12 (wrap64 (a1 + 1)) [.int .i64 (wrap64 (a1 + 1))] (fun _ => True) (fun _ => False) rfl rfl ?aP (fun _ hk => hk.elim) ?aF ?aO ?aB ?aS ?aL ?_; (case aP => exact rfl); (case aB => exact qz1); (case aF => exact qz11); (case aO => exact (rr_ HO_5.out)); (case aS => exact qz16); (case aL => have := LMc18.out; omega); intro v126 w22 ho hb hg hat; rw [← Ny125.out] at ho; replace BK115 := aM (blk_grown (bk_ BK115.out) hg (Kd.R_ne HO_5.out BK115.out (by decide))); replace HB := aM (hb); have HO127 := aM (ho); clear HO_5; clear ho hb hg hat; obtain ⟨hcz23_0, hcz23_1, hcz23_2, hfz23_0, hfz23_1, hfz23_2⟩ := b6_ BK115.out) | ((with_reducible refine gate_builtin (b := .append) (xs := #[.tmp 48, .tmp 53]) rfl ?_); at_builtin; refine Kd.R_append (Kd.int .i64) (w0 := w) w.heap.size rfl (.tmp 48) (.tmp 53) 24 3 (.int .i64 0) 8 rfl Try.underlying24 info3 rfl (by decide) (by omega) v126 y125 (wrap64 (a1 + a0_0)) [.int .i64 (wrap64 (a1 + a0_0))] (fun _ => True) (fun _ => False) rfl rfl ?aP (fun _ hk => hk.elim) ?aF ?aO ?aB ?aS ?aL ?_; (case aP => exact rfl); (case aB => exact qz1); (case aF => exact qz11); (case aO => exact (rr_ HO127.out)); (case aS => exact qz16); (case aL => have := LMc20.out; omega); intro v129 w24 ho hb hg hat; rw [← Ny128.out] at ho; replace BK115 := aM (blk_grown (bk_ BK115.out) hg (Kd.R_ne HO127.out BK115.out (by decide))); replace HB := aM (hb); have HO130 := aM (ho); clear HO127; clear ho hb hg hat))
     go_ret
     exact ⟨_, qzw, by (with_reducible repeat (first | apply Kd.R_alloc | apply Kd.R_drewN | apply Kd.R_drew)); exact HO130.out, qz1⟩
     }
     {
     exact an_ c20 H
     }
     }
     {
     rw [if_neg c19] at H
     have c19b0 := decide_eq_false c19
     clear c19
     obtain rfl := Option.some.inj H
     simp only [Option.some.injEq, Prod.mk.injEq] at H
     obtain ⟨rfl⟩ := H
     obtain ⟨hcz25_0, hcz25_1, hcz25_2, hfz25_0, hfz25_1, hfz25_2⟩ := b6_ BK115.out
     go_wp2_with (first | ((with_reducible refine gate_builtin (b := .append) (xs := #[.tmp 38, .tmp 41]) rfl ?_); at_builtin; refine Kd.R_append (Kd.int .i64) (w0 := w) w.heap.size rfl (.tmp 38) (.tmp 41) 24 3 (.int .i64 0) 8 rfl Try.underlying24 info3 rfl (by decide) (by omega) u5 x5_12 (wrap64 (a1 + 1)) [.int .i64 (wrap64 (a1 + 1))] (fun _ => True) (fun _ => False) rfl rfl ?aP (fun _ hk => hk.elim) ?aF ?aO ?aB ?aS ?aL ?_; (case aP => exact rfl); (case aB => exact qz1); (case aF => exact qz11); (case aO => exact (rr_ HO_5.out)); (case aS => exact qz16); (case aL => have := LMc18.out; omega); intro v126 w26 ho hb hg hat; rw [← Ny125.out] at ho; replace BK115 := aM (blk_grown (bk_ BK115.out) hg (Kd.R_ne HO_5.out BK115.out (by decide))); replace HB := aM (hb); have HO127 := aM (ho); clear HO_5; clear ho hb hg hat; obtain ⟨hcz27_0, hcz27_1, hcz27_2, hfz27_0, hfz27_1, hfz27_2⟩ := b6_ BK115.out))
     go_ret
     exact ⟨_, qzw, by (with_reducible repeat (first | apply Kd.R_alloc | apply Kd.R_drewN | apply Kd.R_drew)); exact HO127.out, qz1⟩
     }
     }
     {
     exact an_ c18 H
     }
     }
     {
     rw [if_neg c17] at H
     have c17b0 := decide_eq_false c17
     clear c17
     by_cases c28 : (wrap64 (Int.tdiv a1 a0_0)) < (wrap64 (a0_1 - 1))
     {
     rw [if_pos c28] at H
     have c28b0 := decide_eq_true c28
     clear c28
     by_cases c29 : x5_12.length < 17592186044416
     {
     rw [if_pos c29] at H
     have LMc29 := aM c29
     clear c29
     obtain ⟨y131, hy131⟩ : ∃ y_ : List Int, y_ = (x5_12 ++ [wrap64 (a1 + a0_0)]) := ⟨_, rfl⟩
     replace H : (some y131) = some r := by first | (rw [hy131]; with_reducible exact H) | (have H2_ := (Option.bind_some _ _).symm.trans H; rw [hy131]; with_reducible exact H2_) | (have H2_ := (Option.bind_some _ _).symm.trans H; with_reducible exact H2_) | with_reducible exact H | (rw [hy131]; exact H) | exact H
     have Ny131 := aM hy131
     clear hy131
     obtain rfl := Option.some.inj H
     simp only [Option.some.injEq, Prod.mk.injEq] at H
     obtain ⟨rfl⟩ := H
     obtain ⟨hcz30_0, hcz30_1, hcz30_2, hfz30_0, hfz30_1, hfz30_2⟩ := b6_ BK115.out
     go_wp2_with (first | ((with_reducible refine gate_builtin (b := .append) (xs := #[.tmp 48, .tmp 53]) rfl ?_); at_builtin; refine Kd.R_append (Kd.int .i64) (w0 := w) w.heap.size rfl (.tmp 48) (.tmp 53) 24 3 (.int .i64 0) 8 rfl Try.underlying24 info3 rfl (by decide) (by omega) u5 x5_12 (wrap64 (a1 + a0_0)) [.int .i64 (wrap64 (a1 + a0_0))] (fun _ => True) (fun _ => False) rfl rfl ?aP (fun _ hk => hk.elim) ?aF ?aO ?aB ?aS ?aL ?_; (case aP => exact rfl); (case aB => exact qz1); (case aF => exact qz11); (case aO => exact (rr_ HO_5.out)); (case aS => exact qz16); (case aL => have := LMc29.out; omega); intro v132 w31 ho hb hg hat; rw [← Ny131.out] at ho; replace BK115 := aM (blk_grown (bk_ BK115.out) hg (Kd.R_ne HO_5.out BK115.out (by decide))); replace HB := aM (hb); have HO133 := aM (ho); clear HO_5; clear ho hb hg hat))
     go_ret
     exact ⟨_, qzw, by (with_reducible repeat (first | apply Kd.R_alloc | apply Kd.R_drewN | apply Kd.R_drew)); exact HO133.out, qz1⟩
     }
     {
     exact an_ c29 H
     }
     }
     {
     rw [if_neg c28] at H
     have c28b0 := decide_eq_false c28
     clear c28
     obtain rfl := Option.some.inj H
     simp only [Option.some.injEq, Prod.mk.injEq] at H
     obtain ⟨rfl⟩ := H
     obtain ⟨hcz32_0, hcz32_1, hcz32_2, hfz32_0, hfz32_1, hfz32_2⟩ := b6_ BK115.out
     go_wp2
     go_ret
     exact ⟨_, qzw, by (with_reducible repeat (first | apply Kd.R_alloc | apply Kd.R_drewN | apply Kd.R_drew)); exact HO_5.out, qz1⟩

     }
     }
 }
/-! ### spec_l1Near: function 99 -/
def spec_l1Near.l0 : Nat → Bool → List Int → List Int → Int → Int → Int → List Int → Option (List Int)
 | 0, _, _, _, _, _, _, _ => none
 | k + 1, x2, x7, x8, x9, x135000, x135001, x135002 => if x9 < (x8.length : Int) then (if 0 ≤ x9 then (if 0 ≤ (rd x8 x9) then (if (rd x8 x9) < (x135002.length : Int) then (if (rd x135002 (rd x8 x9)) = 0 then (spec_l1Near.l0 k x2 x7 x8 (wrap64 (x9 + 1)) x135000 x135001 x135002) else (if x2 = true then (if ((rd x135002 (rd x8 x9)) = 2) then (spec_l1Near.l0 k x2 x7 x8 (wrap64 (x9 + 1)) x135000 x135001 x135002) else (if x7.length < 17592186044416 then (spec_l1Near.l0 k x2 (x7 ++ [rd x8 x9]) x8 (wrap64 (x9 + 1)) x135000 x135001 x135002) else (none))) else (if x7.length < 17592186044416 then (spec_l1Near.l0 k x2 (x7 ++ [rd x8 x9]) x8 (wrap64 (x9 + 1)) x135000 x135001 x135002) else (none)))) else (none)) else (none)) else (none)) else (some x7)
def spec_l1Near.f (k : Nat) (a0_0 : Int) (a0_1 : Int) (l0_2 : List Int) (a1 : Int) (a2 : Bool) : Option (List Int) := (spec_l1Beside.f k a0_0 a0_1 l0_2 a1).bind fun t138 => (spec_l1Near.l0 k a2 (([] : List Int)) t138 0 a0_0 a0_1 l0_2)
theorem spec_l1Near.mono_l : ∀ k, (∀ y0 y1 y2 y3 y4 y5 y6, LeO (spec_l1Near.l0 k y0 y1 y2 y3 y4 y5 y6) (spec_l1Near.l0 (k + 1) y0 y1 y2 y3 y4 y5 y6))
 | 0 => fun _ _ _ _ _ _ _ r h => by simp [spec_l1Near.l0] at h
 | k + 1 => by
  have ih0 := spec_l1Near.mono_l k
  {
  intro y0 y1 y2 y3 y4 y5 y6
  unfold spec_l1Near.l0
  have j0 := @spec_l1Beside.mono
  exact qL
  }
theorem spec_l1Near.mono : ∀ a0 a1 a2 a3 a4 k, LeO (spec_l1Near.f k a0 a1 a2 a3 a4) (spec_l1Near.f (k + 1) a0 a1 a2 a3 a4) := by
 intro a0 a1 a2 a3 a4 k
 have ih0 := spec_l1Near.mono_l k
 unfold spec_l1Near.f
 have j0 := @spec_l1Beside.mono
 exact qL
set_option maxHeartbeats 8000000 in
set_option maxRecDepth 100000 in
theorem spec_l1Near.calls (k : Nat) (a0_0 : Int) (a0_1 : Int) (A0_2 : Option Addr) (c0_2 : Nat) (l0_2 : List Int) (a1 : Int) (a2 : Bool) (r : List Int) (w : World) (hr0_2 : Kd.C (Kd.int .i64) w A0_2 l0_2.length l0_2) (hc0_2 : l0_2.length ≤ c0_2) (h : spec_l1Near.f k a0_0 a0_1 l0_2 a1 a2 = some r) :
  Calls Try.prog 99 #[.agg #[.int .i64 a0_0, .int .i64 a0_1, .slice A0_2 l0_2.length c0_2], .int .i64 a1, .bool a2] w fun e w' => ∃ v0_ : Value, e = .returned (v0_) ∧ Kd.R (Kd.int .i64) 3 w' w.heap.size (fun _ => True) v0_ r ∧ Below w.heap.size w w' := by
 have hu43 := Try.underlying43
 have HR0_2 := aM hr0_2
 have HC0_2 := aM hc0_2
 clear hr0_2 hc0_2
 have HB := aM (Below.refl w.heap.size w)
 have H : ((spec_l1Beside.f k a0_0 a0_1 l0_2 a1).bind fun t138 => (spec_l1Near.l0 k a2 (([] : List Int)) t138 0 a0_0 a0_1 l0_2)) = some r := h
 clear h
 obtain ⟨y135, hy135⟩ : ∃ y_ : List Int, y_ = (([] : List Int)) := ⟨_, rfl⟩
 replace H : ((spec_l1Beside.f k a0_0 a0_1 l0_2 a1).bind fun t138 => (spec_l1Near.l0 k a2 y135 t138 0 a0_0 a0_1 l0_2)) = some r := by first | (rw [hy135]; with_reducible exact H) | (have H2_ := (Option.bind_some _ _).symm.trans H; rw [hy135]; with_reducible exact H2_) | (have H2_ := (Option.bind_some _ _).symm.trans H; with_reducible exact H2_) | with_reducible exact H | (rw [hy135]; exact H) | exact H
 have Ny135 := aM hy135
 clear hy135
 replace H := Option.bind_eq_some_iff.mp H
 obtain ⟨t138, A40, H⟩ := H
 replace H : (spec_l1Near.l0 k a2 y135 t138 0 a0_0 a0_1 l0_2) = some r := H
 have A4 := aM A40
 clear A40
 have H' := aM H
 clear H
 go_enter Try.func99, Try.ntmps99
 go_wp2_with (first | ((with_reducible refine gate_dst (N := 3) rfl ?_); refine bx_ 3 #[.int .i64 a0_0, .int .i64 a0_1, .slice A0_2 l0_2.length c0_2] 43 ?_; intro gb134 hg w5 hbox hb; have BK134 := aM (hbox); have GW134 := aM (bz_ w hg qz1); have GE134 := GW134; replace HB := bS_ hb; clear hb hbox hg) | ((with_reducible refine gate_dst (N := 11) rfl ?_); refine Kd.R_lit (Kd.int .i64) _ 3 ?hg (N := 11) ?hd (xs := ([] : List Int)) (inner := []) (ok := fun _ => True) (okp := fun _ => True) ?hr ?hp (fun _ hk => hk) trivial (Below.refl _ _) (Nat.le_refl _) (by simp) ?_; (case hd => rfl); (case hg => rfl); (case hr => exact qz7); (case hp => exact (Reps.none _ _)); intro v136 w6 ho7 hb hg_ hnew_; clear hg_ hnew_; (first | rw [← Ny135.out] at ho7 | (simp only [Int.reduceToNat] at ho7; rw [← Ny135.out] at ho7)); have HO137 := aM (Kd.R_lower ho7 (below_size qz1)); replace BK134 := bB_ BK134 hb; replace HB := bS_ hb; clear hb ho7; obtain ⟨hcz8_0, hcz8_1, hcz8_2, hfz8_0, hfz8_1, hfz8_2⟩ := b6_ BK134.out) | (go_at_call 123; (with_reducible refine (spec_l1Beside.calls k a0_0 a0_1 _ _ l0_2 a1 t138 _ ?side1 ?side2 A4.out).mono ?_); (case side1 => exact qz3); (case side2 => exact HC0_2.out); rintro e w9 ⟨v139, rfl, ho0, hb⟩; have HO140 := aM (Kd.R_lower (Kd.R_new' ho0 (Kd.R_lt (rr_ HO137.out))) (below_size qz1)); replace HO137 := aM (Kd.R_elder' (rr_ HO137.out) (Kd.R_base ho0) hb); replace BK134 := bB_ BK134 hb; replace HB := bS_ hb; (try clear hb ho0)))
 repeat (go_quiet (first | ((with_reducible refine gate_dst (N := 3) rfl ?_); refine bx_ 3 #[.int .i64 a0_0, .int .i64 a0_1, .slice A0_2 l0_2.length c0_2] 43 ?_; intro gb134 hg w5 hbox hb; have BK134 := aM (hbox); have GW134 := aM (bz_ w hg qz1); have GE134 := GW134; replace HB := bS_ hb; clear hb hbox hg) | ((with_reducible refine gate_dst (N := 11) rfl ?_); refine Kd.R_lit (Kd.int .i64) _ 3 ?hg (N := 11) ?hd (xs := ([] : List Int)) (inner := []) (ok := fun _ => True) (okp := fun _ => True) ?hr ?hp (fun _ hk => hk) trivial (Below.refl _ _) (Nat.le_refl _) (by simp) ?_; (case hd => rfl); (case hg => rfl); (case hr => exact qz7); (case hp => exact (Reps.none _ _)); intro v136 w6 ho7 hb hg_ hnew_; clear hg_ hnew_; (first | rw [← Ny135.out] at ho7 | (simp only [Int.reduceToNat] at ho7; rw [← Ny135.out] at ho7)); have HO137 := aM (Kd.R_lower ho7 (below_size qz1)); replace BK134 := bB_ BK134 hb; replace HB := bS_ hb; clear hb ho7; obtain ⟨hcz8_0, hcz8_1, hcz8_2, hfz8_0, hfz8_1, hfz8_2⟩ := b6_ BK134.out) | (go_at_call 123; (with_reducible refine (spec_l1Beside.calls k a0_0 a0_1 _ _ l0_2 a1 t138 _ ?side1 ?side2 A4.out).mono ?_); (case side1 => exact qz3); (case side2 => exact HC0_2.out); rintro e w9 ⟨v139, rfl, ho0, hb⟩; have HO140 := aM (Kd.R_lower (Kd.R_new' ho0 (Kd.R_lt (rr_ HO137.out))) (below_size qz1)); replace HO137 := aM (Kd.R_elder' (rr_ HO137.out) (Kd.R_base ho0) hb); replace BK134 := bB_ BK134 hb; replace HB := bS_ hb; (try clear hb ho0))); try go_wp2_with (first | ((with_reducible refine gate_dst (N := 3) rfl ?_); refine bx_ 3 #[.int .i64 a0_0, .int .i64 a0_1, .slice A0_2 l0_2.length c0_2] 43 ?_; intro gb134 hg w5 hbox hb; have BK134 := aM (hbox); have GW134 := aM (bz_ w hg qz1); have GE134 := GW134; replace HB := bS_ hb; clear hb hbox hg) | ((with_reducible refine gate_dst (N := 11) rfl ?_); refine Kd.R_lit (Kd.int .i64) _ 3 ?hg (N := 11) ?hd (xs := ([] : List Int)) (inner := []) (ok := fun _ => True) (okp := fun _ => True) ?hr ?hp (fun _ hk => hk) trivial (Below.refl _ _) (Nat.le_refl _) (by simp) ?_; (case hd => rfl); (case hg => rfl); (case hr => exact qz7); (case hp => exact (Reps.none _ _)); intro v136 w6 ho7 hb hg_ hnew_; clear hg_ hnew_; (first | rw [← Ny135.out] at ho7 | (simp only [Int.reduceToNat] at ho7; rw [← Ny135.out] at ho7)); have HO137 := aM (Kd.R_lower ho7 (below_size qz1)); replace BK134 := bB_ BK134 hb; replace HB := bS_ hb; clear hb ho7; obtain ⟨hcz8_0, hcz8_1, hcz8_2, hfz8_0, hfz8_1, hfz8_2⟩ := b6_ BK134.out) | (go_at_call 123; (with_reducible refine (spec_l1Beside.calls k a0_0 a0_1 _ _ l0_2 a1 t138 _ ?side1 ?side2 A4.out).mono ?_); (case side1 => exact qz3); (case side2 => exact HC0_2.out); rintro e w9 ⟨v139, rfl, ho0, hb⟩; have HO140 := aM (Kd.R_lower (Kd.R_new' ho0 (Kd.R_lt (rr_ HO137.out))) (below_size qz1)); replace HO137 := aM (Kd.R_elder' (rr_ HO137.out) (Kd.R_base ho0) hb); replace BK134 := bB_ BK134 hb; replace HB := bS_ hb; (try clear hb ho0))))
 go_loopg [7, 9] k (fun kq v7 v9 w' => ∃ (x7_1 : List Int) (x9_1 : Int), v9 = .int .i64 x9_1 ∧ Aside0 (spec_l1Near.l0 kq a2 x7_1 t138 x9_1 a0_0 a0_1 l0_2 = some r) ∧ Aside0 (kq ≤ k) ∧ Aside0 (Kd.R (Kd.int .i64) 3 w' w.heap.size (fun k_ => some k_ ≠ (v139 : Value).ownBlock) v7 x7_1) ∧ Aside0 (Kd.R (Kd.int .i64) 3 w' w.heap.size (fun k_ => some k_ ≠ (v7 : Value).ownBlock) v139 t138) ∧ Aside0 (w'.heap[gb134]? = some (.cells #[.int .i64 a0_0, .int .i64 a0_1, (.slice A0_2 l0_2.length c0_2)] 43 (0, 0))) ∧ Aside0 (Below w.heap.size w w'))
 case atStart => exact ⟨(y135), (0), qz4, H', ⟨Nat.le_refl _⟩, ⟨by (with_reducible repeat (first | apply Kd.R_alloc | apply Kd.R_drewN | apply Kd.R_drew)); exact Kd.R_mono HO137.out (fun _ hk => hk.2)⟩, ⟨by (with_reducible repeat (first | apply Kd.R_alloc | apply Kd.R_drewN | apply Kd.R_drew)); exact Kd.R_mono HO140.out (fun _ hk => hk.2)⟩, ⟨bk_ BK134.out⟩, ⟨qz1⟩⟩
 case round =>
  clear H'
  try clear p2
  try clear c9
  try clear hcz8_0 hcz8_1 hcz8_2 hfz8_0 hfz8_1 hfz8_2
  obtain ⟨x7_1, x9_1, rfl, HA, HK1, HO_7, HO_8, BK134, HB⟩ := hrel
  cases gk with
  | zero => exact absurd HA.out (by simp [spec_l1Near.l0])
  | succ k1 =>
   have H := HA.out
   clear HA
   simp only [spec_l1Near.l0] at H
   by_cases c10 : x9_1 < (t138.length : Int)
   {
   rw [if_pos c10] at H
   have c10b0 := decide_eq_true c10
   clear c10
   by_cases c11 : 0 ≤ x9_1
   {
   rw [if_pos c11] at H
   have c11b0 := decide_eq_true c11
   clear c11
   by_cases c12 : 0 ≤ (rd t138 x9_1)
   {
   rw [if_pos c12] at H
   have c12b0 := decide_eq_true c12
   clear c12
   by_cases c13 : (rd t138 x9_1) < (l0_2.length : Int)
   {
   rw [if_pos c13] at H
   have c13b0 := decide_eq_true c13
   clear c13
   by_cases c14 : (rd l0_2 (rd t138 x9_1)) = 0
   {
   rw [if_pos c14] at H
   have c14b0 := beq_iff_eq.mpr c14
   have c14b1 := bne_eq_false_iff_eq.mpr c14
   clear c14
   have H' := aM H
   clear H
   obtain ⟨Ao15, co15, eo15⟩ := Kd.R_slice HO_8.out
   subst eo15
   obtain ⟨hcz16_0, hcz16_1, hcz16_2, hfz16_0, hfz16_1, hfz16_2⟩ := b6_ BK134.out
   have p141 : 0 ≤ (x9_1 : Int) := dt_
   have q141 : x9_1 < (t138.length : Int) := dt_
   obtain ⟨ad141, e141, hx141_0⟩ := Kd.at_int (Kd.R_reads' HO_8.out).2.2 x9_1 p141 q141
   cases e141
   replace p141 := eq_true p141
   replace q141 := eq_true q141
   have p142 : 0 ≤ ((rd t138 x9_1) : Int) := dt_
   have q142 : (rd t138 x9_1) < (l0_2.length : Int) := dt_
   obtain ⟨ad142, e142, hx142_0⟩ := Kd.at_int HR0_2.out (rd t138 x9_1) p142 q142
   cases e142
   replace hx142_0 := cB_ hx142_0
   replace p142 := eq_true p142
   replace q142 := eq_true q142
   go_wp2
   repeat (go_quiet (fail); try go_wp2)
   go_roundg k1
   case measure => have := HK1.out; omega
   case rel => exact ⟨(x7_1), (wrap64 (x9_1 + 1)), qz4, H', ⟨by have := HK1.out; omega⟩, ⟨rm_ HO_7.out⟩, ⟨rm_ HO_8.out⟩, ⟨bk_ BK134.out⟩, ⟨qz1⟩⟩
   }
   {
   rw [if_neg c14] at H
   have c14b0 := beq_eq_false_iff_ne.mpr c14
   have c14b1 := bne_iff_ne.mpr c14
   by_cases c17 : a2 = true
   {
   subst c17
   rw [if_pos rfl] at H
   by_cases c18 : ((rd l0_2 (rd t138 x9_1)) = 2)
   {
   rw [if_pos c18] at H
   have c18b0 := beq_iff_eq.mpr c18
   have c18b1 := bne_eq_false_iff_eq.mpr c18
   clear c18
   have H' := aM H
   clear H
   obtain ⟨Ao19, co19, eo19⟩ := Kd.R_slice HO_8.out
   subst eo19
   obtain ⟨hcz20_0, hcz20_1, hcz20_2, hfz20_0, hfz20_1, hfz20_2⟩ := b6_ BK134.out
   have p141 : 0 ≤ (x9_1 : Int) := dt_
   have q141 : x9_1 < (t138.length : Int) := dt_
   obtain ⟨ad141, e141, hx141_0⟩ := Kd.at_int (Kd.R_reads' HO_8.out).2.2 x9_1 p141 q141
   cases e141
   replace p141 := eq_true p141
   replace q141 := eq_true q141
   have p142 : 0 ≤ ((rd t138 x9_1) : Int) := dt_
   have q142 : (rd t138 x9_1) < (l0_2.length : Int) := dt_
   obtain ⟨ad142, e142, hx142_0⟩ := Kd.at_int HR0_2.out (rd t138 x9_1) p142 q142
   cases e142
   replace hx142_0 := cB_ hx142_0
   replace p142 := eq_true p142
   replace q142 := eq_true q142
   go_wp2
   repeat (go_quiet (fail); try go_wp2)
   go_roundg k1
   case measure => have := HK1.out; omega
   case rel => exact ⟨(x7_1), (wrap64 (x9_1 + 1)), qz4, H', ⟨by have := HK1.out; omega⟩, ⟨rm_ HO_7.out⟩, ⟨rm_ HO_8.out⟩, ⟨bk_ BK134.out⟩, ⟨qz1⟩⟩
   }
   {
   rw [if_neg c18] at H
   have c18b0 := beq_eq_false_iff_ne.mpr c18
   have c18b1 := bne_iff_ne.mpr c18
   by_cases c21 : x7_1.length < 17592186044416
   {
   rw [if_pos c21] at H
   have LMc21 := aM c21
   clear c21
   obtain ⟨y144, hy144⟩ : ∃ y_ : List Int, y_ = (x7_1 ++ [rd t138 x9_1]) := ⟨_, rfl⟩
   replace H : (spec_l1Near.l0 k1 true y144 t138 (wrap64 (x9_1 + 1)) a0_0 a0_1 l0_2) = some r := by first | (rw [hy144]; with_reducible exact H) | (have H2_ := (Option.bind_some _ _).symm.trans H; rw [hy144]; with_reducible exact H2_) | (have H2_ := (Option.bind_some _ _).symm.trans H; with_reducible exact H2_) | with_reducible exact H | (rw [hy144]; exact H) | exact H
   have Ny144 := aM hy144
   clear hy144
   have H' := aM H
   clear H
   obtain ⟨Ao22, co22, eo22⟩ := Kd.R_slice HO_8.out
   subst eo22
   obtain ⟨hcz23_0, hcz23_1, hcz23_2, hfz23_0, hfz23_1, hfz23_2⟩ := b6_ BK134.out
   have p141 : 0 ≤ (x9_1 : Int) := dt_
   have q141 : x9_1 < (t138.length : Int) := dt_
   obtain ⟨ad141, e141, hx141_0⟩ := Kd.at_int (Kd.R_reads' HO_8.out).2.2 x9_1 p141 q141
   cases e141
   replace p141 := eq_true p141
   replace q141 := eq_true q141
   have p142 : 0 ≤ ((rd t138 x9_1) : Int) := dt_
   have q142 : (rd t138 x9_1) < (l0_2.length : Int) := dt_
   obtain ⟨ad142, e142, hx142_0⟩ := Kd.at_int HR0_2.out (rd t138 x9_1) p142 q142
   cases e142
   replace hx142_0 := cB_ hx142_0
   replace p142 := eq_true p142
   replace q142 := eq_true q142
   have p143 : 0 ≤ (x9_1 : Int) := dt_
   have q143 : x9_1 < (t138.length : Int) := dt_
   obtain ⟨ad143, e143, hx143_0⟩ := Kd.at_int (Kd.R_reads' HO_8.out).2.2 x9_1 p143 q143
   obtain rfl : ad141 = ad143 := (by injection e143)
   replace p143 := eq_true p143
   replace q143 := eq_true q143
   go_wp2_with (first | ((with_reducible refine gate_builtin (b := .append) (xs := #[.tmp 39, .tmp 44]) rfl ?_); at_builtin; refine Kd.R_append (Kd.int .i64) (w0 := w) w.heap.size rfl (.tmp 39) (.tmp 44) 24 3 (.int .i64 0) 8 rfl Try.underlying24 info3 rfl (by decide) (by omega) u7 x7_1 (rd t138 x9_1) [.int .i64 (rd t138 x9_1)] (fun k_ => some k_ ≠ (.slice (some ad141) t138.length co22 : Value).ownBlock) (fun _ => False) rfl rfl ?aP (fun _ hk => hk.elim) ?aF ?aO ?aB ?aS ?aL ?_; (case aP => exact rfl); (case aB => exact qz1); (case aF => exact qz9); (case aO => exact (rr_ HO_7.out)); (case aS => exact qz16); (case aL => have := LMc21.out; omega); intro v145 w24 ho hb hg hat; rw [← Ny144.out] at ho; replace HO_8 := aM (Kd.R_after (ok := (fun _ => True)) qz5 hg hat); replace BK134 := aM (blk_grown (bk_ BK134.out) hg (Kd.R_ne HO_7.out BK134.out (by decide))); replace HB := aM (hb); have HO146 := aM (ho); clear HO_7; clear ho hb hg hat))
   repeat (go_quiet (first | ((with_reducible refine gate_builtin (b := .append) (xs := #[.tmp 39, .tmp 44]) rfl ?_); at_builtin; refine Kd.R_append (Kd.int .i64) (w0 := w) w.heap.size rfl (.tmp 39) (.tmp 44) 24 3 (.int .i64 0) 8 rfl Try.underlying24 info3 rfl (by decide) (by omega) u7 x7_1 (rd t138 x9_1) [.int .i64 (rd t138 x9_1)] (fun k_ => some k_ ≠ (.slice (some ad141) t138.length co22 : Value).ownBlock) (fun _ => False) rfl rfl ?aP (fun _ hk => hk.elim) ?aF ?aO ?aB ?aS ?aL ?_; (case aP => exact rfl); (case aB => exact qz1); (case aF => exact qz9); (case aO => exact (rr_ HO_7.out)); (case aS => exact qz16); (case aL => have := LMc21.out; omega); intro v145 w24 ho hb hg hat; rw [← Ny144.out] at ho; replace HO_8 := aM (Kd.R_after (ok := (fun _ => True)) qz5 hg hat); replace BK134 := aM (blk_grown (bk_ BK134.out) hg (Kd.R_ne HO_7.out BK134.out (by decide))); replace HB := aM (hb); have HO146 := aM (ho); clear HO_7; clear ho hb hg hat)); try go_wp2_with (first | ((with_reducible refine gate_builtin (b := .append) (xs := #[.tmp 39, .tmp 44]) rfl ?_); at_builtin; refine Kd.R_append (Kd.int .i64) (w0 := w) w.heap.size rfl (.tmp 39) (.tmp 44) 24 3 (.int .i64 0) 8 rfl Try.underlying24 info3 rfl (by decide) (by omega) u7 x7_1 (rd t138 x9_1) [.int .i64 (rd t138 x9_1)] (fun k_ => some k_ ≠ (.slice (some ad141) t138.length co22 : Value).ownBlock) (fun _ => False) rfl rfl ?aP (fun _ hk => hk.elim) ?aF ?aO ?aB ?aS ?aL ?_; (case aP => exact rfl); (case aB => exact qz1); (case aF => exact qz9); (case aO => exact (rr_ HO_7.out)); (case aS => exact qz16); (case aL => have := LMc21.out; omega); intro v145 w24 ho hb hg hat; rw [← Ny144.out] at ho; replace HO_8 := aM (Kd.R_after (ok := (fun _ => True)) qz5 hg hat); replace BK134 := aM (blk_grown (bk_ BK134.out) hg (Kd.R_ne HO_7.out BK134.out (by decide))); replace HB := aM (hb); have HO146 := aM (ho); clear HO_7; clear ho hb hg hat)))
   go_roundg k1
   case measure => have := HK1.out; omega
   case rel => exact ⟨(y144), (wrap64 (x9_1 + 1)), qz4, H', ⟨by have := HK1.out; omega⟩, ⟨rm_ HO146.out⟩, ⟨by (with_reducible repeat (first | apply Kd.R_alloc | apply Kd.R_drewN | apply Kd.R_drew)); exact Kd.R_mono HO_8.out (fun _ hk => hk.2)⟩, ⟨bk_ BK134.out⟩, ⟨qz1⟩⟩
   }
   {
   exact an_ c21 H
   }
   }
   }
   {
   replace c17 := Bool.eq_false_iff.mpr c17
   subst c17
   rw [if_neg (show ¬ (false = true) by decide)] at H
   by_cases c25 : x7_1.length < 17592186044416
   {
   rw [if_pos c25] at H
   have LMc25 := aM c25
   clear c25
   obtain ⟨y148, hy148⟩ : ∃ y_ : List Int, y_ = (x7_1 ++ [rd t138 x9_1]) := ⟨_, rfl⟩
   replace H : (spec_l1Near.l0 k1 false y148 t138 (wrap64 (x9_1 + 1)) a0_0 a0_1 l0_2) = some r := by first | (rw [hy148]; with_reducible exact H) | (have H2_ := (Option.bind_some _ _).symm.trans H; rw [hy148]; with_reducible exact H2_) | (have H2_ := (Option.bind_some _ _).symm.trans H; with_reducible exact H2_) | with_reducible exact H | (rw [hy148]; exact H) | exact H
   have Ny148 := aM hy148
   clear hy148
   have H' := aM H
   clear H
   obtain ⟨Ao26, co26, eo26⟩ := Kd.R_slice HO_8.out
   subst eo26
   obtain ⟨hcz27_0, hcz27_1, hcz27_2, hfz27_0, hfz27_1, hfz27_2⟩ := b6_ BK134.out
   have p141 : 0 ≤ (x9_1 : Int) := dt_
   have q141 : x9_1 < (t138.length : Int) := dt_
   obtain ⟨ad141, e141, hx141_0⟩ := Kd.at_int (Kd.R_reads' HO_8.out).2.2 x9_1 p141 q141
   cases e141
   replace p141 := eq_true p141
   replace q141 := eq_true q141
   have p142 : 0 ≤ ((rd t138 x9_1) : Int) := dt_
   have q142 : (rd t138 x9_1) < (l0_2.length : Int) := dt_
   obtain ⟨ad142, e142, hx142_0⟩ := Kd.at_int HR0_2.out (rd t138 x9_1) p142 q142
   cases e142
   replace hx142_0 := cB_ hx142_0
   replace p142 := eq_true p142
   replace q142 := eq_true q142
   have p147 : 0 ≤ (x9_1 : Int) := dt_
   have q147 : x9_1 < (t138.length : Int) := dt_
   obtain ⟨ad147, e147, hx147_0⟩ := Kd.at_int (Kd.R_reads' HO_8.out).2.2 x9_1 p147 q147
   obtain rfl : ad141 = ad147 := (by injection e147)
   replace p147 := eq_true p147
   replace q147 := eq_true q147
   go_wp2_with (first | ((with_reducible refine gate_builtin (b := .append) (xs := #[.tmp 39, .tmp 44]) rfl ?_); at_builtin; refine Kd.R_append (Kd.int .i64) (w0 := w) w.heap.size rfl (.tmp 39) (.tmp 44) 24 3 (.int .i64 0) 8 rfl Try.underlying24 info3 rfl (by decide) (by omega) u7 x7_1 (rd t138 x9_1) [.int .i64 (rd t138 x9_1)] (fun k_ => some k_ ≠ (.slice (some ad141) t138.length co26 : Value).ownBlock) (fun _ => False) rfl rfl ?aP (fun _ hk => hk.elim) ?aF ?aO ?aB ?aS ?aL ?_; (case aP => exact rfl); (case aB => exact qz1); (case aF => exact qz9); (case aO => exact (rr_ HO_7.out)); (case aS => exact qz16); (case aL => have := LMc25.out; omega); intro v149 w28 ho hb hg hat; rw [← Ny148.out] at ho; replace HO_8 := aM (Kd.R_after (ok := (fun _ => True)) qz5 hg hat); replace BK134 := aM (blk_grown (bk_ BK134.out) hg (Kd.R_ne HO_7.out BK134.out (by decide))); replace HB := aM (hb); have HO150 := aM (ho); clear HO_7; clear ho hb hg hat))
   repeat (go_quiet (first | ((with_reducible refine gate_builtin (b := .append) (xs := #[.tmp 39, .tmp 44]) rfl ?_); at_builtin; refine Kd.R_append (Kd.int .i64) (w0 := w) w.heap.size rfl (.tmp 39) (.tmp 44) 24 3 (.int .i64 0) 8 rfl Try.underlying24 info3 rfl (by decide) (by omega) u7 x7_1 (rd t138 x9_1) [.int .i64 (rd t138 x9_1)] (fun k_ => some k_ ≠ (.slice (some ad141) t138.length co26 : Value).ownBlock) (fun _ => False) rfl rfl ?aP (fun _ hk => hk.elim) ?aF ?aO ?aB ?aS ?aL ?_; (case aP => exact rfl); (case aB => exact qz1); (case aF => exact qz9); (case aO => exact (rr_ HO_7.out)); (case aS => exact qz16); (case aL => have := LMc25.out; omega); intro v149 w28 ho hb hg hat; rw [← Ny148.out] at ho; replace HO_8 := aM (Kd.R_after (ok := (fun _ => True)) qz5 hg hat); replace BK134 := aM (blk_grown (bk_ BK134.out) hg (Kd.R_ne HO_7.out BK134.out (by decide))); replace HB := aM (hb); have HO150 := aM (ho); clear HO_7; clear ho hb hg hat)); try go_wp2_with (first | ((with_reducible refine gate_builtin (b := .append) (xs := #[.tmp 39, .tmp 44]) rfl ?_); at_builtin; refine Kd.R_append (Kd.int .i64) (w0 := w) w.heap.size rfl (.tmp 39) (.tmp 44) 24 3 (.int .i64 0) 8 rfl Try.underlying24 info3 rfl (by decide) (by omega) u7 x7_1 (rd t138 x9_1) [.int .i64 (rd t138 x9_1)] (fun k_ => some k_ ≠ (.slice (some ad141) t138.length co26 : Value).ownBlock) (fun _ => False) rfl rfl ?aP (fun _ hk => hk.elim) ?aF ?aO ?aB ?aS ?aL ?_; (case aP => exact rfl); (case aB => exact qz1); (case aF => exact qz9); (case aO => exact (rr_ HO_7.out)); (case aS => exact qz16); (case aL => have := LMc25.out; omega); intro v149 w28 ho hb hg hat; rw [← Ny148.out] at ho; replace HO_8 := aM (Kd.R_after (ok := (fun _ => True)) qz5 hg hat); replace BK134 := aM (blk_grown (bk_ BK134.out) hg (Kd.R_ne HO_7.out BK134.out (by decide))); replace HB := aM (hb); have HO150 := aM (ho); clear HO_7; clear ho hb hg hat)))
   go_roundg k1
   case measure => have := HK1.out; omega
   case rel => exact ⟨(y148), (wrap64 (x9_1 + 1)), qz4, H', ⟨by have := HK1.out; omega⟩, ⟨rm_ HO150.out⟩, ⟨by (with_reducible repeat (first | apply Kd.R_alloc | apply Kd.R_drewN | apply Kd.R_drew)); exact Kd.R_mono HO_8.out (fun _ hk => hk.2)⟩, ⟨bk_ BK134.out⟩, ⟨qz1⟩⟩
   }
   {
   exact an_ c25 H
   }
   }
   }
   }
   {
   exact an_ c13 H
   }
   }
   {
   exact an_ c12 H
   }
   }
   {
   exact an_ c11 H
   }
   }
   {
   rw [if_neg c10] at H
   have c10b0 := decide_eq_false c10
   clear c10
   obtain rfl := Option.some.inj H
   simp only [Option.some.injEq, Prod.mk.injEq] at H
   obtain ⟨rfl⟩ := H
   obtain ⟨Ao29, co29, eo29⟩ := Kd.R_slice HO_8.out
   subst eo29
   go_wp2
   repeat (go_quiet (fail); try go_wp2)
   go_ret
   exact ⟨_, qzw, by (with_reducible repeat (first | apply Kd.R_alloc | apply Kd.R_drewN | apply Kd.R_drew)); exact Kd.R_mono HO_7.out (fun _ hk => trivial), qz1⟩

   }
/-! ### spec_l7Rank: function 124 -/
def spec_l7Rank.f (a0_0 : Int) (a0_1 : Int) (a0_2 : Int) (a0_3 : Bool) (a0_4 : Int) (l1 : List Int) (a2 : Int) : Option (Int) := if a0_2 < 0 then (if a2 = a0_1 then (some 0) else (some 1)) else (if 0 ≤ a2 then (if a2 < (l1.length : Int) then (if (rd l1 a2) < 0 then (some 1000) else (some (rd l1 a2))) else (none)) else (none))
set_option maxHeartbeats 8000000 in
set_option maxRecDepth 100000 in
theorem spec_l7Rank.calls (a0_0 : Int) (a0_1 : Int) (a0_2 : Int) (a0_3 : Bool) (a0_4 : Int) (A1 : Option Addr) (c1 : Nat) (l1 : List Int) (a2 : Int) (r : Int) (w : World) (hr1 : Kd.C (Kd.int .i64) w A1 l1.length l1) (hc1 : l1.length ≤ c1) (h : spec_l7Rank.f a0_0 a0_1 a0_2 a0_3 a0_4 l1 a2 = some r) :
  Calls Try.prog 124 #[.agg #[.int .i64 a0_0, .int .i64 a0_1, .int .i64 a0_2, .bool a0_3, .int .i64 a0_4], .slice A1 l1.length c1, .int .i64 a2] w fun e w' => e = .returned (.int .i64 r) ∧ Below w.heap.size w w' := by
 have hu37 := Try.underlying37
 have HR1 := aM hr1
 have HC1 := aM hc1
 clear hr1 hc1
 have HB := aM (Below.refl w.heap.size w)
 have H : (if a0_2 < 0 then (if a2 = a0_1 then (some 0) else (some 1)) else (if 0 ≤ a2 then (if a2 < (l1.length : Int) then (if (rd l1 a2) < 0 then (some 1000) else (some (rd l1 a2))) else (none)) else (none))) = some r := h
 clear h
 by_cases c4 : a0_2 < 0
 {
 rw [if_pos c4] at H
 have c4b0 := decide_eq_true c4
 clear c4
 by_cases c5 : a2 = a0_1
 {
 rw [if_pos c5] at H
 have c5b0 := beq_iff_eq.mpr c5
 have c5b1 := bne_eq_false_iff_eq.mpr c5
 clear c5
 obtain rfl := Option.some.inj H
 simp only [Option.some.injEq, Prod.mk.injEq] at H
 obtain ⟨rfl⟩ := H
 go_enter Try.func124, Try.ntmps124
 go_wp2_with (first | ((with_reducible refine gate_dst (N := 3) rfl ?_); refine bx_ 3 #[.int .i64 a0_0, .int .i64 a0_1, .int .i64 a0_2, .bool a0_3, .int .i64 a0_4] 37 ?_; intro gb151 hg w6 hbox hb; have BK151 := aM (hbox); have GW151 := aM (bz_ w hg qz1); have GE151 := GW151; replace HB := bS_ hb; clear hb hbox hg; have hcz7_0 := bc0_ BK151.out; have hcz7_1 := bc1_ BK151.out; have hcz7_2 := bc2_ BK151.out; have hcz7_3 := bc3_ BK151.out; have hcz7_4 := bc4_ BK151.out; have hfz7_0 := blk_frozen BK151.out 0; have hfz7_1 := blk_frozen BK151.out 1; have hfz7_2 := blk_frozen BK151.out 2; have hfz7_3 := blk_frozen BK151.out 3; have hfz7_4 := blk_frozen BK151.out 4))
 go_ret
 exact ⟨qzw, qz1⟩
 }
 {
 rw [if_neg c5] at H
 have c5b0 := beq_eq_false_iff_ne.mpr c5
 have c5b1 := bne_iff_ne.mpr c5
 obtain rfl := Option.some.inj H
 simp only [Option.some.injEq, Prod.mk.injEq] at H
 obtain ⟨rfl⟩ := H
 go_enter Try.func124, Try.ntmps124
 go_wp2_with (first | ((with_reducible refine gate_dst (N := 3) rfl ?_); refine bx_ 3 #[.int .i64 a0_0, .int .i64 a0_1, .int .i64 a0_2, .bool a0_3, .int .i64 a0_4] 37 ?_; intro gb151 hg w8 hbox hb; have BK151 := aM (hbox); have GW151 := aM (bz_ w hg qz1); have GE151 := GW151; replace HB := bS_ hb; clear hb hbox hg; have hcz9_0 := bc0_ BK151.out; have hcz9_1 := bc1_ BK151.out; have hcz9_2 := bc2_ BK151.out; have hcz9_3 := bc3_ BK151.out; have hcz9_4 := bc4_ BK151.out; have hfz9_0 := blk_frozen BK151.out 0; have hfz9_1 := blk_frozen BK151.out 1; have hfz9_2 := blk_frozen BK151.out 2; have hfz9_3 := blk_frozen BK151.out 3; have hfz9_4 := blk_frozen BK151.out 4))
 go_ret
 exact ⟨qzw, qz1⟩
 }
 }
 {
 rw [if_neg c4] at H
 have c4b0 := decide_eq_false c4
 clear c4
 by_cases c10 : 0 ≤ a2
 {
 rw [if_pos c10] at H
 have c10b0 := decide_eq_true c10
 clear c10
 by_cases c11 : a2 < (l1.length : Int)
 {
 rw [if_pos c11] at H
 have c11b0 := decide_eq_true c11
 clear c11
 by_cases c12 : (rd l1 a2) < 0
 {
 rw [if_pos c12] at H
 have c12b0 := decide_eq_true c12
 clear c12
 obtain rfl := Option.some.inj H
 simp only [Option.some.injEq, Prod.mk.injEq] at H
 obtain ⟨rfl⟩ := H
 go_enter Try.func124, Try.ntmps124
 go_wp2_with (first | ((with_reducible refine gate_dst (N := 3) rfl ?_); refine bx_ 3 #[.int .i64 a0_0, .int .i64 a0_1, .int .i64 a0_2, .bool a0_3, .int .i64 a0_4] 37 ?_; intro gb151 hg w13 hbox hb; have BK151 := aM (hbox); have GW151 := aM (bz_ w hg qz1); have GE151 := GW151; replace HB := bS_ hb; clear hb hbox hg; have hcz14_0 := bc0_ BK151.out; have hcz14_1 := bc1_ BK151.out; have hcz14_2 := bc2_ BK151.out; have hcz14_3 := bc3_ BK151.out; have hcz14_4 := bc4_ BK151.out; have hfz14_0 := blk_frozen BK151.out 0; have hfz14_1 := blk_frozen BK151.out 1; have hfz14_2 := blk_frozen BK151.out 2; have hfz14_3 := blk_frozen BK151.out 3; have hfz14_4 := blk_frozen BK151.out 4; have p152 : 0 ≤ (a2 : Int) := dt_; have q152 : a2 < (l1.length : Int) := dt_; obtain ⟨ad152, e152, hx152_0⟩ := Kd.at_int HR1.out a2 p152 q152; cases e152; replace hx152_0 := cB_ hx152_0; replace p152 := eq_true p152; replace q152 := eq_true q152))
 go_ret
 exact ⟨qzw, qz1⟩
 }
 {
 rw [if_neg c12] at H
 have c12b0 := decide_eq_false c12
 clear c12
 obtain rfl := Option.some.inj H
 simp only [Option.some.injEq, Prod.mk.injEq] at H
 obtain ⟨rfl⟩ := H
 go_enter Try.func124, Try.ntmps124
 go_wp2_with (first | ((with_reducible refine gate_dst (N := 3) rfl ?_); refine bx_ 3 #[.int .i64 a0_0, .int .i64 a0_1, .int .i64 a0_2, .bool a0_3, .int .i64 a0_4] 37 ?_; intro gb151 hg w15 hbox hb; have BK151 := aM (hbox); have GW151 := aM (bz_ w hg qz1); have GE151 := GW151; replace HB := bS_ hb; clear hb hbox hg; have hcz16_0 := bc0_ BK151.out; have hcz16_1 := bc1_ BK151.out; have hcz16_2 := bc2_ BK151.out; have hcz16_3 := bc3_ BK151.out; have hcz16_4 := bc4_ BK151.out; have hfz16_0 := blk_frozen BK151.out 0; have hfz16_1 := blk_frozen BK151.out 1; have hfz16_2 := blk_frozen BK151.out 2; have hfz16_3 := blk_frozen BK151.out 3; have hfz16_4 := blk_frozen BK151.out 4; have p152 : 0 ≤ (a2 : Int) := dt_; have q152 : a2 < (l1.length : Int) := dt_; obtain ⟨ad152, e152, hx152_0⟩ := Kd.at_int HR1.out a2 p152 q152; cases e152; replace hx152_0 := cB_ hx152_0; replace p152 := eq_true p152; replace q152 := eq_true q152; have p153 : 0 ≤ (a2 : Int) := dt_; have q153 : a2 < (l1.length : Int) := dt_; obtain ⟨ad153, e153, hx153_0⟩ := Kd.at_int HR1.out a2 p153 q153; obtain rfl : ad152 = ad153 := (by injection e153); replace hx153_0 := cB_ hx153_0; replace p153 := eq_true p153; replace q153 := eq_true q153))
 go_ret
 exact ⟨qzw, qz1⟩
 }
 }
 {
 exact an_ c11 H
 }
 }
 {
 exact an_ c10 H

 }
 }
/-! ### spec_l7Before: function 100 -/
def spec_l7Before.f (a0_0 : Int) (a0_1 : Int) (a0_2 : Int) (a0_3 : Bool) (a0_4 : Int) (l1 : List Int) (a2 : Int) (a3 : Int) : Option (Bool) := (spec_l7Rank.f a0_0 a0_1 a0_2 a0_3 a0_4 l1 a2).bind fun t155 => ((spec_l7Rank.f a0_0 a0_1 a0_2 a0_3 a0_4 l1 a3).bind fun t156 => (if t155 = t156 then (if ((a2 == a0_1) != (a3 == a0_1)) = true then (some (a3 == a0_1)) else (some (decide (a2 < a3)))) else (some (decide (t155 < t156)))))
set_option maxHeartbeats 8000000 in
set_option maxRecDepth 100000 in
theorem spec_l7Before.calls (a0_0 : Int) (a0_1 : Int) (a0_2 : Int) (a0_3 : Bool) (a0_4 : Int) (A1 : Option Addr) (c1 : Nat) (l1 : List Int) (a2 : Int) (a3 : Int) (r : Bool) (w : World) (hr1 : Kd.C (Kd.int .i64) w A1 l1.length l1) (hc1 : l1.length ≤ c1) (h : spec_l7Before.f a0_0 a0_1 a0_2 a0_3 a0_4 l1 a2 a3 = some r) :
  Calls Try.prog 100 #[.agg #[.int .i64 a0_0, .int .i64 a0_1, .int .i64 a0_2, .bool a0_3, .int .i64 a0_4], .slice A1 l1.length c1, .int .i64 a2, .int .i64 a3] w fun e w' => e = .returned (.bool r) ∧ Below w.heap.size w w' := by
 have hu37 := Try.underlying37
 have HR1 := aM hr1
 have HC1 := aM hc1
 clear hr1 hc1
 have HB := aM (Below.refl w.heap.size w)
 have H : ((spec_l7Rank.f a0_0 a0_1 a0_2 a0_3 a0_4 l1 a2).bind fun t155 => ((spec_l7Rank.f a0_0 a0_1 a0_2 a0_3 a0_4 l1 a3).bind fun t156 => (if t155 = t156 then (if ((a2 == a0_1) != (a3 == a0_1)) = true then (some (a3 == a0_1)) else (some (decide (a2 < a3)))) else (some (decide (t155 < t156)))))) = some r := h
 clear h
 replace H := Option.bind_eq_some_iff.mp H
 obtain ⟨t155, A50, H⟩ := H
 replace H : ((spec_l7Rank.f a0_0 a0_1 a0_2 a0_3 a0_4 l1 a3).bind fun t156 => (if t155 = t156 then (if ((a2 == a0_1) != (a3 == a0_1)) = true then (some (a3 == a0_1)) else (some (decide (a2 < a3)))) else (some (decide (t155 < t156))))) = some r := H
 have A5 := aM A50
 clear A50
 replace H := Option.bind_eq_some_iff.mp H
 obtain ⟨t156, A60, H⟩ := H
 replace H : (if t155 = t156 then (if ((a2 == a0_1) != (a3 == a0_1)) = true then (some (a3 == a0_1)) else (some (decide (a2 < a3)))) else (some (decide (t155 < t156)))) = some r := H
 have A6 := aM A60
 clear A60
 by_cases c7 : t155 = t156
 {
 rw [if_pos c7] at H
 have c7b0 := beq_iff_eq.mpr c7
 have c7b1 := bne_eq_false_iff_eq.mpr c7
 clear c7
 by_cases c8 : ((a2 == a0_1) != (a3 == a0_1)) = true
 {
 rw [if_pos c8] at H
 have c8b0 : ((a2 == a0_1) != (a3 == a0_1)) = true := c8
 (try (have c8b1 : decide ((a2 == a0_1) = (a3 == a0_1)) = false := by simpa using c8))
 (try (have c8b2 : ((a2 == a0_1) == (a3 == a0_1)) = false := by simpa using c8))
 (try (have c8b3 : ¬ ((a2 == a0_1) = (a3 == a0_1)) := by simpa using c8))
 clear c8
 obtain rfl := Option.some.inj H
 simp only [Option.some.injEq, Prod.mk.injEq] at H
 obtain ⟨rfl⟩ := H
 go_enter Try.func100, Try.ntmps100
 go_wp2_with (first | ((with_reducible refine gate_dst (N := 4) rfl ?_); refine bx_ 4 #[.int .i64 a0_0, .int .i64 a0_1, .int .i64 a0_2, .bool a0_3, .int .i64 a0_4] 37 ?_; intro gb154 hg w9 hbox hb; have BK154 := aM (hbox); have GW154 := aM (bz_ w hg qz1); have GE154 := GW154; replace HB := bS_ hb; clear hb hbox hg; have hcz10_0 := bc0_ BK154.out; have hcz10_1 := bc1_ BK154.out; have hcz10_2 := bc2_ BK154.out; have hcz10_3 := bc3_ BK154.out; have hcz10_4 := bc4_ BK154.out; have hfz10_0 := blk_frozen BK154.out 0; have hfz10_1 := blk_frozen BK154.out 1; have hfz10_2 := blk_frozen BK154.out 2; have hfz10_3 := blk_frozen BK154.out 3; have hfz10_4 := blk_frozen BK154.out 4) | ((with_reducible refine gate_callee (f := 124) rfl ?_); refine goesL_ (some 14) rfl rfl Try.func124 (by kernel_rfl) rfl #[.agg #[.int .i64 a0_0, .int .i64 a0_1, .int .i64 a0_2, .bool a0_3, .int .i64 a0_4], .slice A1 l1.length c1, .int .i64 a2] rfl qz2 ?_; (with_reducible refine (spec_l7Rank.calls a0_0 a0_1 a0_2 a0_3 a0_4 _ _ l1 a2 t155 _ ?side1 ?side2 A5.out).mono ?_); (case side1 => exact qz8); (case side2 => exact HC1.out); rintro e w11 ⟨rfl, hb⟩; refine ⟨_, rfl, ?_⟩; replace BK154 := bB_ BK154 hb; replace HB := bS_ hb; (try clear hb); have hcz12_0 := bc0_ BK154.out; have hcz12_1 := bc1_ BK154.out; have hcz12_2 := bc2_ BK154.out; have hcz12_3 := bc3_ BK154.out; have hcz12_4 := bc4_ BK154.out; have hfz12_0 := blk_frozen BK154.out 0; have hfz12_1 := blk_frozen BK154.out 1; have hfz12_2 := blk_frozen BK154.out 2; have hfz12_3 := blk_frozen BK154.out 3; have hfz12_4 := blk_frozen BK154.out 4) | ((with_reducible refine gate_callee (f := 124) rfl ?_); refine goesL_ (some 18) rfl rfl Try.func124 (by kernel_rfl) rfl #[.agg #[.int .i64 a0_0, .int .i64 a0_1, .int .i64 a0_2, .bool a0_3, .int .i64 a0_4], .slice A1 l1.length c1, .int .i64 a3] rfl qz2 ?_; (with_reducible refine (spec_l7Rank.calls a0_0 a0_1 a0_2 a0_3 a0_4 _ _ l1 a3 t156 _ ?side1 ?side2 A6.out).mono ?_); (case side1 => exact qz8); (case side2 => exact HC1.out); rintro e w13 ⟨rfl, hb⟩; refine ⟨_, rfl, ?_⟩; replace BK154 := bB_ BK154 hb; replace HB := bS_ hb; (try clear hb); have hcz14_0 := bc0_ BK154.out; have hcz14_1 := bc1_ BK154.out; have hcz14_2 := bc2_ BK154.out; have hcz14_3 := bc3_ BK154.out; have hcz14_4 := bc4_ BK154.out; have hfz14_0 := blk_frozen BK154.out 0; have hfz14_1 := blk_frozen BK154.out 1; have hfz14_2 := blk_frozen BK154.out 2; have hfz14_3 := blk_frozen BK154.out 3; have hfz14_4 := blk_frozen BK154.out 4))
 go_ret
 exact ⟨qzw, qz1⟩
 }
 {
 rw [if_neg c8] at H
 have c8b0 : ((a2 == a0_1) != (a3 == a0_1)) = false := by simpa using c8
 (try (have c8b1 : decide ((a2 == a0_1) = (a3 == a0_1)) = true := by simpa using c8))
 (try (have c8b2 : ((a2 == a0_1) == (a3 == a0_1)) = true := by simpa using c8))
 clear c8
 obtain rfl := Option.some.inj H
 simp only [Option.some.injEq, Prod.mk.injEq] at H
 obtain ⟨rfl⟩ := H
 go_enter Try.func100, Try.ntmps100
 go_wp2_with (first | ((with_reducible refine gate_dst (N := 4) rfl ?_); refine bx_ 4 #[.int .i64 a0_0, .int .i64 a0_1, .int .i64 a0_2, .bool a0_3, .int .i64 a0_4] 37 ?_; intro gb154 hg w15 hbox hb; have BK154 := aM (hbox); have GW154 := aM (bz_ w hg qz1); have GE154 := GW154; replace HB := bS_ hb; clear hb hbox hg; have hcz16_0 := bc0_ BK154.out; have hcz16_1 := bc1_ BK154.out; have hcz16_2 := bc2_ BK154.out; have hcz16_3 := bc3_ BK154.out; have hcz16_4 := bc4_ BK154.out; have hfz16_0 := blk_frozen BK154.out 0; have hfz16_1 := blk_frozen BK154.out 1; have hfz16_2 := blk_frozen BK154.out 2; have hfz16_3 := blk_frozen BK154.out 3; have hfz16_4 := blk_frozen BK154.out 4) | ((with_reducible refine gate_callee (f := 124) rfl ?_); refine goesL_ (some 14) rfl rfl Try.func124 (by kernel_rfl) rfl #[.agg #[.int .i64 a0_0, .int .i64 a0_1, .int .i64 a0_2, .bool a0_3, .int .i64 a0_4], .slice A1 l1.length c1, .int .i64 a2] rfl qz2 ?_; (with_reducible refine (spec_l7Rank.calls a0_0 a0_1 a0_2 a0_3 a0_4 _ _ l1 a2 t155 _ ?side1 ?side2 A5.out).mono ?_); (case side1 => exact qz8); (case side2 => exact HC1.out); rintro e w17 ⟨rfl, hb⟩; refine ⟨_, rfl, ?_⟩; replace BK154 := bB_ BK154 hb; replace HB := bS_ hb; (try clear hb); have hcz18_0 := bc0_ BK154.out; have hcz18_1 := bc1_ BK154.out; have hcz18_2 := bc2_ BK154.out; have hcz18_3 := bc3_ BK154.out; have hcz18_4 := bc4_ BK154.out; have hfz18_0 := blk_frozen BK154.out 0; have hfz18_1 := blk_frozen BK154.out 1; have hfz18_2 := blk_frozen BK154.out 2; have hfz18_3 := blk_frozen BK154.out 3; have hfz18_4 := blk_frozen BK154.out 4) | ((with_reducible refine gate_callee (f := 124) rfl ?_); refine goesL_ (some 18) rfl rfl Try.func124 (by kernel_rfl) rfl #[.agg #[.int .i64 a0_0, .int .i64 a0_1, .int .i64 a0_2, .bool a0_3, .int .i64 a0_4], .slice A1 l1.length c1, .int .i64 a3] rfl qz2 ?_; (with_reducible refine (spec_l7Rank.calls a0_0 a0_1 a0_2 a0_3 a0_4 _ _ l1 a3 t156 _ ?side1 ?side2 A6.out).mono ?_); (case side1 => exact qz8); (case side2 => exact HC1.out); rintro e w19 ⟨rfl, hb⟩; refine ⟨_, rfl, ?_⟩; replace BK154 := bB_ BK154 hb; replace HB := bS_ hb; (try clear hb); have hcz20_0 := bc0_ BK154.out; have hcz20_1 := bc1_ BK154.out; have hcz20_2 := bc2_ BK154.out; have hcz20_3 := bc3_ BK154.out; have hcz20_4 := bc4_ BK154.out; have hfz20_0 := blk_frozen BK154.out 0; have hfz20_1 := blk_frozen BK154.out 1; have hfz20_2 := blk_frozen BK154.out 2; have hfz20_3 := blk_frozen BK154.out 3; have hfz20_4 := blk_frozen BK154.out 4))
 go_ret
 exact ⟨qzw, qz1⟩
 }
 }
 {
 rw [if_neg c7] at H
 have c7b0 := beq_eq_false_iff_ne.mpr c7
 have c7b1 := bne_iff_ne.mpr c7
 obtain rfl := Option.some.inj H
 simp only [Option.some.injEq, Prod.mk.injEq] at H
 obtain ⟨rfl⟩ := H
 go_enter Try.func100, Try.ntmps100
 go_wp2_with (first | ((with_reducible refine gate_dst (N := 4) rfl ?_); refine bx_ 4 #[.int .i64 a0_0, .int .i64 a0_1, .int .i64 a0_2, .bool a0_3, .int .i64 a0_4] 37 ?_; intro gb154 hg w21 hbox hb; have BK154 := aM (hbox); have GW154 := aM (bz_ w hg qz1); have GE154 := GW154; replace HB := bS_ hb; clear hb hbox hg; have hcz22_0 := bc0_ BK154.out; have hcz22_1 := bc1_ BK154.out; have hcz22_2 := bc2_ BK154.out; have hcz22_3 := bc3_ BK154.out; have hcz22_4 := bc4_ BK154.out; have hfz22_0 := blk_frozen BK154.out 0; have hfz22_1 := blk_frozen BK154.out 1; have hfz22_2 := blk_frozen BK154.out 2; have hfz22_3 := blk_frozen BK154.out 3; have hfz22_4 := blk_frozen BK154.out 4) | ((with_reducible refine gate_callee (f := 124) rfl ?_); refine goesL_ (some 14) rfl rfl Try.func124 (by kernel_rfl) rfl #[.agg #[.int .i64 a0_0, .int .i64 a0_1, .int .i64 a0_2, .bool a0_3, .int .i64 a0_4], .slice A1 l1.length c1, .int .i64 a2] rfl qz2 ?_; (with_reducible refine (spec_l7Rank.calls a0_0 a0_1 a0_2 a0_3 a0_4 _ _ l1 a2 t155 _ ?side1 ?side2 A5.out).mono ?_); (case side1 => exact qz8); (case side2 => exact HC1.out); rintro e w23 ⟨rfl, hb⟩; refine ⟨_, rfl, ?_⟩; replace BK154 := bB_ BK154 hb; replace HB := bS_ hb; (try clear hb); have hcz24_0 := bc0_ BK154.out; have hcz24_1 := bc1_ BK154.out; have hcz24_2 := bc2_ BK154.out; have hcz24_3 := bc3_ BK154.out; have hcz24_4 := bc4_ BK154.out; have hfz24_0 := blk_frozen BK154.out 0; have hfz24_1 := blk_frozen BK154.out 1; have hfz24_2 := blk_frozen BK154.out 2; have hfz24_3 := blk_frozen BK154.out 3; have hfz24_4 := blk_frozen BK154.out 4) | ((with_reducible refine gate_callee (f := 124) rfl ?_); refine goesL_ (some 18) rfl rfl Try.func124 (by kernel_rfl) rfl #[.agg #[.int .i64 a0_0, .int .i64 a0_1, .int .i64 a0_2, .bool a0_3, .int .i64 a0_4], .slice A1 l1.length c1, .int .i64 a3] rfl qz2 ?_; (with_reducible refine (spec_l7Rank.calls a0_0 a0_1 a0_2 a0_3 a0_4 _ _ l1 a3 t156 _ ?side1 ?side2 A6.out).mono ?_); (case side1 => exact qz8); (case side2 => exact HC1.out); rintro e w25 ⟨rfl, hb⟩; refine ⟨_, rfl, ?_⟩; replace BK154 := bB_ BK154 hb; replace HB := bS_ hb; (try clear hb)))
 go_ret
 exact ⟨qzw, qz1⟩

 }
end Go.Proofs.Ytankmdbbgepmbaa.PFnExactChoices
