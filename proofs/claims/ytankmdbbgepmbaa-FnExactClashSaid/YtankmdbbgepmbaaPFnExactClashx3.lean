-- Made by a program of this session out of the translation. Lean checks it.
import Derived.Test.YtankmdbbgepmbaaPFnExactClashx0
namespace Go.Proofs.Ytankmdbbgepmbaa.PFnExactClash
open Go.RowKit Go.Proofs.YtankmdbbgepmbaaW.PrintWords Go.Proofs.YtankmdbbgepmbaaW.PrintLast Go.Proofs.YtankmdbbgepmbaaW.PrintMore
attribute [local go_sem] max2_int min2_int max_two min_two max_three min_three max_four min_four   -- for this text's walks alone
set_option linter.unusedVariables false
set_option linter.unusedSimpArgs false

/-! ### spec_l1Beside: function 123 -/
mutual
def spec_l1Beside.j0 : Nat → Int → List Int → Int → Int → Int → Int → List Int → Option (List Int)
 | 0, _, _, _, _, _, _, _ => none
 | k + 1, x1, x5, x6, x7, x146000, x146001, x146002 => if x6 > 0 then (if x5.length < 17592186044416 then (spec_l1Beside.j1 k x1 (x5 ++ [wrap64 (x1 - 1)]) x6 x7 x146000 x146001 x146002) else (none)) else (spec_l1Beside.j1 k x1 x5 x6 x7 x146000 x146001 x146002)
def spec_l1Beside.j1 : Nat → Int → List Int → Int → Int → Int → Int → List Int → Option (List Int)
 | 0, _, _, _, _, _, _, _ => none
 | k + 1, x1, x5, x6, x7, x146000, x146001, x146002 => if x6 < (wrap64 (x146000 - 1)) then (if x5.length < 17592186044416 then ((some (x5 ++ [wrap64 (x1 + 1)] : List Int)).bind fun y155 => (if x7 < (wrap64 (x146001 - 1)) then (if y155.length < 17592186044416 then (some (y155 ++ [wrap64 (x1 + x146000)])) else (none)) else (some y155))) else (none)) else (if x7 < (wrap64 (x146001 - 1)) then (if x5.length < 17592186044416 then (some (x5 ++ [wrap64 (x1 + x146000)])) else (none)) else (some x5))
end
def spec_l1Beside.f (k : Nat) (a0_0 : Int) (a0_1 : Int) (l0_2 : List Int) (a1 : Int) : Option (List Int) := (some (([] : List Int) : List Int)).bind fun y146 => (if a0_0 = 0 then (none) else (if (wrap64 (Int.tdiv a1 a0_0)) > 0 then (if y146.length < 17592186044416 then (spec_l1Beside.j0 k a1 (y146 ++ [wrap64 (a1 - a0_0)]) (Int.tmod a1 a0_0) (wrap64 (Int.tdiv a1 a0_0)) a0_0 a0_1 l0_2) else (none)) else (spec_l1Beside.j0 k a1 y146 (Int.tmod a1 a0_0) (wrap64 (Int.tdiv a1 a0_0)) a0_0 a0_1 l0_2)))
theorem spec_l1Beside.mono_l : ∀ k, (∀ y0 y1 y2 y3 y4 y5 y6, LeO (spec_l1Beside.j0 k y0 y1 y2 y3 y4 y5 y6) (spec_l1Beside.j0 (k + 1) y0 y1 y2 y3 y4 y5 y6)) ∧ (∀ y0 y1 y2 y3 y4 y5 y6, LeO (spec_l1Beside.j1 k y0 y1 y2 y3 y4 y5 y6) (spec_l1Beside.j1 (k + 1) y0 y1 y2 y3 y4 y5 y6))
 | 0 => ⟨fun _ _ _ _ _ _ _ r h => by simp [spec_l1Beside.j0] at h, fun _ _ _ _ _ _ _ r h => by simp [spec_l1Beside.j1] at h⟩
 | k + 1 => by
  obtain ⟨ih0, ih1⟩ := spec_l1Beside.mono_l k
  refine ⟨?_, ?_⟩
  {
  intro y0 y1 y2 y3 y4 y5 y6
  unfold spec_l1Beside.j0
  exact qL
  }
  {
  intro y0 y1 y2 y3 y4 y5 y6
  unfold spec_l1Beside.j1
  exact qL
  }
theorem spec_l1Beside.mono : ∀ a0 a1 a2 a3 k, LeO (spec_l1Beside.f k a0 a1 a2 a3) (spec_l1Beside.f (k + 1) a0 a1 a2 a3) := by
 intro a0 a1 a2 a3 k
 obtain ⟨ih0, ih1⟩ := spec_l1Beside.mono_l k
 unfold spec_l1Beside.f
 exact qL
set_option maxHeartbeats 8000000 in
set_option maxRecDepth 100000 in
theorem spec_l1Beside.calls (k : Nat) (a0_0 : Int) (a0_1 : Int) (A0_2 : Option Addr) (c0_2 : Nat) (l0_2 : List Int) (a1 : Int) (r : List Int) (w : World) (hr0_2 : Kd.C (Kd.int .i64) w A0_2 l0_2.length l0_2) (hc0_2 : l0_2.length ≤ c0_2) (h : spec_l1Beside.f k a0_0 a0_1 l0_2 a1 = some r) :
  Calls Try.prog 123 #[.agg #[.int .i64 a0_0, .int .i64 a0_1, .slice A0_2 l0_2.length c0_2], .int .i64 a1] w fun e w' => ∃ v0_ : Value, e = .returned (v0_) ∧ Kd.R (Kd.int .i64) 3 w' w.heap.size (fun _ => True) v0_ r ∧ Below w.heap.size w w' := by
 have hu43 := Try.underlying43
 have HR0_2 := aM hr0_2
 have HC0_2 := aM hc0_2
 clear hr0_2 hc0_2
 have HB := aM (Below.refl w.heap.size w)
 have H : ((some (([] : List Int) : List Int)).bind fun y146 => (if a0_0 = 0 then (none) else (if (wrap64 (Int.tdiv a1 a0_0)) > 0 then (if y146.length < 17592186044416 then (spec_l1Beside.j0 k a1 (y146 ++ [wrap64 (a1 - a0_0)]) (Int.tmod a1 a0_0) (wrap64 (Int.tdiv a1 a0_0)) a0_0 a0_1 l0_2) else (none)) else (spec_l1Beside.j0 k a1 y146 (Int.tmod a1 a0_0) (wrap64 (Int.tdiv a1 a0_0)) a0_0 a0_1 l0_2)))) = some r := h
 clear h
 obtain ⟨y146, hy146⟩ : ∃ y_ : List Int, y_ = (([] : List Int)) := ⟨_, rfl⟩
 replace H : (if a0_0 = 0 then (none) else (if (wrap64 (Int.tdiv a1 a0_0)) > 0 then (if y146.length < 17592186044416 then (spec_l1Beside.j0 k a1 (y146 ++ [wrap64 (a1 - a0_0)]) (Int.tmod a1 a0_0) (wrap64 (Int.tdiv a1 a0_0)) a0_0 a0_1 l0_2) else (none)) else (spec_l1Beside.j0 k a1 y146 (Int.tmod a1 a0_0) (wrap64 (Int.tdiv a1 a0_0)) a0_0 a0_1 l0_2))) = some r := by first | (rw [hy146]; with_reducible exact H) | (have H2_ := (Option.bind_some _ _).symm.trans H; rw [hy146]; with_reducible exact H2_) | (have H2_ := (Option.bind_some _ _).symm.trans H; with_reducible exact H2_) | with_reducible exact H | (rw [hy146]; exact H) | exact H
 have Ny146 := aM hy146
 clear hy146
 by_cases c3 : a0_0 = 0
 {
 exact ap_ c3 H
 }
 {
 rw [if_neg c3] at H
 have c3b0 := beq_eq_false_iff_ne.mpr c3
 have c3b1 := bne_iff_ne.mpr c3
 have HC4 := aM H
 clear H
 go_enter Try.func123, Try.ntmps123
 go_upto_if 18 with (first | ((with_reducible refine gate_dst (N := 2) rfl ?_); refine bx_ 2 #[.int .i64 a0_0, .int .i64 a0_1, .slice A0_2 l0_2.length c0_2] 43 ?_; intro gb145 hg w5 hbox hb; have BK145 := aM (hbox); have GW145 := aM (bz_ w hg qz1); have GE145 := GW145; replace HB := bS_ hb; clear hb hbox hg) | ((with_reducible refine gate_dst (N := 8) rfl ?_); refine Kd.R_lit (Kd.int .i64) _ 3 ?hg (N := 8) ?hd (xs := ([] : List Int)) (inner := []) (ok := fun _ => True) (okp := fun _ => True) ?hr ?hp (fun _ hk => hk) trivial (Below.refl _ _) (Nat.le_refl _) (by simp) ?_; (case hd => rfl); (case hg => rfl); (case hr => exact qz7); (case hp => exact (Reps.none _ _)); intro v147 w6 ho7 hb hg_ hnew_; clear hg_ hnew_; (first | rw [← Ny146.out] at ho7 | (simp only [Int.reduceToNat] at ho7; rw [← Ny146.out] at ho7)); have HO148 := aM (Kd.R_lower ho7 (below_size qz1)); replace BK145 := bB_ BK145 hb; replace HB := bS_ hb; clear hb ho7; obtain ⟨hcz8_0, hcz8_1, hcz8_2, hfz8_0, hfz8_1, hfz8_2⟩ := b6_ BK145.out))
 (try simp only [Act.put, List.setIfInBounds_toArray, List.set_cons_zero, List.set_cons_succ])
 go_cut [5] (fun v5 wc => ∃ (kq : Nat) (x5_3 : List Int), Aside0 (spec_l1Beside.j0 kq a1 x5_3 (Int.tmod a1 a0_0) (wrap64 (Int.tdiv a1 a0_0)) a0_0 a0_1 l0_2 = some r) ∧ Aside0 (kq ≤ k) ∧ Aside0 (Kd.R (Kd.int .i64) 3 wc w.heap.size (fun _ => True) v5 x5_3) ∧ Aside0 (wc.heap[gb145]? = some (.cells #[.int .i64 a0_0, .int .i64 a0_1, (.slice A0_2 l0_2.length c0_2)] 43 (0, 0))) ∧ Aside0 (Below w.heap.size w wc))
 case first =>
  have H := HC4.out
  clear HC4
  by_cases c9 : (wrap64 (Int.tdiv a1 a0_0)) > 0
  {
  rw [if_pos c9] at H
  have c9b0 := decide_eq_true c9
  clear c9
  (first | rw [c9b0] | (simp only [i64_w, i32_w]; rw [c9b0]) | rw [@decide_eq_true _ _ (of_decide_eq_true c9b0)] | rw [@decide_eq_true _ _ (of_decide_eq_true c9b1)] | skip)
  by_cases c10 : y146.length < 17592186044416
  {
  rw [if_pos c10] at H
  have LMc10 := aM c10
  clear c10
  obtain ⟨y149, hy149⟩ : ∃ y_ : List Int, y_ = (y146 ++ [wrap64 (a1 - a0_0)]) := ⟨_, rfl⟩
  replace H : (spec_l1Beside.j0 k a1 y149 (Int.tmod a1 a0_0) (wrap64 (Int.tdiv a1 a0_0)) a0_0 a0_1 l0_2) = some r := by first | (rw [hy149]; with_reducible exact H) | (have H2_ := (Option.bind_some _ _).symm.trans H; rw [hy149]; with_reducible exact H2_) | (have H2_ := (Option.bind_some _ _).symm.trans H; with_reducible exact H2_) | with_reducible exact H | (rw [hy149]; exact H) | exact H
  have Ny149 := aM hy149
  clear hy149
  have H' := aM H
  clear H
  obtain ⟨hcz11_0, hcz11_1, hcz11_2, hfz11_0, hfz11_1, hfz11_2⟩ := b6_ BK145.out
  go_wp2_with (first | ((with_reducible refine gate_builtin (b := .append) (xs := #[.tmp 19, .tmp 24]) rfl ?_); at_builtin; refine Kd.R_append (Kd.int .i64) (w0 := w) w.heap.size rfl (.tmp 19) (.tmp 24) 24 3 (.int .i64 0) 8 rfl Try.underlying24 info3 rfl (by decide) (by omega) v147 y146 (wrap64 (a1 - a0_0)) [.int .i64 (wrap64 (a1 - a0_0))] (fun _ => True) (fun _ => False) rfl rfl ?aP (fun _ hk => hk.elim) ?aF ?aO ?aB ?aS ?aL ?_; (case aP => exact rfl); (case aB => exact qz1); (case aF => exact qz21); (case aO => exact (rr_ HO148.out)); (case aS => exact qz27); (case aL => have := LMc10.out; omega); intro v150 w12 ho hb hg hat; rw [← Ny149.out] at ho; replace BK145 := aM (blk_grown (bk_ BK145.out) hg (Kd.R_ne HO148.out BK145.out (by decide))); replace HB := aM (hb); have HO151 := aM (ho); clear HO148; clear ho hb hg hat))
  go_meet
  case rel => exact ⟨_, (y149), H', ⟨by first | omega | exact Nat.le_refl _⟩, ⟨rm_ HO151.out⟩, ⟨bk_ BK145.out⟩, ⟨qz1⟩⟩
  }
  {
  exact an_ c10 H
  }
  }
  {
  rw [if_neg c9] at H
  have c9b0 := decide_eq_false c9
  clear c9
  (first | rw [c9b0] | (simp only [i64_w, i32_w]; rw [c9b0]) | rw [@decide_eq_false _ _ (of_decide_eq_false c9b0)] | rw [@decide_eq_false _ _ (of_decide_eq_false c9b1)] | skip)
  have H' := aM H
  clear H
  go_wp2
  go_meet
  case rel => exact ⟨_, (y146), H', ⟨by first | omega | exact Nat.le_refl _⟩, ⟨rm_ HO148.out⟩, ⟨bk_ BK145.out⟩, ⟨qz1⟩⟩
  }
 case rest =>
  clear HC4
  try clear c1
  try clear p2
  try clear c3
  try clear c3b0
  try clear c3b1
  try clear p6
  try clear c9
  try clear c9b0
  try clear c9b1
  try clear c10
  try clear c12
  try clear hcz11_0 hcz11_1 hcz11_2 hfz11_0 hfz11_1 hfz11_2
  try clear hcz8_0 hcz8_1 hcz8_2 hfz8_0 hfz8_1 hfz8_2
  obtain ⟨kq, x5_3, HA, HJ3, HO_5, BK145, HB⟩ := hcut
  cases kq with
  | zero => exact absurd HA.out (by simp [spec_l1Beside.j0])
  | succ kj3 =>
   have H := HA.out
   clear HA
   simp only [spec_l1Beside.j0] at H
   have HC13 := aM H
   clear H
   go_upto_if 27 with (fail)
   go_cut [5] (fun v5 wc => ∃ (kq : Nat) (x5_12 : List Int), Aside0 (spec_l1Beside.j1 kq a1 x5_12 (Int.tmod a1 a0_0) (wrap64 (Int.tdiv a1 a0_0)) a0_0 a0_1 l0_2 = some r) ∧ Aside0 (kq ≤ kj3) ∧ Aside0 (Kd.R (Kd.int .i64) 3 wc w.heap.size (fun _ => True) v5 x5_12) ∧ Aside0 (wc.heap[gb145]? = some (.cells #[.int .i64 a0_0, .int .i64 a0_1, (.slice A0_2 l0_2.length c0_2)] 43 (0, 0))) ∧ Aside0 (Below w.heap.size w wc))
   case first =>
    have H := HC13.out
    clear HC13
    by_cases c14 : (Int.tmod a1 a0_0) > 0
    {
    rw [if_pos c14] at H
    have c14b0 := decide_eq_true c14
    clear c14
    (first | rw [c14b0] | (simp only [i64_w, i32_w]; rw [c14b0]) | rw [@decide_eq_true _ _ (of_decide_eq_true c14b0)] | rw [@decide_eq_true _ _ (of_decide_eq_true c14b1)] | skip)
    by_cases c15 : x5_3.length < 17592186044416
    {
    rw [if_pos c15] at H
    have LMc15 := aM c15
    clear c15
    obtain ⟨y152, hy152⟩ : ∃ y_ : List Int, y_ = (x5_3 ++ [wrap64 (a1 - 1)]) := ⟨_, rfl⟩
    replace H : (spec_l1Beside.j1 kj3 a1 y152 (Int.tmod a1 a0_0) (wrap64 (Int.tdiv a1 a0_0)) a0_0 a0_1 l0_2) = some r := by first | (rw [hy152]; with_reducible exact H) | (have H2_ := (Option.bind_some _ _).symm.trans H; rw [hy152]; with_reducible exact H2_) | (have H2_ := (Option.bind_some _ _).symm.trans H; with_reducible exact H2_) | with_reducible exact H | (rw [hy152]; exact H) | exact H
    have Ny152 := aM hy152
    clear hy152
    have H' := aM H
    clear H
    go_wp2_with (first | ((with_reducible refine gate_builtin (b := .append) (xs := #[.tmp 28, .tmp 31]) rfl ?_); at_builtin; refine Kd.R_append (Kd.int .i64) (w0 := w) w.heap.size rfl (.tmp 28) (.tmp 31) 24 3 (.int .i64 0) 8 rfl Try.underlying24 info3 rfl (by decide) (by omega) u5 x5_3 (wrap64 (a1 - 1)) [.int .i64 (wrap64 (a1 - 1))] (fun _ => True) (fun _ => False) rfl rfl ?aP (fun _ hk => hk.elim) ?aF ?aO ?aB ?aS ?aL ?_; (case aP => exact rfl); (case aB => exact qz1); (case aF => exact qz21); (case aO => exact (rr_ HO_5.out)); (case aS => exact qz27); (case aL => have := LMc15.out; omega); intro v153 w16 ho hb hg hat; rw [← Ny152.out] at ho; replace BK145 := aM (blk_grown (bk_ BK145.out) hg (Kd.R_ne HO_5.out BK145.out (by decide))); replace HB := aM (hb); have HO154 := aM (ho); clear HO_5; clear ho hb hg hat))
    go_meet
    case rel => exact ⟨_, (y152), H', ⟨by have := HJ3.out; first | omega | exact Nat.le_refl _⟩, ⟨rm_ HO154.out⟩, ⟨bk_ BK145.out⟩, ⟨qz1⟩⟩
    }
    {
    exact an_ c15 H
    }
    }
    {
    rw [if_neg c14] at H
    have c14b0 := decide_eq_false c14
    clear c14
    (first | rw [c14b0] | (simp only [i64_w, i32_w]; rw [c14b0]) | rw [@decide_eq_false _ _ (of_decide_eq_false c14b0)] | rw [@decide_eq_false _ _ (of_decide_eq_false c14b1)] | skip)
    have H' := aM H
    clear H
    go_wp2
    go_meet
    case rel => exact ⟨_, (x5_3), H', ⟨by have := HJ3.out; first | omega | exact Nat.le_refl _⟩, ⟨rm_ HO_5.out⟩, ⟨bk_ BK145.out⟩, ⟨qz1⟩⟩
    }
   case rest =>
    clear HC13
    try clear c1
    try clear p2
    try clear c3
    try clear c3b0
    try clear c3b1
    try clear p6
    try clear c9
    try clear c9b0
    try clear c9b1
    try clear c10
    try clear c12
    try clear c14
    try clear c14b0
    try clear c14b1
    try clear c15
    try clear hcz11_0 hcz11_1 hcz11_2 hfz11_0 hfz11_1 hfz11_2
    try clear hcz8_0 hcz8_1 hcz8_2 hfz8_0 hfz8_1 hfz8_2
    obtain ⟨kq, x5_12, HA, HJ12, HO_5, BK145, HB⟩ := hcut
    cases kq with
    | zero => exact absurd HA.out (by simp [spec_l1Beside.j1])
    | succ kj12 =>
     have H := HA.out
     clear HA
     simp only [spec_l1Beside.j1] at H
     by_cases c17 : (Int.tmod a1 a0_0) < (wrap64 (a0_0 - 1))
     {
     rw [if_pos c17] at H
     have c17b0 := decide_eq_true c17
     clear c17
     by_cases c18 : x5_12.length < 17592186044416
     {
     rw [if_pos c18] at H
     have LMc18 := aM c18
     clear c18
     obtain ⟨y155, hy155⟩ : ∃ y_ : List Int, y_ = (x5_12 ++ [wrap64 (a1 + 1)]) := ⟨_, rfl⟩
     replace H : (if (wrap64 (Int.tdiv a1 a0_0)) < (wrap64 (a0_1 - 1)) then (if y155.length < 17592186044416 then (some (y155 ++ [wrap64 (a1 + a0_0)])) else (none)) else (some y155)) = some r := by first | (rw [hy155]; with_reducible exact H) | (have H2_ := (Option.bind_some _ _).symm.trans H; rw [hy155]; with_reducible exact H2_) | (have H2_ := (Option.bind_some _ _).symm.trans H; with_reducible exact H2_) | with_reducible exact H | (rw [hy155]; exact H) | exact H
     have Ny155 := aM hy155
     clear hy155
     by_cases c19 : (wrap64 (Int.tdiv a1 a0_0)) < (wrap64 (a0_1 - 1))
     {
     rw [if_pos c19] at H
     have c19b0 := decide_eq_true c19
     clear c19
     by_cases c20 : y155.length < 17592186044416
     {
     rw [if_pos c20] at H
     have LMc20 := aM c20
     clear c20
     obtain ⟨y158, hy158⟩ : ∃ y_ : List Int, y_ = (y155 ++ [wrap64 (a1 + a0_0)]) := ⟨_, rfl⟩
     replace H : (some y158) = some r := by first | (rw [hy158]; with_reducible exact H) | (have H2_ := (Option.bind_some _ _).symm.trans H; rw [hy158]; with_reducible exact H2_) | (have H2_ := (Option.bind_some _ _).symm.trans H; with_reducible exact H2_) | with_reducible exact H | (rw [hy158]; exact H) | exact H
     have Ny158 := aM hy158
     clear hy158
     obtain rfl := Option.some.inj H
     simp only [Option.some.injEq, Prod.mk.injEq] at H
     obtain ⟨rfl⟩ := H
     obtain ⟨hcz21_0, hcz21_1, hcz21_2, hfz21_0, hfz21_1, hfz21_2⟩ := b6_ BK145.out
     go_wp2_with (first | ((with_reducible refine gate_builtin (b := .append) (xs := #[.tmp 38, .tmp 41]) rfl ?_); at_builtin; refine Kd.R_append (Kd.int .i64) (w0 := w) w.heap.size rfl (.tmp 38) (.tmp 41) 24 3 (.int .i64 0) 8 rfl Try.underlying24 info3 rfl (by decide) (by omega) u5 x5_12 (wrap64 (a1 + 1)) [.int .i64 (wrap64 (a1 + 1))] (fun _ => True) (fun _ => False) rfl rfl ?aP (fun _ hk => hk.elim) ?aF ?aO ?aB ?aS ?aL ?_; (case aP => exact rfl); (case aB => exact qz1); (case aF => exact qz21); (case aO => exact (rr_ HO_5.out)); (case aS => exact qz27); (case aL => have := LMc18.out; omega); intro v156 w22 ho hb hg hat; rw [← Ny155.out] at ho; replace BK145 := aM (blk_grown (bk_ BK145.out) hg (Kd.R_ne HO_5.out BK145.out (by decide))); replace HB := aM (hb); have HO157 := aM (ho); clear HO_5; clear ho hb hg hat; obtain ⟨hcz23_0, hcz23_1, hcz23_2, hfz23_0, hfz23_1, hfz23_2⟩ := b6_ BK145.out) | ((with_reducible refine gate_builtin (b := .append) (xs := #[.tmp 48, .tmp 53]) rfl ?_); at_builtin; refine Kd.R_append (Kd.int .i64) (w0 := w) w.heap.size rfl (.tmp 48) (.tmp 53) 24 3 (.int .i64 0) 8 rfl Try.underlying24 info3 rfl (by decide) (by omega) v156 y155 (wrap64 (a1 + a0_0)) [.int .i64 (wrap64 (a1 + a0_0))] (fun _ => True) (fun _ => False) rfl rfl ?aP (fun _ hk => hk.elim) ?aF ?aO ?aB ?aS ?aL ?_; (case aP => exact rfl); (case aB => exact qz1); (case aF => exact qz21); (case aO => exact (rr_ HO157.out)); (case aS => exact qz27); (case aL => have := LMc20.out; omega); intro v159 w24 ho hb hg hat; rw [← Ny158.out] at ho; replace BK145 := aM (blk_grown (bk_ BK145.out) hg (Kd.R_ne HO157.out BK145.out (by decide))); replace HB := aM (hb); have HO160 := aM (ho); clear HO157; clear ho hb hg hat))
     go_ret
     exact ⟨_, qzw, by (with_reducible repeat (first | apply Kd.R_alloc | apply Kd.R_drewN | apply Kd.R_drew)); exact HO160.out, qz1⟩
     }
     {
     exact an_ c20 H
     }
     }
     {
     rw [if_neg c19] at H
     have c19b0 := decide_eq_false c19
     clear c19
     obtain rfl := Option.some.inj H
     simp only [Option.some.injEq, Prod.mk.injEq] at H
     obtain ⟨rfl⟩ := H
     obtain ⟨hcz25_0, hcz25_1, hcz25_2, hfz25_0, hfz25_1, hfz25_2⟩ := b6_ BK145.out
     go_wp2_with (first | ((with_reducible refine gate_builtin (b := .append) (xs := #[.tmp 38, .tmp 41]) rfl ?_); at_builtin; refine Kd.R_append (Kd.int .i64) (w0 := w) w.heap.size rfl (.tmp 38) (.tmp 41) 24 3 (.int .i64 0) 8 rfl Try.underlying24 info3 rfl (by decide) (by omega) u5 x5_12 (wrap64 (a1 + 1)) [.int .i64 (wrap64 (a1 + 1))] (fun _ => True) (fun _ => False) rfl rfl ?aP (fun _ hk => hk.elim) ?aF ?aO ?aB ?aS ?aL ?_; (case aP => exact rfl); (case aB => exact qz1); (case aF => exact qz21); (case aO => exact (rr_ HO_5.out)); (case aS => exact qz27); (case aL => have := LMc18.out; omega); intro v156 w26 ho hb hg hat; rw [← Ny155.out] at ho; replace BK145 := aM (blk_grown (bk_ BK145.out) hg (Kd.R_ne HO_5.out BK145.out (by decide))); replace HB := aM (hb); have HO157 := aM (ho); clear HO_5; clear ho hb hg hat; obtain ⟨hcz27_0, hcz27_1, hcz27_2, hfz27_0, hfz27_1, hfz27_2⟩ := b6_ BK145.out))
     go_ret
     exact ⟨_, qzw, by (with_reducible repeat (first | apply Kd.R_alloc | apply Kd.R_drewN | apply Kd.R_drew)); exact HO157.out, qz1⟩
     }
     }
     {
     exact an_ c18 H
     }
     }
     {
     rw [if_neg c17] at H
     have c17b0 := decide_eq_false c17
     clear c17
     by_cases c28 : (wrap64 (Int.tdiv a1 a0_0)) < (wrap64 (a0_1 - 1))
     {
     rw [if_pos c28] at H
     have c28b0 := decide_eq_true c28
     clear c28
     by_cases c29 : x5_12.length < 17592186044416
     {
     rw [if_pos c29] at H
     have LMc29 := aM c29
     clear c29
     obtain ⟨y161, hy161⟩ : ∃ y_ : List Int, y_ = (x5_12 ++ [wrap64 (a1 + a0_0)]) := ⟨_, rfl⟩
     replace H : (some y161) = some r := by first | (rw [hy161]; with_reducible exact H) | (have H2_ := (Option.bind_some _ _).symm.trans H; rw [hy161]; with_reducible exact H2_) | (have H2_ := (Option.bind_some _ _).symm.trans H; with_reducible exact H2_) | with_reducible exact H | (rw [hy161]; exact H) | exact H
     have Ny161 := aM hy161
     clear hy161
     obtain rfl := Option.some.inj H
     simp only [Option.some.injEq, Prod.mk.injEq] at H
     obtain ⟨rfl⟩ := H
     obtain ⟨hcz30_0, hcz30_1, hcz30_2, hfz30_0, hfz30_1, hfz30_2⟩ := b6_ BK145.out
     go_wp2_with (first | ((with_reducible refine gate_builtin (b := .append) (xs := #[.tmp 48, .tmp 53]) rfl ?_); at_builtin; refine Kd.R_append (Kd.int .i64) (w0 := w) w.heap.size rfl (.tmp 48) (.tmp 53) 24 3 (.int .i64 0) 8 rfl Try.underlying24 info3 rfl (by decide) (by omega) u5 x5_12 (wrap64 (a1 + a0_0)) [.int .i64 (wrap64 (a1 + a0_0))] (fun _ => True) (fun _ => False) rfl rfl ?aP (fun _ hk => hk.elim) ?aF ?aO ?aB ?aS ?aL ?_; (case aP => exact rfl); (case aB => exact qz1); (case aF => exact qz21); (case aO => exact (rr_ HO_5.out)); (case aS => exact qz27); (case aL => have := LMc29.out; omega); intro v162 w31 ho hb hg hat; rw [← Ny161.out] at ho; replace BK145 := aM (blk_grown (bk_ BK145.out) hg (Kd.R_ne HO_5.out BK145.out (by decide))); replace HB := aM (hb); have HO163 := aM (ho); clear HO_5; clear ho hb hg hat))
     go_ret
     exact ⟨_, qzw, by (with_reducible repeat (first | apply Kd.R_alloc | apply Kd.R_drewN | apply Kd.R_drew)); exact HO163.out, qz1⟩
     }
     {
     exact an_ c29 H
     }
     }
     {
     rw [if_neg c28] at H
     have c28b0 := decide_eq_false c28
     clear c28
     obtain rfl := Option.some.inj H
     simp only [Option.some.injEq, Prod.mk.injEq] at H
     obtain ⟨rfl⟩ := H
     obtain ⟨hcz32_0, hcz32_1, hcz32_2, hfz32_0, hfz32_1, hfz32_2⟩ := b6_ BK145.out
     go_wp2
     go_ret
     exact ⟨_, qzw, by (with_reducible repeat (first | apply Kd.R_alloc | apply Kd.R_drewN | apply Kd.R_drew)); exact HO_5.out, qz1⟩

     }
     }
 }
/-! ### spec_l1Near: function 99 -/
def spec_l1Near.l0 : Nat → Bool → List Int → List Int → Int → Int → Int → List Int → Option (List Int)
 | 0, _, _, _, _, _, _, _ => none
 | k + 1, x2, x7, x8, x9, x165000, x165001, x165002 => if x9 < (x8.length : Int) then (if 0 ≤ x9 then (if 0 ≤ (rd x8 x9) then (if (rd x8 x9) < (x165002.length : Int) then (if (rd x165002 (rd x8 x9)) = 0 then (spec_l1Near.l0 k x2 x7 x8 (wrap64 (x9 + 1)) x165000 x165001 x165002) else (if x2 = true then (if ((rd x165002 (rd x8 x9)) = 2) then (spec_l1Near.l0 k x2 x7 x8 (wrap64 (x9 + 1)) x165000 x165001 x165002) else (if x7.length < 17592186044416 then (spec_l1Near.l0 k x2 (x7 ++ [rd x8 x9]) x8 (wrap64 (x9 + 1)) x165000 x165001 x165002) else (none))) else (if x7.length < 17592186044416 then (spec_l1Near.l0 k x2 (x7 ++ [rd x8 x9]) x8 (wrap64 (x9 + 1)) x165000 x165001 x165002) else (none)))) else (none)) else (none)) else (none)) else (some x7)
def spec_l1Near.f (k : Nat) (a0_0 : Int) (a0_1 : Int) (l0_2 : List Int) (a1 : Int) (a2 : Bool) : Option (List Int) := (spec_l1Beside.f k a0_0 a0_1 l0_2 a1).bind fun t168 => (spec_l1Near.l0 k a2 (([] : List Int)) t168 0 a0_0 a0_1 l0_2)
theorem spec_l1Near.mono_l : ∀ k, (∀ y0 y1 y2 y3 y4 y5 y6, LeO (spec_l1Near.l0 k y0 y1 y2 y3 y4 y5 y6) (spec_l1Near.l0 (k + 1) y0 y1 y2 y3 y4 y5 y6))
 | 0 => fun _ _ _ _ _ _ _ r h => by simp [spec_l1Near.l0] at h
 | k + 1 => by
  have ih0 := spec_l1Near.mono_l k
  {
  intro y0 y1 y2 y3 y4 y5 y6
  unfold spec_l1Near.l0
  have j0 := @spec_l1Beside.mono
  exact qL
  }
theorem spec_l1Near.mono : ∀ a0 a1 a2 a3 a4 k, LeO (spec_l1Near.f k a0 a1 a2 a3 a4) (spec_l1Near.f (k + 1) a0 a1 a2 a3 a4) := by
 intro a0 a1 a2 a3 a4 k
 have ih0 := spec_l1Near.mono_l k
 unfold spec_l1Near.f
 have j0 := @spec_l1Beside.mono
 exact qL
set_option maxHeartbeats 8000000 in
set_option maxRecDepth 100000 in
theorem spec_l1Near.calls (k : Nat) (a0_0 : Int) (a0_1 : Int) (A0_2 : Option Addr) (c0_2 : Nat) (l0_2 : List Int) (a1 : Int) (a2 : Bool) (r : List Int) (w : World) (hr0_2 : Kd.C (Kd.int .i64) w A0_2 l0_2.length l0_2) (hc0_2 : l0_2.length ≤ c0_2) (h : spec_l1Near.f k a0_0 a0_1 l0_2 a1 a2 = some r) :
  Calls Try.prog 99 #[.agg #[.int .i64 a0_0, .int .i64 a0_1, .slice A0_2 l0_2.length c0_2], .int .i64 a1, .bool a2] w fun e w' => ∃ v0_ : Value, e = .returned (v0_) ∧ Kd.R (Kd.int .i64) 3 w' w.heap.size (fun _ => True) v0_ r ∧ Below w.heap.size w w' := by
 have hu43 := Try.underlying43
 have HR0_2 := aM hr0_2
 have HC0_2 := aM hc0_2
 clear hr0_2 hc0_2
 have HB := aM (Below.refl w.heap.size w)
 have H : ((spec_l1Beside.f k a0_0 a0_1 l0_2 a1).bind fun t168 => (spec_l1Near.l0 k a2 (([] : List Int)) t168 0 a0_0 a0_1 l0_2)) = some r := h
 clear h
 obtain ⟨y165, hy165⟩ : ∃ y_ : List Int, y_ = (([] : List Int)) := ⟨_, rfl⟩
 replace H : ((spec_l1Beside.f k a0_0 a0_1 l0_2 a1).bind fun t168 => (spec_l1Near.l0 k a2 y165 t168 0 a0_0 a0_1 l0_2)) = some r := by first | (rw [hy165]; with_reducible exact H) | (have H2_ := (Option.bind_some _ _).symm.trans H; rw [hy165]; with_reducible exact H2_) | (have H2_ := (Option.bind_some _ _).symm.trans H; with_reducible exact H2_) | with_reducible exact H | (rw [hy165]; exact H) | exact H
 have Ny165 := aM hy165
 clear hy165
 replace H := Option.bind_eq_some_iff.mp H
 obtain ⟨t168, A40, H⟩ := H
 replace H : (spec_l1Near.l0 k a2 y165 t168 0 a0_0 a0_1 l0_2) = some r := H
 have A4 := aM A40
 clear A40
 have H' := aM H
 clear H
 go_enter Try.func99, Try.ntmps99
 go_wp2_with (first | ((with_reducible refine gate_dst (N := 3) rfl ?_); refine bx_ 3 #[.int .i64 a0_0, .int .i64 a0_1, .slice A0_2 l0_2.length c0_2] 43 ?_; intro gb164 hg w5 hbox hb; have BK164 := aM (hbox); have GW164 := aM (bz_ w hg qz1); have GE164 := GW164; replace HB := bS_ hb; clear hb hbox hg) | ((with_reducible refine gate_dst (N := 11) rfl ?_); refine Kd.R_lit (Kd.int .i64) _ 3 ?hg (N := 11) ?hd (xs := ([] : List Int)) (inner := []) (ok := fun _ => True) (okp := fun _ => True) ?hr ?hp (fun _ hk => hk) trivial (Below.refl _ _) (Nat.le_refl _) (by simp) ?_; (case hd => rfl); (case hg => rfl); (case hr => exact qz7); (case hp => exact (Reps.none _ _)); intro v166 w6 ho7 hb hg_ hnew_; clear hg_ hnew_; (first | rw [← Ny165.out] at ho7 | (simp only [Int.reduceToNat] at ho7; rw [← Ny165.out] at ho7)); have HO167 := aM (Kd.R_lower ho7 (below_size qz1)); replace BK164 := bB_ BK164 hb; replace HB := bS_ hb; clear hb ho7; obtain ⟨hcz8_0, hcz8_1, hcz8_2, hfz8_0, hfz8_1, hfz8_2⟩ := b6_ BK164.out) | (go_at_call 123; (with_reducible refine (spec_l1Beside.calls k a0_0 a0_1 _ _ l0_2 a1 t168 _ ?side1 ?side2 A4.out).mono ?_); (case side1 => exact qz3); (case side2 => exact qz23); rintro e w9 ⟨v169, rfl, ho0, hb⟩; have HO170 := aM (Kd.R_lower (Kd.R_new' ho0 (Kd.R_lt (rr_ HO167.out))) (below_size qz1)); replace HO167 := aM (Kd.R_elder' (rr_ HO167.out) (Kd.R_base ho0) hb); replace BK164 := bB_ BK164 hb; replace HB := bS_ hb; (try clear hb ho0)))
 repeat (go_quiet (first | ((with_reducible refine gate_dst (N := 3) rfl ?_); refine bx_ 3 #[.int .i64 a0_0, .int .i64 a0_1, .slice A0_2 l0_2.length c0_2] 43 ?_; intro gb164 hg w5 hbox hb; have BK164 := aM (hbox); have GW164 := aM (bz_ w hg qz1); have GE164 := GW164; replace HB := bS_ hb; clear hb hbox hg) | ((with_reducible refine gate_dst (N := 11) rfl ?_); refine Kd.R_lit (Kd.int .i64) _ 3 ?hg (N := 11) ?hd (xs := ([] : List Int)) (inner := []) (ok := fun _ => True) (okp := fun _ => True) ?hr ?hp (fun _ hk => hk) trivial (Below.refl _ _) (Nat.le_refl _) (by simp) ?_; (case hd => rfl); (case hg => rfl); (case hr => exact qz7); (case hp => exact (Reps.none _ _)); intro v166 w6 ho7 hb hg_ hnew_; clear hg_ hnew_; (first | rw [← Ny165.out] at ho7 | (simp only [Int.reduceToNat] at ho7; rw [← Ny165.out] at ho7)); have HO167 := aM (Kd.R_lower ho7 (below_size qz1)); replace BK164 := bB_ BK164 hb; replace HB := bS_ hb; clear hb ho7; obtain ⟨hcz8_0, hcz8_1, hcz8_2, hfz8_0, hfz8_1, hfz8_2⟩ := b6_ BK164.out) | (go_at_call 123; (with_reducible refine (spec_l1Beside.calls k a0_0 a0_1 _ _ l0_2 a1 t168 _ ?side1 ?side2 A4.out).mono ?_); (case side1 => exact qz3); (case side2 => exact qz23); rintro e w9 ⟨v169, rfl, ho0, hb⟩; have HO170 := aM (Kd.R_lower (Kd.R_new' ho0 (Kd.R_lt (rr_ HO167.out))) (below_size qz1)); replace HO167 := aM (Kd.R_elder' (rr_ HO167.out) (Kd.R_base ho0) hb); replace BK164 := bB_ BK164 hb; replace HB := bS_ hb; (try clear hb ho0))); try go_wp2_with (first | ((with_reducible refine gate_dst (N := 3) rfl ?_); refine bx_ 3 #[.int .i64 a0_0, .int .i64 a0_1, .slice A0_2 l0_2.length c0_2] 43 ?_; intro gb164 hg w5 hbox hb; have BK164 := aM (hbox); have GW164 := aM (bz_ w hg qz1); have GE164 := GW164; replace HB := bS_ hb; clear hb hbox hg) | ((with_reducible refine gate_dst (N := 11) rfl ?_); refine Kd.R_lit (Kd.int .i64) _ 3 ?hg (N := 11) ?hd (xs := ([] : List Int)) (inner := []) (ok := fun _ => True) (okp := fun _ => True) ?hr ?hp (fun _ hk => hk) trivial (Below.refl _ _) (Nat.le_refl _) (by simp) ?_; (case hd => rfl); (case hg => rfl); (case hr => exact qz7); (case hp => exact (Reps.none _ _)); intro v166 w6 ho7 hb hg_ hnew_; clear hg_ hnew_; (first | rw [← Ny165.out] at ho7 | (simp only [Int.reduceToNat] at ho7; rw [← Ny165.out] at ho7)); have HO167 := aM (Kd.R_lower ho7 (below_size qz1)); replace BK164 := bB_ BK164 hb; replace HB := bS_ hb; clear hb ho7; obtain ⟨hcz8_0, hcz8_1, hcz8_2, hfz8_0, hfz8_1, hfz8_2⟩ := b6_ BK164.out) | (go_at_call 123; (with_reducible refine (spec_l1Beside.calls k a0_0 a0_1 _ _ l0_2 a1 t168 _ ?side1 ?side2 A4.out).mono ?_); (case side1 => exact qz3); (case side2 => exact qz23); rintro e w9 ⟨v169, rfl, ho0, hb⟩; have HO170 := aM (Kd.R_lower (Kd.R_new' ho0 (Kd.R_lt (rr_ HO167.out))) (below_size qz1)); replace HO167 := aM (Kd.R_elder' (rr_ HO167.out) (Kd.R_base ho0) hb); replace BK164 := bB_ BK164 hb; replace HB := bS_ hb; (try clear hb ho0))))
 go_loopg [7, 9] k (fun kq v7 v9 w' => ∃ (x7_1 : List Int) (x9_1 : Int), v9 = .int .i64 x9_1 ∧ Aside0 (spec_l1Near.l0 kq a2 x7_1 t168 x9_1 a0_0 a0_1 l0_2 = some r) ∧ Aside0 (kq ≤ k) ∧ Aside0 (Kd.R (Kd.int .i64) 3 w' w.heap.size (fun k_ => some k_ ≠ (v169 : Value).ownBlock) v7 x7_1) ∧ Aside0 (Kd.R (Kd.int .i64) 3 w' w.heap.size (fun k_ => some k_ ≠ (v7 : Value).ownBlock) v169 t168) ∧ Aside0 (w'.heap[gb164]? = some (.cells #[.int .i64 a0_0, .int .i64 a0_1, (.slice A0_2 l0_2.length c0_2)] 43 (0, 0))) ∧ Aside0 (Below w.heap.size w w'))
 case atStart => exact ⟨(y165), (0), qz4, H', ⟨Nat.le_refl _⟩, ⟨by (with_reducible repeat (first | apply Kd.R_alloc | apply Kd.R_drewN | apply Kd.R_drew)); exact Kd.R_mono HO167.out (fun _ hk => hk.2)⟩, ⟨by (with_reducible repeat (first | apply Kd.R_alloc | apply Kd.R_drewN | apply Kd.R_drew)); exact Kd.R_mono HO170.out (fun _ hk => hk.2)⟩, ⟨bk_ BK164.out⟩, ⟨qz1⟩⟩
 case round =>
  clear H'
  try clear p2
  try clear c9
  try clear hcz8_0 hcz8_1 hcz8_2 hfz8_0 hfz8_1 hfz8_2
  obtain ⟨x7_1, x9_1, rfl, HA, HK1, HO_7, HO_8, BK164, HB⟩ := hrel
  cases gk with
  | zero => exact absurd HA.out (by simp [spec_l1Near.l0])
  | succ k1 =>
   have H := HA.out
   clear HA
   simp only [spec_l1Near.l0] at H
   by_cases c10 : x9_1 < (t168.length : Int)
   {
   rw [if_pos c10] at H
   have c10b0 := decide_eq_true c10
   clear c10
   by_cases c11 : 0 ≤ x9_1
   {
   rw [if_pos c11] at H
   have c11b0 := decide_eq_true c11
   clear c11
   by_cases c12 : 0 ≤ (rd t168 x9_1)
   {
   rw [if_pos c12] at H
   have c12b0 := decide_eq_true c12
   clear c12
   by_cases c13 : (rd t168 x9_1) < (l0_2.length : Int)
   {
   rw [if_pos c13] at H
   have c13b0 := decide_eq_true c13
   clear c13
   by_cases c14 : (rd l0_2 (rd t168 x9_1)) = 0
   {
   rw [if_pos c14] at H
   have c14b0 := beq_iff_eq.mpr c14
   have c14b1 := bne_eq_false_iff_eq.mpr c14
   clear c14
   have H' := aM H
   clear H
   obtain ⟨Ao15, co15, eo15⟩ := Kd.R_slice HO_8.out
   subst eo15
   obtain ⟨hcz16_0, hcz16_1, hcz16_2, hfz16_0, hfz16_1, hfz16_2⟩ := b6_ BK164.out
   have p171 : 0 ≤ (x9_1 : Int) := dt_
   have q171 : x9_1 < (t168.length : Int) := dt_
   obtain ⟨ad171, e171, hx171_0⟩ := Kd.at_int (Kd.R_reads' HO_8.out).2.2 x9_1 p171 q171
   cases e171
   replace p171 := eq_true p171
   replace q171 := eq_true q171
   have p172 : 0 ≤ ((rd t168 x9_1) : Int) := dt_
   have q172 : (rd t168 x9_1) < (l0_2.length : Int) := dt_
   obtain ⟨ad172, e172, hx172_0⟩ := Kd.at_int HR0_2.out (rd t168 x9_1) p172 q172
   cases e172
   replace hx172_0 := cB_ hx172_0
   replace p172 := eq_true p172
   replace q172 := eq_true q172
   go_wp2
   repeat (go_quiet (fail); try go_wp2)
   go_roundg k1
   case measure => have := HK1.out; omega
   case rel => exact ⟨(x7_1), (wrap64 (x9_1 + 1)), qz4, H', ⟨by have := HK1.out; omega⟩, ⟨rm_ HO_7.out⟩, ⟨rm_ HO_8.out⟩, ⟨bk_ BK164.out⟩, ⟨qz1⟩⟩
   }
   {
   rw [if_neg c14] at H
   have c14b0 := beq_eq_false_iff_ne.mpr c14
   have c14b1 := bne_iff_ne.mpr c14
   by_cases c17 : a2 = true
   {
   subst c17
   rw [if_pos rfl] at H
   by_cases c18 : ((rd l0_2 (rd t168 x9_1)) = 2)
   {
   rw [if_pos c18] at H
   have c18b0 := beq_iff_eq.mpr c18
   have c18b1 := bne_eq_false_iff_eq.mpr c18
   clear c18
   have H' := aM H
   clear H
   obtain ⟨Ao19, co19, eo19⟩ := Kd.R_slice HO_8.out
   subst eo19
   obtain ⟨hcz20_0, hcz20_1, hcz20_2, hfz20_0, hfz20_1, hfz20_2⟩ := b6_ BK164.out
   have p171 : 0 ≤ (x9_1 : Int) := dt_
   have q171 : x9_1 < (t168.length : Int) := dt_
   obtain ⟨ad171, e171, hx171_0⟩ := Kd.at_int (Kd.R_reads' HO_8.out).2.2 x9_1 p171 q171
   cases e171
   replace p171 := eq_true p171
   replace q171 := eq_true q171
   have p172 : 0 ≤ ((rd t168 x9_1) : Int) := dt_
   have q172 : (rd t168 x9_1) < (l0_2.length : Int) := dt_
   obtain ⟨ad172, e172, hx172_0⟩ := Kd.at_int HR0_2.out (rd t168 x9_1) p172 q172
   cases e172
   replace hx172_0 := cB_ hx172_0
   replace p172 := eq_true p172
   replace q172 := eq_true q172
   go_wp2
   repeat (go_quiet (fail); try go_wp2)
   go_roundg k1
   case measure => have := HK1.out; omega
   case rel => exact ⟨(x7_1), (wrap64 (x9_1 + 1)), qz4, H', ⟨by have := HK1.out; omega⟩, ⟨rm_ HO_7.out⟩, ⟨rm_ HO_8.out⟩, ⟨bk_ BK164.out⟩, ⟨qz1⟩⟩
   }
   {
   rw [if_neg c18] at H
   have c18b0 := beq_eq_false_iff_ne.mpr c18
   have c18b1 := bne_iff_ne.mpr c18
   by_cases c21 : x7_1.length < 17592186044416
   {
   rw [if_pos c21] at H
   have LMc21 := aM c21
   clear c21
   obtain ⟨y174, hy174⟩ : ∃ y_ : List Int, y_ = (x7_1 ++ [rd t168 x9_1]) := ⟨_, rfl⟩
   replace H : (spec_l1Near.l0 k1 true y174 t168 (wrap64 (x9_1 + 1)) a0_0 a0_1 l0_2) = some r := by first | (rw [hy174]; with_reducible exact H) | (have H2_ := (Option.bind_some _ _).symm.trans H; rw [hy174]; with_reducible exact H2_) | (have H2_ := (Option.bind_some _ _).symm.trans H; with_reducible exact H2_) | with_reducible exact H | (rw [hy174]; exact H) | exact H
   have Ny174 := aM hy174
   clear hy174
   have H' := aM H
   clear H
   obtain ⟨Ao22, co22, eo22⟩ := Kd.R_slice HO_8.out
   subst eo22
   obtain ⟨hcz23_0, hcz23_1, hcz23_2, hfz23_0, hfz23_1, hfz23_2⟩ := b6_ BK164.out
   have p171 : 0 ≤ (x9_1 : Int) := dt_
   have q171 : x9_1 < (t168.length : Int) := dt_
   obtain ⟨ad171, e171, hx171_0⟩ := Kd.at_int (Kd.R_reads' HO_8.out).2.2 x9_1 p171 q171
   cases e171
   replace p171 := eq_true p171
   replace q171 := eq_true q171
   have p172 : 0 ≤ ((rd t168 x9_1) : Int) := dt_
   have q172 : (rd t168 x9_1) < (l0_2.length : Int) := dt_
   obtain ⟨ad172, e172, hx172_0⟩ := Kd.at_int HR0_2.out (rd t168 x9_1) p172 q172
   cases e172
   replace hx172_0 := cB_ hx172_0
   replace p172 := eq_true p172
   replace q172 := eq_true q172
   have p173 : 0 ≤ (x9_1 : Int) := dt_
   have q173 : x9_1 < (t168.length : Int) := dt_
   obtain ⟨ad173, e173, hx173_0⟩ := Kd.at_int (Kd.R_reads' HO_8.out).2.2 x9_1 p173 q173
   obtain rfl : ad171 = ad173 := (by injection e173)
   replace p173 := eq_true p173
   replace q173 := eq_true q173
   go_wp2_with (first | ((with_reducible refine gate_builtin (b := .append) (xs := #[.tmp 39, .tmp 44]) rfl ?_); at_builtin; refine Kd.R_append (Kd.int .i64) (w0 := w) w.heap.size rfl (.tmp 39) (.tmp 44) 24 3 (.int .i64 0) 8 rfl Try.underlying24 info3 rfl (by decide) (by omega) u7 x7_1 (rd t168 x9_1) [.int .i64 (rd t168 x9_1)] (fun k_ => some k_ ≠ (.slice (some ad171) t168.length co22 : Value).ownBlock) (fun _ => False) rfl rfl ?aP (fun _ hk => hk.elim) ?aF ?aO ?aB ?aS ?aL ?_; (case aP => exact rfl); (case aB => exact qz1); (case aF => exact qz19); (case aO => exact (rr_ HO_7.out)); (case aS => exact qz27); (case aL => have := LMc21.out; omega); intro v175 w24 ho hb hg hat; rw [← Ny174.out] at ho; replace HO_8 := aM (Kd.R_after (ok := (fun _ => True)) qz6 hg hat); replace BK164 := aM (blk_grown (bk_ BK164.out) hg (Kd.R_ne HO_7.out BK164.out (by decide))); replace HB := aM (hb); have HO176 := aM (ho); clear HO_7; clear ho hb hg hat))
   repeat (go_quiet (first | ((with_reducible refine gate_builtin (b := .append) (xs := #[.tmp 39, .tmp 44]) rfl ?_); at_builtin; refine Kd.R_append (Kd.int .i64) (w0 := w) w.heap.size rfl (.tmp 39) (.tmp 44) 24 3 (.int .i64 0) 8 rfl Try.underlying24 info3 rfl (by decide) (by omega) u7 x7_1 (rd t168 x9_1) [.int .i64 (rd t168 x9_1)] (fun k_ => some k_ ≠ (.slice (some ad171) t168.length co22 : Value).ownBlock) (fun _ => False) rfl rfl ?aP (fun _ hk => hk.elim) ?aF ?aO ?aB ?aS ?aL ?_; (case aP => exact rfl); (case aB => exact qz1); (case aF => exact qz19); (case aO => exact (rr_ HO_7.out)); (case aS => exact qz27); (case aL => have := LMc21.out; omega); intro v175 w24 ho hb hg hat; rw [← Ny174.out] at ho; replace HO_8 := aM (Kd.R_after (ok := (fun _ => True)) qz6 hg hat); replace BK164 := aM (blk_grown (bk_ BK164.out) hg (Kd.R_ne HO_7.out BK164.out (by decide))); replace HB := aM (hb); have HO176 := aM (ho); clear HO_7; clear ho hb hg hat)); try go_wp2_with (first | ((with_reducible refine gate_builtin (b := .append) (xs := #[.tmp 39, .tmp 44]) rfl ?_); at_builtin; refine Kd.R_append (Kd.int .i64) (w0 := w) w.heap.size rfl (.tmp 39) (.tmp 44) 24 3 (.int .i64 0) 8 rfl Try.underlying24 info3 rfl (by decide) (by omega) u7 x7_1 (rd t168 x9_1) [.int .i64 (rd t168 x9_1)] (fun k_ => some k_ ≠ (.slice (some ad171) t168.length co22 : Value).ownBlock) (fun _ => False) rfl rfl ?aP (fun _ hk => hk.elim) ?aF ?aO ?aB ?aS ?aL ?_; (case aP => exact rfl); (case aB => exact qz1); (case aF => exact qz19); (case aO => exact (rr_ HO_7.out)); (case aS => exact qz27); (case aL => have := LMc21.out; omega); intro v175 w24 ho hb hg hat; rw [← Ny174.out] at ho; replace HO_8 := aM (Kd.R_after (ok := (fun _ => True)) qz6 hg hat); replace BK164 := aM (blk_grown (bk_ BK164.out) hg (Kd.R_ne HO_7.out BK164.out (by decide))); replace HB := aM (hb); have HO176 := aM (ho); clear HO_7; clear ho hb hg hat)))
   go_roundg k1
   case measure => have := HK1.out; omega
   case rel => exact ⟨(y174), (wrap64 (x9_1 + 1)), qz4, H', ⟨by have := HK1.out; omega⟩, ⟨rm_ HO176.out⟩, ⟨by (with_reducible repeat (first | apply Kd.R_alloc | apply Kd.R_drewN | apply Kd.R_drew)); exact Kd.R_mono HO_8.out (fun _ hk => hk.2)⟩, ⟨bk_ BK164.out⟩, ⟨qz1⟩⟩
   }
   {
   exact an_ c21 H
   }
   }
   }
   {
   replace c17 := Bool.eq_false_iff.mpr c17
   subst c17
   rw [if_neg (show ¬ (false = true) by decide)] at H
   by_cases c25 : x7_1.length < 17592186044416
   {
   rw [if_pos c25] at H
   have LMc25 := aM c25
   clear c25
   obtain ⟨y178, hy178⟩ : ∃ y_ : List Int, y_ = (x7_1 ++ [rd t168 x9_1]) := ⟨_, rfl⟩
   replace H : (spec_l1Near.l0 k1 false y178 t168 (wrap64 (x9_1 + 1)) a0_0 a0_1 l0_2) = some r := by first | (rw [hy178]; with_reducible exact H) | (have H2_ := (Option.bind_some _ _).symm.trans H; rw [hy178]; with_reducible exact H2_) | (have H2_ := (Option.bind_some _ _).symm.trans H; with_reducible exact H2_) | with_reducible exact H | (rw [hy178]; exact H) | exact H
   have Ny178 := aM hy178
   clear hy178
   have H' := aM H
   clear H
   obtain ⟨Ao26, co26, eo26⟩ := Kd.R_slice HO_8.out
   subst eo26
   obtain ⟨hcz27_0, hcz27_1, hcz27_2, hfz27_0, hfz27_1, hfz27_2⟩ := b6_ BK164.out
   have p171 : 0 ≤ (x9_1 : Int) := dt_
   have q171 : x9_1 < (t168.length : Int) := dt_
   obtain ⟨ad171, e171, hx171_0⟩ := Kd.at_int (Kd.R_reads' HO_8.out).2.2 x9_1 p171 q171
   cases e171
   replace p171 := eq_true p171
   replace q171 := eq_true q171
   have p172 : 0 ≤ ((rd t168 x9_1) : Int) := dt_
   have q172 : (rd t168 x9_1) < (l0_2.length : Int) := dt_
   obtain ⟨ad172, e172, hx172_0⟩ := Kd.at_int HR0_2.out (rd t168 x9_1) p172 q172
   cases e172
   replace hx172_0 := cB_ hx172_0
   replace p172 := eq_true p172
   replace q172 := eq_true q172
   have p177 : 0 ≤ (x9_1 : Int) := dt_
   have q177 : x9_1 < (t168.length : Int) := dt_
   obtain ⟨ad177, e177, hx177_0⟩ := Kd.at_int (Kd.R_reads' HO_8.out).2.2 x9_1 p177 q177
   obtain rfl : ad171 = ad177 := (by injection e177)
   replace p177 := eq_true p177
   replace q177 := eq_true q177
   go_wp2_with (first | ((with_reducible refine gate_builtin (b := .append) (xs := #[.tmp 39, .tmp 44]) rfl ?_); at_builtin; refine Kd.R_append (Kd.int .i64) (w0 := w) w.heap.size rfl (.tmp 39) (.tmp 44) 24 3 (.int .i64 0) 8 rfl Try.underlying24 info3 rfl (by decide) (by omega) u7 x7_1 (rd t168 x9_1) [.int .i64 (rd t168 x9_1)] (fun k_ => some k_ ≠ (.slice (some ad171) t168.length co26 : Value).ownBlock) (fun _ => False) rfl rfl ?aP (fun _ hk => hk.elim) ?aF ?aO ?aB ?aS ?aL ?_; (case aP => exact rfl); (case aB => exact qz1); (case aF => exact qz19); (case aO => exact (rr_ HO_7.out)); (case aS => exact qz27); (case aL => have := LMc25.out; omega); intro v179 w28 ho hb hg hat; rw [← Ny178.out] at ho; replace HO_8 := aM (Kd.R_after (ok := (fun _ => True)) qz6 hg hat); replace BK164 := aM (blk_grown (bk_ BK164.out) hg (Kd.R_ne HO_7.out BK164.out (by decide))); replace HB := aM (hb); have HO180 := aM (ho); clear HO_7; clear ho hb hg hat))
   repeat (go_quiet (first | ((with_reducible refine gate_builtin (b := .append) (xs := #[.tmp 39, .tmp 44]) rfl ?_); at_builtin; refine Kd.R_append (Kd.int .i64) (w0 := w) w.heap.size rfl (.tmp 39) (.tmp 44) 24 3 (.int .i64 0) 8 rfl Try.underlying24 info3 rfl (by decide) (by omega) u7 x7_1 (rd t168 x9_1) [.int .i64 (rd t168 x9_1)] (fun k_ => some k_ ≠ (.slice (some ad171) t168.length co26 : Value).ownBlock) (fun _ => False) rfl rfl ?aP (fun _ hk => hk.elim) ?aF ?aO ?aB ?aS ?aL ?_; (case aP => exact rfl); (case aB => exact qz1); (case aF => exact qz19); (case aO => exact (rr_ HO_7.out)); (case aS => exact qz27); (case aL => have := LMc25.out; omega); intro v179 w28 ho hb hg hat; rw [← Ny178.out] at ho; replace HO_8 := aM (Kd.R_after (ok := (fun _ => True)) qz6 hg hat); replace BK164 := aM (blk_grown (bk_ BK164.out) hg (Kd.R_ne HO_7.out BK164.out (by decide))); replace HB := aM (hb); have HO180 := aM (ho); clear HO_7; clear ho hb hg hat)); try go_wp2_with (first | ((with_reducible refine gate_builtin (b := .append) (xs := #[.tmp 39, .tmp 44]) rfl ?_); at_builtin; refine Kd.R_append (Kd.int .i64) (w0 := w) w.heap.size rfl (.tmp 39) (.tmp 44) 24 3 (.int .i64 0) 8 rfl Try.underlying24 info3 rfl (by decide) (by omega) u7 x7_1 (rd t168 x9_1) [.int .i64 (rd t168 x9_1)] (fun k_ => some k_ ≠ (.slice (some ad171) t168.length co26 : Value).ownBlock) (fun _ => False) rfl rfl ?aP (fun _ hk => hk.elim) ?aF ?aO ?aB ?aS ?aL ?_; (case aP => exact rfl); (case aB => exact qz1); (case aF => exact qz19); (case aO => exact (rr_ HO_7.out)); (case aS => exact qz27); (case aL => have := LMc25.out; omega); intro v179 w28 ho hb hg hat; rw [← Ny178.out] at ho; replace HO_8 := aM (Kd.R_after (ok := (fun _ => True)) qz6 hg hat); replace BK164 := aM (blk_grown (bk_ BK164.out) hg (Kd.R_ne HO_7.out BK164.out (by decide))); replace HB := aM (hb); have HO180 := aM (ho); clear HO_7; clear ho hb hg hat)))
   go_roundg k1
   case measure => have := HK1.out; omega
   case rel => exact ⟨(y178), (wrap64 (x9_1 + 1)), qz4, H', ⟨by have := HK1.out; omega⟩, ⟨rm_ HO180.out⟩, ⟨by (with_reducible repeat (first | apply Kd.R_alloc | apply Kd.R_drewN | apply Kd.R_drew)); exact Kd.R_mono HO_8.out (fun _ hk => hk.2)⟩, ⟨bk_ BK164.out⟩, ⟨qz1⟩⟩
   }
   {
   exact an_ c25 H
   }
   }
   }
   }
   {
   exact an_ c13 H
   }
   }
   {
   exact an_ c12 H
   }
   }
   {
   exact an_ c11 H
   }
   }
   {
   rw [if_neg c10] at H
   have c10b0 := decide_eq_false c10
   clear c10
   obtain rfl := Option.some.inj H
   simp only [Option.some.injEq, Prod.mk.injEq] at H
   obtain ⟨rfl⟩ := H
   obtain ⟨Ao29, co29, eo29⟩ := Kd.R_slice HO_8.out
   subst eo29
   go_wp2
   repeat (go_quiet (fail); try go_wp2)
   go_ret
   exact ⟨_, qzw, by (with_reducible repeat (first | apply Kd.R_alloc | apply Kd.R_drewN | apply Kd.R_drew)); exact Kd.R_mono HO_7.out (fun _ hk => trivial), qz1⟩

   }
/-! ### spec_l7Rank: function 124 -/
def spec_l7Rank.f (a0_0 : Int) (a0_1 : Int) (a0_2 : Int) (a0_3 : Bool) (a0_4 : Int) (l1 : List Int) (a2 : Int) : Option (Int) := if a0_2 < 0 then (if a2 = a0_1 then (some 0) else (some 1)) else (if 0 ≤ a2 then (if a2 < (l1.length : Int) then (if (rd l1 a2) < 0 then (some 1000) else (some (rd l1 a2))) else (none)) else (none))
set_option maxHeartbeats 8000000 in
set_option maxRecDepth 100000 in
theorem spec_l7Rank.calls (a0_0 : Int) (a0_1 : Int) (a0_2 : Int) (a0_3 : Bool) (a0_4 : Int) (A1 : Option Addr) (c1 : Nat) (l1 : List Int) (a2 : Int) (r : Int) (w : World) (hr1 : Kd.C (Kd.int .i64) w A1 l1.length l1) (hc1 : l1.length ≤ c1) (h : spec_l7Rank.f a0_0 a0_1 a0_2 a0_3 a0_4 l1 a2 = some r) :
  Calls Try.prog 124 #[.agg #[.int .i64 a0_0, .int .i64 a0_1, .int .i64 a0_2, .bool a0_3, .int .i64 a0_4], .slice A1 l1.length c1, .int .i64 a2] w fun e w' => e = .returned (.int .i64 r) ∧ Below w.heap.size w w' := by
 have hu37 := Try.underlying37
 have HR1 := aM hr1
 have HC1 := aM hc1
 clear hr1 hc1
 have HB := aM (Below.refl w.heap.size w)
 have H : (if a0_2 < 0 then (if a2 = a0_1 then (some 0) else (some 1)) else (if 0 ≤ a2 then (if a2 < (l1.length : Int) then (if (rd l1 a2) < 0 then (some 1000) else (some (rd l1 a2))) else (none)) else (none))) = some r := h
 clear h
 by_cases c4 : a0_2 < 0
 {
 rw [if_pos c4] at H
 have c4b0 := decide_eq_true c4
 clear c4
 by_cases c5 : a2 = a0_1
 {
 rw [if_pos c5] at H
 have c5b0 := beq_iff_eq.mpr c5
 have c5b1 := bne_eq_false_iff_eq.mpr c5
 clear c5
 obtain rfl := Option.some.inj H
 simp only [Option.some.injEq, Prod.mk.injEq] at H
 obtain ⟨rfl⟩ := H
 go_enter Try.func124, Try.ntmps124
 go_wp2_with (first | ((with_reducible refine gate_dst (N := 3) rfl ?_); refine bx_ 3 #[.int .i64 a0_0, .int .i64 a0_1, .int .i64 a0_2, .bool a0_3, .int .i64 a0_4] 37 ?_; intro gb181 hg w6 hbox hb; have BK181 := aM (hbox); have GW181 := aM (bz_ w hg qz1); have GE181 := GW181; replace HB := bS_ hb; clear hb hbox hg; have hcz7_0 := bc0_ BK181.out; have hcz7_1 := bc1_ BK181.out; have hcz7_2 := bc2_ BK181.out; have hcz7_3 := bc3_ BK181.out; have hcz7_4 := bc4_ BK181.out; have hfz7_0 := blk_frozen BK181.out 0; have hfz7_1 := blk_frozen BK181.out 1; have hfz7_2 := blk_frozen BK181.out 2; have hfz7_3 := blk_frozen BK181.out 3; have hfz7_4 := blk_frozen BK181.out 4))
 go_ret
 exact ⟨qzw, qz1⟩
 }
 {
 rw [if_neg c5] at H
 have c5b0 := beq_eq_false_iff_ne.mpr c5
 have c5b1 := bne_iff_ne.mpr c5
 obtain rfl := Option.some.inj H
 simp only [Option.some.injEq, Prod.mk.injEq] at H
 obtain ⟨rfl⟩ := H
 go_enter Try.func124, Try.ntmps124
 go_wp2_with (first | ((with_reducible refine gate_dst (N := 3) rfl ?_); refine bx_ 3 #[.int .i64 a0_0, .int .i64 a0_1, .int .i64 a0_2, .bool a0_3, .int .i64 a0_4] 37 ?_; intro gb181 hg w8 hbox hb; have BK181 := aM (hbox); have GW181 := aM (bz_ w hg qz1); have GE181 := GW181; replace HB := bS_ hb; clear hb hbox hg; have hcz9_0 := bc0_ BK181.out; have hcz9_1 := bc1_ BK181.out; have hcz9_2 := bc2_ BK181.out; have hcz9_3 := bc3_ BK181.out; have hcz9_4 := bc4_ BK181.out; have hfz9_0 := blk_frozen BK181.out 0; have hfz9_1 := blk_frozen BK181.out 1; have hfz9_2 := blk_frozen BK181.out 2; have hfz9_3 := blk_frozen BK181.out 3; have hfz9_4 := blk_frozen BK181.out 4))
 go_ret
 exact ⟨qzw, qz1⟩
 }
 }
 {
 rw [if_neg c4] at H
 have c4b0 := decide_eq_false c4
 clear c4
 by_cases c10 : 0 ≤ a2
 {
 rw [if_pos c10] at H
 have c10b0 := decide_eq_true c10
 clear c10
 by_cases c11 : a2 < (l1.length : Int)
 {
 rw [if_pos c11] at H
 have c11b0 := decide_eq_true c11
 clear c11
 by_cases c12 : (rd l1 a2) < 0
 {
 rw [if_pos c12] at H
 have c12b0 := decide_eq_true c12
 clear c12
 obtain rfl := Option.some.inj H
 simp only [Option.some.injEq, Prod.mk.injEq] at H
 obtain ⟨rfl⟩ := H
 go_enter Try.func124, Try.ntmps124
 go_wp2_with (first | ((with_reducible refine gate_dst (N := 3) rfl ?_); refine bx_ 3 #[.int .i64 a0_0, .int .i64 a0_1, .int .i64 a0_2, .bool a0_3, .int .i64 a0_4] 37 ?_; intro gb181 hg w13 hbox hb; have BK181 := aM (hbox); have GW181 := aM (bz_ w hg qz1); have GE181 := GW181; replace HB := bS_ hb; clear hb hbox hg; have hcz14_0 := bc0_ BK181.out; have hcz14_1 := bc1_ BK181.out; have hcz14_2 := bc2_ BK181.out; have hcz14_3 := bc3_ BK181.out; have hcz14_4 := bc4_ BK181.out; have hfz14_0 := blk_frozen BK181.out 0; have hfz14_1 := blk_frozen BK181.out 1; have hfz14_2 := blk_frozen BK181.out 2; have hfz14_3 := blk_frozen BK181.out 3; have hfz14_4 := blk_frozen BK181.out 4; have p182 : 0 ≤ (a2 : Int) := dt_; have q182 : a2 < (l1.length : Int) := dt_; obtain ⟨ad182, e182, hx182_0⟩ := Kd.at_int HR1.out a2 p182 q182; cases e182; replace hx182_0 := cB_ hx182_0; replace p182 := eq_true p182; replace q182 := eq_true q182))
 go_ret
 exact ⟨qzw, qz1⟩
 }
 {
 rw [if_neg c12] at H
 have c12b0 := decide_eq_false c12
 clear c12
 obtain rfl := Option.some.inj H
 simp only [Option.some.injEq, Prod.mk.injEq] at H
 obtain ⟨rfl⟩ := H
 go_enter Try.func124, Try.ntmps124
 go_wp2_with (first | ((with_reducible refine gate_dst (N := 3) rfl ?_); refine bx_ 3 #[.int .i64 a0_0, .int .i64 a0_1, .int .i64 a0_2, .bool a0_3, .int .i64 a0_4] 37 ?_; intro gb181 hg w15 hbox hb; have BK181 := aM (hbox); have GW181 := aM (bz_ w hg qz1); have GE181 := GW181; replace HB := bS_ hb; clear hb hbox hg; have hcz16_0 := bc0_ BK181.out; have hcz16_1 := bc1_ BK181.out; have hcz16_2 := bc2_ BK181.out; have hcz16_3 := bc3_ BK181.out; have hcz16_4 := bc4_ BK181.out; have hfz16_0 := blk_frozen BK181.out 0; have hfz16_1 := blk_frozen BK181.out 1; have hfz16_2 := blk_frozen BK181.out 2; have hfz16_3 := blk_frozen BK181.out 3; have hfz16_4 := blk_frozen BK181.out 4; have p182 : 0 ≤ (a2 : Int) := dt_; have q182 : a2 < (l1.length : Int) := dt_; obtain ⟨ad182, e182, hx182_0⟩ := Kd.at_int HR1.out a2 p182 q182; cases e182; replace hx182_0 := cB_ hx182_0; replace p182 := eq_true p182; replace q182 := eq_true q182; have p183 : 0 ≤ (a2 : Int) := dt_; have q183 : a2 < (l1.length : Int) := dt_; obtain ⟨ad183, e183, hx183_0⟩ := Kd.at_int HR1.out a2 p183 q183; obtain rfl : ad182 = ad183 := (by injection e183); replace hx183_0 := cB_ hx183_0; replace p183 := eq_true p183; replace q183 := eq_true q183))
 go_ret
 exact ⟨qzw, qz1⟩
 }
 }
 {
 exact an_ c11 H
 }
 }
 {
 exact an_ c10 H

 }
 }
/-! ### spec_l7Before: function 100 -/
def spec_l7Before.f (a0_0 : Int) (a0_1 : Int) (a0_2 : Int) (a0_3 : Bool) (a0_4 : Int) (l1 : List Int) (a2 : Int) (a3 : Int) : Option (Bool) := (spec_l7Rank.f a0_0 a0_1 a0_2 a0_3 a0_4 l1 a2).bind fun t185 => ((spec_l7Rank.f a0_0 a0_1 a0_2 a0_3 a0_4 l1 a3).bind fun t186 => (if t185 = t186 then (if ((a2 == a0_1) != (a3 == a0_1)) = true then (some (a3 == a0_1)) else (some (decide (a2 < a3)))) else (some (decide (t185 < t186)))))
set_option maxHeartbeats 8000000 in
set_option maxRecDepth 100000 in
theorem spec_l7Before.calls (a0_0 : Int) (a0_1 : Int) (a0_2 : Int) (a0_3 : Bool) (a0_4 : Int) (A1 : Option Addr) (c1 : Nat) (l1 : List Int) (a2 : Int) (a3 : Int) (r : Bool) (w : World) (hr1 : Kd.C (Kd.int .i64) w A1 l1.length l1) (hc1 : l1.length ≤ c1) (h : spec_l7Before.f a0_0 a0_1 a0_2 a0_3 a0_4 l1 a2 a3 = some r) :
  Calls Try.prog 100 #[.agg #[.int .i64 a0_0, .int .i64 a0_1, .int .i64 a0_2, .bool a0_3, .int .i64 a0_4], .slice A1 l1.length c1, .int .i64 a2, .int .i64 a3] w fun e w' => e = .returned (.bool r) ∧ Below w.heap.size w w' := by
 have hu37 := Try.underlying37
 have HR1 := aM hr1
 have HC1 := aM hc1
 clear hr1 hc1
 have HB := aM (Below.refl w.heap.size w)
 have H : ((spec_l7Rank.f a0_0 a0_1 a0_2 a0_3 a0_4 l1 a2).bind fun t185 => ((spec_l7Rank.f a0_0 a0_1 a0_2 a0_3 a0_4 l1 a3).bind fun t186 => (if t185 = t186 then (if ((a2 == a0_1) != (a3 == a0_1)) = true then (some (a3 == a0_1)) else (some (decide (a2 < a3)))) else (some (decide (t185 < t186)))))) = some r := h
 clear h
 replace H := Option.bind_eq_some_iff.mp H
 obtain ⟨t185, A50, H⟩ := H
 replace H : ((spec_l7Rank.f a0_0 a0_1 a0_2 a0_3 a0_4 l1 a3).bind fun t186 => (if t185 = t186 then (if ((a2 == a0_1) != (a3 == a0_1)) = true then (some (a3 == a0_1)) else (some (decide (a2 < a3)))) else (some (decide (t185 < t186))))) = some r := H
 have A5 := aM A50
 clear A50
 replace H := Option.bind_eq_some_iff.mp H
 obtain ⟨t186, A60, H⟩ := H
 replace H : (if t185 = t186 then (if ((a2 == a0_1) != (a3 == a0_1)) = true then (some (a3 == a0_1)) else (some (decide (a2 < a3)))) else (some (decide (t185 < t186)))) = some r := H
 have A6 := aM A60
 clear A60
 by_cases c7 : t185 = t186
 {
 rw [if_pos c7] at H
 have c7b0 := beq_iff_eq.mpr c7
 have c7b1 := bne_eq_false_iff_eq.mpr c7
 clear c7
 by_cases c8 : ((a2 == a0_1) != (a3 == a0_1)) = true
 {
 rw [if_pos c8] at H
 have c8b0 : ((a2 == a0_1) != (a3 == a0_1)) = true := c8
 (try (have c8b1 : decide ((a2 == a0_1) = (a3 == a0_1)) = false := by simpa using c8))
 (try (have c8b2 : ((a2 == a0_1) == (a3 == a0_1)) = false := by simpa using c8))
 (try (have c8b3 : ¬ ((a2 == a0_1) = (a3 == a0_1)) := by simpa using c8))
 clear c8
 obtain rfl := Option.some.inj H
 simp only [Option.some.injEq, Prod.mk.injEq] at H
 obtain ⟨rfl⟩ := H
 go_enter Try.func100, Try.ntmps100
 go_wp2_with (first | ((with_reducible refine gate_dst (N := 4) rfl ?_); refine bx_ 4 #[.int .i64 a0_0, .int .i64 a0_1, .int .i64 a0_2, .bool a0_3, .int .i64 a0_4] 37 ?_; intro gb184 hg w9 hbox hb; have BK184 := aM (hbox); have GW184 := aM (bz_ w hg qz1); have GE184 := GW184; replace HB := bS_ hb; clear hb hbox hg; have hcz10_0 := bc0_ BK184.out; have hcz10_1 := bc1_ BK184.out; have hcz10_2 := bc2_ BK184.out; have hcz10_3 := bc3_ BK184.out; have hcz10_4 := bc4_ BK184.out; have hfz10_0 := blk_frozen BK184.out 0; have hfz10_1 := blk_frozen BK184.out 1; have hfz10_2 := blk_frozen BK184.out 2; have hfz10_3 := blk_frozen BK184.out 3; have hfz10_4 := blk_frozen BK184.out 4) | ((with_reducible refine gate_callee (f := 124) rfl ?_); refine goesL_ (some 14) rfl rfl Try.func124 (by kernel_rfl) rfl #[.agg #[.int .i64 a0_0, .int .i64 a0_1, .int .i64 a0_2, .bool a0_3, .int .i64 a0_4], .slice A1 l1.length c1, .int .i64 a2] rfl qz2 ?_; (with_reducible refine (spec_l7Rank.calls a0_0 a0_1 a0_2 a0_3 a0_4 _ _ l1 a2 t185 _ ?side1 ?side2 A5.out).mono ?_); (case side1 => exact qz5); (case side2 => exact HC1.out); rintro e w11 ⟨rfl, hb⟩; refine ⟨_, rfl, ?_⟩; replace BK184 := bB_ BK184 hb; replace HB := bS_ hb; (try clear hb); have hcz12_0 := bc0_ BK184.out; have hcz12_1 := bc1_ BK184.out; have hcz12_2 := bc2_ BK184.out; have hcz12_3 := bc3_ BK184.out; have hcz12_4 := bc4_ BK184.out; have hfz12_0 := blk_frozen BK184.out 0; have hfz12_1 := blk_frozen BK184.out 1; have hfz12_2 := blk_frozen BK184.out 2; have hfz12_3 := blk_frozen BK184.out 3; have hfz12_4 := blk_frozen BK184.out 4) | ((with_reducible refine gate_callee (f := 124) rfl ?_); refine goesL_ (some 18) rfl rfl Try.func124 (by kernel_rfl) rfl #[.agg #[.int .i64 a0_0, .int .i64 a0_1, .int .i64 a0_2, .bool a0_3, .int .i64 a0_4], .slice A1 l1.length c1, .int .i64 a3] rfl qz2 ?_; (with_reducible refine (spec_l7Rank.calls a0_0 a0_1 a0_2 a0_3 a0_4 _ _ l1 a3 t186 _ ?side1 ?side2 A6.out).mono ?_); (case side1 => exact qz5); (case side2 => exact HC1.out); rintro e w13 ⟨rfl, hb⟩; refine ⟨_, rfl, ?_⟩; replace BK184 := bB_ BK184 hb; replace HB := bS_ hb; (try clear hb); have hcz14_0 := bc0_ BK184.out; have hcz14_1 := bc1_ BK184.out; have hcz14_2 := bc2_ BK184.out; have hcz14_3 := bc3_ BK184.out; have hcz14_4 := bc4_ BK184.out; have hfz14_0 := blk_frozen BK184.out 0; have hfz14_1 := blk_frozen BK184.out 1; have hfz14_2 := blk_frozen BK184.out 2; have hfz14_3 := blk_frozen BK184.out 3; have hfz14_4 := blk_frozen BK184.out 4))
 go_ret
 exact ⟨qzw, qz1⟩
 }
 {
 rw [if_neg c8] at H
 have c8b0 : ((a2 == a0_1) != (a3 == a0_1)) = false := by simpa using c8
 (try (have c8b1 : decide ((a2 == a0_1) = (a3 == a0_1)) = true := by simpa using c8))
 (try (have c8b2 : ((a2 == a0_1) == (a3 == a0_1)) = true := by simpa using c8))
 clear c8
 obtain rfl := Option.some.inj H
 simp only [Option.some.injEq, Prod.mk.injEq] at H
 obtain ⟨rfl⟩ := H
 go_enter Try.func100, Try.ntmps100
 go_wp2_with (first | ((with_reducible refine gate_dst (N := 4) rfl ?_); refine bx_ 4 #[.int .i64 a0_0, .int .i64 a0_1, .int .i64 a0_2, .bool a0_3, .int .i64 a0_4] 37 ?_; intro gb184 hg w15 hbox hb; have BK184 := aM (hbox); have GW184 := aM (bz_ w hg qz1); have GE184 := GW184; replace HB := bS_ hb; clear hb hbox hg; have hcz16_0 := bc0_ BK184.out; have hcz16_1 := bc1_ BK184.out; have hcz16_2 := bc2_ BK184.out; have hcz16_3 := bc3_ BK184.out; have hcz16_4 := bc4_ BK184.out; have hfz16_0 := blk_frozen BK184.out 0; have hfz16_1 := blk_frozen BK184.out 1; have hfz16_2 := blk_frozen BK184.out 2; have hfz16_3 := blk_frozen BK184.out 3; have hfz16_4 := blk_frozen BK184.out 4) | ((with_reducible refine gate_callee (f := 124) rfl ?_); refine goesL_ (some 14) rfl rfl Try.func124 (by kernel_rfl) rfl #[.agg #[.int .i64 a0_0, .int .i64 a0_1, .int .i64 a0_2, .bool a0_3, .int .i64 a0_4], .slice A1 l1.length c1, .int .i64 a2] rfl qz2 ?_; (with_reducible refine (spec_l7Rank.calls a0_0 a0_1 a0_2 a0_3 a0_4 _ _ l1 a2 t185 _ ?side1 ?side2 A5.out).mono ?_); (case side1 => exact qz5); (case side2 => exact HC1.out); rintro e w17 ⟨rfl, hb⟩; refine ⟨_, rfl, ?_⟩; replace BK184 := bB_ BK184 hb; replace HB := bS_ hb; (try clear hb); have hcz18_0 := bc0_ BK184.out; have hcz18_1 := bc1_ BK184.out; have hcz18_2 := bc2_ BK184.out; have hcz18_3 := bc3_ BK184.out; have hcz18_4 := bc4_ BK184.out; have hfz18_0 := blk_frozen BK184.out 0; have hfz18_1 := blk_frozen BK184.out 1; have hfz18_2 := blk_frozen BK184.out 2; have hfz18_3 := blk_frozen BK184.out 3; have hfz18_4 := blk_frozen BK184.out 4) | ((with_reducible refine gate_callee (f := 124) rfl ?_); refine goesL_ (some 18) rfl rfl Try.func124 (by kernel_rfl) rfl #[.agg #[.int .i64 a0_0, .int .i64 a0_1, .int .i64 a0_2, .bool a0_3, .int .i64 a0_4], .slice A1 l1.length c1, .int .i64 a3] rfl qz2 ?_; (with_reducible refine (spec_l7Rank.calls a0_0 a0_1 a0_2 a0_3 a0_4 _ _ l1 a3 t186 _ ?side1 ?side2 A6.out).mono ?_); (case side1 => exact qz5); (case side2 => exact HC1.out); rintro e w19 ⟨rfl, hb⟩; refine ⟨_, rfl, ?_⟩; replace BK184 := bB_ BK184 hb; replace HB := bS_ hb; (try clear hb); have hcz20_0 := bc0_ BK184.out; have hcz20_1 := bc1_ BK184.out; have hcz20_2 := bc2_ BK184.out; have hcz20_3 := bc3_ BK184.out; have hcz20_4 := bc4_ BK184.out; have hfz20_0 := blk_frozen BK184.out 0; have hfz20_1 := blk_frozen BK184.out 1; have hfz20_2 := blk_frozen BK184.out 2; have hfz20_3 := blk_frozen BK184.out 3; have hfz20_4 := blk_frozen BK184.out 4))
 go_ret
 exact ⟨qzw, qz1⟩
 }
 }
 {
 rw [if_neg c7] at H
 have c7b0 := beq_eq_false_iff_ne.mpr c7
 have c7b1 := bne_iff_ne.mpr c7
 obtain rfl := Option.some.inj H
 simp only [Option.some.injEq, Prod.mk.injEq] at H
 obtain ⟨rfl⟩ := H
 go_enter Try.func100, Try.ntmps100
 go_wp2_with (first | ((with_reducible refine gate_dst (N := 4) rfl ?_); refine bx_ 4 #[.int .i64 a0_0, .int .i64 a0_1, .int .i64 a0_2, .bool a0_3, .int .i64 a0_4] 37 ?_; intro gb184 hg w21 hbox hb; have BK184 := aM (hbox); have GW184 := aM (bz_ w hg qz1); have GE184 := GW184; replace HB := bS_ hb; clear hb hbox hg; have hcz22_0 := bc0_ BK184.out; have hcz22_1 := bc1_ BK184.out; have hcz22_2 := bc2_ BK184.out; have hcz22_3 := bc3_ BK184.out; have hcz22_4 := bc4_ BK184.out; have hfz22_0 := blk_frozen BK184.out 0; have hfz22_1 := blk_frozen BK184.out 1; have hfz22_2 := blk_frozen BK184.out 2; have hfz22_3 := blk_frozen BK184.out 3; have hfz22_4 := blk_frozen BK184.out 4) | ((with_reducible refine gate_callee (f := 124) rfl ?_); refine goesL_ (some 14) rfl rfl Try.func124 (by kernel_rfl) rfl #[.agg #[.int .i64 a0_0, .int .i64 a0_1, .int .i64 a0_2, .bool a0_3, .int .i64 a0_4], .slice A1 l1.length c1, .int .i64 a2] rfl qz2 ?_; (with_reducible refine (spec_l7Rank.calls a0_0 a0_1 a0_2 a0_3 a0_4 _ _ l1 a2 t185 _ ?side1 ?side2 A5.out).mono ?_); (case side1 => exact qz5); (case side2 => exact HC1.out); rintro e w23 ⟨rfl, hb⟩; refine ⟨_, rfl, ?_⟩; replace BK184 := bB_ BK184 hb; replace HB := bS_ hb; (try clear hb); have hcz24_0 := bc0_ BK184.out; have hcz24_1 := bc1_ BK184.out; have hcz24_2 := bc2_ BK184.out; have hcz24_3 := bc3_ BK184.out; have hcz24_4 := bc4_ BK184.out; have hfz24_0 := blk_frozen BK184.out 0; have hfz24_1 := blk_frozen BK184.out 1; have hfz24_2 := blk_frozen BK184.out 2; have hfz24_3 := blk_frozen BK184.out 3; have hfz24_4 := blk_frozen BK184.out 4) | ((with_reducible refine gate_callee (f := 124) rfl ?_); refine goesL_ (some 18) rfl rfl Try.func124 (by kernel_rfl) rfl #[.agg #[.int .i64 a0_0, .int .i64 a0_1, .int .i64 a0_2, .bool a0_3, .int .i64 a0_4], .slice A1 l1.length c1, .int .i64 a3] rfl qz2 ?_; (with_reducible refine (spec_l7Rank.calls a0_0 a0_1 a0_2 a0_3 a0_4 _ _ l1 a3 t186 _ ?side1 ?side2 A6.out).mono ?_); (case side1 => exact qz5); (case side2 => exact HC1.out); rintro e w25 ⟨rfl, hb⟩; refine ⟨_, rfl, ?_⟩; replace BK184 := bB_ BK184 hb; replace HB := bS_ hb; (try clear hb)))
 go_ret
 exact ⟨qzw, qz1⟩

 }
end Go.Proofs.Ytankmdbbgepmbaa.PFnExactClash
