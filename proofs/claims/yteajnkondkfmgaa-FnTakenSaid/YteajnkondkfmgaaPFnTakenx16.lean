-- Made by a program of this session out of the translation. Lean checks it.
import Derived.Test.YteajnkondkfmgaaPFnTakenx0
import Derived.Test.YteajnkondkfmgaaPFnTakenx2
import Derived.Test.YteajnkondkfmgaaPFnTakenx5
import Derived.Test.YteajnkondkfmgaaPFnTakenx9
import Derived.Test.YteajnkondkfmgaaPFnTakenx15
namespace Go.Proofs.Yteajnkondkfmgaa.PFnTaken
open Go.RowKit Go.Proofs.YteajnkondkfmgaaW.PrintWords Go.Proofs.YteajnkondkfmgaaW.PrintLast Go.Proofs.YteajnkondkfmgaaW.PrintMore
attribute [local go_sem] max2_int min2_int max_two min_two max_three min_three max_four min_four   -- for this text's walks alone
set_option linter.unusedVariables false
set_option linter.unusedSimpArgs false

/-! ### spec_l5With: function 95 -/
mutual
def spec_l5With.l0 : Nat → List (S72) → List (S72) → Bool → Int → Int → Int → Int → Option ((List (S72)))
 | 0, _, _, _, _, _, _, _ => none
 | k + 1, x0, x5, x6, x7, x361000, x361001, x361002 => if x7 < (x0.length : Int) then (if x6 = true then (spec_l5With.j1 k x0 x5 x6 x7 false x361000 x361001 x361002) else (if 0 ≤ x7 then (spec_l5With.j1 k x0 x5 x6 x7 (decide (((rd_T72 x0 x7).f0) ≥ x361000)) x361000 x361001 x361002) else (none))) else (if x6 = true then (some x5) else (if x5.length < 5864062014805 then (some (x5 ++ [(⟨x361000, x361001, x361002⟩ : S72)])) else (none)))
def spec_l5With.j1 : Nat → List (S72) → List (S72) → Bool → Int → Bool → Int → Int → Int → Option ((List (S72)))
 | 0, _, _, _, _, _, _, _, _ => none
 | k + 1, x0, x5, x6, x7, x29, x361000, x361001, x361002 => if x29 = true then (if x5.length < 5864062014805 then ((some (x5 ++ [(⟨x361000, x361001, x361002⟩ : S72)] : List (S72))).bind fun y368 => (if 0 ≤ x7 then (if x7 < (x0.length : Int) then (if ((rd_T72 x0 x7).f0) = x361000 then (spec_l5With.l0 k x0 y368 true (wrap64 (x7 + 1)) x361000 x361001 x361002) else (if y368.length < 5864062014805 then (spec_l5With.l0 k x0 (y368 ++ [(⟨(rd_T72 x0 x7).f0, (rd_T72 x0 x7).f1, (rd_T72 x0 x7).f2⟩ : S72)]) true (wrap64 (x7 + 1)) x361000 x361001 x361002) else (none))) else (none)) else (none))) else (none)) else (if 0 ≤ x7 then (if x7 < (x0.length : Int) then (if ((rd_T72 x0 x7).f0) = x361000 then (spec_l5With.l0 k x0 x5 x6 (wrap64 (x7 + 1)) x361000 x361001 x361002) else (if x5.length < 5864062014805 then (spec_l5With.l0 k x0 (x5 ++ [(⟨(rd_T72 x0 x7).f0, (rd_T72 x0 x7).f1, (rd_T72 x0 x7).f2⟩ : S72)]) x6 (wrap64 (x7 + 1)) x361000 x361001 x361002) else (none))) else (none)) else (none))
end
def spec_l5With.f (k : Nat) (l0 : List (S72)) (a1_0 : Int) (a1_1 : Int) (a1_2 : Int) : Option ((List (S72))) := spec_l5With.l0 k l0 (([] : List (S72))) (a1_1 == 0) 0 a1_0 a1_1 a1_2
theorem spec_l5With.mono_l : ∀ k, (∀ y0 y1 y2 y3 y4 y5 y6, LeO (spec_l5With.l0 k y0 y1 y2 y3 y4 y5 y6) (spec_l5With.l0 (k + 1) y0 y1 y2 y3 y4 y5 y6)) ∧ (∀ y0 y1 y2 y3 y4 y5 y6 y7, LeO (spec_l5With.j1 k y0 y1 y2 y3 y4 y5 y6 y7) (spec_l5With.j1 (k + 1) y0 y1 y2 y3 y4 y5 y6 y7))
 | 0 => ⟨fun _ _ _ _ _ _ _ r h => by simp [spec_l5With.l0] at h, fun _ _ _ _ _ _ _ _ r h => by simp [spec_l5With.j1] at h⟩
 | k + 1 => by
  obtain ⟨ih0, ih1⟩ := spec_l5With.mono_l k
  refine ⟨?_, ?_⟩
  {
  intro y0 y1 y2 y3 y4 y5 y6
  unfold spec_l5With.l0
  exact qL
  }
  {
  intro y0 y1 y2 y3 y4 y5 y6 y7
  unfold spec_l5With.j1
  exact qL
  }
theorem spec_l5With.mono : ∀ a0 a1 a2 a3 k, LeO (spec_l5With.f k a0 a1 a2 a3) (spec_l5With.f (k + 1) a0 a1 a2 a3) := by
 intro a0 a1 a2 a3 k
 obtain ⟨ih0, ih1⟩ := spec_l5With.mono_l k
 unfold spec_l5With.f
 exact qL
set_option maxHeartbeats 8000000 in
set_option maxRecDepth 100000 in
theorem spec_l5With.calls (k : Nat) (A0 : Option Addr) (c0 : Nat) (l0 : List (S72)) (a1_0 : Int) (a1_1 : Int) (a1_2 : Int) (r : List (S72)) (w : World) (hr0 : Kd.C k72 w A0 l0.length l0) (hc0 : l0.length ≤ c0) (h : spec_l5With.f k l0 a1_0 a1_1 a1_2 = some r) :
  Calls Try.prog 95 #[.slice A0 l0.length c0, .agg #[.int .i64 a1_0, .int .i64 a1_1, .int .i64 a1_2]] w fun e w' => ∃ v0_ : Value, e = .returned (v0_) ∧ Kd.R k72 72 w' w.heap.size (fun _ => True) v0_ r ∧ Below w.heap.size w w' := by
 have hu72 := Try.underlying72
 have HR0 := aM hr0
 have HC0 := aM hc0
 clear hr0 hc0
 have HB := aM (Below.refl w.heap.size w)
 have H : (spec_l5With.l0 k l0 (([] : List (S72))) (a1_1 == 0) 0 a1_0 a1_1 a1_2) = some r := h
 clear h
 obtain ⟨y361, hy361⟩ : ∃ y_ : List (S72), y_ = (([] : List (S72))) := ⟨_, rfl⟩
 replace H : (spec_l5With.l0 k l0 y361 (a1_1 == 0) 0 a1_0 a1_1 a1_2) = some r := by first | (rw [hy361]; with_reducible exact H) | (have H2_ := (Option.bind_some _ _).symm.trans H; rw [hy361]; with_reducible exact H2_) | (have H2_ := (Option.bind_some _ _).symm.trans H; with_reducible exact H2_) | with_reducible exact H | (rw [hy361]; exact H) | exact H
 have Ny361 := aM hy361
 clear hy361
 have H' := aM H
 clear H
 go_enter Try.func95, Try.ntmps95
 go_wp2_with (first | ((with_reducible refine gate_dst (N := 3) rfl ?_); refine bx_ 3 #[.int .i64 a1_0, .int .i64 a1_1, .int .i64 a1_2] 72 ?_; intro gb360 hg w3 hbox hb; have BK360 := aM (hbox); have GW360 := aM (bz_ w hg qz1); have GE360 := GW360; replace HB := bS_ hb; clear hb hbox hg) | ((with_reducible refine gate_dst (N := 8) rfl ?_); refine Kd.R_lit k72 _ 72 ?hg (N := 8) ?hd (xs := ([] : List (S72))) (inner := []) (ok := fun _ => True) (okp := fun _ => True) ?hr ?hp (fun _ hk => hk) trivial (Below.refl _ _) (Nat.le_refl _) (by simp) ?_; (case hd => rfl); (case hg => rfl); (case hr => exact qz27); (case hp => exact (Reps.none _ _)); intro v362 w4 ho5 hb hg_ hnew_; clear hg_ hnew_; (first | rw [← Ny361.out] at ho5 | (simp only [Int.reduceToNat] at ho5; rw [← Ny361.out] at ho5)); have HO363 := aM (Kd.R_lower (Kd.R_newB ho5 (bk_ BK360.out)) (below_size qz1)); replace BK360 := bB_ BK360 hb; replace HB := bS_ hb; clear hb ho5; obtain ⟨hcz6_0, hcz6_1, hcz6_2, hfz6_0, hfz6_1, hfz6_2⟩ := b6_ BK360.out))
 repeat (go_quiet (first | ((with_reducible refine gate_dst (N := 3) rfl ?_); refine bx_ 3 #[.int .i64 a1_0, .int .i64 a1_1, .int .i64 a1_2] 72 ?_; intro gb360 hg w3 hbox hb; have BK360 := aM (hbox); have GW360 := aM (bz_ w hg qz1); have GE360 := GW360; replace HB := bS_ hb; clear hb hbox hg) | ((with_reducible refine gate_dst (N := 8) rfl ?_); refine Kd.R_lit k72 _ 72 ?hg (N := 8) ?hd (xs := ([] : List (S72))) (inner := []) (ok := fun _ => True) (okp := fun _ => True) ?hr ?hp (fun _ hk => hk) trivial (Below.refl _ _) (Nat.le_refl _) (by simp) ?_; (case hd => rfl); (case hg => rfl); (case hr => exact qz27); (case hp => exact (Reps.none _ _)); intro v362 w4 ho5 hb hg_ hnew_; clear hg_ hnew_; (first | rw [← Ny361.out] at ho5 | (simp only [Int.reduceToNat] at ho5; rw [← Ny361.out] at ho5)); have HO363 := aM (Kd.R_lower (Kd.R_newB ho5 (bk_ BK360.out)) (below_size qz1)); replace BK360 := bB_ BK360 hb; replace HB := bS_ hb; clear hb ho5; obtain ⟨hcz6_0, hcz6_1, hcz6_2, hfz6_0, hfz6_1, hfz6_2⟩ := b6_ BK360.out)); try go_wp2_with (first | ((with_reducible refine gate_dst (N := 3) rfl ?_); refine bx_ 3 #[.int .i64 a1_0, .int .i64 a1_1, .int .i64 a1_2] 72 ?_; intro gb360 hg w3 hbox hb; have BK360 := aM (hbox); have GW360 := aM (bz_ w hg qz1); have GE360 := GW360; replace HB := bS_ hb; clear hb hbox hg) | ((with_reducible refine gate_dst (N := 8) rfl ?_); refine Kd.R_lit k72 _ 72 ?hg (N := 8) ?hd (xs := ([] : List (S72))) (inner := []) (ok := fun _ => True) (okp := fun _ => True) ?hr ?hp (fun _ hk => hk) trivial (Below.refl _ _) (Nat.le_refl _) (by simp) ?_; (case hd => rfl); (case hg => rfl); (case hr => exact qz27); (case hp => exact (Reps.none _ _)); intro v362 w4 ho5 hb hg_ hnew_; clear hg_ hnew_; (first | rw [← Ny361.out] at ho5 | (simp only [Int.reduceToNat] at ho5; rw [← Ny361.out] at ho5)); have HO363 := aM (Kd.R_lower (Kd.R_newB ho5 (bk_ BK360.out)) (below_size qz1)); replace BK360 := bB_ BK360 hb; replace HB := bS_ hb; clear hb ho5; obtain ⟨hcz6_0, hcz6_1, hcz6_2, hfz6_0, hfz6_1, hfz6_2⟩ := b6_ BK360.out)))
 go_loopg [5, 6, 7] k (fun kq v5 v6 v7 w' => ∃ (x5_1 : List (S72)) (x6_1 : Bool) (x7_1 : Int), v6 = .bool x6_1 ∧ v7 = .int .i64 x7_1 ∧ Aside0 (spec_l5With.l0 kq l0 x5_1 x6_1 x7_1 a1_0 a1_1 a1_2 = some r) ∧ Aside0 (kq ≤ k) ∧ Aside0 (Kd.R k72 72 w' w.heap.size (fun k_ => k_ ≠ gb360) v5 x5_1) ∧ Aside0 (w'.heap[gb360]? = some (.cells #[.int .i64 a1_0, .int .i64 a1_1, .int .i64 a1_2] 72 (0, 0))) ∧ Aside0 (Below w.heap.size w w'))
 case atStart => exact ⟨(y361), ((a1_1 == 0)), (0), qz6, qz6, H', ⟨Nat.le_refl _⟩, ⟨by (with_reducible repeat (first | apply Kd.R_alloc | apply Kd.R_drewN | apply Kd.R_drew)); exact Kd.R_mono HO363.out (fun _ hk => hk.2)⟩, ⟨bk_ BK360.out⟩, ⟨qz1⟩⟩
 case round =>
  clear H'
  try clear p2
  try clear hcz6_0
  try clear hcz6_1
  try clear hcz6_2
  try clear hfz6_0
  try clear hfz6_1
  try clear hfz6_2
  obtain ⟨x5_1, x6_1, x7_1, rfl, rfl, HA, HK1, HO_5, BK360, HB⟩ := hrel
  cases gk with
  | zero => exact absurd HA.out (by simp [spec_l5With.l0])
  | succ k1 =>
   have H := HA.out
   clear HA
   simp only [spec_l5With.l0] at H
   by_cases c7 : x7_1 < (l0.length : Int)
   {
   rw [if_pos c7] at H
   have c7b0 := decide_eq_true c7
   clear c7
   have HC8 := aM H
   clear H
   go_upto_region 6 with (fail)
   repeat (go_quiet (fail); go_upto_region 6 with (fail))
   go_cut [29] (fun v29 wc => ∃ (kq : Nat) (x29_7 : Bool), v29 = .bool x29_7 ∧ Aside0 (spec_l5With.j1 kq l0 x5_1 x6_1 x7_1 x29_7 a1_0 a1_1 a1_2 = some r) ∧ Aside0 (kq ≤ k1) ∧ Aside0 (Kd.R k72 72 wc w.heap.size (fun k_ => k_ ≠ gb360) u5 x5_1) ∧ Aside0 (wc.heap[gb360]? = some (.cells #[.int .i64 a1_0, .int .i64 a1_1, .int .i64 a1_2] 72 (0, 0))) ∧ Aside0 (Below w.heap.size w wc))
   case first =>
    have H := HC8.out
    clear HC8
    by_cases c9 : x6_1 = true
    {
    subst c9
    rw [if_pos rfl] at H
    have H' := aM H
    clear H
    go_wp2
    repeat (go_quiet (fail); try go_wp2)
    go_meet
    case rel => exact ⟨_, (false), qz6, H', ⟨by have := HK1.out; first | omega | exact Nat.le_refl _⟩, ⟨rm_ HO_5.out⟩, ⟨bk_ BK360.out⟩, ⟨qz1⟩⟩
    }
    {
    replace c9 := Bool.eq_false_iff.mpr c9
    subst c9
    rw [if_neg (show ¬ (false = true) by decide)] at H
    by_cases c10 : 0 ≤ x7_1
    {
    rw [if_pos c10] at H
    have c10b0 := decide_eq_true c10
    clear c10
    (first | rw [c10b0] | (simp only [i64_w, i32_w]; rw [c10b0]) | rw [@decide_eq_true _ _ (of_decide_eq_true c10b0)] | rw [@decide_eq_true _ _ (of_decide_eq_true c10b1)] | skip)
    have H' := aM H
    clear H
    have p367 : 0 ≤ (x7_1 : Int) := dt_
    have q367 : x7_1 < (l0.length : Int) := dt_
    obtain ⟨ad367, e367, hx367_0, hx367_1, hx367_2⟩ := at_T72 HR0.out x7_1 p367 q367
    cases e367
    replace hx367_0 := cB_ hx367_0
    replace hx367_1 := cB_ hx367_1
    replace hx367_2 := cB_ hx367_2
    replace p367 := eq_true p367
    replace q367 := eq_true q367
    obtain ⟨hcz11_0, hcz11_1, hcz11_2, hfz11_0, hfz11_1, hfz11_2⟩ := b6_ BK360.out
    go_wp2
    repeat (go_quiet (fail); try go_wp2)
    go_meet
    case rel => exact ⟨_, (decide (((rd_T72 l0 x7_1).f0) ≥ a1_0)), qz6, H', ⟨by have := HK1.out; first | omega | exact Nat.le_refl _⟩, ⟨rm_ HO_5.out⟩, ⟨bk_ BK360.out⟩, ⟨qz1⟩⟩
    }
    {
    exact an_ c10 H
    }
    }
   case rest =>
    clear HC8
    try clear c1
    try clear p2
    try clear p3
    try clear q3
    try clear hx3
    try clear c7
    try clear c7b0
    try clear c9
    try clear c10
    try clear c10b0
    try clear c10b1
    try clear hcz11_0
    try clear hcz11_1
    try clear hcz11_2
    try clear hcz6_0
    try clear hcz6_1
    try clear hcz6_2
    try clear hfz11_0
    try clear hfz11_1
    try clear hfz11_2
    try clear hfz6_0
    try clear hfz6_1
    try clear hfz6_2
    try clear hx367_0
    try clear hx367_1
    try clear hx367_2
    try clear p2
    try clear p367
    try clear q367
    obtain ⟨kq, x29_7, rfl, HA, HJ7, HO_5, BK360, HB⟩ := hcut
    cases kq with
    | zero => exact absurd HA.out (by simp [spec_l5With.j1])
    | succ kj7 =>
     have H := HA.out
     clear HA
     simp only [spec_l5With.j1] at H
     by_cases c12 : x29_7 = true
     {
     subst c12
     rw [if_pos rfl] at H
     by_cases c13 : x5_1.length < 5864062014805
     {
     rw [if_pos c13] at H
     have LMc13 := aM c13
     clear c13
     obtain ⟨y368, hy368⟩ : ∃ y_ : List (S72), y_ = (x5_1 ++ [(⟨a1_0, a1_1, a1_2⟩ : S72)]) := ⟨_, rfl⟩
     replace H : (if 0 ≤ x7_1 then (if x7_1 < (l0.length : Int) then (if ((rd_T72 l0 x7_1).f0) = a1_0 then (spec_l5With.l0 kj7 l0 y368 true (wrap64 (x7_1 + 1)) a1_0 a1_1 a1_2) else (if y368.length < 5864062014805 then (spec_l5With.l0 kj7 l0 (y368 ++ [(⟨(rd_T72 l0 x7_1).f0, (rd_T72 l0 x7_1).f1, (rd_T72 l0 x7_1).f2⟩ : S72)]) true (wrap64 (x7_1 + 1)) a1_0 a1_1 a1_2) else (none))) else (none)) else (none)) = some r := by first | (rw [hy368]; with_reducible exact H) | (have H2_ := (Option.bind_some _ _).symm.trans H; rw [hy368]; with_reducible exact H2_) | (have H2_ := (Option.bind_some _ _).symm.trans H; with_reducible exact H2_) | with_reducible exact H | (rw [hy368]; exact H) | exact H
     have Ny368 := aM hy368
     clear hy368
     by_cases c14 : 0 ≤ x7_1
     {
     rw [if_pos c14] at H
     have c14b0 := decide_eq_true c14
     clear c14
     by_cases c15 : x7_1 < (l0.length : Int)
     {
     rw [if_pos c15] at H
     have c15b0 := decide_eq_true c15
     clear c15
     by_cases c16 : ((rd_T72 l0 x7_1).f0) = a1_0
     {
     rw [if_pos c16] at H
     have c16b0 := beq_iff_eq.mpr c16
     have c16b1 := bne_eq_false_iff_eq.mpr c16
     clear c16
     have H' := aM H
     clear H
     obtain ⟨hcz17_0, hcz17_1, hcz17_2, hfz17_0, hfz17_1, hfz17_2⟩ := b6_ BK360.out
     go_wp2_with (first | ((with_reducible refine gate_builtin (b := .append) (xs := #[.tmp 30, .tmp 32]) rfl ?_); at_builtin; refine Kd.R_append k72 (w0 := w) w.heap.size rfl (.tmp 30) (.tmp 32) 77 72 (.agg #[(.int .i64 0), (.int .i64 0), (.int .i64 0)]) 24 rfl Try.underlying77 info72 rfl (by decide) (by omega) u5 x5_1 (⟨a1_0, a1_1, a1_2⟩ : S72) [.int .i64 a1_0, .int .i64 a1_1, .int .i64 a1_2] (fun k_ => k_ ≠ gb360) (fun _ => False) rfl rfl ?aP (fun _ hk => hk.elim) ?aF ?aO ?aB ?aS ?aL ?_; (case aP => exact qz37); (case aB => exact qz1); (case aF => exact qz24); (case aO => exact (rr_ HO_5.out)); (case aS => exact qz43); (case aL => have := LMc13.out; omega); intro v369 w18 ho hb hg hat; rw [← Ny368.out] at ho; replace BK360 := aM (blk_grown (bk_ BK360.out) hg (Kd.R_away HO_5.out (fun _ hk => hk))); replace HB := aM (hb); have HO370 := aM (ho); clear HO_5; clear ho hb hg hat; have p371 : 0 ≤ (x7_1 : Int) := dt_; have q371 : x7_1 < (l0.length : Int) := dt_; obtain ⟨ad371, e371, hx371_0, hx371_1, hx371_2⟩ := at_T72 HR0.out x7_1 p371 q371; cases e371; replace hx371_0 := cB_ hx371_0; replace hx371_1 := cB_ hx371_1; replace hx371_2 := cB_ hx371_2; replace p371 := eq_true p371; replace q371 := eq_true q371; obtain ⟨hcz19_0, hcz19_1, hcz19_2, hfz19_0, hfz19_1, hfz19_2⟩ := b6_ BK360.out))
     repeat (go_quiet (first | ((with_reducible refine gate_builtin (b := .append) (xs := #[.tmp 30, .tmp 32]) rfl ?_); at_builtin; refine Kd.R_append k72 (w0 := w) w.heap.size rfl (.tmp 30) (.tmp 32) 77 72 (.agg #[(.int .i64 0), (.int .i64 0), (.int .i64 0)]) 24 rfl Try.underlying77 info72 rfl (by decide) (by omega) u5 x5_1 (⟨a1_0, a1_1, a1_2⟩ : S72) [.int .i64 a1_0, .int .i64 a1_1, .int .i64 a1_2] (fun k_ => k_ ≠ gb360) (fun _ => False) rfl rfl ?aP (fun _ hk => hk.elim) ?aF ?aO ?aB ?aS ?aL ?_; (case aP => exact qz37); (case aB => exact qz1); (case aF => exact qz24); (case aO => exact (rr_ HO_5.out)); (case aS => exact qz43); (case aL => have := LMc13.out; omega); intro v369 w18 ho hb hg hat; rw [← Ny368.out] at ho; replace BK360 := aM (blk_grown (bk_ BK360.out) hg (Kd.R_away HO_5.out (fun _ hk => hk))); replace HB := aM (hb); have HO370 := aM (ho); clear HO_5; clear ho hb hg hat; have p371 : 0 ≤ (x7_1 : Int) := dt_; have q371 : x7_1 < (l0.length : Int) := dt_; obtain ⟨ad371, e371, hx371_0, hx371_1, hx371_2⟩ := at_T72 HR0.out x7_1 p371 q371; cases e371; replace hx371_0 := cB_ hx371_0; replace hx371_1 := cB_ hx371_1; replace hx371_2 := cB_ hx371_2; replace p371 := eq_true p371; replace q371 := eq_true q371; obtain ⟨hcz19_0, hcz19_1, hcz19_2, hfz19_0, hfz19_1, hfz19_2⟩ := b6_ BK360.out)); try go_wp2_with (first | ((with_reducible refine gate_builtin (b := .append) (xs := #[.tmp 30, .tmp 32]) rfl ?_); at_builtin; refine Kd.R_append k72 (w0 := w) w.heap.size rfl (.tmp 30) (.tmp 32) 77 72 (.agg #[(.int .i64 0), (.int .i64 0), (.int .i64 0)]) 24 rfl Try.underlying77 info72 rfl (by decide) (by omega) u5 x5_1 (⟨a1_0, a1_1, a1_2⟩ : S72) [.int .i64 a1_0, .int .i64 a1_1, .int .i64 a1_2] (fun k_ => k_ ≠ gb360) (fun _ => False) rfl rfl ?aP (fun _ hk => hk.elim) ?aF ?aO ?aB ?aS ?aL ?_; (case aP => exact qz37); (case aB => exact qz1); (case aF => exact qz24); (case aO => exact (rr_ HO_5.out)); (case aS => exact qz43); (case aL => have := LMc13.out; omega); intro v369 w18 ho hb hg hat; rw [← Ny368.out] at ho; replace BK360 := aM (blk_grown (bk_ BK360.out) hg (Kd.R_away HO_5.out (fun _ hk => hk))); replace HB := aM (hb); have HO370 := aM (ho); clear HO_5; clear ho hb hg hat; have p371 : 0 ≤ (x7_1 : Int) := dt_; have q371 : x7_1 < (l0.length : Int) := dt_; obtain ⟨ad371, e371, hx371_0, hx371_1, hx371_2⟩ := at_T72 HR0.out x7_1 p371 q371; cases e371; replace hx371_0 := cB_ hx371_0; replace hx371_1 := cB_ hx371_1; replace hx371_2 := cB_ hx371_2; replace p371 := eq_true p371; replace q371 := eq_true q371; obtain ⟨hcz19_0, hcz19_1, hcz19_2, hfz19_0, hfz19_1, hfz19_2⟩ := b6_ BK360.out)))
     go_roundg kj7
     case measure => have := HK1.out; have := HJ7.out; omega
     case rel => exact ⟨(y368), (true), (wrap64 (x7_1 + 1)), qz6, qz6, H', ⟨by have := HK1.out; have := HJ7.out; omega⟩, ⟨rm_ HO370.out⟩, ⟨bk_ BK360.out⟩, ⟨qz1⟩⟩
     }
     {
     rw [if_neg c16] at H
     have c16b0 := beq_eq_false_iff_ne.mpr c16
     have c16b1 := bne_iff_ne.mpr c16
     by_cases c20 : y368.length < 5864062014805
     {
     rw [if_pos c20] at H
     have LMc20 := aM c20
     clear c20
     obtain ⟨y373, hy373⟩ : ∃ y_ : List (S72), y_ = (y368 ++ [(⟨(rd_T72 l0 x7_1).f0, (rd_T72 l0 x7_1).f1, (rd_T72 l0 x7_1).f2⟩ : S72)]) := ⟨_, rfl⟩
     replace H : (spec_l5With.l0 kj7 l0 y373 true (wrap64 (x7_1 + 1)) a1_0 a1_1 a1_2) = some r := by first | (rw [hy373]; with_reducible exact H) | (have H2_ := (Option.bind_some _ _).symm.trans H; rw [hy373]; with_reducible exact H2_) | (have H2_ := (Option.bind_some _ _).symm.trans H; with_reducible exact H2_) | with_reducible exact H | (rw [hy373]; exact H) | exact H
     have Ny373 := aM hy373
     clear hy373
     have H' := aM H
     clear H
     obtain ⟨hcz21_0, hcz21_1, hcz21_2, hfz21_0, hfz21_1, hfz21_2⟩ := b6_ BK360.out
     go_wp2_with (first | ((with_reducible refine gate_builtin (b := .append) (xs := #[.tmp 30, .tmp 32]) rfl ?_); at_builtin; refine Kd.R_append k72 (w0 := w) w.heap.size rfl (.tmp 30) (.tmp 32) 77 72 (.agg #[(.int .i64 0), (.int .i64 0), (.int .i64 0)]) 24 rfl Try.underlying77 info72 rfl (by decide) (by omega) u5 x5_1 (⟨a1_0, a1_1, a1_2⟩ : S72) [.int .i64 a1_0, .int .i64 a1_1, .int .i64 a1_2] (fun k_ => k_ ≠ gb360) (fun _ => False) rfl rfl ?aP (fun _ hk => hk.elim) ?aF ?aO ?aB ?aS ?aL ?_; (case aP => exact qz37); (case aB => exact qz1); (case aF => exact qz24); (case aO => exact (rr_ HO_5.out)); (case aS => exact qz43); (case aL => have := LMc13.out; omega); intro v369 w22 ho hb hg hat; rw [← Ny368.out] at ho; replace BK360 := aM (blk_grown (bk_ BK360.out) hg (Kd.R_away HO_5.out (fun _ hk => hk))); replace HB := aM (hb); have HO370 := aM (ho); clear HO_5; clear ho hb hg hat; have p371 : 0 ≤ (x7_1 : Int) := dt_; have q371 : x7_1 < (l0.length : Int) := dt_; obtain ⟨ad371, e371, hx371_0, hx371_1, hx371_2⟩ := at_T72 HR0.out x7_1 p371 q371; cases e371; replace hx371_0 := cB_ hx371_0; replace hx371_1 := cB_ hx371_1; replace hx371_2 := cB_ hx371_2; replace p371 := eq_true p371; replace q371 := eq_true q371; obtain ⟨hcz23_0, hcz23_1, hcz23_2, hfz23_0, hfz23_1, hfz23_2⟩ := b6_ BK360.out; have p372 : 0 ≤ (x7_1 : Int) := dt_; have q372 : x7_1 < (l0.length : Int) := dt_; obtain ⟨ad372, e372, hx372_0, hx372_1, hx372_2⟩ := at_T72 HR0.out x7_1 p372 q372; obtain rfl : ad371 = ad372 := (by injection e372); replace hx372_0 := cB_ hx372_0; replace hx372_1 := cB_ hx372_1; replace hx372_2 := cB_ hx372_2; replace p372 := eq_true p372; replace q372 := eq_true q372) | ((with_reducible refine gate_builtin (b := .append) (xs := #[.tmp 42, .tmp 47]) rfl ?_); at_builtin; refine Kd.R_append k72 (w0 := w) w.heap.size rfl (.tmp 42) (.tmp 47) 77 72 (.agg #[(.int .i64 0), (.int .i64 0), (.int .i64 0)]) 24 rfl Try.underlying77 info72 rfl (by decide) (by omega) v369 y368 (⟨(rd_T72 l0 x7_1).f0, (rd_T72 l0 x7_1).f1, (rd_T72 l0 x7_1).f2⟩ : S72) [.int .i64 ((rd_T72 l0 x7_1).f0), .int .i64 ((rd_T72 l0 x7_1).f1), .int .i64 ((rd_T72 l0 x7_1).f2)] (fun k_ => k_ ≠ gb360) (fun _ => False) rfl rfl ?aP (fun _ hk => hk.elim) ?aF ?aO ?aB ?aS ?aL ?_; (case aP => exact qz30); (case aB => exact qz1); (case aF => exact qz24); (case aO => exact (rr_ HO370.out)); (case aS => exact qz43); (case aL => have := LMc20.out; omega); intro v374 w24 ho hb hg hat; rw [← Ny373.out] at ho; replace BK360 := aM (blk_grown (bk_ BK360.out) hg (Kd.R_away HO370.out (fun _ hk => hk))); replace HB := aM (hb); have HO375 := aM (ho); clear HO370; clear ho hb hg hat))
     repeat (go_quiet (first | ((with_reducible refine gate_builtin (b := .append) (xs := #[.tmp 30, .tmp 32]) rfl ?_); at_builtin; refine Kd.R_append k72 (w0 := w) w.heap.size rfl (.tmp 30) (.tmp 32) 77 72 (.agg #[(.int .i64 0), (.int .i64 0), (.int .i64 0)]) 24 rfl Try.underlying77 info72 rfl (by decide) (by omega) u5 x5_1 (⟨a1_0, a1_1, a1_2⟩ : S72) [.int .i64 a1_0, .int .i64 a1_1, .int .i64 a1_2] (fun k_ => k_ ≠ gb360) (fun _ => False) rfl rfl ?aP (fun _ hk => hk.elim) ?aF ?aO ?aB ?aS ?aL ?_; (case aP => exact qz37); (case aB => exact qz1); (case aF => exact qz24); (case aO => exact (rr_ HO_5.out)); (case aS => exact qz43); (case aL => have := LMc13.out; omega); intro v369 w22 ho hb hg hat; rw [← Ny368.out] at ho; replace BK360 := aM (blk_grown (bk_ BK360.out) hg (Kd.R_away HO_5.out (fun _ hk => hk))); replace HB := aM (hb); have HO370 := aM (ho); clear HO_5; clear ho hb hg hat; have p371 : 0 ≤ (x7_1 : Int) := dt_; have q371 : x7_1 < (l0.length : Int) := dt_; obtain ⟨ad371, e371, hx371_0, hx371_1, hx371_2⟩ := at_T72 HR0.out x7_1 p371 q371; cases e371; replace hx371_0 := cB_ hx371_0; replace hx371_1 := cB_ hx371_1; replace hx371_2 := cB_ hx371_2; replace p371 := eq_true p371; replace q371 := eq_true q371; obtain ⟨hcz23_0, hcz23_1, hcz23_2, hfz23_0, hfz23_1, hfz23_2⟩ := b6_ BK360.out; have p372 : 0 ≤ (x7_1 : Int) := dt_; have q372 : x7_1 < (l0.length : Int) := dt_; obtain ⟨ad372, e372, hx372_0, hx372_1, hx372_2⟩ := at_T72 HR0.out x7_1 p372 q372; obtain rfl : ad371 = ad372 := (by injection e372); replace hx372_0 := cB_ hx372_0; replace hx372_1 := cB_ hx372_1; replace hx372_2 := cB_ hx372_2; replace p372 := eq_true p372; replace q372 := eq_true q372) | ((with_reducible refine gate_builtin (b := .append) (xs := #[.tmp 42, .tmp 47]) rfl ?_); at_builtin; refine Kd.R_append k72 (w0 := w) w.heap.size rfl (.tmp 42) (.tmp 47) 77 72 (.agg #[(.int .i64 0), (.int .i64 0), (.int .i64 0)]) 24 rfl Try.underlying77 info72 rfl (by decide) (by omega) v369 y368 (⟨(rd_T72 l0 x7_1).f0, (rd_T72 l0 x7_1).f1, (rd_T72 l0 x7_1).f2⟩ : S72) [.int .i64 ((rd_T72 l0 x7_1).f0), .int .i64 ((rd_T72 l0 x7_1).f1), .int .i64 ((rd_T72 l0 x7_1).f2)] (fun k_ => k_ ≠ gb360) (fun _ => False) rfl rfl ?aP (fun _ hk => hk.elim) ?aF ?aO ?aB ?aS ?aL ?_; (case aP => exact qz30); (case aB => exact qz1); (case aF => exact qz24); (case aO => exact (rr_ HO370.out)); (case aS => exact qz43); (case aL => have := LMc20.out; omega); intro v374 w24 ho hb hg hat; rw [← Ny373.out] at ho; replace BK360 := aM (blk_grown (bk_ BK360.out) hg (Kd.R_away HO370.out (fun _ hk => hk))); replace HB := aM (hb); have HO375 := aM (ho); clear HO370; clear ho hb hg hat)); try go_wp2_with (first | ((with_reducible refine gate_builtin (b := .append) (xs := #[.tmp 30, .tmp 32]) rfl ?_); at_builtin; refine Kd.R_append k72 (w0 := w) w.heap.size rfl (.tmp 30) (.tmp 32) 77 72 (.agg #[(.int .i64 0), (.int .i64 0), (.int .i64 0)]) 24 rfl Try.underlying77 info72 rfl (by decide) (by omega) u5 x5_1 (⟨a1_0, a1_1, a1_2⟩ : S72) [.int .i64 a1_0, .int .i64 a1_1, .int .i64 a1_2] (fun k_ => k_ ≠ gb360) (fun _ => False) rfl rfl ?aP (fun _ hk => hk.elim) ?aF ?aO ?aB ?aS ?aL ?_; (case aP => exact qz37); (case aB => exact qz1); (case aF => exact qz24); (case aO => exact (rr_ HO_5.out)); (case aS => exact qz43); (case aL => have := LMc13.out; omega); intro v369 w22 ho hb hg hat; rw [← Ny368.out] at ho; replace BK360 := aM (blk_grown (bk_ BK360.out) hg (Kd.R_away HO_5.out (fun _ hk => hk))); replace HB := aM (hb); have HO370 := aM (ho); clear HO_5; clear ho hb hg hat; have p371 : 0 ≤ (x7_1 : Int) := dt_; have q371 : x7_1 < (l0.length : Int) := dt_; obtain ⟨ad371, e371, hx371_0, hx371_1, hx371_2⟩ := at_T72 HR0.out x7_1 p371 q371; cases e371; replace hx371_0 := cB_ hx371_0; replace hx371_1 := cB_ hx371_1; replace hx371_2 := cB_ hx371_2; replace p371 := eq_true p371; replace q371 := eq_true q371; obtain ⟨hcz23_0, hcz23_1, hcz23_2, hfz23_0, hfz23_1, hfz23_2⟩ := b6_ BK360.out; have p372 : 0 ≤ (x7_1 : Int) := dt_; have q372 : x7_1 < (l0.length : Int) := dt_; obtain ⟨ad372, e372, hx372_0, hx372_1, hx372_2⟩ := at_T72 HR0.out x7_1 p372 q372; obtain rfl : ad371 = ad372 := (by injection e372); replace hx372_0 := cB_ hx372_0; replace hx372_1 := cB_ hx372_1; replace hx372_2 := cB_ hx372_2; replace p372 := eq_true p372; replace q372 := eq_true q372) | ((with_reducible refine gate_builtin (b := .append) (xs := #[.tmp 42, .tmp 47]) rfl ?_); at_builtin; refine Kd.R_append k72 (w0 := w) w.heap.size rfl (.tmp 42) (.tmp 47) 77 72 (.agg #[(.int .i64 0), (.int .i64 0), (.int .i64 0)]) 24 rfl Try.underlying77 info72 rfl (by decide) (by omega) v369 y368 (⟨(rd_T72 l0 x7_1).f0, (rd_T72 l0 x7_1).f1, (rd_T72 l0 x7_1).f2⟩ : S72) [.int .i64 ((rd_T72 l0 x7_1).f0), .int .i64 ((rd_T72 l0 x7_1).f1), .int .i64 ((rd_T72 l0 x7_1).f2)] (fun k_ => k_ ≠ gb360) (fun _ => False) rfl rfl ?aP (fun _ hk => hk.elim) ?aF ?aO ?aB ?aS ?aL ?_; (case aP => exact qz30); (case aB => exact qz1); (case aF => exact qz24); (case aO => exact (rr_ HO370.out)); (case aS => exact qz43); (case aL => have := LMc20.out; omega); intro v374 w24 ho hb hg hat; rw [← Ny373.out] at ho; replace BK360 := aM (blk_grown (bk_ BK360.out) hg (Kd.R_away HO370.out (fun _ hk => hk))); replace HB := aM (hb); have HO375 := aM (ho); clear HO370; clear ho hb hg hat)))
     go_roundg kj7
     case measure => have := HK1.out; have := HJ7.out; omega
     case rel => exact ⟨(y373), (true), (wrap64 (x7_1 + 1)), qz6, qz6, H', ⟨by have := HK1.out; have := HJ7.out; omega⟩, ⟨rm_ HO375.out⟩, ⟨bk_ BK360.out⟩, ⟨qz1⟩⟩
     }
     {
     exact an_ c20 H
     }
     }
     }
     {
     exact an_ c15 H
     }
     }
     {
     exact an_ c14 H
     }
     }
     {
     exact an_ c13 H
     }
     }
     {
     replace c12 := Bool.eq_false_iff.mpr c12
     subst c12
     rw [if_neg (show ¬ (false = true) by decide)] at H
     by_cases c25 : 0 ≤ x7_1
     {
     rw [if_pos c25] at H
     have c25b0 := decide_eq_true c25
     clear c25
     by_cases c26 : x7_1 < (l0.length : Int)
     {
     rw [if_pos c26] at H
     have c26b0 := decide_eq_true c26
     clear c26
     by_cases c27 : ((rd_T72 l0 x7_1).f0) = a1_0
     {
     rw [if_pos c27] at H
     have c27b0 := beq_iff_eq.mpr c27
     have c27b1 := bne_eq_false_iff_eq.mpr c27
     clear c27
     have H' := aM H
     clear H
     have p376 : 0 ≤ (x7_1 : Int) := dt_
     have q376 : x7_1 < (l0.length : Int) := dt_
     obtain ⟨ad376, e376, hx376_0, hx376_1, hx376_2⟩ := at_T72 HR0.out x7_1 p376 q376
     cases e376
     replace hx376_0 := cB_ hx376_0
     replace hx376_1 := cB_ hx376_1
     replace hx376_2 := cB_ hx376_2
     replace p376 := eq_true p376
     replace q376 := eq_true q376
     obtain ⟨hcz28_0, hcz28_1, hcz28_2, hfz28_0, hfz28_1, hfz28_2⟩ := b6_ BK360.out
     go_wp2
     repeat (go_quiet (fail); try go_wp2)
     go_roundg kj7
     case measure => have := HK1.out; have := HJ7.out; omega
     case rel => exact ⟨(x5_1), (x6_1), (wrap64 (x7_1 + 1)), qz6, qz6, H', ⟨by have := HK1.out; have := HJ7.out; omega⟩, ⟨rm_ HO_5.out⟩, ⟨bk_ BK360.out⟩, ⟨qz1⟩⟩
     }
     {
     rw [if_neg c27] at H
     have c27b0 := beq_eq_false_iff_ne.mpr c27
     have c27b1 := bne_iff_ne.mpr c27
     by_cases c29 : x5_1.length < 5864062014805
     {
     rw [if_pos c29] at H
     have LMc29 := aM c29
     clear c29
     obtain ⟨y378, hy378⟩ : ∃ y_ : List (S72), y_ = (x5_1 ++ [(⟨(rd_T72 l0 x7_1).f0, (rd_T72 l0 x7_1).f1, (rd_T72 l0 x7_1).f2⟩ : S72)]) := ⟨_, rfl⟩
     replace H : (spec_l5With.l0 kj7 l0 y378 x6_1 (wrap64 (x7_1 + 1)) a1_0 a1_1 a1_2) = some r := by first | (rw [hy378]; with_reducible exact H) | (have H2_ := (Option.bind_some _ _).symm.trans H; rw [hy378]; with_reducible exact H2_) | (have H2_ := (Option.bind_some _ _).symm.trans H; with_reducible exact H2_) | with_reducible exact H | (rw [hy378]; exact H) | exact H
     have Ny378 := aM hy378
     clear hy378
     have H' := aM H
     clear H
     have p376 : 0 ≤ (x7_1 : Int) := dt_
     have q376 : x7_1 < (l0.length : Int) := dt_
     obtain ⟨ad376, e376, hx376_0, hx376_1, hx376_2⟩ := at_T72 HR0.out x7_1 p376 q376
     cases e376
     replace hx376_0 := cB_ hx376_0
     replace hx376_1 := cB_ hx376_1
     replace hx376_2 := cB_ hx376_2
     replace p376 := eq_true p376
     replace q376 := eq_true q376
     obtain ⟨hcz30_0, hcz30_1, hcz30_2, hfz30_0, hfz30_1, hfz30_2⟩ := b6_ BK360.out
     have p377 : 0 ≤ (x7_1 : Int) := dt_
     have q377 : x7_1 < (l0.length : Int) := dt_
     obtain ⟨ad377, e377, hx377_0, hx377_1, hx377_2⟩ := at_T72 HR0.out x7_1 p377 q377
     obtain rfl : ad376 = ad377 := (by injection e377)
     replace hx377_0 := cB_ hx377_0
     replace hx377_1 := cB_ hx377_1
     replace hx377_2 := cB_ hx377_2
     replace p377 := eq_true p377
     replace q377 := eq_true q377
     go_wp2_with (first | ((with_reducible refine gate_builtin (b := .append) (xs := #[.tmp 42, .tmp 47]) rfl ?_); at_builtin; refine Kd.R_append k72 (w0 := w) w.heap.size rfl (.tmp 42) (.tmp 47) 77 72 (.agg #[(.int .i64 0), (.int .i64 0), (.int .i64 0)]) 24 rfl Try.underlying77 info72 rfl (by decide) (by omega) u5 x5_1 (⟨(rd_T72 l0 x7_1).f0, (rd_T72 l0 x7_1).f1, (rd_T72 l0 x7_1).f2⟩ : S72) [.int .i64 ((rd_T72 l0 x7_1).f0), .int .i64 ((rd_T72 l0 x7_1).f1), .int .i64 ((rd_T72 l0 x7_1).f2)] (fun k_ => k_ ≠ gb360) (fun _ => False) rfl rfl ?aP (fun _ hk => hk.elim) ?aF ?aO ?aB ?aS ?aL ?_; (case aP => exact qz30); (case aB => exact qz1); (case aF => exact qz24); (case aO => exact (rr_ HO_5.out)); (case aS => exact qz43); (case aL => have := LMc29.out; omega); intro v379 w31 ho hb hg hat; rw [← Ny378.out] at ho; replace BK360 := aM (blk_grown (bk_ BK360.out) hg (Kd.R_away HO_5.out (fun _ hk => hk))); replace HB := aM (hb); have HO380 := aM (ho); clear HO_5; clear ho hb hg hat))
     repeat (go_quiet (first | ((with_reducible refine gate_builtin (b := .append) (xs := #[.tmp 42, .tmp 47]) rfl ?_); at_builtin; refine Kd.R_append k72 (w0 := w) w.heap.size rfl (.tmp 42) (.tmp 47) 77 72 (.agg #[(.int .i64 0), (.int .i64 0), (.int .i64 0)]) 24 rfl Try.underlying77 info72 rfl (by decide) (by omega) u5 x5_1 (⟨(rd_T72 l0 x7_1).f0, (rd_T72 l0 x7_1).f1, (rd_T72 l0 x7_1).f2⟩ : S72) [.int .i64 ((rd_T72 l0 x7_1).f0), .int .i64 ((rd_T72 l0 x7_1).f1), .int .i64 ((rd_T72 l0 x7_1).f2)] (fun k_ => k_ ≠ gb360) (fun _ => False) rfl rfl ?aP (fun _ hk => hk.elim) ?aF ?aO ?aB ?aS ?aL ?_; (case aP => exact qz30); (case aB => exact qz1); (case aF => exact qz24); (case aO => exact (rr_ HO_5.out)); (case aS => exact qz43); (case aL => have := LMc29.out; omega); intro v379 w31 ho hb hg hat; rw [← Ny378.out] at ho; replace BK360 := aM (blk_grown (bk_ BK360.out) hg (Kd.R_away HO_5.out (fun _ hk => hk))); replace HB := aM (hb); have HO380 := aM (ho); clear HO_5; clear ho hb hg hat)); try go_wp2_with (first | ((with_reducible refine gate_builtin (b := .append) (xs := #[.tmp 42, .tmp 47]) rfl ?_); at_builtin; refine Kd.R_append k72 (w0 := w) w.heap.size rfl (.tmp 42) (.tmp 47) 77 72 (.agg #[(.int .i64 0), (.int .i64 0), (.int .i64 0)]) 24 rfl Try.underlying77 info72 rfl (by decide) (by omega) u5 x5_1 (⟨(rd_T72 l0 x7_1).f0, (rd_T72 l0 x7_1).f1, (rd_T72 l0 x7_1).f2⟩ : S72) [.int .i64 ((rd_T72 l0 x7_1).f0), .int .i64 ((rd_T72 l0 x7_1).f1), .int .i64 ((rd_T72 l0 x7_1).f2)] (fun k_ => k_ ≠ gb360) (fun _ => False) rfl rfl ?aP (fun _ hk => hk.elim) ?aF ?aO ?aB ?aS ?aL ?_; (case aP => exact qz30); (case aB => exact qz1); (case aF => exact qz24); (case aO => exact (rr_ HO_5.out)); (case aS => exact qz43); (case aL => have := LMc29.out; omega); intro v379 w31 ho hb hg hat; rw [← Ny378.out] at ho; replace BK360 := aM (blk_grown (bk_ BK360.out) hg (Kd.R_away HO_5.out (fun _ hk => hk))); replace HB := aM (hb); have HO380 := aM (ho); clear HO_5; clear ho hb hg hat)))
     go_roundg kj7
     case measure => have := HK1.out; have := HJ7.out; omega
     case rel => exact ⟨(y378), (x6_1), (wrap64 (x7_1 + 1)), qz6, qz6, H', ⟨by have := HK1.out; have := HJ7.out; omega⟩, ⟨rm_ HO380.out⟩, ⟨bk_ BK360.out⟩, ⟨qz1⟩⟩
     }
     {
     exact an_ c29 H
     }
     }
     }
     {
     exact an_ c26 H
     }
     }
     {
     exact an_ c25 H
     }
     }
   }
   {
   rw [if_neg c7] at H
   have c7b0 := decide_eq_false c7
   clear c7
   by_cases c32 : x6_1 = true
   {
   subst c32
   rw [if_pos rfl] at H
   obtain rfl := Option.some.inj H
   simp only [Option.some.injEq, Prod.mk.injEq] at H
   obtain ⟨rfl⟩ := H
   go_wp2
   repeat (go_quiet (fail); try go_wp2)
   go_ret
   exact ⟨_, qzw, by (with_reducible repeat (first | apply Kd.R_alloc | apply Kd.R_drewN | apply Kd.R_drew)); exact Kd.R_mono HO_5.out (fun _ hk => trivial), qz1⟩
   }
   {
   replace c32 := Bool.eq_false_iff.mpr c32
   subst c32
   rw [if_neg (show ¬ (false = true) by decide)] at H
   by_cases c33 : x5_1.length < 5864062014805
   {
   rw [if_pos c33] at H
   have LMc33 := aM c33
   clear c33
   obtain ⟨y364, hy364⟩ : ∃ y_ : List (S72), y_ = (x5_1 ++ [(⟨a1_0, a1_1, a1_2⟩ : S72)]) := ⟨_, rfl⟩
   replace H : (some y364) = some r := by first | (rw [hy364]; with_reducible exact H) | (have H2_ := (Option.bind_some _ _).symm.trans H; rw [hy364]; with_reducible exact H2_) | (have H2_ := (Option.bind_some _ _).symm.trans H; with_reducible exact H2_) | with_reducible exact H | (rw [hy364]; exact H) | exact H
   have Ny364 := aM hy364
   clear hy364
   obtain rfl := Option.some.inj H
   simp only [Option.some.injEq, Prod.mk.injEq] at H
   obtain ⟨rfl⟩ := H
   obtain ⟨hcz34_0, hcz34_1, hcz34_2, hfz34_0, hfz34_1, hfz34_2⟩ := b6_ BK360.out
   go_wp2_with (first | ((with_reducible refine gate_builtin (b := .append) (xs := #[.tmp 51, .tmp 53]) rfl ?_); at_builtin; refine Kd.R_append k72 (w0 := w) w.heap.size rfl (.tmp 51) (.tmp 53) 77 72 (.agg #[(.int .i64 0), (.int .i64 0), (.int .i64 0)]) 24 rfl Try.underlying77 info72 rfl (by decide) (by omega) u5 x5_1 (⟨a1_0, a1_1, a1_2⟩ : S72) [.int .i64 a1_0, .int .i64 a1_1, .int .i64 a1_2] (fun k_ => k_ ≠ gb360) (fun _ => False) rfl rfl ?aP (fun _ hk => hk.elim) ?aF ?aO ?aB ?aS ?aL ?_; (case aP => exact qz37); (case aB => exact qz1); (case aF => exact qz24); (case aO => exact (rr_ HO_5.out)); (case aS => exact qz43); (case aL => have := LMc33.out; omega); intro v365 w35 ho hb hg hat; rw [← Ny364.out] at ho; replace BK360 := aM (blk_grown (bk_ BK360.out) hg (Kd.R_away HO_5.out (fun _ hk => hk))); replace HB := aM (hb); have HO366 := aM (ho); clear HO_5; clear ho hb hg hat))
   repeat (go_quiet (first | ((with_reducible refine gate_builtin (b := .append) (xs := #[.tmp 51, .tmp 53]) rfl ?_); at_builtin; refine Kd.R_append k72 (w0 := w) w.heap.size rfl (.tmp 51) (.tmp 53) 77 72 (.agg #[(.int .i64 0), (.int .i64 0), (.int .i64 0)]) 24 rfl Try.underlying77 info72 rfl (by decide) (by omega) u5 x5_1 (⟨a1_0, a1_1, a1_2⟩ : S72) [.int .i64 a1_0, .int .i64 a1_1, .int .i64 a1_2] (fun k_ => k_ ≠ gb360) (fun _ => False) rfl rfl ?aP (fun _ hk => hk.elim) ?aF ?aO ?aB ?aS ?aL ?_; (case aP => exact qz37); (case aB => exact qz1); (case aF => exact qz24); (case aO => exact (rr_ HO_5.out)); (case aS => exact qz43); (case aL => have := LMc33.out; omega); intro v365 w35 ho hb hg hat; rw [← Ny364.out] at ho; replace BK360 := aM (blk_grown (bk_ BK360.out) hg (Kd.R_away HO_5.out (fun _ hk => hk))); replace HB := aM (hb); have HO366 := aM (ho); clear HO_5; clear ho hb hg hat)); try go_wp2_with (first | ((with_reducible refine gate_builtin (b := .append) (xs := #[.tmp 51, .tmp 53]) rfl ?_); at_builtin; refine Kd.R_append k72 (w0 := w) w.heap.size rfl (.tmp 51) (.tmp 53) 77 72 (.agg #[(.int .i64 0), (.int .i64 0), (.int .i64 0)]) 24 rfl Try.underlying77 info72 rfl (by decide) (by omega) u5 x5_1 (⟨a1_0, a1_1, a1_2⟩ : S72) [.int .i64 a1_0, .int .i64 a1_1, .int .i64 a1_2] (fun k_ => k_ ≠ gb360) (fun _ => False) rfl rfl ?aP (fun _ hk => hk.elim) ?aF ?aO ?aB ?aS ?aL ?_; (case aP => exact qz37); (case aB => exact qz1); (case aF => exact qz24); (case aO => exact (rr_ HO_5.out)); (case aS => exact qz43); (case aL => have := LMc33.out; omega); intro v365 w35 ho hb hg hat; rw [← Ny364.out] at ho; replace BK360 := aM (blk_grown (bk_ BK360.out) hg (Kd.R_away HO_5.out (fun _ hk => hk))); replace HB := aM (hb); have HO366 := aM (ho); clear HO_5; clear ho hb hg hat)))
   go_ret
   exact ⟨_, qzw, by (with_reducible repeat (first | apply Kd.R_alloc | apply Kd.R_drewN | apply Kd.R_drew)); exact Kd.R_mono HO366.out (fun _ hk => trivial), qz1⟩
   }
   {
   exact an_ c33 H

   }
   }
   }
/-! ### spec_l5Put: function 63 -/
def spec_l5Put.f (k : Nat) (l : List S79) (a1 : Int) (a2_0 a2_1 a2_2 : Int) : Option (List S79) := (spec_l5Copy.f k l).bind fun o => (if 0 ≤ a1 then (if a1 < (o.length : Int) then ((spec_l5With.f k (rd_T79 o a1).f2 a2_0 a2_1 a2_2).bind fun y => some (o.set a1.toNat ⟨(rd_T79 o a1).f0, (rd_T79 o a1).f1, y⟩)) else none) else none)
theorem spec_l5Put.mono : ∀ a0 a1 a2 a3 a4 k, LeO (spec_l5Put.f k a0 a1 a2 a3 a4) (spec_l5Put.f (k + 1) a0 a1 a2 a3 a4) := by
 intro a0 a1 a2 a3 a4 k
 unfold spec_l5Put.f
 have j0 := @spec_l5Copy.mono
 have j1 := @spec_l5With.mono
 exact qL
def spec_l5Put.T2 : Bool × List (List Nat × List Nat) := (true, [([], []), ([0], [0]), ([], []), ([], []), ([3], [3]), ([], []), ([4, 5], [4, 5]), ([6], [6]), ([7], [7]), ([], []), ([8, 9], [8, 9]), ([1, 2, 0, 1, 2, 3, 4, 5, 6, 7, 8, 9, 10], [1, 2]), ([11, 0, 1, 2, 3, 4, 5, 6, 7, 8, 9, 10], [11]), ([12, 10, 10, 0, 1, 2, 3, 4, 5, 6, 7, 8, 9, 10], [10, 12])])
def spec_l5Put.B2 : List Nat := [0, 1, 0, 0, 8, 0, 56, 120, 248, 0, 1016, 2047, 4095, 8191]
theorem spec_l5Put.tab2 : rtab .any (opsOf Try.f63 2) = spec_l5Put.T2 := by kernel_rfl
theorem spec_l5Put.bits2 : waitsOk spec_l5Put.T2.2 spec_l5Put.B2 = true := by kernel_rfl
set_option maxHeartbeats 8000000 in
set_option maxRecDepth 100000 in
theorem spec_l5Put.calls (k : Nat) (A0_0 : Option Addr) (c0_0 : Nat) (l0_0 : List (S79)) (a1 : Int) (a2_0 : Int) (a2_1 : Int) (a2_2 : Int) (r : List (S79)) (w : World) (hr0_0 : Kd.C k79 w A0_0 l0_0.length l0_0) (hc0_0 : l0_0.length ≤ c0_0) (h : spec_l5Put.f k l0_0 a1 a2_0 a2_1 a2_2 = some r) :
  Calls Try.prog 63 #[.agg #[.slice A0_0 l0_0.length c0_0], .int .i64 a1, .agg #[.int .i64 a2_0, .int .i64 a2_1, .int .i64 a2_2]] w fun e w' => ∃ v0_ : Value, e = .returned (.agg #[v0_]) ∧ Kd.S k79 79 w' w.heap.size (fun _ => True) v0_ r ∧ Below w.heap.size w w' := by
 have hu26 := Try.underlying26
 have hu79 := Try.underlying79
 have hu72 := Try.underlying72
 have hu24 := Try.underlying24
 have hu77 := Try.underlying77
 unfold spec_l5Put.f at h
 obtain ⟨o, ho, h⟩ := Option.bind_eq_some_iff.mp h
 have ci0 : 0 ≤ a1 := Decidable.byContradiction fun hn => by rw [if_neg hn] at h; cases h
 have ci1 : a1 < (o.length : Int) := Decidable.byContradiction fun hn => by rw [if_pos ci0, if_neg hn] at h; cases h
 rw [if_pos ci0, if_pos ci1] at h
 obtain ⟨y, hy, h⟩ := Option.bind_eq_some_iff.mp h
 obtain rfl : _ = r := Option.some.inj h
 have Ho := aM ho
 have Hy := aM hy
 have HR := aM hr0_0
 have HC := aM hc0_0
 clear ho hy h hr0_0 hc0_0
 go_enter Try.func63, Try.ntmps63
 go_wp2_with (first
  | (go_at_call 62; refine (spec_l5Copy.calls k _ _ l0_0 o _ (Kd.C_alloc (Kd.C_alloc (Kd.C_alloc HR.out _) _) _) HC.out Ho.out).mono ?_; rintro e w1 ⟨v0, rfl, hS, hb⟩; obtain ⟨Ao, co, rfl⟩ := Kd.S_slice hS; have B5 := aM (blk_below (blk_alloc (blk_new1 w (.cells #[.slice A0_0 l0_0.length c0_0] 26) (.cells #[.int .i64 a2_0, .int .i64 a2_1, .int .i64 a2_2] 72)) (.cells #[.slice none 0 0] 26)) hb); have B6 := aM (blk_below (blk_new2 w (.cells #[.slice A0_0 l0_0.length c0_0] 26) (.cells #[.int .i64 a2_0, .int .i64 a2_1, .int .i64 a2_2] 72) (.cells #[.slice none 0 0] 26)) hb); have HB1 := aM (below_step (below_alloc (below_alloc (below_alloc (Below.refl w.heap.size w) _) _) _) hb); have HS := aM (show Kd.S k79 79 w1 (w.heap.size + 3) (fun k => k < w1.heap.size) (.slice Ao o.length co) o by refine Kd.S_mono (Kd.S_bound (ok := fun _ => True) ?_) (fun _ hk => hk.2.2.1); rw [show w.heap.size + 3 = (((w.alloc (.cells #[.slice A0_0 l0_0.length c0_0] 26)).alloc (.cells #[.int .i64 a2_0, .int .i64 a2_1, .int .i64 a2_2] 72)).alloc (.cells #[.slice none 0 0] 26)).heap.size by simp]; exact hS); have L6 := aM (blk_lt B6.out); clear hb hS))
 have hS := Kd.S_alloc HS.out (.cells #[.slice Ao o.length co] 26)
 have B7 := blk_new w1 (.cells #[.slice Ao o.length co] 26)
 replace B5 := blk_alloc B5.out (.cells #[.slice Ao o.length co] 26)
 replace B6 := blk_alloc B6.out (.cells #[.slice Ao o.length co] 26)
 have HB2 := below_alloc HB1.out (.cells #[.slice Ao o.length co] 26)
 clear HS HB1
 generalize w1.alloc (.cells #[.slice Ao o.length co] 26) = w2 at hS B5 B6 B7 HB2 ⊢
 obtain ⟨g, oki, A2, c2, e, hgb, hgl, x0, x1, x2, f0, f1, f2, hR2, hoki, hn, hH⟩ := S79_at hS a1 ci0 ci1
 cases e
 clear x0 x1 f0 f1 f2 hoki hH
 have HRr := aM (Kd.R_reads' hR2)
 have HGW := (Kd.S_R hS).1 g rfl
 have C7 : w2.cell? ⟨w1.heap.size, 0, none⟩ = some (.slice (some ⟨g, 0, none⟩) o.length co) := (blk_cell B7 0).trans rfl
 have C50 : w2.cell? ⟨w.heap.size + 1, 0, none⟩ = some (.int .i64 a2_0) := (blk_cell B5 0).trans rfl
 have C51 : w2.cell? ⟨w.heap.size + 1, 1, none⟩ = some (.int .i64 a2_1) := (blk_cell B5 1).trans rfl
 have C52 : w2.cell? ⟨w.heap.size + 1, 2, none⟩ = some (.int .i64 a2_2) := (blk_cell B5 2).trans rfl
 have p8 := eq_true ci0
 have q8 := eq_true ci1
 clear hR2
 refine start_ (n := 14) (S := fun w' => w'.cell? ⟨w1.heap.size, 0, none⟩ = some (.slice (some ⟨g, 0, none⟩) o.length co) ∧ w'.cell? ⟨w.heap.size + 1, 0, none⟩ = some (.int .i64 a2_0) ∧ w'.cell? ⟨w.heap.size + 1, 1, none⟩ = some (.int .i64 a2_1) ∧ w'.cell? ⟨w.heap.size + 1, 2, none⟩ = some (.int .i64 a2_2) ∧ w'.cell? ⟨g, a1.toNat * 3 + 2, none⟩ = some (.slice A2 (rd_T79 o a1).f2.length c2)) (ds := [13]) #[false, false, false, false, false, false, false, false, false, false, false, false, false, false] (by kernel_rfl) rfl rfl ⟨C7, C50, C51, C52, x2⟩ (fun hHeld => ?_); refine with_tabW spec_l5Put.tab2 spec_l5Put.bits2 (fun HT_ HW_ => ?_)
 refine pI_ 0 10 (bqz 14 1) ?_
 refine jI_ 2 12 ?_
 refine jI_ 3 13 ?_
 refine jI_ 5 15 ?_
 refine sI5_ 1 11 ?_
 refine sI5_ 4 14 ?_
 refine jI_ 6 16 ?_
 refine jI_ 7 17 ?_
 refine sI5_ 8 18 ?_
 refine sI5_ 9 19 ?_
 refine one_ (i := 10) (N := some 20) (bqz 14 2047) rfl rfl qzc (by decide) (fun K hK => ?_)
 refine goes_ Try.func95 (by kernel_rfl) rfl #[.slice A2 (rd_T79 o a1).f2.length c2, .agg #[.int .i64 a2_0, .int .i64 a2_1, .int .i64 a2_2]] (by rfl) rfl rfl qz41 ?_
 refine (spec_l5With.calls k _ _ (rd_T79 o a1).f2 a2_0 a2_1 a2_2 y _ (Kd.C_drew HRr.out.2.2) HRr.out.2.1 Hy.out).mono ?_
 rintro e w3 ⟨v0, rfl, ho8, hb⟩; obtain ⟨A8, c8, rfl⟩ := Kd.R_slice ho8
 refine ⟨_, rfl, ?_⟩
 refine hK.out _ _ ⟨pw_cell_below hb hHeld.1, pw_cell_below hb hHeld.2.1, pw_cell_below hb hHeld.2.2.1, pw_cell_below hb hHeld.2.2.2.1, pw_cell_below hb hHeld.2.2.2.2⟩ (fun hHeld => ?_)
 clear hK K
 refine nm_ 20 ?_
 refine jI_ 11 21 ?_
 refine jI_ 12 22 ?_
 have hbz : Below w2.heap.size w2 w3 := below_then (below_drew (Below.refl _ _)) (Nat.le_refl _) hb
 have hS8 := Kd.S_below (Kd.S_mono (Kd.S_bound hS) (ok' := fun k => k < w2.heap.size) (fun k hk => hk.2.2.1)) hbz
 obtain ⟨g', oki', A2', c2', e', hgb', hgl', q0, q1, q2, f0, f1, f2, -, -, -, -⟩ := S79_at hS8 a1 ci0 ci1
 injection e' with e'; injection e' with e'; subst e'
 clear q0 q1 f0 f1
 refine last_ (i := 13) (N := none) (bqz 14 16383) rfl rfl qzc (by decide) (fun K hK => ?_)
 refine sk_ ?_
 refine hK.out _ _ ?_
 clear hK K
 refine done_ (done_of HT_.out (by kernel_rfl)) ?_
 have hP := S79_row hS8 (fun k hk hlt => Nat.lt_irrefl _ (Nat.lt_of_lt_of_le hlt hk)) ho8 (show w.heap.size + 3 ≤ w2.heap.size by have := L6.out; have := hgl; omega) a1 ci0 ci1 hgl
 replace HB2 := below_step HB2 hbz
 replace B6 := blk_below B6 hbz
 replace C7 := pw_cell_below hbz C7
 have C6 : w3.cell? ⟨w.heap.size + 1 + 1, 0, none⟩ = some (.slice none 0 0) := (blk_cell B6 0).trans rfl
 have F6 := blk_frozen B6 0
 have hl6 := L6.out
 have n1 : g ≠ w.heap.size + 1 + 1 := by omega
 have n2 : w.heap.size + 1 + 1 ≠ g := by omega
 have n3 : g < w1.heap.size := HGW
 have n4 : g ≠ w1.heap.size := Nat.ne_of_lt n3
 have n5 : w1.heap.size ≠ g := Nat.ne_of_gt n3
 clear hHeld q2 x2 C50 C51 C52 hS hS8 HGW
 go_wp2
 refine bodyPost_ret (results_cell_row rfl _ _ (w.heap.size + 1 + 1) 26 #[.slice (some ⟨g, 0, none⟩) o.length co] (0, 0) _ rfl (blk_put (cs := #[.slice none 0 0]) (blk_far B6 n2 _) 0 _ rfl) Try.underlying26 rfl (by kernel_rfl)) rfl ?_
 exact ⟨_, rfl, Kd.S_mono (ok' := fun _ => True) (Kd.S_lower (S_box hP.1 (show w.heap.size + 1 + 1 < w.heap.size + 3 by omega) (.slice (some ⟨g, 0, none⟩) o.length co)) (show w.heap.size ≤ w.heap.size + 3 by omega)) (fun _ _ => trivial), below_set (below_set HB2 (by omega)) (by omega)⟩

/-! ### spec_PutIn: function 26 -/
def spec_PutIn.f (k : Nat) (l0_0 : List (S79)) (a1 : Int) (a2 : Int) (a3 : Int) : Option ((List (S79)) × Int) := (spec_l5Call.f k l0_0 a1 a2 a3).bind fun q => if q.2.2.2.2 = 0 then (if wrap64 (q.2.2.1 + a3) > 1000 then ((spec_l5Copy.f k l0_0).bind fun t => some (t, 4)) else (if q.2.2.1 = 0 then (if 0 ≤ q.1 then (if q.1 < (l0_0.length : Int) then (if ((rd_T79 l0_0 q.1).f2.length : Int) = 8 then ((spec_l5Copy.f k l0_0).bind fun t => some (t, 4)) else ((spec_l5Put.f k l0_0 q.1 q.2.1 (wrap64 (q.2.2.1 + a3)) q.2.2.2.1).bind fun t => some (t, 0))) else none) else none) else ((spec_l5Put.f k l0_0 q.1 q.2.1 (wrap64 (q.2.2.1 + a3)) q.2.2.2.1).bind fun t => some (t, 0)))) else ((spec_l5Copy.f k l0_0).bind fun t => some (t, q.2.2.2.2))
theorem spec_PutIn.mono : ∀ a0 a1 a2 a3 k, LeO (spec_PutIn.f k a0 a1 a2 a3) (spec_PutIn.f (k + 1) a0 a1 a2 a3) := by
 intro a0 a1 a2 a3 k
 unfold spec_PutIn.f
 have j0 := @spec_l5Call.mono
 have j1 := @spec_l5Copy.mono
 have j2 := @spec_l5Put.mono
 exact qL
set_option maxHeartbeats 8000000 in
set_option maxRecDepth 100000 in
theorem spec_PutIn.calls (k : Nat) (A0_0 : Option Addr) (c0_0 : Nat) (l0_0 : List (S79)) (a1 : Int) (a2 : Int) (a3 : Int) (r1 : List (S79)) (r2 : Int) (w : World) (hr0_0 : Kd.C k79 w A0_0 l0_0.length l0_0) (hc0_0 : l0_0.length ≤ c0_0) (h : spec_PutIn.f k l0_0 a1 a2 a3 = some (r1, r2)) :
  Calls Try.prog 26 #[.agg #[.slice A0_0 l0_0.length c0_0], .int .i64 a1, .int .i64 a2, .int .i64 a3] w fun e w' => ∃ v0_ : Value, e = .returned (.tuple #[.agg #[v0_], .int .i64 r2]) ∧ Kd.S k79 79 w' w.heap.size (fun _ => True) v0_ r1 ∧ Below w.heap.size w w' := by
 have hu26 := Try.underlying26
 have hu72 := Try.underlying72
 have hu24 := Try.underlying24
 have hu79 := Try.underlying79
 unfold spec_PutIn.f at h
 obtain ⟨⟨t1, t2, t3, t4, t5⟩, hq, h⟩ := Option.bind_eq_some_iff.mp h
 have Hq := aM hq
 have HR := aM hr0_0
 have HC := aM hc0_0
 clear hq hr0_0 hc0_0
 dsimp only at h
 have hu77 := Try.underlying77
 by_cases c1 : t5 = 0
 {
 subst c1
 rw [if_pos rfl] at h
 by_cases c2 : wrap64 (t3 + a3) > 1000
 {
 rw [if_pos c2] at h
 have c2b := decide_eq_true c2
 obtain ⟨t6, h6, h⟩ := Option.bind_eq_some_iff.mp h
 have H6 := aM h6
 obtain ⟨rfl, rfl⟩ : t6 = r1 ∧ 4 = r2 := by simpa using h
 clear h h6 c2
 go_enter Try.func26, Try.ntmps26
 go_wp2_with (first
  | (go_at_call 61; refine (spec_l5Call.calls k _ _ l0_0 a1 a2 a3 t1 t2 t3 t4 0 _ (Kd.C_alloc (Kd.C_alloc HR.out _) _) HC.out Hq.out).mono ?_; rintro e w1 ⟨rfl, hb⟩; have B4 := aM (blk_below (blk_alloc (blk_new w (.cells #[.slice A0_0 l0_0.length c0_0] 26)) (.cells #[.slice none 0 0] 26)) hb); have B8 := aM (blk_below (blk_new1 w (.cells #[.slice A0_0 l0_0.length c0_0] 26) (.cells #[.slice none 0 0] 26)) hb); have HB1 := aM (below_step (below_alloc (below_alloc (Below.refl w.heap.size w) _) _) hb); have C4 : w1.cell? ⟨w.heap.size, 0, none⟩ = some (.slice A0_0 l0_0.length c0_0) := (blk_cell B4.out 0).trans rfl; have L4 := blk_lt B4.out; have L8 := blk_lt B8.out; have N8 := Nat.ne_of_lt L8; have N8' := Nat.ne_of_gt L8; have N4 := Nat.ne_of_lt L4; have N4' := Nat.ne_of_gt L4; clear hb)
  | (go_at_call 62; refine (spec_l5Copy.calls k _ _ l0_0 t6 _ (Kd.C_below HR.out (below_alloc HB1.out _)) HC.out H6.out).mono ?_; rintro e w2 ⟨v0, rfl, hS, hb⟩; obtain ⟨Ac, cc, rfl⟩ := Kd.S_slice hS; replace B8 := aM (blk_below (blk_alloc B8.out _) hb); have HB2 := aM (below_step (below_alloc HB1.out _) hb); have HS := aM (show Kd.S k79 79 w2 (w.heap.size + 2) (fun _ => True) (.slice Ac t6.length cc) t6 from Kd.S_lower hS (by rw [World.size_alloc]; omega)); have C8 : w2.cell? ⟨w.heap.size + 1, 0, none⟩ = some (.slice none 0 0) := (blk_cell B8.out 0).trans rfl; have F8 := blk_frozen B8.out 0; clear hb hS C4))
 refine bodyPost_ret (results_ct rfl _ _ (w.heap.size + 1) 26 #[.slice Ac t6.length cc] (0, 0) _ rfl (blk_put (cs := #[.slice none 0 0]) B8.out 0 _ rfl) Try.underlying26 rfl (by kernel_rfl)) rfl ?_
 exact ⟨_, rfl, Kd.S_lower (S_box HS.out (show w.heap.size + 1 < w.heap.size + 2 by omega) _) (by omega), below_set HB2.out (by omega)⟩
 }
 {
 rw [if_neg c2] at h
 have c2b := decide_eq_false c2
 by_cases c3 : t3 = 0
 {
 rw [if_pos c3] at h
 have c3b : (t3 == 0) = true := by simpa using c3
 have ci0 : 0 ≤ t1 := Decidable.byContradiction fun hn => by rw [if_neg hn] at h; cases h
 have ci1 : t1 < (l0_0.length : Int) := Decidable.byContradiction fun hn => by rw [if_pos ci0, if_neg hn] at h; cases h
 rw [if_pos ci0, if_pos ci1] at h
 obtain ⟨ad, A2, cq, e, x0, x1, x2, hl2, hi2⟩ := at_T79 HR.out t1 ci0 ci1
 subst e
 clear hl2 hi2 x0 x1 c2 c3
 have p8 := eq_true ci0
 have q8 := eq_true ci1
 by_cases c4 : ((rd_T79 l0_0 t1).f2.length : Int) = 8
 {
 rw [if_pos c4] at h
 have c4b : (((rd_T79 l0_0 t1).f2.length : Int) == 8) = true := by simpa using c4
 obtain ⟨t6, h6, h⟩ := Option.bind_eq_some_iff.mp h
 have H6 := aM h6
 obtain ⟨rfl, rfl⟩ : t6 = r1 ∧ 4 = r2 := by simpa using h
 clear h h6 c4
 go_enter Try.func26, Try.ntmps26
 go_wp2_with (first
  | (go_at_call 61; refine (spec_l5Call.calls k _ _ l0_0 a1 a2 a3 t1 t2 t3 t4 0 _ (Kd.C_alloc (Kd.C_alloc HR.out _) _) HC.out Hq.out).mono ?_; rintro e w1 ⟨rfl, hb⟩; have B4 := aM (blk_below (blk_alloc (blk_new w (.cells #[.slice (some ad) l0_0.length c0_0] 26)) (.cells #[.slice none 0 0] 26)) hb); have B8 := aM (blk_below (blk_new1 w (.cells #[.slice (some ad) l0_0.length c0_0] 26) (.cells #[.slice none 0 0] 26)) hb); have HB1 := aM (below_step (below_alloc (below_alloc (Below.refl w.heap.size w) _) _) hb); have C4 : w1.cell? ⟨w.heap.size, 0, none⟩ = some (.slice (some ad) l0_0.length c0_0) := (blk_cell B4.out 0).trans rfl; have L4 := blk_lt B4.out; have L8 := blk_lt B8.out; have N8 := Nat.ne_of_lt L8; have N8' := Nat.ne_of_gt L8; have N4 := Nat.ne_of_lt L4; have N4' := Nat.ne_of_gt L4; replace x2 := pw_cell_below HB1.out x2; have Lx := World.block_lt_of_cell? _ _ x2; clear hb)
  | (go_at_call 62; refine (spec_l5Copy.calls k _ _ l0_0 t6 _ (Kd.C_below HR.out (below_alloc HB1.out _)) HC.out H6.out).mono ?_; rintro e w2 ⟨v0, rfl, hS, hb⟩; obtain ⟨Ac, cc, rfl⟩ := Kd.S_slice hS; replace B8 := aM (blk_below (blk_alloc B8.out _) hb); have HB2 := aM (below_step (below_alloc HB1.out _) hb); have HS := aM (show Kd.S k79 79 w2 (w.heap.size + 2) (fun _ => True) (.slice Ac t6.length cc) t6 from Kd.S_lower hS (by rw [World.size_alloc]; omega)); have C8 : w2.cell? ⟨w.heap.size + 1, 0, none⟩ = some (.slice none 0 0) := (blk_cell B8.out 0).trans rfl; have F8 := blk_frozen B8.out 0; clear hb hS C4 x2 Lx))
 refine bodyPost_ret (results_ct rfl _ _ (w.heap.size + 1) 26 #[.slice Ac t6.length cc] (0, 0) _ rfl (blk_put (cs := #[.slice none 0 0]) B8.out 0 _ rfl) Try.underlying26 rfl (by kernel_rfl)) rfl ?_
 exact ⟨_, rfl, Kd.S_lower (S_box HS.out (show w.heap.size + 1 < w.heap.size + 2 by omega) _) (by omega), below_set HB2.out (by omega)⟩
 }
 {
 rw [if_neg c4] at h
 have c4b : (((rd_T79 l0_0 t1).f2.length : Int) == 8) = false := by simpa using c4
 obtain ⟨t6, h6, h⟩ := Option.bind_eq_some_iff.mp h
 have H6 := aM h6
 obtain ⟨rfl, rfl⟩ : t6 = r1 ∧ 0 = r2 := by simpa using h
 clear h h6 c4
 go_enter Try.func26, Try.ntmps26
 go_wp2_with (first
  | (go_at_call 61; refine (spec_l5Call.calls k _ _ l0_0 a1 a2 a3 t1 t2 t3 t4 0 _ (Kd.C_alloc (Kd.C_alloc HR.out _) _) HC.out Hq.out).mono ?_; rintro e w1 ⟨rfl, hb⟩; have B4 := aM (blk_below (blk_alloc (blk_new w (.cells #[.slice (some ad) l0_0.length c0_0] 26)) (.cells #[.slice none 0 0] 26)) hb); have B8 := aM (blk_below (blk_new1 w (.cells #[.slice (some ad) l0_0.length c0_0] 26) (.cells #[.slice none 0 0] 26)) hb); have HB1 := aM (below_step (below_alloc (below_alloc (Below.refl w.heap.size w) _) _) hb); have C4 : w1.cell? ⟨w.heap.size, 0, none⟩ = some (.slice (some ad) l0_0.length c0_0) := (blk_cell B4.out 0).trans rfl; have L4 := blk_lt B4.out; have L8 := blk_lt B8.out; have N8 := Nat.ne_of_lt L8; have N8' := Nat.ne_of_gt L8; have N4 := Nat.ne_of_lt L4; have N4' := Nat.ne_of_gt L4; replace x2 := pw_cell_below HB1.out x2; have Lx := World.block_lt_of_cell? _ _ x2; clear hb)
  | (go_at_call 63; refine (spec_l5Put.calls k _ _ l0_0 t1 t2 (wrap64 (t3 + a3)) t4 t6 _ (Kd.C_below HR.out (below_alloc HB1.out _)) HC.out H6.out).mono ?_; rintro e w2 ⟨v0, rfl, hS, hb⟩; obtain ⟨Ac, cc, rfl⟩ := Kd.S_slice hS; replace B8 := aM (blk_below (blk_alloc B8.out _) hb); have HB2 := aM (below_step (below_alloc HB1.out _) hb); have HS := aM (show Kd.S k79 79 w2 (w.heap.size + 2) (fun _ => True) (.slice Ac t6.length cc) t6 from Kd.S_lower hS (by simp only [World.size_setCell, World.size_alloc]; omega)); have C8 : w2.cell? ⟨w.heap.size + 1, 0, none⟩ = some (.slice none 0 0) := (blk_cell B8.out 0).trans rfl; have F8 := blk_frozen B8.out 0; clear hb hS C4 x2 Lx))
 refine bodyPost_ret (results_ct rfl _ _ (w.heap.size + 1) 26 #[.slice Ac t6.length cc] (0, 0) _ rfl (blk_put (cs := #[.slice none 0 0]) B8.out 0 _ rfl) Try.underlying26 rfl (by kernel_rfl)) rfl ?_
 exact ⟨_, rfl, Kd.S_lower (S_box HS.out (show w.heap.size + 1 < w.heap.size + 2 by omega) _) (by omega), below_set HB2.out (by omega)⟩
 }
 }
 {
 rw [if_neg c3] at h
 have c3b : (t3 == 0) = false := by simpa using c3
 obtain ⟨t6, h6, h⟩ := Option.bind_eq_some_iff.mp h
 have H6 := aM h6
 obtain ⟨rfl, rfl⟩ : t6 = r1 ∧ 0 = r2 := by simpa using h
 clear h h6 c2 c3
 go_enter Try.func26, Try.ntmps26
 go_wp2_with (first
  | (go_at_call 61; refine (spec_l5Call.calls k _ _ l0_0 a1 a2 a3 t1 t2 t3 t4 0 _ (Kd.C_alloc (Kd.C_alloc HR.out _) _) HC.out Hq.out).mono ?_; rintro e w1 ⟨rfl, hb⟩; have B4 := aM (blk_below (blk_alloc (blk_new w (.cells #[.slice A0_0 l0_0.length c0_0] 26)) (.cells #[.slice none 0 0] 26)) hb); have B8 := aM (blk_below (blk_new1 w (.cells #[.slice A0_0 l0_0.length c0_0] 26) (.cells #[.slice none 0 0] 26)) hb); have HB1 := aM (below_step (below_alloc (below_alloc (Below.refl w.heap.size w) _) _) hb); have C4 : w1.cell? ⟨w.heap.size, 0, none⟩ = some (.slice A0_0 l0_0.length c0_0) := (blk_cell B4.out 0).trans rfl; have L4 := blk_lt B4.out; have L8 := blk_lt B8.out; have N8 := Nat.ne_of_lt L8; have N8' := Nat.ne_of_gt L8; have N4 := Nat.ne_of_lt L4; have N4' := Nat.ne_of_gt L4; clear hb)
  | (go_at_call 63; refine (spec_l5Put.calls k _ _ l0_0 t1 t2 (wrap64 (t3 + a3)) t4 t6 _ (Kd.C_below HR.out (below_alloc HB1.out _)) HC.out H6.out).mono ?_; rintro e w2 ⟨v0, rfl, hS, hb⟩; obtain ⟨Ac, cc, rfl⟩ := Kd.S_slice hS; replace B8 := aM (blk_below (blk_alloc B8.out _) hb); have HB2 := aM (below_step (below_alloc HB1.out _) hb); have HS := aM (show Kd.S k79 79 w2 (w.heap.size + 2) (fun _ => True) (.slice Ac t6.length cc) t6 from Kd.S_lower hS (by simp only [World.size_setCell, World.size_alloc]; omega)); have C8 : w2.cell? ⟨w.heap.size + 1, 0, none⟩ = some (.slice none 0 0) := (blk_cell B8.out 0).trans rfl; have F8 := blk_frozen B8.out 0; clear hb hS C4))
 refine bodyPost_ret (results_ct rfl _ _ (w.heap.size + 1) 26 #[.slice Ac t6.length cc] (0, 0) _ rfl (blk_put (cs := #[.slice none 0 0]) B8.out 0 _ rfl) Try.underlying26 rfl (by kernel_rfl)) rfl ?_
 exact ⟨_, rfl, Kd.S_lower (S_box HS.out (show w.heap.size + 1 < w.heap.size + 2 by omega) _) (by omega), below_set HB2.out (by omega)⟩
 }
 }
 }
 {
 rw [if_neg c1] at h
 have c1b : (t5 != 0) = true := by simpa using c1
 obtain ⟨t6, h6, h⟩ := Option.bind_eq_some_iff.mp h
 have H6 := aM h6
 obtain ⟨rfl, rfl⟩ : t6 = r1 ∧ t5 = r2 := by simpa using h
 clear h h6 c1
 go_enter Try.func26, Try.ntmps26
 go_wp2_with (first
  | (go_at_call 61; refine (spec_l5Call.calls k _ _ l0_0 a1 a2 a3 t1 t2 t3 t4 t5 _ (Kd.C_alloc (Kd.C_alloc HR.out _) _) HC.out Hq.out).mono ?_; rintro e w1 ⟨rfl, hb⟩; have B4 := aM (blk_below (blk_alloc (blk_new w (.cells #[.slice A0_0 l0_0.length c0_0] 26)) (.cells #[.slice none 0 0] 26)) hb); have B8 := aM (blk_below (blk_new1 w (.cells #[.slice A0_0 l0_0.length c0_0] 26) (.cells #[.slice none 0 0] 26)) hb); have HB1 := aM (below_step (below_alloc (below_alloc (Below.refl w.heap.size w) _) _) hb); have C4 : w1.cell? ⟨w.heap.size, 0, none⟩ = some (.slice A0_0 l0_0.length c0_0) := (blk_cell B4.out 0).trans rfl; have L4 := blk_lt B4.out; have L8 := blk_lt B8.out; have N8 := Nat.ne_of_lt L8; have N8' := Nat.ne_of_gt L8; have N4 := Nat.ne_of_lt L4; have N4' := Nat.ne_of_gt L4; clear hb)
  | (go_at_call 62; refine (spec_l5Copy.calls k _ _ l0_0 t6 _ (Kd.C_below HR.out (below_alloc HB1.out _)) HC.out H6.out).mono ?_; rintro e w2 ⟨v0, rfl, hS, hb⟩; obtain ⟨Ac, cc, rfl⟩ := Kd.S_slice hS; replace B8 := aM (blk_below (blk_alloc B8.out _) hb); have HB2 := aM (below_step (below_alloc HB1.out _) hb); have HS := aM (show Kd.S k79 79 w2 (w.heap.size + 2) (fun _ => True) (.slice Ac t6.length cc) t6 from Kd.S_lower hS (by rw [World.size_alloc]; omega)); have C8 : w2.cell? ⟨w.heap.size + 1, 0, none⟩ = some (.slice none 0 0) := (blk_cell B8.out 0).trans rfl; have F8 := blk_frozen B8.out 0; clear hb hS C4))
 refine bodyPost_ret (results_ct rfl _ _ (w.heap.size + 1) 26 #[.slice Ac t6.length cc] (0, 0) _ rfl (blk_put (cs := #[.slice none 0 0]) B8.out 0 _ rfl) Try.underlying26 rfl (by kernel_rfl)) rfl ?_
 exact ⟨_, rfl, Kd.S_lower (S_box HS.out (show w.heap.size + 1 < w.heap.size + 2 by omega) _) (by omega), below_set HB2.out (by omega)⟩

 }
/-! ### impl_Release: function 20 -/
def impl_Release.f (k : Nat) (l0_0 : List (S79)) (a1 : Int) (a2 : Int) (a3 : Int) : Option ((List (S79)) × Int) := (impl_in.f a3 1 1000).bind fun t383 => (if t383 = true then ((impl_held.f k l0_0 a1 a2 a3 (wrap64 (-a3))).bind fun bt384 => (some (bt384.1, bt384.2))) else ((impl_copyStock.f k l0_0).bind fun t388 => (some (t388, 1))))
theorem impl_Release.mono : ∀ a0 a1 a2 a3 k, LeO (impl_Release.f k a0 a1 a2 a3) (impl_Release.f (k + 1) a0 a1 a2 a3) := by
 intro a0 a1 a2 a3 k
 unfold impl_Release.f
 have j0 := @impl_copyStock.mono
 have j1 := @impl_held.mono
 exact qL
set_option maxHeartbeats 8000000 in
set_option maxRecDepth 100000 in
theorem impl_Release.calls (k : Nat) (A0_0 : Option Addr) (c0_0 : Nat) (l0_0 : List (S79)) (a1 : Int) (a2 : Int) (a3 : Int) (r1 : List (S79)) (r2 : Int) (w : World) (hr0_0 : Kd.C k79 w A0_0 l0_0.length l0_0) (hc0_0 : l0_0.length ≤ c0_0) (h : impl_Release.f k l0_0 a1 a2 a3 = some (r1, r2)) :
  Calls Try.prog 20 #[.agg #[.slice A0_0 l0_0.length c0_0], .int .i64 a1, .int .i64 a2, .int .i64 a3] w fun e w' => ∃ v0_ : Value, e = .returned (.tuple #[.agg #[v0_], .int .i64 r2]) ∧ Kd.S k79 79 w' w.heap.size (fun _ => True) v0_ r1 ∧ Below w.heap.size w w' := by
 have hu26 := Try.underlying26
 have HR0_0 := aM hr0_0
 have HC0_0 := aM hc0_0
 clear hr0_0 hc0_0
 have HB := aM (Below.refl w.heap.size w)
 have H : ((impl_in.f a3 1 1000).bind fun t383 => (if t383 = true then ((impl_held.f k l0_0 a1 a2 a3 (wrap64 (-a3))).bind fun bt384 => (some (bt384.1, bt384.2))) else ((impl_copyStock.f k l0_0).bind fun t388 => (some (t388, 1))))) = some (r1, r2) := h
 clear h
 replace H := Option.bind_eq_some_iff.mp H
 obtain ⟨t383, A50, H⟩ := H
 replace H : (if t383 = true then ((impl_held.f k l0_0 a1 a2 a3 (wrap64 (-a3))).bind fun bt384 => (some (bt384.1, bt384.2))) else ((impl_copyStock.f k l0_0).bind fun t388 => (some (t388, 1)))) = some (r1, r2) := H
 have A5 := aM A50
 clear A50
 by_cases c6 : t383 = true
 {
 subst c6
 rw [if_pos rfl] at H
 replace H := Option.bind_eq_some_iff.mp H
 obtain ⟨⟨t384, t387⟩, A70, H⟩ := H
 replace H : (some (t384, t387)) = some (r1, r2) := H
 have A7 := aM A70
 clear A70
 simp only [Option.some.injEq, Prod.mk.injEq] at H
 obtain ⟨rfl, rfl⟩ := H
 go_enter Try.func20, Try.ntmps20
 go_wp2_with (first | ((with_reducible refine gate_dst (N := 4) rfl ?_); refine bx_ 4 #[.slice A0_0 l0_0.length c0_0] 26 ?_; intro gb381 hg w8 hbox hb; have BK381 := aM (hbox); have GW381 := aM (bz_ w hg qz1); have GE381 := GW381; replace HB := bS_ hb; clear hb hbox hg) | ((with_reducible refine gate_dst (N := 8) rfl ?_); refine bx_ 8 #[.slice none 0 0] 26 ?_; intro gb382 hg w9 hbox hb; have BK382 := aM (hbox); have GW382 := aM (bz_ w hg qz1); have GE382 := GW382; replace HB := bS_ hb; obtain ⟨NB381_382, NB382_381⟩ := nb_ hg (bk_ BK381.out); replace BK381 := bB_ BK381 hb; clear hb hbox hg) | ((with_reducible refine gate_callee (f := 64) rfl ?_); refine goesL_ (some 11) rfl rfl Try.func64 (by kernel_rfl) rfl #[.int .i64 a3, .int .i64 1, .int .i64 1000] rfl qz4 ?_; (with_reducible refine (impl_in.calls a3 1 1000 true _ A5.out).mono ?_); rintro e w' ⟨rfl, ⟨nd, rfl⟩⟩; refine ⟨_, rfl, ?_⟩; (try (rw [drewN_self w9]; generalize hq_ : World.drewN w9 _ = w9; replace BK381 : Aside0 (w9.heap[gb381]? = some (.cells #[.slice A0_0 l0_0.length c0_0] 26 (0, 0))) := ⟨by rw [← hq_]; exact (bk_ BK381.out)⟩; replace BK382 : Aside0 (w9.heap[gb382]? = some (.cells #[.slice none 0 0] 26 (0, 0))) := ⟨by rw [← hq_]; exact (bk_ BK382.out)⟩; replace HB : Aside0 (Below w.heap.size w w9) := ⟨by rw [← hq_]; exact qz1⟩; clear hq_)); have hnb10 := NB381_382.out; have hnc10 := NB382_381.out; obtain ⟨hcz11_0, hfz11_0⟩ := bf_ BK381.out) | ((with_reducible refine gate_callee (f := 60) rfl ?_); refine goesL_ (some 21) rfl rfl Try.func60 (by kernel_rfl) rfl #[.agg #[.slice A0_0 l0_0.length c0_0], .int .i64 a1, .int .i64 a2, .int .i64 a3, .int .i64 (wrap64 (-a3))] rfl qz4 ?_; (with_reducible refine (impl_held.calls k _ _ l0_0 a1 a2 a3 (wrap64 (-a3)) t384 t387 _ ?side1 ?side2 A7.out).mono ?_); (case side1 => exact qz7); (case side2 => exact HC0_0.out); rintro e w12 ⟨v385, rfl, ho0, hb⟩; refine ⟨_, rfl, ?_⟩; have HO386 := aM (Kd.S_lower ho0 (below_size qz1)); replace BK381 := bB_ BK381 hb; replace BK382 := bB_ BK382 hb; replace HB := bS_ hb; (try clear hb); (try clear hb2); (try clear hk); (try clear hi); (try clear ho0); obtain ⟨Ao13, co13, eo13⟩ := Kd.S_slice HO386.out; subst eo13; obtain ⟨hcz14_0, hfz14_0⟩ := bf_ BK382.out))
 refine bodyPost_ret (results_ct rfl _ _ gb382 26 #[.slice Ao13 t384.length co13] (0, 0) _ rfl (by (with_reducible repeat (first | refine blk_drewN ?_ _ | refine blk_drew ?_ | refine blk_alloc ?_ _)); refine blk_put (cs := #[.slice none 0 0]) ?_ 0 _ rfl; exact bk_ BK382.out) Try.underlying26 rfl (by kernel_rfl)) rfl ?_
 exact ⟨_, qzw, by (with_reducible repeat (first | apply Kd.S_alloc | apply Kd.S_drewN | apply Kd.S_drew)); exact Kd.S_mono (Kd.S_far (p := ⟨gb382, 0, none⟩) (Kd.S_types HO386.out BK382.out (by decide)) (fun _ hk => hk.2) (.slice Ao13 t384.length co13)) (fun _ hk => trivial), qz1⟩
 }
 {
 replace c6 := Bool.eq_false_iff.mpr c6
 subst c6
 rw [if_neg (show ¬ (false = true) by decide)] at H
 replace H := Option.bind_eq_some_iff.mp H
 obtain ⟨t388, A150, H⟩ := H
 replace H : (some (t388, 1)) = some (r1, r2) := H
 have A15 := aM A150
 clear A150
 simp only [Option.some.injEq, Prod.mk.injEq] at H
 obtain ⟨rfl, rfl⟩ := H
 go_enter Try.func20, Try.ntmps20
 go_wp2_with (first | ((with_reducible refine gate_dst (N := 4) rfl ?_); refine bx_ 4 #[.slice A0_0 l0_0.length c0_0] 26 ?_; intro gb381 hg w16 hbox hb; have BK381 := aM (hbox); have GW381 := aM (bz_ w hg qz1); have GE381 := GW381; replace HB := bS_ hb; clear hb hbox hg) | ((with_reducible refine gate_dst (N := 8) rfl ?_); refine bx_ 8 #[.slice none 0 0] 26 ?_; intro gb382 hg w17 hbox hb; have BK382 := aM (hbox); have GW382 := aM (bz_ w hg qz1); have GE382 := GW382; replace HB := bS_ hb; obtain ⟨NB381_382, NB382_381⟩ := nb_ hg (bk_ BK381.out); replace BK381 := bB_ BK381 hb; clear hb hbox hg) | ((with_reducible refine gate_callee (f := 64) rfl ?_); refine goesL_ (some 11) rfl rfl Try.func64 (by kernel_rfl) rfl #[.int .i64 a3, .int .i64 1, .int .i64 1000] rfl qz4 ?_; (with_reducible refine (impl_in.calls a3 1 1000 false _ A5.out).mono ?_); rintro e w' ⟨rfl, ⟨nd, rfl⟩⟩; refine ⟨_, rfl, ?_⟩; (try (rw [drewN_self w17]; generalize hq_ : World.drewN w17 _ = w17; replace BK381 : Aside0 (w17.heap[gb381]? = some (.cells #[.slice A0_0 l0_0.length c0_0] 26 (0, 0))) := ⟨by rw [← hq_]; exact (bk_ BK381.out)⟩; replace BK382 : Aside0 (w17.heap[gb382]? = some (.cells #[.slice none 0 0] 26 (0, 0))) := ⟨by rw [← hq_]; exact (bk_ BK382.out)⟩; replace HB : Aside0 (Below w.heap.size w w17) := ⟨by rw [← hq_]; exact qz1⟩; clear hq_)); have hnb18 := NB381_382.out; have hnc18 := NB382_381.out; obtain ⟨hcz19_0, hfz19_0⟩ := bf_ BK381.out) | ((with_reducible refine gate_callee (f := 65) rfl ?_); refine goesL_ (some 14) rfl rfl Try.func65 (by kernel_rfl) rfl #[.agg #[.slice A0_0 l0_0.length c0_0]] rfl qz4 ?_; (with_reducible refine (impl_copyStock.calls k _ _ l0_0 t388 _ ?side1 ?side2 A15.out).mono ?_); (case side1 => exact qz7); (case side2 => exact HC0_0.out); rintro e w20 ⟨v389, rfl, ho0, hb⟩; refine ⟨_, rfl, ?_⟩; have HO390 := aM (Kd.S_lower ho0 (below_size qz1)); replace BK381 := bB_ BK381 hb; replace BK382 := bB_ BK382 hb; replace HB := bS_ hb; (try clear hb); (try clear hb2); (try clear hk); (try clear hi); (try clear ho0); obtain ⟨Ao21, co21, eo21⟩ := Kd.S_slice HO390.out; subst eo21; obtain ⟨hcz22_0, hfz22_0⟩ := bf_ BK382.out))
 refine bodyPost_ret (results_ct rfl _ _ gb382 26 #[.slice Ao21 t388.length co21] (0, 0) _ rfl (by (with_reducible repeat (first | refine blk_drewN ?_ _ | refine blk_drew ?_ | refine blk_alloc ?_ _)); refine blk_put (cs := #[.slice none 0 0]) ?_ 0 _ rfl; exact bk_ BK382.out) Try.underlying26 rfl (by kernel_rfl)) rfl ?_
 exact ⟨_, qzw, by (with_reducible repeat (first | apply Kd.S_alloc | apply Kd.S_drewN | apply Kd.S_drew)); exact Kd.S_mono (Kd.S_far (p := ⟨gb382, 0, none⟩) (Kd.S_types HO390.out BK382.out (by decide)) (fun _ hk => hk.2) (.slice Ao21 t388.length co21)) (fun _ hk => trivial), qz1⟩

 }
end Go.Proofs.Yteajnkondkfmgaa.PFnTaken
