-- Made by a program of this session out of the translation. Lean checks it.
import Derived.Test.YteajnkondkfmgaaPFnExactHoldAllx0
namespace Go.Proofs.Yteajnkondkfmgaa.PFnExactHoldAll
open Go.RowKit Go.Proofs.YteajnkondkfmgaaW.PrintWords Go.Proofs.YteajnkondkfmgaaW.PrintLast Go.Proofs.YteajnkondkfmgaaW.PrintMore
attribute [local go_sem] max2_int min2_int max_two min_two max_three min_three max_four min_four   -- for this text's walks alone
set_option linter.unusedVariables false
set_option linter.unusedSimpArgs false

/-! ### spec_l5Copy: function 62 -/
def spec_l5Copy.l0 : Nat → Int → List (S79) → List (S79) → Option ((List (S79)))
 | 0, _, _, _ => none
 | k + 1, x4, x248000, x250000 => if x4 < (x248000.length : Int) then (if 0 ≤ x4 then ((some (([] : List (S72)) : List (S72))).bind fun y252 => (if y252.length + ((rd_T79 x248000 x4).f2).length < 5864062014805 then (if x250000.length < 3518437208883 then (spec_l5Copy.l0 k (wrap64 (x4 + 1)) x248000 (x250000 ++ [(⟨(rd_T79 x248000 x4).f0, (rd_T79 x248000 x4).f1, (y252 ++ ((rd_T79 x248000 x4).f2))⟩ : S79)])) else (none)) else (none))) else (none)) else (some x250000)
def spec_l5Copy.f (k : Nat) (l0_0 : List (S79)) : Option ((List (S79))) := spec_l5Copy.l0 k 0 l0_0 ([] : List (S79))
theorem spec_l5Copy.mono_l : ∀ k, (∀ y0 y1 y2, LeO (spec_l5Copy.l0 k y0 y1 y2) (spec_l5Copy.l0 (k + 1) y0 y1 y2))
 | 0 => fun _ _ _ r h => by simp [spec_l5Copy.l0] at h
 | k + 1 => by
  have ih0 := spec_l5Copy.mono_l k
  {
  intro y0 y1 y2
  unfold spec_l5Copy.l0
  repeat' first
  | (with_reducible exact ih0 _ _ _)
  | (with_reducible exact LeO.refl _)
  | (with_reducible exact LeO.none _)
  | (with_reducible refine LeO.ite ?_ ?_)
  | (with_reducible refine LeO.bind ?_ (fun _ => ?_))
  | exact ih0 _ _ _
  | exact LeO.none _
  | refine LeO.ite ?_ ?_
  | refine LeO.bind ?_ (fun _ => ?_)
  }
theorem spec_l5Copy.mono : ∀ a0 k, LeO (spec_l5Copy.f k a0) (spec_l5Copy.f (k + 1) a0) := by
 intro a0 k
 have ih0 := spec_l5Copy.mono_l k
 unfold spec_l5Copy.f
 repeat' first
  | (with_reducible exact ih0 _ _ _)
  | (with_reducible exact LeO.refl _)
  | (with_reducible exact LeO.none _)
  | (with_reducible refine LeO.ite ?_ ?_)
  | (with_reducible refine LeO.bind ?_ (fun _ => ?_))
  | exact ih0 _ _ _
  | exact LeO.none _
  | refine LeO.ite ?_ ?_
  | refine LeO.bind ?_ (fun _ => ?_)
def spec_l5Copy.T6 : Bool × List (List Nat × List Nat) := (true, [([], []), ([0], [0]), ([], []), ([2], [2]), ([], []), ([4], [4]), ([], []), ([], []), ([7], [7]), ([6, 8], [6, 8]), ([3, 5, 9], [3, 5, 9]), ([10], [10]), ([1, 11, 9], [1, 11]), ([0, 1, 2, 3, 4, 5, 6, 7, 8, 9, 10, 11, 12], []), ([13, 12, 12, 0, 1, 2, 3, 4, 5, 6, 7, 8, 9, 10, 11, 12], [12, 13])])
def spec_l5Copy.B6 : List Nat := [0, 1, 0, 4, 0, 16, 0, 0, 128, 448, 1020, 2044, 4095, 8191, 16383]
theorem spec_l5Copy.tab6 : rtab .any (opsOf Try.f62 6) = spec_l5Copy.T6 := by kernel_rfl
theorem spec_l5Copy.bits6 : waitsOk spec_l5Copy.T6.2 spec_l5Copy.B6 = true := by kernel_rfl
set_option maxHeartbeats 8000000 in
set_option maxRecDepth 100000 in
theorem spec_l5Copy.calls (k : Nat) (A0_0 : Option Addr) (c0_0 : Nat) (l0_0 : List (S79)) (r : List (S79)) (w : World) (hr0_0 : Kd.C k79 w A0_0 l0_0.length l0_0) (hc0_0 : l0_0.length ≤ c0_0) (h : spec_l5Copy.f k l0_0 = some r) :
  Calls Try.prog 62 #[.agg #[.slice A0_0 l0_0.length c0_0]] w fun e w' => ∃ v0_ : Value, e = .returned (.agg #[v0_]) ∧ Kd.S k79 79 w' w.heap.size (fun _ => True) v0_ r ∧ Below w.heap.size w w' := by
 have hu26 := Try.underlying26
 have hu79 := Try.underlying79
 have HR0_0 := aM hr0_0
 have HC0_0 := aM hc0_0
 clear hr0_0 hc0_0
 have HB := aM (Below.refl w.heap.size w)
 have H : (spec_l5Copy.l0 k 0 l0_0 ([] : List (S79))) = some r := h
 clear h
 have H' := aM H
 clear H
 go_enter Try.func62, Try.ntmps62
 go_wp2_with (first | ((with_reducible refine gate_dst (N := 1) rfl ?_); refine bx_ 1 #[.slice A0_0 l0_0.length c0_0] 26 ?_; intro gb247 hg w2 hbox hb; have n0_ := aM (below_step qz1 hb); have n1_ := aM (hbox); have n2_ := aM ((by rw [hg]; exact (below_size qz1) : w.heap.size ≤ gb247)); have n3_ := aM ((by rw [hg]; exact (below_size qz1) : w.heap.size ≤ gb247)); clear HB; have HB := n0_; have BK247 := n1_; have GW247 := n2_; have GE247 := n3_; clear n0_ n1_ n2_ n3_; clear hb hbox hg) | ((with_reducible refine gate_dst (N := 2) rfl ?_); refine bx_ 2 #[.slice none 0 0] 26 ?_; intro gb248 hg w3 hbox hb; have n0_ := aM (blk_below (g := gb247) (o := .cells #[.slice A0_0 l0_0.length c0_0] 26 (0, 0)) qz26 hb); have n1_ := aM (below_step qz86 hb); have n2_ := aM (hbox); have n3_ := aM ((by rw [hg]; exact (below_size qz86) : w.heap.size ≤ gb248)); have n4_ := aM ((by rw [hg]; exact (below_size qz86) : w.heap.size ≤ gb248)); have n5_ := aM ((by rw [hg]; exact Nat.ne_of_lt (blk_lt (g := gb247) (o := .cells #[.slice A0_0 l0_0.length c0_0] 26 (0, 0)) qz26) : gb247 ≠ gb248)); have n6_ := aM ((by rw [hg]; exact Nat.ne_of_gt (blk_lt (g := gb247) (o := .cells #[.slice A0_0 l0_0.length c0_0] 26 (0, 0)) qz26) : gb248 ≠ gb247)); clear BK247 HB; have BK247 := n0_; have HB := n1_; have BK248 := n2_; have GW248 := n3_; have GE248 := n4_; have NB247_248 := n5_; have NB248_247 := n6_; clear n0_ n1_ n2_ n3_ n4_ n5_ n6_; clear hb hbox hg) | ((with_reducible refine gate_dst (N := 3) rfl ?_); refine bx_ 3 #[.slice none 0 0] 26 ?_; intro gb249 hg w4 hbox hb; have n0_ := aM (blk_below (g := gb247) (o := .cells #[.slice A0_0 l0_0.length c0_0] 26 (0, 0)) qz26 hb); have n1_ := aM (blk_below (g := gb248) (o := .cells #[.slice none 0 0] 26 (0, 0)) qz33 hb); have n2_ := aM (below_step qz69 hb); have n3_ := aM (hbox); have n4_ := aM ((by rw [hg]; exact (below_size qz69) : w.heap.size ≤ gb249)); have n5_ := aM ((by rw [hg]; exact (below_size qz69) : w.heap.size ≤ gb249)); have n6_ := aM ((by rw [hg]; exact Nat.ne_of_lt (blk_lt (g := gb247) (o := .cells #[.slice A0_0 l0_0.length c0_0] 26 (0, 0)) qz26) : gb247 ≠ gb249)); have n7_ := aM ((by rw [hg]; exact Nat.ne_of_gt (blk_lt (g := gb247) (o := .cells #[.slice A0_0 l0_0.length c0_0] 26 (0, 0)) qz26) : gb249 ≠ gb247)); have n8_ := aM ((by rw [hg]; exact Nat.ne_of_lt (blk_lt (g := gb248) (o := .cells #[.slice none 0 0] 26 (0, 0)) qz33) : gb248 ≠ gb249)); have n9_ := aM ((by rw [hg]; exact Nat.ne_of_gt (blk_lt (g := gb248) (o := .cells #[.slice none 0 0] 26 (0, 0)) qz33) : gb249 ≠ gb248)); clear BK247 BK248 HB; have BK247 := n0_; have BK248 := n1_; have HB := n2_; have BK249 := n3_; have GW249 := n4_; have GE249 := n5_; have NB247_249 := n6_; have NB249_247 := n7_; have NB248_249 := n8_; have NB249_248 := n9_; clear n0_ n1_ n2_ n3_ n4_ n5_ n6_ n7_ n8_ n9_; clear hb hbox hg; have hnb5 := NB249_247.out; have hnc5 := NB247_249.out; have hnb6 := NB249_248.out; have hnc6 := NB248_249.out; have hcz7_0 : w4.cell? ⟨gb249, 0, none⟩ = some (.slice none 0 0) := (blk_cell BK249.out 0).trans rfl; have hfz7_0 := blk_frozen BK249.out 0))
 go_loopg [4] k (fun kq v4 w' => ∃ (x4_1 : Int) (x250000_1 : List (S79)) (u250000 : Value), v4 = .int .i64 x4_1 ∧ Aside0 (spec_l5Copy.l0 kq x4_1 l0_0 x250000_1 = some r) ∧ Aside0 (kq ≤ k) ∧ Aside0 (Kd.S k79 79 w' w.heap.size (fun _ => True) u250000 x250000_1) ∧ Aside0 (w'.heap[gb247]? = some (.cells #[(.slice A0_0 l0_0.length c0_0)] 26 (0, 0))) ∧ Aside0 (w'.heap[gb248]? = some (.cells #[(.slice none 0 0)] 26 (0, 0))) ∧ Aside0 (w'.heap[gb249]? = some (.cells #[u250000] 26 (0, 0))) ∧ Aside0 (Below w.heap.size w w'))
 case atStart => exact ⟨(0), (([] : List (S79))), (.slice none 0 0), qz7, H', ⟨Nat.le_refl _⟩, ⟨by first | exact Kd.S_nil _ _ _ _ _ | exact Kd.N_nil _ _ _ _ _ | exact Kd.V_nil _ _ _ _ _ | exact Kd.Q_nil _ _ _ _ _ | exact Kd.R_nil _ _ _ _ _⟩, ⟨by (with_reducible repeat (first | refine blk_drewN ?_ _ | refine blk_drew ?_ | refine blk_alloc ?_ _)); refine blk_far ?_ NB247_249.out _; (with_reducible repeat (first | refine blk_drewN ?_ _ | refine blk_drew ?_ | refine blk_alloc ?_ _)); exact BK247.out⟩, ⟨by (with_reducible repeat (first | refine blk_drewN ?_ _ | refine blk_drew ?_ | refine blk_alloc ?_ _)); refine blk_far ?_ NB248_249.out _; (with_reducible repeat (first | refine blk_drewN ?_ _ | refine blk_drew ?_ | refine blk_alloc ?_ _)); exact BK248.out⟩, ⟨by (with_reducible repeat (first | refine blk_drewN ?_ _ | refine blk_drew ?_ | refine blk_alloc ?_ _)); refine blk_put (cs := #[.slice none 0 0]) ?_ 0 _ rfl; (with_reducible repeat (first | refine blk_drewN ?_ _ | refine blk_drew ?_ | refine blk_alloc ?_ _)); exact BK249.out⟩, ⟨by repeat (first | (with_reducible first | exact HB.out | apply below_alloc | apply pw_below_drewN | apply below_drew1 | refine below_set ?_ GE247.out | refine below_set ?_ GE248.out | refine below_set ?_ GE249.out) | exact HB.out)⟩⟩
 case round =>
  clear H'
  try clear p2
  try clear c5
  try clear c6
  try clear hcz7_0
  try clear hfz7_0
  obtain ⟨x4_1, x250000_1, u250000, rfl, HA, HK1, HO_250000, BK247, BK248, BK249, HB⟩ := hrel
  cases gk with
  | zero => exact absurd HA.out (by simp [spec_l5Copy.l0])
  | succ k1 =>
   have H := HA.out
   clear HA
   simp only [spec_l5Copy.l0] at H
   by_cases c8 : x4_1 < (l0_0.length : Int)
   {
   rw [if_pos c8] at H
   have c8b0 := decide_eq_true c8
   clear c8
   by_cases c9 : 0 ≤ x4_1
   {
   rw [if_pos c9] at H
   have c9b0 := decide_eq_true c9
   clear c9
   obtain ⟨y252, hy252⟩ : ∃ y_ : List (S72), y_ = (([] : List (S72))) := ⟨_, rfl⟩
   replace H : (if y252.length + ((rd_T79 l0_0 x4_1).f2).length < 5864062014805 then (if x250000_1.length < 3518437208883 then (spec_l5Copy.l0 k1 (wrap64 (x4_1 + 1)) l0_0 (x250000_1 ++ [(⟨(rd_T79 l0_0 x4_1).f0, (rd_T79 l0_0 x4_1).f1, (y252 ++ ((rd_T79 l0_0 x4_1).f2))⟩ : S79)])) else (none)) else (none)) = some r := by first | (rw [hy252]; with_reducible exact H) | (have H2_ := (Option.bind_some _ _).symm.trans H; rw [hy252]; with_reducible exact H2_) | (have H2_ := (Option.bind_some _ _).symm.trans H; with_reducible exact H2_) | with_reducible exact H | (rw [hy252]; exact H) | exact H
   have Ny252 := aM hy252
   clear hy252
   by_cases c10 : y252.length + ((rd_T79 l0_0 x4_1).f2).length < 5864062014805
   {
   rw [if_pos c10] at H
   have LMc10 := aM c10
   clear c10
   obtain ⟨y255, hy255⟩ : ∃ y_ : List (S72), y_ = (y252 ++ ((rd_T79 l0_0 x4_1).f2)) := ⟨_, rfl⟩
   replace H : (if x250000_1.length < 3518437208883 then (spec_l5Copy.l0 k1 (wrap64 (x4_1 + 1)) l0_0 (x250000_1 ++ [(⟨(rd_T79 l0_0 x4_1).f0, (rd_T79 l0_0 x4_1).f1, y255⟩ : S79)])) else (none)) = some r := by first | (rw [hy255]; with_reducible exact H) | (have H2_ := (Option.bind_some _ _).symm.trans H; rw [hy255]; with_reducible exact H2_) | (have H2_ := (Option.bind_some _ _).symm.trans H; with_reducible exact H2_) | with_reducible exact H | (rw [hy255]; exact H) | exact H
   have Ny255 := aM hy255
   clear hy255
   by_cases c11 : x250000_1.length < 3518437208883
   {
   rw [if_pos c11] at H
   have LMc11 := aM c11
   clear c11
   obtain ⟨y258, hy258⟩ : ∃ y_ : List (S79), y_ = (x250000_1 ++ [(⟨(rd_T79 l0_0 x4_1).f0, (rd_T79 l0_0 x4_1).f1, y255⟩ : S79)]) := ⟨_, rfl⟩
   replace H : (spec_l5Copy.l0 k1 (wrap64 (x4_1 + 1)) l0_0 y258) = some r := by first | (rw [hy258]; with_reducible exact H) | (have H2_ := (Option.bind_some _ _).symm.trans H; rw [hy258]; with_reducible exact H2_) | (have H2_ := (Option.bind_some _ _).symm.trans H; with_reducible exact H2_) | with_reducible exact H | (rw [hy258]; exact H) | exact H
   have Ny258 := aM hy258
   clear hy258
   have H' := aM H
   clear H
   have hnb12 := NB247_248.out
   have hnc12 := NB248_247.out
   have hnb13 := NB247_249.out
   have hnc13 := NB249_247.out
   have hcz14_0 : wr.cell? ⟨gb247, 0, none⟩ = some (.slice A0_0 l0_0.length c0_0) := (blk_cell BK247.out 0).trans rfl
   have hfz14_0 := blk_frozen BK247.out 0
   have p250 : 0 ≤ (x4_1 : Int) := of_decide_eq_true qz3
   have q250 : x4_1 < (l0_0.length : Int) := of_decide_eq_true qz3
   obtain ⟨ad250, A250_2, c250_2, e250, hx250_0, hx250_1, hx250_2, hl250_2, hi250_2⟩ := at_T79 HR0_0.out x4_1 p250 q250
   cases e250
   replace hx250_0 := pw_cell_below HB.out hx250_0
   replace hx250_1 := pw_cell_below HB.out hx250_1
   replace hx250_2 := pw_cell_below HB.out hx250_2
   have HR250_2 := aM hi250_2
   have HC250_2 := aM hl250_2
   clear hi250_2 hl250_2
   replace p250 := eq_true p250
   replace q250 := eq_true q250
   try go_wp2_with (first | ((with_reducible refine gate_dst (N := 5) rfl ?_); refine bx_ 5 #[.int .i64 0, .int .i64 0, .slice none 0 0] 79 ?_; intro gb251 hg w15 hbox hb; have n0_ := aM (Kd.S_below (Kd.S_elderB qz101 gb251 (Nat.le_of_eq hg.symm)) hb); have n1_ := aM (blk_below (g := gb247) (o := .cells #[.slice (some ad250) l0_0.length c0_0] 26 (0, 0)) qz26 hb); have n2_ := aM (blk_below (g := gb248) (o := .cells #[.slice none 0 0] 26 (0, 0)) qz33 hb); have n3_ := aM (blk_below (g := gb249) (o := .cells #[u250000] 26 (0, 0)) qz47 hb); have n4_ := aM (below_step qz62 hb); have n5_ := aM (hbox); have n6_ := aM ((by rw [hg]; exact (below_size qz62) : w.heap.size ≤ gb251)); have n7_ := aM ((by rw [hg]; exact (below_size qz62) : w.heap.size ≤ gb251)); have n8_ := aM ((by rw [hg]; exact Nat.ne_of_lt (blk_lt (g := gb247) (o := .cells #[.slice (some ad250) l0_0.length c0_0] 26 (0, 0)) qz26) : gb247 ≠ gb251)); have n9_ := aM ((by rw [hg]; exact Nat.ne_of_gt (blk_lt (g := gb247) (o := .cells #[.slice (some ad250) l0_0.length c0_0] 26 (0, 0)) qz26) : gb251 ≠ gb247)); have n10_ := aM ((by rw [hg]; exact Nat.ne_of_lt (blk_lt (g := gb248) (o := .cells #[.slice none 0 0] 26 (0, 0)) qz33) : gb248 ≠ gb251)); have n11_ := aM ((by rw [hg]; exact Nat.ne_of_gt (blk_lt (g := gb248) (o := .cells #[.slice none 0 0] 26 (0, 0)) qz33) : gb251 ≠ gb248)); have n12_ := aM ((by rw [hg]; exact Nat.ne_of_lt (blk_lt (g := gb249) (o := .cells #[u250000] 26 (0, 0)) qz47) : gb249 ≠ gb251)); have n13_ := aM ((by rw [hg]; exact Nat.ne_of_gt (blk_lt (g := gb249) (o := .cells #[u250000] 26 (0, 0)) qz47) : gb251 ≠ gb249)); clear HO_250000 BK247 BK248 BK249 HB; have HO_250000 := n0_; have BK247 := n1_; have BK248 := n2_; have BK249 := n3_; have HB := n4_; have BK251 := n5_; have GW251 := n6_; have GE251 := n7_; have NB247_251 := n8_; have NB251_247 := n9_; have NB248_251 := n10_; have NB251_248 := n11_; have NB249_251 := n12_; have NB251_249 := n13_; clear n0_ n1_ n2_ n3_ n4_ n5_ n6_ n7_ n8_ n9_ n10_ n11_ n12_ n13_; clear hb hbox hg; have hnb16 := NB251_247.out; have hnc16 := NB247_251.out; have hnb17 := NB251_248.out; have hnc17 := NB248_251.out; have hnb18 := NB251_249.out; have hnc18 := NB249_251.out; have hcz19_0 : w15.cell? ⟨gb251, 0, none⟩ = some (.int .i64 0) := (blk_cell BK251.out 0).trans rfl; have hcz19_1 : w15.cell? ⟨gb251, 1, none⟩ = some (.int .i64 0) := (blk_cell BK251.out 1).trans rfl; have hcz19_2 : w15.cell? ⟨gb251, 2, none⟩ = some (.slice none 0 0) := (blk_cell BK251.out 2).trans rfl; have hfz19_0 := blk_frozen BK251.out 0; have hfz19_1 := blk_frozen BK251.out 1; have hfz19_2 := blk_frozen BK251.out 2))
   generalize hq_ : (((w15.setCell ⟨gb251, 0, none⟩ (.int .i64 ((rd_T79 l0_0 x4_1).f0))).setCell ⟨gb251, 1, none⟩ (.int .i64 ((rd_T79 l0_0 x4_1).f1))).setCell ⟨gb251, 2, none⟩ (.slice A250_2 ((rd_T79 l0_0 x4_1).f2).length c250_2)) = w20
   have n0_ : Aside0 (Kd.S k79 79 w20 w.heap.size (fun k_ => k_ ≠ gb251) u250000 x250000_1) := ⟨by rw [← hq_]; exact (by (with_reducible repeat (first | apply Kd.S_alloc | apply Kd.S_drewN | apply Kd.S_drew)); exact Kd.S_mono (Kd.S_far (p := ⟨gb251, 2, none⟩) (Kd.S_far (p := ⟨gb251, 1, none⟩) (Kd.S_far (p := ⟨gb251, 0, none⟩) (Kd.S_mono HO_250000.out (fun k_ hk => (⟨hk, hk.2⟩ : _ ∧ k_ ≠ gb251))) (fun _ hk => hk.2) (.int .i64 ((rd_T79 l0_0 x4_1).f0))) (fun _ hk => hk.2) (.int .i64 ((rd_T79 l0_0 x4_1).f1))) (fun _ hk => hk.2) (.slice A250_2 ((rd_T79 l0_0 x4_1).f2).length c250_2)) (fun _ hk => hk.1.2))⟩
   have n1_ : Aside0 (w20.heap[gb247]? = some (.cells #[.slice (some ad250) l0_0.length c0_0] 26 (0, 0))) := ⟨by rw [← hq_]; exact (by (with_reducible repeat (first | refine blk_drewN ?_ _ | refine blk_drew ?_ | refine blk_alloc ?_ _)); refine blk_far ?_ NB247_251.out _; (with_reducible repeat (first | refine blk_drewN ?_ _ | refine blk_drew ?_ | refine blk_alloc ?_ _)); refine blk_far ?_ NB247_251.out _; (with_reducible repeat (first | refine blk_drewN ?_ _ | refine blk_drew ?_ | refine blk_alloc ?_ _)); refine blk_far ?_ NB247_251.out _; (with_reducible repeat (first | refine blk_drewN ?_ _ | refine blk_drew ?_ | refine blk_alloc ?_ _)); exact BK247.out)⟩
   have n2_ : Aside0 (w20.heap[gb248]? = some (.cells #[.slice none 0 0] 26 (0, 0))) := ⟨by rw [← hq_]; exact (by (with_reducible repeat (first | refine blk_drewN ?_ _ | refine blk_drew ?_ | refine blk_alloc ?_ _)); refine blk_far ?_ NB248_251.out _; (with_reducible repeat (first | refine blk_drewN ?_ _ | refine blk_drew ?_ | refine blk_alloc ?_ _)); refine blk_far ?_ NB248_251.out _; (with_reducible repeat (first | refine blk_drewN ?_ _ | refine blk_drew ?_ | refine blk_alloc ?_ _)); refine blk_far ?_ NB248_251.out _; (with_reducible repeat (first | refine blk_drewN ?_ _ | refine blk_drew ?_ | refine blk_alloc ?_ _)); exact BK248.out)⟩
   have n3_ : Aside0 (w20.heap[gb249]? = some (.cells #[u250000] 26 (0, 0))) := ⟨by rw [← hq_]; exact (by (with_reducible repeat (first | refine blk_drewN ?_ _ | refine blk_drew ?_ | refine blk_alloc ?_ _)); refine blk_far ?_ NB249_251.out _; (with_reducible repeat (first | refine blk_drewN ?_ _ | refine blk_drew ?_ | refine blk_alloc ?_ _)); refine blk_far ?_ NB249_251.out _; (with_reducible repeat (first | refine blk_drewN ?_ _ | refine blk_drew ?_ | refine blk_alloc ?_ _)); refine blk_far ?_ NB249_251.out _; (with_reducible repeat (first | refine blk_drewN ?_ _ | refine blk_drew ?_ | refine blk_alloc ?_ _)); exact BK249.out)⟩
   have n4_ : Aside0 (w20.heap[gb251]? = some (.cells #[.int .i64 ((rd_T79 l0_0 x4_1).f0), .int .i64 ((rd_T79 l0_0 x4_1).f1), .slice A250_2 ((rd_T79 l0_0 x4_1).f2).length c250_2] 79 (0, 0))) := ⟨by rw [← hq_]; exact (by (with_reducible repeat (first | refine blk_drewN ?_ _ | refine blk_drew ?_ | refine blk_alloc ?_ _)); refine blk_put (cs := #[.int .i64 ((rd_T79 l0_0 x4_1).f0), .int .i64 ((rd_T79 l0_0 x4_1).f1), .slice none 0 0]) ?_ 2 _ rfl; (with_reducible repeat (first | refine blk_drewN ?_ _ | refine blk_drew ?_ | refine blk_alloc ?_ _)); refine blk_put (cs := #[.int .i64 ((rd_T79 l0_0 x4_1).f0), .int .i64 0, .slice none 0 0]) ?_ 1 _ rfl; (with_reducible repeat (first | refine blk_drewN ?_ _ | refine blk_drew ?_ | refine blk_alloc ?_ _)); refine blk_put (cs := #[.int .i64 0, .int .i64 0, .slice none 0 0]) ?_ 0 _ rfl; (with_reducible repeat (first | refine blk_drewN ?_ _ | refine blk_drew ?_ | refine blk_alloc ?_ _)); exact BK251.out)⟩
   have n5_ : Aside0 (Below w.heap.size w w20) := ⟨by rw [← hq_]; exact qz21⟩
   (try clear HO_250000)
   (try clear BK247)
   (try clear BK248)
   (try clear BK249)
   (try clear BK251)
   (try clear HB)
   clear hq_
   have HO_250000 := n0_
   have BK247 := n1_
   have BK248 := n2_
   have BK249 := n3_
   have BK251 := n4_
   have HB := n5_
   clear n0_ n1_ n2_ n3_ n4_ n5_
   have n0_ := aM (Kd.S_drew HO_250000.out)
   have n1_ := aM (blk_drew BK247.out)
   have n2_ := aM (blk_drew BK248.out)
   have n3_ := aM (blk_drew BK249.out)
   have n4_ := aM (blk_drew BK251.out)
   have n5_ := aM (below_drew1 HB.out)
   clear HO_250000
   clear BK247
   clear BK248
   clear BK249
   clear BK251
   clear HB
   have HO_250000 := n0_
   have BK247 := n1_
   have BK248 := n2_
   have BK249 := n3_
   have BK251 := n4_
   have HB := n5_
   clear n0_ n1_ n2_ n3_ n4_ n5_
   refine start_ (n := 15) (S := fun w' => w'.cell? ⟨gb249, 0, none⟩ = some (u250000) ∧ w'.cell? ⟨gb251, 0, none⟩ = some (.int .i64 ((rd_T79 l0_0 x4_1).f0)) ∧ w'.cell? ⟨gb251, 1, none⟩ = some (.int .i64 ((rd_T79 l0_0 x4_1).f1)) ∧ w'.cell? ⟨gb251, 2, none⟩ = some (.slice A250_2 ((rd_T79 l0_0 x4_1).f2).length c250_2)) (ds := [14]) #[false, false, false, false, false, false, false, false, false, false, false, false, false, false, false] (by kernel_rfl) rfl rfl ⟨(blk_cell BK249.out 0).trans rfl, (blk_cell BK251.out 0).trans rfl, (blk_cell BK251.out 1).trans rfl, (blk_cell BK251.out 2).trans rfl⟩ (fun hHeld => ?_); refine with_tabW spec_l5Copy.tab6 spec_l5Copy.bits6 (fun HT_ HW_ => ?_)
   generalize w20.drew = w21 at HO_250000 BK247 BK248 BK249 BK251 HB hHeld ⊢
   refine pI_ 0 19 (bqz 15 1) ?_
   refine pI_ 2 21 (bqz 15 5) ?_
   refine pI_ 4 23 (bqz 15 21) ?_
   refine pI_ 7 26 (bqz 15 149) ?_
   refine tI4_ 1 20 (bqz 15 151) ?_
   refine tI4_ 3 22 (bqz 15 159) ?_
   refine tI4_ 5 24 (bqz 15 191) ?_
   refine tI4_ 8 27 (bqz 15 447) ?_
   refine one_ (i := 6) (N := some 25) (bqz 15 511) rfl rfl qzc (by decide) (fun K hK => ?_)
   refine Kd.R_lit_step k72 _ 72 ?hg (N := 25) ?hd (xs := ([] : List (S72))) (inner := []) (ok := fun _ => True) (okp := fun _ => True) ?hr ?hp (fun _ hk => hk) trivial (Below.refl _ _) (Nat.le_refl _) (by simp) ?_; (case hd => rfl); (case hg => rfl); (case hr => exact qz76); (case hp => exact (Reps.none _ _))
   intro v253 w22 ho23 hb hg_ hnew_
   clear hg_ hnew_
   (first | rw [← Ny252.out] at ho23 | (simp only [Int.reduceToNat] at ho23; rw [← Ny252.out] at ho23))
   have n0_ := aM (Kd.S_elder' qz101 (Kd.R_base ho23) hb)
   have n1_ := aM (Kd.R_lower ho23 (below_size qz21))
   have n2_ := aM (blk_below (g := gb247) (o := .cells #[.slice (some ad250) l0_0.length c0_0] 26 (0, 0)) qz26 hb)
   have n3_ := aM (blk_below (g := gb248) (o := .cells #[.slice none 0 0] 26 (0, 0)) qz33 hb)
   have n4_ := aM (blk_below (g := gb249) (o := .cells #[u250000] 26 (0, 0)) qz47 hb)
   have n5_ := aM (blk_below (g := gb251) (o := .cells #[.int .i64 ((rd_T79 l0_0 x4_1).f0), .int .i64 ((rd_T79 l0_0 x4_1).f1), .slice A250_2 ((rd_T79 l0_0 x4_1).f2).length c250_2] 79 (0, 0)) qz73 hb)
   have n6_ := aM (below_step qz21 hb)
   clear HO_250000
   clear BK247
   clear BK248
   clear BK249
   clear BK251
   clear HB
   have HO_250000 := n0_
   have HO254 := n1_
   have BK247 := n2_
   have BK248 := n3_
   have BK249 := n4_
   have BK251 := n5_
   have HB := n6_
   clear n0_ n1_ n2_ n3_ n4_ n5_ n6_
   clear hb ho23
   refine hK.out _ _ ⟨(blk_cell BK249.out 0).trans rfl, (blk_cell BK251.out 0).trans rfl, (blk_cell BK251.out 1).trans rfl, (blk_cell BK251.out 2).trans rfl⟩ (fun hHeld => ?_)
   clear hK K
   refine norm_ (a' := ?_) ?_ ?_
   rotate_left
   {
   show Act.put _ (some 25) _ = _
   simp only [qzs]
   rfl
   }
   refine one_ (i := 9) (N := some 28) (bqz 15 1023) rfl rfl qzc (by decide) (fun K hK => ?_)
   refine Kd.R_append_rows_step k72 (w0 := w) w.heap.size (by rfl) (.tmp 25) (.tmp 27) 77 72 (.agg #[(.int .i64 0), (.int .i64 0), (.int .i64 0)]) 24 rfl Try.underlying77 info72 rfl (by decide) (by omega) v253 y252 ((rd_T79 l0_0 x4_1).f2) _ _ _ (fun _ => True) (fun _ => False) rfl rfl ?aO ?aR (fun _ _ h => h) (fun _ h => h.elim) ?aF ?aB ?aS ?aL ?_
   (case aR => repeat (first | exact (Kd.C_below HR250_2.out HB.out) | (with_reducible refine Kd.C_alloc ?_ _) | (with_reducible refine Kd.C_drewN ?_ _) | (with_reducible refine Kd.C_drew ?_)))
   (case aB => exact qz21)
   (case aF => exact (fun _ _ => trivial))
   (case aO => exact (by (with_reducible repeat (first | apply Kd.R_alloc | apply Kd.R_drewN | apply Kd.R_drew)); exact HO254.out))
   (case aS => exact (below_size qz21))
   (case aL => have := LMc10.out; omega)
   intro v256 w24 ho hb hg hat
   rw [← Ny255.out] at ho
   have n0_ := aM (Kd.S_after (ok := (fun k_ => k_ ≠ gb251)) qz101 hg hat)
   have n1_ := aM (blk_grown (g := gb247) (o := .cells #[.slice (some ad250) l0_0.length c0_0] 26 (0, 0)) qz26 hg (Kd.R_ne HO254.out BK247.out (by decide)))
   have n2_ := aM (blk_grown (g := gb248) (o := .cells #[.slice none 0 0] 26 (0, 0)) qz33 hg (Kd.R_ne HO254.out BK248.out (by decide)))
   have n3_ := aM (blk_grown (g := gb249) (o := .cells #[u250000] 26 (0, 0)) qz47 hg (Kd.R_ne HO254.out BK249.out (by decide)))
   have n4_ := aM (blk_grown (g := gb251) (o := .cells #[.int .i64 ((rd_T79 l0_0 x4_1).f0), .int .i64 ((rd_T79 l0_0 x4_1).f1), .slice A250_2 ((rd_T79 l0_0 x4_1).f2).length c250_2] 79 (0, 0)) qz73 hg (Kd.R_ne HO254.out BK251.out (by decide)))
   have n5_ := aM (hb)
   have n6_ := aM (ho)
   clear HO_250000
   clear BK247
   clear BK248
   clear BK249
   clear BK251
   clear HB
   clear HO254
   have HO_250000 := n0_
   have BK247 := n1_
   have BK248 := n2_
   have BK249 := n3_
   have BK251 := n4_
   have HB := n5_
   have HO257 := n6_
   clear n0_ n1_ n2_ n3_ n4_ n5_ n6_
   clear ho hb hg hat
   obtain ⟨Ao25, co25, eo25⟩ := Kd.R_slice HO257.out
   (first | subst eo25 | (injection eo25 with f1_ f2_ f3_; have f4_ := f1_.symm; have f5_ := f3_.symm; clear f1_ f2_ f3_; subst f4_; subst f5_))
   refine hK.out _ _ ⟨(blk_cell BK249.out 0).trans rfl, (blk_cell BK251.out 0).trans rfl, (blk_cell BK251.out 1).trans rfl, (blk_cell BK251.out 2).trans rfl⟩ (fun hHeld => ?_)
   clear hK K
   refine norm_ (a' := ?_) ?_ ?_
   rotate_left
   {
   show Act.put _ (some 28) _ = _
   simp only [qzs]
   rfl
   }
   refine pI_ 10 29 (bqz 15 2047) ?_
   refine one_ (i := 11) (N := some 30) (bqz 15 4095) rfl rfl qzc (by decide) (fun K hK => ?_)
   refine value_ (w1 := ?_) (v := ?_) (by rfl) rfl ?_ ?_
   rotate_left 2
   {
   go_simp
   constructor
   {
   rfl
   }
   {
   rfl
   }
   }
   refine hK.out _ _ ⟨(blk_cell (blk_alloc BK249.out _) 0).trans rfl, (blk_cell (blk_alloc BK251.out _) 0).trans rfl, (blk_cell (blk_alloc BK251.out _) 1).trans rfl, (blk_cell (blk_alloc BK251.out _) 2).trans rfl⟩ (fun hHeld => ?_)
   clear hK K
   refine norm_ (a' := ?_) ?_ ?_
   rotate_left
   {
   show Act.put _ (some 30) _ = _
   simp only [qzs]
   rfl
   }
   refine one_ (i := 12) (N := some 31) (bqz 15 8191) rfl rfl qzc (by decide) (fun K hK => ?_)
   refine Kd.S_append_step k79 (w0 := w) w.heap.size (by rfl) (.tmp 20) (.tmp 30) 24 79 (.agg #[(.int .i64 0), (.int .i64 0), (.slice none 0 0)]) 40 rfl Try.underlying24 info79 rfl (by decide) (by omega) u250000 x250000_1 (⟨(rd_T79 l0_0 x4_1).f0, (rd_T79 l0_0 x4_1).f1, y255⟩ : S79) [.int .i64 ((rd_T79 l0_0 x4_1).f0), .int .i64 ((rd_T79 l0_0 x4_1).f1), .slice Ao25 y255.length co25] (fun k_ => k_ ≠ gb251) (fun k_ => some k_ = (.slice Ao25 y255.length co25 : Value).ownBlock) rfl rfl ?aP (fun k_ hk_ => ((Kd.R_mono (ok' := fun k_ => ((fun k_ => k_ ≠ gb251)) k_ ∧ some k_ ≠ (u250000 : Value).ownBlock) (Kd.R_types (Kd.R_apart' (HO257.out) (Kd.S_typed HO_250000.out) (by decide)) BK251.out (by decide)) (fun k_ hk => ⟨hk.2, hk.1.2⟩))).1 k_ hk_.symm) ?aF ?aO ?aB ?aS ?aL ?_
   (case aP => exact k79_mkM _ _ _ (⟨(rd_T79 l0_0 x4_1).f0, (rd_T79 l0_0 x4_1).f1, y255⟩ : S79) (Kd.R_mono (Kd.R_tight rfl (Kd.R_mono (ok' := fun k_ => ((fun k_ => k_ ≠ gb251)) k_ ∧ some k_ ≠ (u250000 : Value).ownBlock) (Kd.R_types (Kd.R_apart' (HO257.out) (Kd.S_typed HO_250000.out) (by decide)) BK251.out (by decide)) (fun k_ hk => ⟨hk.2, hk.1.2⟩))) (fun _ h_ => h_)))
   (case aB => exact qz21)
   (case aF => exact (fun k_ hk => Kd.freshB (g := gb251) (o := .cells #[.int .i64 ((rd_T79 l0_0 x4_1).f0), .int .i64 ((rd_T79 l0_0 x4_1).f1), .slice A250_2 ((rd_T79 l0_0 x4_1).f2).length c250_2] 79 (0, 0)) qz73 k_ hk))
   (case aO => exact (by (with_reducible repeat (first | apply Kd.S_alloc | apply Kd.S_drewN | apply Kd.S_drew)); exact Kd.S_mono HO_250000.out (fun k_ hk => ⟨hk.1, fun e_ => hk.2 e_⟩)))
   (case aS => exact (below_size qz21))
   (case aL => have := LMc11.out; omega)
   intro v259 w26 ho hb hg hat
   rw [← Ny258.out] at ho
   have n0_ := aM (blk_grown (g := gb247) (o := .cells #[.slice (some ad250) l0_0.length c0_0] 26 (0, 0)) qz26 hg (Kd.S_ne HO_250000.out BK247.out (by decide)))
   have n1_ := aM (blk_grown (g := gb248) (o := .cells #[.slice none 0 0] 26 (0, 0)) qz33 hg (Kd.S_ne HO_250000.out BK248.out (by decide)))
   have n2_ := aM (blk_grown (g := gb249) (o := .cells #[u250000] 26 (0, 0)) qz47 hg (Kd.S_ne HO_250000.out BK249.out (by decide)))
   have n3_ := aM (blk_grown (g := gb251) (o := .cells #[.int .i64 ((rd_T79 l0_0 x4_1).f0), .int .i64 ((rd_T79 l0_0 x4_1).f1), .slice A250_2 ((rd_T79 l0_0 x4_1).f2).length c250_2] 79 (0, 0)) qz73 hg (Kd.S_away HO_250000.out (fun _ hk => hk.1)))
   have n4_ := aM (hb)
   have n5_ := aM (ho)
   clear BK247
   clear BK248
   clear BK249
   clear BK251
   clear HB
   clear HO_250000
   clear HO257
   have BK247 := n0_
   have BK248 := n1_
   have BK249 := n2_
   have BK251 := n3_
   have HB := n4_
   have HO260 := n5_
   clear n0_ n1_ n2_ n3_ n4_ n5_
   clear ho hb hg hat
   obtain ⟨Ao27, co27, eo27⟩ := Kd.S_slice HO260.out
   (first | subst eo27 | (injection eo27 with f1_ f2_ f3_; have f4_ := f1_.symm; have f5_ := f3_.symm; clear f1_ f2_ f3_; subst f4_; subst f5_))
   refine hK.out _ _ ⟨(blk_cell BK249.out 0).trans rfl, (blk_cell BK251.out 0).trans rfl, (blk_cell BK251.out 1).trans rfl, (blk_cell BK251.out 2).trans rfl⟩ (fun hHeld => ?_)
   clear hK K
   refine norm_ (a' := ?_) ?_ ?_
   rotate_left
   {
   show Act.put _ (some 31) _ = _
   simp only [qzs]
   rfl
   }
   refine pI_ 13 32 (bqz 15 16383) ?_
   refine last_ (i := 14) (N := none) (bqz 15 32767) rfl rfl qzc (by decide) (fun K hK => ?_)
   have hs28 : w26.cell? ⟨gb249, 0, none⟩ = some (u250000) := (blk_cell BK249.out 0).trans rfl
   have hfs28 := blk_frozen BK249.out 0
   have hns28_0 := NB247_249.out
   have hns28_1 := NB248_249.out
   have hns28_3 := NB251_249.out
   have hms28_0 := NB249_247.out
   have hms28_1 := NB249_248.out
   have hms28_3 := NB249_251.out
   refine skip_ (w1 := ?_) (by rfl) rfl ?_ ?_
   rotate_left
   {
   go_simp
   rfl
   }
   refine hK.out _ _ ?_
   clear hK K
   refine done_ (done_of HT_.out (by kernel_rfl)) ?_
   try go_wp2
   go_roundg k1
   case measure => have := HK1.out; omega
   case rel => exact ⟨(wrap64 (x4_1 + 1)), (y258), (.slice Ao27 y258.length co27), qz7, H', ⟨by have := HK1.out; omega⟩, ⟨by (with_reducible repeat (first | apply Kd.S_alloc | apply Kd.S_drewN | apply Kd.S_drew)); exact Kd.S_mono (Kd.S_far (p := ⟨gb249, 0, none⟩) (Kd.S_types HO260.out BK249.out (by decide)) (fun _ hk => hk.2) (.slice Ao27 y258.length co27)) (fun _ hk => trivial)⟩, ⟨by (with_reducible repeat (first | refine blk_drewN ?_ _ | refine blk_drew ?_ | refine blk_alloc ?_ _)); refine blk_far ?_ NB247_249.out _; (with_reducible repeat (first | refine blk_drewN ?_ _ | refine blk_drew ?_ | refine blk_alloc ?_ _)); exact BK247.out⟩, ⟨by (with_reducible repeat (first | refine blk_drewN ?_ _ | refine blk_drew ?_ | refine blk_alloc ?_ _)); refine blk_far ?_ NB248_249.out _; (with_reducible repeat (first | refine blk_drewN ?_ _ | refine blk_drew ?_ | refine blk_alloc ?_ _)); exact BK248.out⟩, ⟨by (with_reducible repeat (first | refine blk_drewN ?_ _ | refine blk_drew ?_ | refine blk_alloc ?_ _)); refine blk_put (cs := #[u250000]) ?_ 0 _ rfl; (with_reducible repeat (first | refine blk_drewN ?_ _ | refine blk_drew ?_ | refine blk_alloc ?_ _)); exact BK249.out⟩, ⟨by repeat (first | (with_reducible first | exact HB.out | apply below_alloc | apply pw_below_drewN | apply below_drew1 | refine below_set ?_ GE247.out | refine below_set ?_ GE248.out | refine below_set ?_ GE249.out | refine below_set ?_ GE251.out) | exact HB.out)⟩⟩
   }
   {
   rw [if_neg c11] at H
   exact absurd H (by simp)
   }
   }
   {
   rw [if_neg c10] at H
   exact absurd H (by simp)
   }
   }
   {
   rw [if_neg c9] at H
   exact absurd H (by simp)
   }
   }
   {
   rw [if_neg c8] at H
   have c8b0 := decide_eq_false c8
   clear c8
   obtain rfl := Option.some.inj H
   simp only [Option.some.injEq, Prod.mk.injEq] at H
   obtain ⟨rfl⟩ := H
   have hnb29 := NB247_248.out
   have hnc29 := NB248_247.out
   have hnb30 := NB247_249.out
   have hnc30 := NB249_247.out
   have hcz31_0 : wr.cell? ⟨gb247, 0, none⟩ = some (.slice A0_0 l0_0.length c0_0) := (blk_cell BK247.out 0).trans rfl
   have hfz31_0 := blk_frozen BK247.out 0
   have hnb32 := NB249_248.out
   have hnc32 := NB248_249.out
   have hcz33_0 : wr.cell? ⟨gb249, 0, none⟩ = some (u250000) := (blk_cell BK249.out 0).trans rfl
   have hfz33_0 := blk_frozen BK249.out 0
   obtain ⟨Ao34, co34, eo34⟩ := Kd.S_slice HO_250000.out
   subst eo34
   have hcz35_0 : wr.cell? ⟨gb248, 0, none⟩ = some (.slice none 0 0) := (blk_cell BK248.out 0).trans rfl
   have hfz35_0 := blk_frozen BK248.out 0
   go_wp2
   refine bodyPost_ret (results_cell_row rfl _ _ gb248 26 #[.slice Ao34 x250000_1.length co34] (0, 0) _ rfl (by (with_reducible repeat (first | refine blk_drewN ?_ _ | refine blk_drew ?_ | refine blk_alloc ?_ _)); refine blk_put (cs := #[.slice none 0 0]) ?_ 0 _ rfl; (with_reducible repeat (first | refine blk_drewN ?_ _ | refine blk_drew ?_ | refine blk_alloc ?_ _)); exact BK248.out) Try.underlying26 rfl (by kernel_rfl)) rfl ?_
   exact ⟨_, by first | rfl | (simp [errW_none, errW_some] <;> rfl) | (simp [*, errW_none, errW_some] <;> rfl), by (with_reducible repeat (first | apply Kd.S_alloc | apply Kd.S_drewN | apply Kd.S_drew)); exact Kd.S_mono (Kd.S_far (p := ⟨gb248, 0, none⟩) (Kd.S_types HO_250000.out BK248.out (by decide)) (fun _ hk => hk.2) (.slice Ao34 x250000_1.length co34)) (fun _ hk => trivial), by repeat (first | (with_reducible first | exact HB.out | apply below_alloc | apply pw_below_drewN | apply below_drew1 | refine below_set ?_ GE247.out | refine below_set ?_ GE248.out | refine below_set ?_ GE249.out) | exact HB.out)⟩

   }
/-! ### spec_l5With: function 95 -/
mutual
def spec_l5With.l0 : Nat → List (S72) → List (S72) → Bool → Int → Int → Int → Int → Option ((List (S72)))
 | 0, _, _, _, _, _, _, _ => none
 | k + 1, x0, x5, x6, x7, x262000, x262001, x262002 => if x7 < (x0.length : Int) then (if x6 = true then (spec_l5With.j1 k x0 x5 x6 x7 false x262000 x262001 x262002) else (if 0 ≤ x7 then (spec_l5With.j1 k x0 x5 x6 x7 (decide (((rd_T72 x0 x7).f0) ≥ x262000)) x262000 x262001 x262002) else (none))) else (if x6 = true then (some x5) else (if x5.length < 5864062014805 then (some (x5 ++ [(⟨x262000, x262001, x262002⟩ : S72)])) else (none)))
def spec_l5With.j1 : Nat → List (S72) → List (S72) → Bool → Int → Bool → Int → Int → Int → Option ((List (S72)))
 | 0, _, _, _, _, _, _, _, _ => none
 | k + 1, x0, x5, x6, x7, x29, x262000, x262001, x262002 => if x29 = true then (if x5.length < 5864062014805 then ((some (x5 ++ [(⟨x262000, x262001, x262002⟩ : S72)] : List (S72))).bind fun y269 => (if 0 ≤ x7 then (if x7 < (x0.length : Int) then (if ((rd_T72 x0 x7).f0) = x262000 then (spec_l5With.l0 k x0 y269 true (wrap64 (x7 + 1)) x262000 x262001 x262002) else (if y269.length < 5864062014805 then (spec_l5With.l0 k x0 (y269 ++ [(⟨(rd_T72 x0 x7).f0, (rd_T72 x0 x7).f1, (rd_T72 x0 x7).f2⟩ : S72)]) true (wrap64 (x7 + 1)) x262000 x262001 x262002) else (none))) else (none)) else (none))) else (none)) else (if 0 ≤ x7 then (if x7 < (x0.length : Int) then (if ((rd_T72 x0 x7).f0) = x262000 then (spec_l5With.l0 k x0 x5 x6 (wrap64 (x7 + 1)) x262000 x262001 x262002) else (if x5.length < 5864062014805 then (spec_l5With.l0 k x0 (x5 ++ [(⟨(rd_T72 x0 x7).f0, (rd_T72 x0 x7).f1, (rd_T72 x0 x7).f2⟩ : S72)]) x6 (wrap64 (x7 + 1)) x262000 x262001 x262002) else (none))) else (none)) else (none))
end
def spec_l5With.f (k : Nat) (l0 : List (S72)) (a1_0 : Int) (a1_1 : Int) (a1_2 : Int) : Option ((List (S72))) := spec_l5With.l0 k l0 (([] : List (S72))) (a1_1 == 0) 0 a1_0 a1_1 a1_2
theorem spec_l5With.mono_l : ∀ k, (∀ y0 y1 y2 y3 y4 y5 y6, LeO (spec_l5With.l0 k y0 y1 y2 y3 y4 y5 y6) (spec_l5With.l0 (k + 1) y0 y1 y2 y3 y4 y5 y6)) ∧ (∀ y0 y1 y2 y3 y4 y5 y6 y7, LeO (spec_l5With.j1 k y0 y1 y2 y3 y4 y5 y6 y7) (spec_l5With.j1 (k + 1) y0 y1 y2 y3 y4 y5 y6 y7))
 | 0 => ⟨fun _ _ _ _ _ _ _ r h => by simp [spec_l5With.l0] at h, fun _ _ _ _ _ _ _ _ r h => by simp [spec_l5With.j1] at h⟩
 | k + 1 => by
  obtain ⟨ih0, ih1⟩ := spec_l5With.mono_l k
  refine ⟨?_, ?_⟩
  {
  intro y0 y1 y2 y3 y4 y5 y6
  unfold spec_l5With.l0
  repeat' first
  | (with_reducible exact ih0 _ _ _ _ _ _ _)
  | (with_reducible exact ih1 _ _ _ _ _ _ _ _)
  | (with_reducible exact LeO.refl _)
  | (with_reducible exact LeO.none _)
  | (with_reducible refine LeO.ite ?_ ?_)
  | (with_reducible refine LeO.bind ?_ (fun _ => ?_))
  | exact ih0 _ _ _ _ _ _ _
  | exact ih1 _ _ _ _ _ _ _ _
  | exact LeO.none _
  | refine LeO.ite ?_ ?_
  | refine LeO.bind ?_ (fun _ => ?_)
  }
  {
  intro y0 y1 y2 y3 y4 y5 y6 y7
  unfold spec_l5With.j1
  repeat' first
  | (with_reducible exact ih0 _ _ _ _ _ _ _)
  | (with_reducible exact ih1 _ _ _ _ _ _ _ _)
  | (with_reducible exact LeO.refl _)
  | (with_reducible exact LeO.none _)
  | (with_reducible refine LeO.ite ?_ ?_)
  | (with_reducible refine LeO.bind ?_ (fun _ => ?_))
  | exact ih0 _ _ _ _ _ _ _
  | exact ih1 _ _ _ _ _ _ _ _
  | exact LeO.none _
  | refine LeO.ite ?_ ?_
  | refine LeO.bind ?_ (fun _ => ?_)
  }
theorem spec_l5With.mono : ∀ a0 a1 a2 a3 k, LeO (spec_l5With.f k a0 a1 a2 a3) (spec_l5With.f (k + 1) a0 a1 a2 a3) := by
 intro a0 a1 a2 a3 k
 obtain ⟨ih0, ih1⟩ := spec_l5With.mono_l k
 unfold spec_l5With.f
 repeat' first
  | (with_reducible exact ih0 _ _ _ _ _ _ _)
  | (with_reducible exact ih1 _ _ _ _ _ _ _ _)
  | (with_reducible exact LeO.refl _)
  | (with_reducible exact LeO.none _)
  | (with_reducible refine LeO.ite ?_ ?_)
  | (with_reducible refine LeO.bind ?_ (fun _ => ?_))
  | exact ih0 _ _ _ _ _ _ _
  | exact ih1 _ _ _ _ _ _ _ _
  | exact LeO.none _
  | refine LeO.ite ?_ ?_
  | refine LeO.bind ?_ (fun _ => ?_)
set_option maxHeartbeats 8000000 in
set_option maxRecDepth 100000 in
theorem spec_l5With.calls (k : Nat) (A0 : Option Addr) (c0 : Nat) (l0 : List (S72)) (a1_0 : Int) (a1_1 : Int) (a1_2 : Int) (r : List (S72)) (w : World) (hr0 : Kd.C k72 w A0 l0.length l0) (hc0 : l0.length ≤ c0) (h : spec_l5With.f k l0 a1_0 a1_1 a1_2 = some r) :
  Calls Try.prog 95 #[.slice A0 l0.length c0, .agg #[.int .i64 a1_0, .int .i64 a1_1, .int .i64 a1_2]] w fun e w' => ∃ v0_ : Value, e = .returned (v0_) ∧ Kd.R k72 72 w' w.heap.size (fun _ => True) v0_ r ∧ Below w.heap.size w w' := by
 have hu72 := Try.underlying72
 have HR0 := aM hr0
 have HC0 := aM hc0
 clear hr0 hc0
 have HB := aM (Below.refl w.heap.size w)
 have H : (spec_l5With.l0 k l0 (([] : List (S72))) (a1_1 == 0) 0 a1_0 a1_1 a1_2) = some r := h
 clear h
 obtain ⟨y262, hy262⟩ : ∃ y_ : List (S72), y_ = (([] : List (S72))) := ⟨_, rfl⟩
 replace H : (spec_l5With.l0 k l0 y262 (a1_1 == 0) 0 a1_0 a1_1 a1_2) = some r := by first | (rw [hy262]; with_reducible exact H) | (have H2_ := (Option.bind_some _ _).symm.trans H; rw [hy262]; with_reducible exact H2_) | (have H2_ := (Option.bind_some _ _).symm.trans H; with_reducible exact H2_) | with_reducible exact H | (rw [hy262]; exact H) | exact H
 have Ny262 := aM hy262
 clear hy262
 have H' := aM H
 clear H
 go_enter Try.func95, Try.ntmps95
 go_wp2_with (first | ((with_reducible refine gate_dst (N := 3) rfl ?_); refine bx_ 3 #[.int .i64 a1_0, .int .i64 a1_1, .int .i64 a1_2] 72 ?_; intro gb261 hg w3 hbox hb; have n0_ := aM (below_step qz1 hb); have n1_ := aM (hbox); have n2_ := aM ((by rw [hg]; exact (below_size qz1) : w.heap.size ≤ gb261)); have n3_ := aM ((by rw [hg]; exact (below_size qz1) : w.heap.size ≤ gb261)); clear HB; have HB := n0_; have BK261 := n1_; have GW261 := n2_; have GE261 := n3_; clear n0_ n1_ n2_ n3_; clear hb hbox hg) | ((with_reducible refine gate_dst (N := 8) rfl ?_); refine Kd.R_lit k72 _ 72 ?hg (N := 8) ?hd (xs := ([] : List (S72))) (inner := []) (ok := fun _ => True) (okp := fun _ => True) ?hr ?hp (fun _ hk => hk) trivial (Below.refl _ _) (Nat.le_refl _) (by simp) ?_; (case hd => rfl); (case hg => rfl); (case hr => exact qz76); (case hp => exact (Reps.none _ _)); intro v263 w4 ho5 hb hg_ hnew_; clear hg_ hnew_; (first | rw [← Ny262.out] at ho5 | (simp only [Int.reduceToNat] at ho5; rw [← Ny262.out] at ho5)); have n0_ := aM (Kd.R_lower (Kd.R_newB ho5 (g := gb261) (o := .cells #[.int .i64 a1_0, .int .i64 a1_1, .int .i64 a1_2] 72 (0, 0)) qz6) (below_size qz4)); have n1_ := aM (blk_below (g := gb261) (o := .cells #[.int .i64 a1_0, .int .i64 a1_1, .int .i64 a1_2] 72 (0, 0)) qz6 hb); have n2_ := aM (below_step qz4 hb); clear BK261 HB; have HO264 := n0_; have BK261 := n1_; have HB := n2_; clear n0_ n1_ n2_; clear hb ho5; have hcz6_0 : w4.cell? ⟨gb261, 0, none⟩ = some (.int .i64 a1_0) := (blk_cell BK261.out 0).trans rfl; have hcz6_1 : w4.cell? ⟨gb261, 1, none⟩ = some (.int .i64 a1_1) := (blk_cell BK261.out 1).trans rfl; have hcz6_2 : w4.cell? ⟨gb261, 2, none⟩ = some (.int .i64 a1_2) := (blk_cell BK261.out 2).trans rfl; have hfz6_0 := blk_frozen BK261.out 0; have hfz6_1 := blk_frozen BK261.out 1; have hfz6_2 := blk_frozen BK261.out 2))
 repeat (go_quiet (first | ((with_reducible refine gate_dst (N := 3) rfl ?_); refine bx_ 3 #[.int .i64 a1_0, .int .i64 a1_1, .int .i64 a1_2] 72 ?_; intro gb261 hg w3 hbox hb; have n0_ := aM (below_step qz1 hb); have n1_ := aM (hbox); have n2_ := aM ((by rw [hg]; exact (below_size qz1) : w.heap.size ≤ gb261)); have n3_ := aM ((by rw [hg]; exact (below_size qz1) : w.heap.size ≤ gb261)); clear HB; have HB := n0_; have BK261 := n1_; have GW261 := n2_; have GE261 := n3_; clear n0_ n1_ n2_ n3_; clear hb hbox hg) | ((with_reducible refine gate_dst (N := 8) rfl ?_); refine Kd.R_lit k72 _ 72 ?hg (N := 8) ?hd (xs := ([] : List (S72))) (inner := []) (ok := fun _ => True) (okp := fun _ => True) ?hr ?hp (fun _ hk => hk) trivial (Below.refl _ _) (Nat.le_refl _) (by simp) ?_; (case hd => rfl); (case hg => rfl); (case hr => exact qz76); (case hp => exact (Reps.none _ _)); intro v263 w4 ho5 hb hg_ hnew_; clear hg_ hnew_; (first | rw [← Ny262.out] at ho5 | (simp only [Int.reduceToNat] at ho5; rw [← Ny262.out] at ho5)); have n0_ := aM (Kd.R_lower (Kd.R_newB ho5 (g := gb261) (o := .cells #[.int .i64 a1_0, .int .i64 a1_1, .int .i64 a1_2] 72 (0, 0)) qz6) (below_size qz4)); have n1_ := aM (blk_below (g := gb261) (o := .cells #[.int .i64 a1_0, .int .i64 a1_1, .int .i64 a1_2] 72 (0, 0)) qz6 hb); have n2_ := aM (below_step qz4 hb); clear BK261 HB; have HO264 := n0_; have BK261 := n1_; have HB := n2_; clear n0_ n1_ n2_; clear hb ho5; have hcz6_0 : w4.cell? ⟨gb261, 0, none⟩ = some (.int .i64 a1_0) := (blk_cell BK261.out 0).trans rfl; have hcz6_1 : w4.cell? ⟨gb261, 1, none⟩ = some (.int .i64 a1_1) := (blk_cell BK261.out 1).trans rfl; have hcz6_2 : w4.cell? ⟨gb261, 2, none⟩ = some (.int .i64 a1_2) := (blk_cell BK261.out 2).trans rfl; have hfz6_0 := blk_frozen BK261.out 0; have hfz6_1 := blk_frozen BK261.out 1; have hfz6_2 := blk_frozen BK261.out 2)); try go_wp2_with (first | ((with_reducible refine gate_dst (N := 3) rfl ?_); refine bx_ 3 #[.int .i64 a1_0, .int .i64 a1_1, .int .i64 a1_2] 72 ?_; intro gb261 hg w3 hbox hb; have n0_ := aM (below_step qz1 hb); have n1_ := aM (hbox); have n2_ := aM ((by rw [hg]; exact (below_size qz1) : w.heap.size ≤ gb261)); have n3_ := aM ((by rw [hg]; exact (below_size qz1) : w.heap.size ≤ gb261)); clear HB; have HB := n0_; have BK261 := n1_; have GW261 := n2_; have GE261 := n3_; clear n0_ n1_ n2_ n3_; clear hb hbox hg) | ((with_reducible refine gate_dst (N := 8) rfl ?_); refine Kd.R_lit k72 _ 72 ?hg (N := 8) ?hd (xs := ([] : List (S72))) (inner := []) (ok := fun _ => True) (okp := fun _ => True) ?hr ?hp (fun _ hk => hk) trivial (Below.refl _ _) (Nat.le_refl _) (by simp) ?_; (case hd => rfl); (case hg => rfl); (case hr => exact qz76); (case hp => exact (Reps.none _ _)); intro v263 w4 ho5 hb hg_ hnew_; clear hg_ hnew_; (first | rw [← Ny262.out] at ho5 | (simp only [Int.reduceToNat] at ho5; rw [← Ny262.out] at ho5)); have n0_ := aM (Kd.R_lower (Kd.R_newB ho5 (g := gb261) (o := .cells #[.int .i64 a1_0, .int .i64 a1_1, .int .i64 a1_2] 72 (0, 0)) qz6) (below_size qz4)); have n1_ := aM (blk_below (g := gb261) (o := .cells #[.int .i64 a1_0, .int .i64 a1_1, .int .i64 a1_2] 72 (0, 0)) qz6 hb); have n2_ := aM (below_step qz4 hb); clear BK261 HB; have HO264 := n0_; have BK261 := n1_; have HB := n2_; clear n0_ n1_ n2_; clear hb ho5; have hcz6_0 : w4.cell? ⟨gb261, 0, none⟩ = some (.int .i64 a1_0) := (blk_cell BK261.out 0).trans rfl; have hcz6_1 : w4.cell? ⟨gb261, 1, none⟩ = some (.int .i64 a1_1) := (blk_cell BK261.out 1).trans rfl; have hcz6_2 : w4.cell? ⟨gb261, 2, none⟩ = some (.int .i64 a1_2) := (blk_cell BK261.out 2).trans rfl; have hfz6_0 := blk_frozen BK261.out 0; have hfz6_1 := blk_frozen BK261.out 1; have hfz6_2 := blk_frozen BK261.out 2)))
 go_loopg [5, 6, 7] k (fun kq v5 v6 v7 w' => ∃ (x5_1 : List (S72)) (x6_1 : Bool) (x7_1 : Int), v6 = .bool x6_1 ∧ v7 = .int .i64 x7_1 ∧ Aside0 (spec_l5With.l0 kq l0 x5_1 x6_1 x7_1 a1_0 a1_1 a1_2 = some r) ∧ Aside0 (kq ≤ k) ∧ Aside0 (Kd.R k72 72 w' w.heap.size (fun k_ => k_ ≠ gb261) v5 x5_1) ∧ Aside0 (w'.heap[gb261]? = some (.cells #[.int .i64 a1_0, .int .i64 a1_1, .int .i64 a1_2] 72 (0, 0))) ∧ Aside0 (Below w.heap.size w w'))
 case atStart => exact ⟨(y262), ((a1_1 == 0)), (0), qz7, qz7, H', ⟨Nat.le_refl _⟩, ⟨by (with_reducible repeat (first | apply Kd.R_alloc | apply Kd.R_drewN | apply Kd.R_drew)); exact Kd.R_mono HO264.out (fun _ hk => hk.2)⟩, ⟨by (with_reducible repeat (first | refine blk_drewN ?_ _ | refine blk_drew ?_ | refine blk_alloc ?_ _)); exact BK261.out⟩, ⟨by repeat (first | (with_reducible first | exact HB.out | apply below_alloc | apply pw_below_drewN | apply below_drew1 | refine below_set ?_ GE261.out) | exact HB.out)⟩⟩
 case round =>
  clear H'
  try clear p2
  try clear hcz6_0
  try clear hcz6_1
  try clear hcz6_2
  try clear hfz6_0
  try clear hfz6_1
  try clear hfz6_2
  obtain ⟨x5_1, x6_1, x7_1, rfl, rfl, HA, HK1, HO_5, BK261, HB⟩ := hrel
  cases gk with
  | zero => exact absurd HA.out (by simp [spec_l5With.l0])
  | succ k1 =>
   have H := HA.out
   clear HA
   simp only [spec_l5With.l0] at H
   by_cases c7 : x7_1 < (l0.length : Int)
   {
   rw [if_pos c7] at H
   have c7b0 := decide_eq_true c7
   clear c7
   have HC8 := aM H
   clear H
   go_upto_region 6 with (fail)
   repeat (go_quiet (fail); go_upto_region 6 with (fail))
   go_cut [29] (fun v29 wc => ∃ (kq : Nat) (x29_7 : Bool), v29 = .bool x29_7 ∧ Aside0 (spec_l5With.j1 kq l0 x5_1 x6_1 x7_1 x29_7 a1_0 a1_1 a1_2 = some r) ∧ Aside0 (kq ≤ k1) ∧ Aside0 (Kd.R k72 72 wc w.heap.size (fun k_ => k_ ≠ gb261) u5 x5_1) ∧ Aside0 (wc.heap[gb261]? = some (.cells #[.int .i64 a1_0, .int .i64 a1_1, .int .i64 a1_2] 72 (0, 0))) ∧ Aside0 (Below w.heap.size w wc))
   case first =>
    have H := HC8.out
    clear HC8
    by_cases c9 : x6_1 = true
    {
    subst c9
    rw [if_pos rfl] at H
    have H' := aM H
    clear H
    go_wp2
    repeat (go_quiet (fail); try go_wp2)
    go_meet
    case rel => exact ⟨_, (false), qz7, H', ⟨by have := HK1.out; first | omega | exact Nat.le_refl _⟩, ⟨by (with_reducible repeat (first | apply Kd.R_alloc | apply Kd.R_drewN | apply Kd.R_drew)); (first | exact HO_5.out | exact Kd.R_mono HO_5.out (fun _ h_ => h_.1) | exact Kd.R_mono HO_5.out (fun _ h_ => h_.2))⟩, ⟨by (with_reducible repeat (first | refine blk_drewN ?_ _ | refine blk_drew ?_ | refine blk_alloc ?_ _)); exact BK261.out⟩, ⟨by repeat (first | (with_reducible first | exact HB.out | apply below_alloc | apply pw_below_drewN | apply below_drew1 | refine below_set ?_ GE261.out) | exact HB.out)⟩⟩
    }
    {
    replace c9 := Bool.eq_false_iff.mpr c9
    subst c9
    rw [if_neg (show ¬ (false = true) by decide)] at H
    by_cases c10 : 0 ≤ x7_1
    {
    rw [if_pos c10] at H
    have c10b0 := decide_eq_true c10
    clear c10
    (first | rw [c10b0] | (simp only [i64_w, i32_w]; rw [c10b0]) | rw [@decide_eq_true _ _ (of_decide_eq_true c10b0)] | rw [@decide_eq_true _ _ (of_decide_eq_true c10b1)] | skip)
    have H' := aM H
    clear H
    have p268 : 0 ≤ (x7_1 : Int) := of_decide_eq_true qz3
    have q268 : x7_1 < (l0.length : Int) := of_decide_eq_true qz3
    obtain ⟨ad268, e268, hx268_0, hx268_1, hx268_2⟩ := at_T72 HR0.out x7_1 p268 q268
    cases e268
    replace hx268_0 := pw_cell_below HB.out hx268_0
    replace hx268_1 := pw_cell_below HB.out hx268_1
    replace hx268_2 := pw_cell_below HB.out hx268_2
    replace p268 := eq_true p268
    replace q268 := eq_true q268
    have hcz11_0 : wr.cell? ⟨gb261, 0, none⟩ = some (.int .i64 a1_0) := (blk_cell BK261.out 0).trans rfl
    have hcz11_1 : wr.cell? ⟨gb261, 1, none⟩ = some (.int .i64 a1_1) := (blk_cell BK261.out 1).trans rfl
    have hcz11_2 : wr.cell? ⟨gb261, 2, none⟩ = some (.int .i64 a1_2) := (blk_cell BK261.out 2).trans rfl
    have hfz11_0 := blk_frozen BK261.out 0
    have hfz11_1 := blk_frozen BK261.out 1
    have hfz11_2 := blk_frozen BK261.out 2
    go_wp2
    repeat (go_quiet (fail); try go_wp2)
    go_meet
    case rel => exact ⟨_, (decide (((rd_T72 l0 x7_1).f0) ≥ a1_0)), qz7, H', ⟨by have := HK1.out; first | omega | exact Nat.le_refl _⟩, ⟨by (with_reducible repeat (first | apply Kd.R_alloc | apply Kd.R_drewN | apply Kd.R_drew)); (first | exact HO_5.out | exact Kd.R_mono HO_5.out (fun _ h_ => h_.1) | exact Kd.R_mono HO_5.out (fun _ h_ => h_.2))⟩, ⟨by (with_reducible repeat (first | refine blk_drewN ?_ _ | refine blk_drew ?_ | refine blk_alloc ?_ _)); exact BK261.out⟩, ⟨by repeat (first | (with_reducible first | exact HB.out | apply below_alloc | apply pw_below_drewN | apply below_drew1 | refine below_set ?_ GE261.out) | exact HB.out)⟩⟩
    }
    {
    rw [if_neg c10] at H
    exact absurd H (by simp)
    }
    }
   case rest =>
    clear HC8
    try clear c1
    try clear p2
    try clear q2
    try clear hx2
    try clear c7
    try clear c7b0
    try clear c9
    try clear c10
    try clear c10b0
    try clear c10b1
    try clear hcz11_0
    try clear hcz11_1
    try clear hcz11_2
    try clear hcz6_0
    try clear hcz6_1
    try clear hcz6_2
    try clear hfz11_0
    try clear hfz11_1
    try clear hfz11_2
    try clear hfz6_0
    try clear hfz6_1
    try clear hfz6_2
    try clear hx268_0
    try clear hx268_1
    try clear hx268_2
    try clear p2
    try clear p268
    try clear q268
    obtain ⟨kq, x29_7, rfl, HA, HJ7, HO_5, BK261, HB⟩ := hcut
    cases kq with
    | zero => exact absurd HA.out (by simp [spec_l5With.j1])
    | succ kj7 =>
     have H := HA.out
     clear HA
     simp only [spec_l5With.j1] at H
     by_cases c12 : x29_7 = true
     {
     subst c12
     rw [if_pos rfl] at H
     by_cases c13 : x5_1.length < 5864062014805
     {
     rw [if_pos c13] at H
     have LMc13 := aM c13
     clear c13
     obtain ⟨y269, hy269⟩ : ∃ y_ : List (S72), y_ = (x5_1 ++ [(⟨a1_0, a1_1, a1_2⟩ : S72)]) := ⟨_, rfl⟩
     replace H : (if 0 ≤ x7_1 then (if x7_1 < (l0.length : Int) then (if ((rd_T72 l0 x7_1).f0) = a1_0 then (spec_l5With.l0 kj7 l0 y269 true (wrap64 (x7_1 + 1)) a1_0 a1_1 a1_2) else (if y269.length < 5864062014805 then (spec_l5With.l0 kj7 l0 (y269 ++ [(⟨(rd_T72 l0 x7_1).f0, (rd_T72 l0 x7_1).f1, (rd_T72 l0 x7_1).f2⟩ : S72)]) true (wrap64 (x7_1 + 1)) a1_0 a1_1 a1_2) else (none))) else (none)) else (none)) = some r := by first | (rw [hy269]; with_reducible exact H) | (have H2_ := (Option.bind_some _ _).symm.trans H; rw [hy269]; with_reducible exact H2_) | (have H2_ := (Option.bind_some _ _).symm.trans H; with_reducible exact H2_) | with_reducible exact H | (rw [hy269]; exact H) | exact H
     have Ny269 := aM hy269
     clear hy269
     by_cases c14 : 0 ≤ x7_1
     {
     rw [if_pos c14] at H
     have c14b0 := decide_eq_true c14
     clear c14
     by_cases c15 : x7_1 < (l0.length : Int)
     {
     rw [if_pos c15] at H
     have c15b0 := decide_eq_true c15
     clear c15
     by_cases c16 : ((rd_T72 l0 x7_1).f0) = a1_0
     {
     rw [if_pos c16] at H
     have c16b0 := beq_iff_eq.mpr c16
     have c16b1 := bne_eq_false_iff_eq.mpr c16
     clear c16
     have H' := aM H
     clear H
     have hcz17_0 : wc.cell? ⟨gb261, 0, none⟩ = some (.int .i64 a1_0) := (blk_cell BK261.out 0).trans rfl
     have hcz17_1 : wc.cell? ⟨gb261, 1, none⟩ = some (.int .i64 a1_1) := (blk_cell BK261.out 1).trans rfl
     have hcz17_2 : wc.cell? ⟨gb261, 2, none⟩ = some (.int .i64 a1_2) := (blk_cell BK261.out 2).trans rfl
     have hfz17_0 := blk_frozen BK261.out 0
     have hfz17_1 := blk_frozen BK261.out 1
     have hfz17_2 := blk_frozen BK261.out 2
     go_wp2_with (first | ((with_reducible refine gate_builtin (b := .append) (xs := #[.tmp 30, .tmp 32]) rfl ?_); at_builtin; refine Kd.R_append k72 (w0 := w) w.heap.size rfl (.tmp 30) (.tmp 32) 77 72 (.agg #[(.int .i64 0), (.int .i64 0), (.int .i64 0)]) 24 rfl Try.underlying77 info72 rfl (by decide) (by omega) u5 x5_1 (⟨a1_0, a1_1, a1_2⟩ : S72) [.int .i64 a1_0, .int .i64 a1_1, .int .i64 a1_2] (fun k_ => k_ ≠ gb261) (fun _ => False) rfl rfl ?aP (fun _ hk => hk.elim) ?aF ?aO ?aB ?aS ?aL ?_; (case aP => exact qz94); (case aB => exact qz4); (case aF => exact (fun k_ hk => Kd.freshB (g := gb261) (o := .cells #[.int .i64 a1_0, .int .i64 a1_1, .int .i64 a1_2] 72 (0, 0)) qz6 k_ hk)); (case aO => exact qz28); (case aS => exact (below_size qz4)); (case aL => have := LMc13.out; omega); intro v270 w18 ho hb hg hat; rw [← Ny269.out] at ho; have n0_ := aM (blk_grown (g := gb261) (o := .cells #[.int .i64 a1_0, .int .i64 a1_1, .int .i64 a1_2] 72 (0, 0)) qz6 hg (Kd.R_away HO_5.out (fun _ hk => hk))); have n1_ := aM (hb); have n2_ := aM (ho); clear BK261 HB HO_5; have BK261 := n0_; have HB := n1_; have HO271 := n2_; clear n0_ n1_ n2_; clear ho hb hg hat; have p272 : 0 ≤ (x7_1 : Int) := of_decide_eq_true qz3; have q272 : x7_1 < (l0.length : Int) := of_decide_eq_true qz3; obtain ⟨ad272, e272, hx272_0, hx272_1, hx272_2⟩ := at_T72 HR0.out x7_1 p272 q272; cases e272; replace hx272_0 := pw_cell_below HB.out hx272_0; replace hx272_1 := pw_cell_below HB.out hx272_1; replace hx272_2 := pw_cell_below HB.out hx272_2; replace p272 := eq_true p272; replace q272 := eq_true q272; have hcz19_0 : w18.cell? ⟨gb261, 0, none⟩ = some (.int .i64 a1_0) := (blk_cell BK261.out 0).trans rfl; have hcz19_1 : w18.cell? ⟨gb261, 1, none⟩ = some (.int .i64 a1_1) := (blk_cell BK261.out 1).trans rfl; have hcz19_2 : w18.cell? ⟨gb261, 2, none⟩ = some (.int .i64 a1_2) := (blk_cell BK261.out 2).trans rfl; have hfz19_0 := blk_frozen BK261.out 0; have hfz19_1 := blk_frozen BK261.out 1; have hfz19_2 := blk_frozen BK261.out 2))
     repeat (go_quiet (first | ((with_reducible refine gate_builtin (b := .append) (xs := #[.tmp 30, .tmp 32]) rfl ?_); at_builtin; refine Kd.R_append k72 (w0 := w) w.heap.size rfl (.tmp 30) (.tmp 32) 77 72 (.agg #[(.int .i64 0), (.int .i64 0), (.int .i64 0)]) 24 rfl Try.underlying77 info72 rfl (by decide) (by omega) u5 x5_1 (⟨a1_0, a1_1, a1_2⟩ : S72) [.int .i64 a1_0, .int .i64 a1_1, .int .i64 a1_2] (fun k_ => k_ ≠ gb261) (fun _ => False) rfl rfl ?aP (fun _ hk => hk.elim) ?aF ?aO ?aB ?aS ?aL ?_; (case aP => exact qz94); (case aB => exact qz4); (case aF => exact (fun k_ hk => Kd.freshB (g := gb261) (o := .cells #[.int .i64 a1_0, .int .i64 a1_1, .int .i64 a1_2] 72 (0, 0)) qz6 k_ hk)); (case aO => exact qz28); (case aS => exact (below_size qz4)); (case aL => have := LMc13.out; omega); intro v270 w18 ho hb hg hat; rw [← Ny269.out] at ho; have n0_ := aM (blk_grown (g := gb261) (o := .cells #[.int .i64 a1_0, .int .i64 a1_1, .int .i64 a1_2] 72 (0, 0)) qz6 hg (Kd.R_away HO_5.out (fun _ hk => hk))); have n1_ := aM (hb); have n2_ := aM (ho); clear BK261 HB HO_5; have BK261 := n0_; have HB := n1_; have HO271 := n2_; clear n0_ n1_ n2_; clear ho hb hg hat; have p272 : 0 ≤ (x7_1 : Int) := of_decide_eq_true qz3; have q272 : x7_1 < (l0.length : Int) := of_decide_eq_true qz3; obtain ⟨ad272, e272, hx272_0, hx272_1, hx272_2⟩ := at_T72 HR0.out x7_1 p272 q272; cases e272; replace hx272_0 := pw_cell_below HB.out hx272_0; replace hx272_1 := pw_cell_below HB.out hx272_1; replace hx272_2 := pw_cell_below HB.out hx272_2; replace p272 := eq_true p272; replace q272 := eq_true q272; have hcz19_0 : w18.cell? ⟨gb261, 0, none⟩ = some (.int .i64 a1_0) := (blk_cell BK261.out 0).trans rfl; have hcz19_1 : w18.cell? ⟨gb261, 1, none⟩ = some (.int .i64 a1_1) := (blk_cell BK261.out 1).trans rfl; have hcz19_2 : w18.cell? ⟨gb261, 2, none⟩ = some (.int .i64 a1_2) := (blk_cell BK261.out 2).trans rfl; have hfz19_0 := blk_frozen BK261.out 0; have hfz19_1 := blk_frozen BK261.out 1; have hfz19_2 := blk_frozen BK261.out 2)); try go_wp2_with (first | ((with_reducible refine gate_builtin (b := .append) (xs := #[.tmp 30, .tmp 32]) rfl ?_); at_builtin; refine Kd.R_append k72 (w0 := w) w.heap.size rfl (.tmp 30) (.tmp 32) 77 72 (.agg #[(.int .i64 0), (.int .i64 0), (.int .i64 0)]) 24 rfl Try.underlying77 info72 rfl (by decide) (by omega) u5 x5_1 (⟨a1_0, a1_1, a1_2⟩ : S72) [.int .i64 a1_0, .int .i64 a1_1, .int .i64 a1_2] (fun k_ => k_ ≠ gb261) (fun _ => False) rfl rfl ?aP (fun _ hk => hk.elim) ?aF ?aO ?aB ?aS ?aL ?_; (case aP => exact qz94); (case aB => exact qz4); (case aF => exact (fun k_ hk => Kd.freshB (g := gb261) (o := .cells #[.int .i64 a1_0, .int .i64 a1_1, .int .i64 a1_2] 72 (0, 0)) qz6 k_ hk)); (case aO => exact qz28); (case aS => exact (below_size qz4)); (case aL => have := LMc13.out; omega); intro v270 w18 ho hb hg hat; rw [← Ny269.out] at ho; have n0_ := aM (blk_grown (g := gb261) (o := .cells #[.int .i64 a1_0, .int .i64 a1_1, .int .i64 a1_2] 72 (0, 0)) qz6 hg (Kd.R_away HO_5.out (fun _ hk => hk))); have n1_ := aM (hb); have n2_ := aM (ho); clear BK261 HB HO_5; have BK261 := n0_; have HB := n1_; have HO271 := n2_; clear n0_ n1_ n2_; clear ho hb hg hat; have p272 : 0 ≤ (x7_1 : Int) := of_decide_eq_true qz3; have q272 : x7_1 < (l0.length : Int) := of_decide_eq_true qz3; obtain ⟨ad272, e272, hx272_0, hx272_1, hx272_2⟩ := at_T72 HR0.out x7_1 p272 q272; cases e272; replace hx272_0 := pw_cell_below HB.out hx272_0; replace hx272_1 := pw_cell_below HB.out hx272_1; replace hx272_2 := pw_cell_below HB.out hx272_2; replace p272 := eq_true p272; replace q272 := eq_true q272; have hcz19_0 : w18.cell? ⟨gb261, 0, none⟩ = some (.int .i64 a1_0) := (blk_cell BK261.out 0).trans rfl; have hcz19_1 : w18.cell? ⟨gb261, 1, none⟩ = some (.int .i64 a1_1) := (blk_cell BK261.out 1).trans rfl; have hcz19_2 : w18.cell? ⟨gb261, 2, none⟩ = some (.int .i64 a1_2) := (blk_cell BK261.out 2).trans rfl; have hfz19_0 := blk_frozen BK261.out 0; have hfz19_1 := blk_frozen BK261.out 1; have hfz19_2 := blk_frozen BK261.out 2)))
     go_roundg kj7
     case measure => have := HK1.out; have := HJ7.out; omega
     case rel => exact ⟨(y269), (true), (wrap64 (x7_1 + 1)), qz7, qz7, H', ⟨by have := HK1.out; have := HJ7.out; omega⟩, ⟨by (with_reducible repeat (first | apply Kd.R_alloc | apply Kd.R_drewN | apply Kd.R_drew)); (first | exact HO271.out | exact Kd.R_mono HO271.out (fun _ h_ => h_.1) | exact Kd.R_mono HO271.out (fun _ h_ => h_.2))⟩, ⟨by (with_reducible repeat (first | refine blk_drewN ?_ _ | refine blk_drew ?_ | refine blk_alloc ?_ _)); exact BK261.out⟩, ⟨by repeat (first | (with_reducible first | exact HB.out | apply below_alloc | apply pw_below_drewN | apply below_drew1 | refine below_set ?_ GE261.out) | exact HB.out)⟩⟩
     }
     {
     rw [if_neg c16] at H
     have c16b0 := beq_eq_false_iff_ne.mpr c16
     have c16b1 := bne_iff_ne.mpr c16
     by_cases c20 : y269.length < 5864062014805
     {
     rw [if_pos c20] at H
     have LMc20 := aM c20
     clear c20
     obtain ⟨y274, hy274⟩ : ∃ y_ : List (S72), y_ = (y269 ++ [(⟨(rd_T72 l0 x7_1).f0, (rd_T72 l0 x7_1).f1, (rd_T72 l0 x7_1).f2⟩ : S72)]) := ⟨_, rfl⟩
     replace H : (spec_l5With.l0 kj7 l0 y274 true (wrap64 (x7_1 + 1)) a1_0 a1_1 a1_2) = some r := by first | (rw [hy274]; with_reducible exact H) | (have H2_ := (Option.bind_some _ _).symm.trans H; rw [hy274]; with_reducible exact H2_) | (have H2_ := (Option.bind_some _ _).symm.trans H; with_reducible exact H2_) | with_reducible exact H | (rw [hy274]; exact H) | exact H
     have Ny274 := aM hy274
     clear hy274
     have H' := aM H
     clear H
     have hcz21_0 : wc.cell? ⟨gb261, 0, none⟩ = some (.int .i64 a1_0) := (blk_cell BK261.out 0).trans rfl
     have hcz21_1 : wc.cell? ⟨gb261, 1, none⟩ = some (.int .i64 a1_1) := (blk_cell BK261.out 1).trans rfl
     have hcz21_2 : wc.cell? ⟨gb261, 2, none⟩ = some (.int .i64 a1_2) := (blk_cell BK261.out 2).trans rfl
     have hfz21_0 := blk_frozen BK261.out 0
     have hfz21_1 := blk_frozen BK261.out 1
     have hfz21_2 := blk_frozen BK261.out 2
     go_wp2_with (first | ((with_reducible refine gate_builtin (b := .append) (xs := #[.tmp 30, .tmp 32]) rfl ?_); at_builtin; refine Kd.R_append k72 (w0 := w) w.heap.size rfl (.tmp 30) (.tmp 32) 77 72 (.agg #[(.int .i64 0), (.int .i64 0), (.int .i64 0)]) 24 rfl Try.underlying77 info72 rfl (by decide) (by omega) u5 x5_1 (⟨a1_0, a1_1, a1_2⟩ : S72) [.int .i64 a1_0, .int .i64 a1_1, .int .i64 a1_2] (fun k_ => k_ ≠ gb261) (fun _ => False) rfl rfl ?aP (fun _ hk => hk.elim) ?aF ?aO ?aB ?aS ?aL ?_; (case aP => exact qz94); (case aB => exact qz4); (case aF => exact (fun k_ hk => Kd.freshB (g := gb261) (o := .cells #[.int .i64 a1_0, .int .i64 a1_1, .int .i64 a1_2] 72 (0, 0)) qz6 k_ hk)); (case aO => exact qz28); (case aS => exact (below_size qz4)); (case aL => have := LMc13.out; omega); intro v270 w22 ho hb hg hat; rw [← Ny269.out] at ho; have n0_ := aM (blk_grown (g := gb261) (o := .cells #[.int .i64 a1_0, .int .i64 a1_1, .int .i64 a1_2] 72 (0, 0)) qz6 hg (Kd.R_away HO_5.out (fun _ hk => hk))); have n1_ := aM (hb); have n2_ := aM (ho); clear BK261 HB HO_5; have BK261 := n0_; have HB := n1_; have HO271 := n2_; clear n0_ n1_ n2_; clear ho hb hg hat; have p272 : 0 ≤ (x7_1 : Int) := of_decide_eq_true qz3; have q272 : x7_1 < (l0.length : Int) := of_decide_eq_true qz3; obtain ⟨ad272, e272, hx272_0, hx272_1, hx272_2⟩ := at_T72 HR0.out x7_1 p272 q272; cases e272; replace hx272_0 := pw_cell_below HB.out hx272_0; replace hx272_1 := pw_cell_below HB.out hx272_1; replace hx272_2 := pw_cell_below HB.out hx272_2; replace p272 := eq_true p272; replace q272 := eq_true q272; have hcz23_0 : w22.cell? ⟨gb261, 0, none⟩ = some (.int .i64 a1_0) := (blk_cell BK261.out 0).trans rfl; have hcz23_1 : w22.cell? ⟨gb261, 1, none⟩ = some (.int .i64 a1_1) := (blk_cell BK261.out 1).trans rfl; have hcz23_2 : w22.cell? ⟨gb261, 2, none⟩ = some (.int .i64 a1_2) := (blk_cell BK261.out 2).trans rfl; have hfz23_0 := blk_frozen BK261.out 0; have hfz23_1 := blk_frozen BK261.out 1; have hfz23_2 := blk_frozen BK261.out 2; have p273 : 0 ≤ (x7_1 : Int) := of_decide_eq_true qz3; have q273 : x7_1 < (l0.length : Int) := of_decide_eq_true qz3; obtain ⟨ad273, e273, hx273_0, hx273_1, hx273_2⟩ := at_T72 HR0.out x7_1 p273 q273; obtain rfl : ad272 = ad273 := (by injection e273); replace hx273_0 := pw_cell_below HB.out hx273_0; replace hx273_1 := pw_cell_below HB.out hx273_1; replace hx273_2 := pw_cell_below HB.out hx273_2; replace p273 := eq_true p273; replace q273 := eq_true q273) | ((with_reducible refine gate_builtin (b := .append) (xs := #[.tmp 42, .tmp 47]) rfl ?_); at_builtin; refine Kd.R_append k72 (w0 := w) w.heap.size rfl (.tmp 42) (.tmp 47) 77 72 (.agg #[(.int .i64 0), (.int .i64 0), (.int .i64 0)]) 24 rfl Try.underlying77 info72 rfl (by decide) (by omega) v270 y269 (⟨(rd_T72 l0 x7_1).f0, (rd_T72 l0 x7_1).f1, (rd_T72 l0 x7_1).f2⟩ : S72) [.int .i64 ((rd_T72 l0 x7_1).f0), .int .i64 ((rd_T72 l0 x7_1).f1), .int .i64 ((rd_T72 l0 x7_1).f2)] (fun k_ => k_ ≠ gb261) (fun _ => False) rfl rfl ?aP (fun _ hk => hk.elim) ?aF ?aO ?aB ?aS ?aL ?_; (case aP => exact qz64); (case aB => exact qz4); (case aF => exact (fun k_ hk => Kd.freshB (g := gb261) (o := .cells #[.int .i64 a1_0, .int .i64 a1_1, .int .i64 a1_2] 72 (0, 0)) qz6 k_ hk)); (case aO => exact qz102); (case aS => exact (below_size qz4)); (case aL => have := LMc20.out; omega); intro v275 w24 ho hb hg hat; rw [← Ny274.out] at ho; have n0_ := aM (blk_grown (g := gb261) (o := .cells #[.int .i64 a1_0, .int .i64 a1_1, .int .i64 a1_2] 72 (0, 0)) qz6 hg (Kd.R_away HO271.out (fun _ hk => hk))); have n1_ := aM (hb); have n2_ := aM (ho); clear BK261 HB HO271; have BK261 := n0_; have HB := n1_; have HO276 := n2_; clear n0_ n1_ n2_; clear ho hb hg hat))
     repeat (go_quiet (first | ((with_reducible refine gate_builtin (b := .append) (xs := #[.tmp 30, .tmp 32]) rfl ?_); at_builtin; refine Kd.R_append k72 (w0 := w) w.heap.size rfl (.tmp 30) (.tmp 32) 77 72 (.agg #[(.int .i64 0), (.int .i64 0), (.int .i64 0)]) 24 rfl Try.underlying77 info72 rfl (by decide) (by omega) u5 x5_1 (⟨a1_0, a1_1, a1_2⟩ : S72) [.int .i64 a1_0, .int .i64 a1_1, .int .i64 a1_2] (fun k_ => k_ ≠ gb261) (fun _ => False) rfl rfl ?aP (fun _ hk => hk.elim) ?aF ?aO ?aB ?aS ?aL ?_; (case aP => exact qz94); (case aB => exact qz4); (case aF => exact (fun k_ hk => Kd.freshB (g := gb261) (o := .cells #[.int .i64 a1_0, .int .i64 a1_1, .int .i64 a1_2] 72 (0, 0)) qz6 k_ hk)); (case aO => exact qz28); (case aS => exact (below_size qz4)); (case aL => have := LMc13.out; omega); intro v270 w22 ho hb hg hat; rw [← Ny269.out] at ho; have n0_ := aM (blk_grown (g := gb261) (o := .cells #[.int .i64 a1_0, .int .i64 a1_1, .int .i64 a1_2] 72 (0, 0)) qz6 hg (Kd.R_away HO_5.out (fun _ hk => hk))); have n1_ := aM (hb); have n2_ := aM (ho); clear BK261 HB HO_5; have BK261 := n0_; have HB := n1_; have HO271 := n2_; clear n0_ n1_ n2_; clear ho hb hg hat; have p272 : 0 ≤ (x7_1 : Int) := of_decide_eq_true qz3; have q272 : x7_1 < (l0.length : Int) := of_decide_eq_true qz3; obtain ⟨ad272, e272, hx272_0, hx272_1, hx272_2⟩ := at_T72 HR0.out x7_1 p272 q272; cases e272; replace hx272_0 := pw_cell_below HB.out hx272_0; replace hx272_1 := pw_cell_below HB.out hx272_1; replace hx272_2 := pw_cell_below HB.out hx272_2; replace p272 := eq_true p272; replace q272 := eq_true q272; have hcz23_0 : w22.cell? ⟨gb261, 0, none⟩ = some (.int .i64 a1_0) := (blk_cell BK261.out 0).trans rfl; have hcz23_1 : w22.cell? ⟨gb261, 1, none⟩ = some (.int .i64 a1_1) := (blk_cell BK261.out 1).trans rfl; have hcz23_2 : w22.cell? ⟨gb261, 2, none⟩ = some (.int .i64 a1_2) := (blk_cell BK261.out 2).trans rfl; have hfz23_0 := blk_frozen BK261.out 0; have hfz23_1 := blk_frozen BK261.out 1; have hfz23_2 := blk_frozen BK261.out 2; have p273 : 0 ≤ (x7_1 : Int) := of_decide_eq_true qz3; have q273 : x7_1 < (l0.length : Int) := of_decide_eq_true qz3; obtain ⟨ad273, e273, hx273_0, hx273_1, hx273_2⟩ := at_T72 HR0.out x7_1 p273 q273; obtain rfl : ad272 = ad273 := (by injection e273); replace hx273_0 := pw_cell_below HB.out hx273_0; replace hx273_1 := pw_cell_below HB.out hx273_1; replace hx273_2 := pw_cell_below HB.out hx273_2; replace p273 := eq_true p273; replace q273 := eq_true q273) | ((with_reducible refine gate_builtin (b := .append) (xs := #[.tmp 42, .tmp 47]) rfl ?_); at_builtin; refine Kd.R_append k72 (w0 := w) w.heap.size rfl (.tmp 42) (.tmp 47) 77 72 (.agg #[(.int .i64 0), (.int .i64 0), (.int .i64 0)]) 24 rfl Try.underlying77 info72 rfl (by decide) (by omega) v270 y269 (⟨(rd_T72 l0 x7_1).f0, (rd_T72 l0 x7_1).f1, (rd_T72 l0 x7_1).f2⟩ : S72) [.int .i64 ((rd_T72 l0 x7_1).f0), .int .i64 ((rd_T72 l0 x7_1).f1), .int .i64 ((rd_T72 l0 x7_1).f2)] (fun k_ => k_ ≠ gb261) (fun _ => False) rfl rfl ?aP (fun _ hk => hk.elim) ?aF ?aO ?aB ?aS ?aL ?_; (case aP => exact qz64); (case aB => exact qz4); (case aF => exact (fun k_ hk => Kd.freshB (g := gb261) (o := .cells #[.int .i64 a1_0, .int .i64 a1_1, .int .i64 a1_2] 72 (0, 0)) qz6 k_ hk)); (case aO => exact qz102); (case aS => exact (below_size qz4)); (case aL => have := LMc20.out; omega); intro v275 w24 ho hb hg hat; rw [← Ny274.out] at ho; have n0_ := aM (blk_grown (g := gb261) (o := .cells #[.int .i64 a1_0, .int .i64 a1_1, .int .i64 a1_2] 72 (0, 0)) qz6 hg (Kd.R_away HO271.out (fun _ hk => hk))); have n1_ := aM (hb); have n2_ := aM (ho); clear BK261 HB HO271; have BK261 := n0_; have HB := n1_; have HO276 := n2_; clear n0_ n1_ n2_; clear ho hb hg hat)); try go_wp2_with (first | ((with_reducible refine gate_builtin (b := .append) (xs := #[.tmp 30, .tmp 32]) rfl ?_); at_builtin; refine Kd.R_append k72 (w0 := w) w.heap.size rfl (.tmp 30) (.tmp 32) 77 72 (.agg #[(.int .i64 0), (.int .i64 0), (.int .i64 0)]) 24 rfl Try.underlying77 info72 rfl (by decide) (by omega) u5 x5_1 (⟨a1_0, a1_1, a1_2⟩ : S72) [.int .i64 a1_0, .int .i64 a1_1, .int .i64 a1_2] (fun k_ => k_ ≠ gb261) (fun _ => False) rfl rfl ?aP (fun _ hk => hk.elim) ?aF ?aO ?aB ?aS ?aL ?_; (case aP => exact qz94); (case aB => exact qz4); (case aF => exact (fun k_ hk => Kd.freshB (g := gb261) (o := .cells #[.int .i64 a1_0, .int .i64 a1_1, .int .i64 a1_2] 72 (0, 0)) qz6 k_ hk)); (case aO => exact qz28); (case aS => exact (below_size qz4)); (case aL => have := LMc13.out; omega); intro v270 w22 ho hb hg hat; rw [← Ny269.out] at ho; have n0_ := aM (blk_grown (g := gb261) (o := .cells #[.int .i64 a1_0, .int .i64 a1_1, .int .i64 a1_2] 72 (0, 0)) qz6 hg (Kd.R_away HO_5.out (fun _ hk => hk))); have n1_ := aM (hb); have n2_ := aM (ho); clear BK261 HB HO_5; have BK261 := n0_; have HB := n1_; have HO271 := n2_; clear n0_ n1_ n2_; clear ho hb hg hat; have p272 : 0 ≤ (x7_1 : Int) := of_decide_eq_true qz3; have q272 : x7_1 < (l0.length : Int) := of_decide_eq_true qz3; obtain ⟨ad272, e272, hx272_0, hx272_1, hx272_2⟩ := at_T72 HR0.out x7_1 p272 q272; cases e272; replace hx272_0 := pw_cell_below HB.out hx272_0; replace hx272_1 := pw_cell_below HB.out hx272_1; replace hx272_2 := pw_cell_below HB.out hx272_2; replace p272 := eq_true p272; replace q272 := eq_true q272; have hcz23_0 : w22.cell? ⟨gb261, 0, none⟩ = some (.int .i64 a1_0) := (blk_cell BK261.out 0).trans rfl; have hcz23_1 : w22.cell? ⟨gb261, 1, none⟩ = some (.int .i64 a1_1) := (blk_cell BK261.out 1).trans rfl; have hcz23_2 : w22.cell? ⟨gb261, 2, none⟩ = some (.int .i64 a1_2) := (blk_cell BK261.out 2).trans rfl; have hfz23_0 := blk_frozen BK261.out 0; have hfz23_1 := blk_frozen BK261.out 1; have hfz23_2 := blk_frozen BK261.out 2; have p273 : 0 ≤ (x7_1 : Int) := of_decide_eq_true qz3; have q273 : x7_1 < (l0.length : Int) := of_decide_eq_true qz3; obtain ⟨ad273, e273, hx273_0, hx273_1, hx273_2⟩ := at_T72 HR0.out x7_1 p273 q273; obtain rfl : ad272 = ad273 := (by injection e273); replace hx273_0 := pw_cell_below HB.out hx273_0; replace hx273_1 := pw_cell_below HB.out hx273_1; replace hx273_2 := pw_cell_below HB.out hx273_2; replace p273 := eq_true p273; replace q273 := eq_true q273) | ((with_reducible refine gate_builtin (b := .append) (xs := #[.tmp 42, .tmp 47]) rfl ?_); at_builtin; refine Kd.R_append k72 (w0 := w) w.heap.size rfl (.tmp 42) (.tmp 47) 77 72 (.agg #[(.int .i64 0), (.int .i64 0), (.int .i64 0)]) 24 rfl Try.underlying77 info72 rfl (by decide) (by omega) v270 y269 (⟨(rd_T72 l0 x7_1).f0, (rd_T72 l0 x7_1).f1, (rd_T72 l0 x7_1).f2⟩ : S72) [.int .i64 ((rd_T72 l0 x7_1).f0), .int .i64 ((rd_T72 l0 x7_1).f1), .int .i64 ((rd_T72 l0 x7_1).f2)] (fun k_ => k_ ≠ gb261) (fun _ => False) rfl rfl ?aP (fun _ hk => hk.elim) ?aF ?aO ?aB ?aS ?aL ?_; (case aP => exact qz64); (case aB => exact qz4); (case aF => exact (fun k_ hk => Kd.freshB (g := gb261) (o := .cells #[.int .i64 a1_0, .int .i64 a1_1, .int .i64 a1_2] 72 (0, 0)) qz6 k_ hk)); (case aO => exact qz102); (case aS => exact (below_size qz4)); (case aL => have := LMc20.out; omega); intro v275 w24 ho hb hg hat; rw [← Ny274.out] at ho; have n0_ := aM (blk_grown (g := gb261) (o := .cells #[.int .i64 a1_0, .int .i64 a1_1, .int .i64 a1_2] 72 (0, 0)) qz6 hg (Kd.R_away HO271.out (fun _ hk => hk))); have n1_ := aM (hb); have n2_ := aM (ho); clear BK261 HB HO271; have BK261 := n0_; have HB := n1_; have HO276 := n2_; clear n0_ n1_ n2_; clear ho hb hg hat)))
     go_roundg kj7
     case measure => have := HK1.out; have := HJ7.out; omega
     case rel => exact ⟨(y274), (true), (wrap64 (x7_1 + 1)), qz7, qz7, H', ⟨by have := HK1.out; have := HJ7.out; omega⟩, ⟨by (with_reducible repeat (first | apply Kd.R_alloc | apply Kd.R_drewN | apply Kd.R_drew)); (first | exact HO276.out | exact Kd.R_mono HO276.out (fun _ h_ => h_.1) | exact Kd.R_mono HO276.out (fun _ h_ => h_.2))⟩, ⟨by (with_reducible repeat (first | refine blk_drewN ?_ _ | refine blk_drew ?_ | refine blk_alloc ?_ _)); exact BK261.out⟩, ⟨by repeat (first | (with_reducible first | exact HB.out | apply below_alloc | apply pw_below_drewN | apply below_drew1 | refine below_set ?_ GE261.out) | exact HB.out)⟩⟩
     }
     {
     rw [if_neg c20] at H
     exact absurd H (by simp)
     }
     }
     }
     {
     rw [if_neg c15] at H
     exact absurd H (by simp)
     }
     }
     {
     rw [if_neg c14] at H
     exact absurd H (by simp)
     }
     }
     {
     rw [if_neg c13] at H
     exact absurd H (by simp)
     }
     }
     {
     replace c12 := Bool.eq_false_iff.mpr c12
     subst c12
     rw [if_neg (show ¬ (false = true) by decide)] at H
     by_cases c25 : 0 ≤ x7_1
     {
     rw [if_pos c25] at H
     have c25b0 := decide_eq_true c25
     clear c25
     by_cases c26 : x7_1 < (l0.length : Int)
     {
     rw [if_pos c26] at H
     have c26b0 := decide_eq_true c26
     clear c26
     by_cases c27 : ((rd_T72 l0 x7_1).f0) = a1_0
     {
     rw [if_pos c27] at H
     have c27b0 := beq_iff_eq.mpr c27
     have c27b1 := bne_eq_false_iff_eq.mpr c27
     clear c27
     have H' := aM H
     clear H
     have p277 : 0 ≤ (x7_1 : Int) := of_decide_eq_true qz3
     have q277 : x7_1 < (l0.length : Int) := of_decide_eq_true qz3
     obtain ⟨ad277, e277, hx277_0, hx277_1, hx277_2⟩ := at_T72 HR0.out x7_1 p277 q277
     cases e277
     replace hx277_0 := pw_cell_below HB.out hx277_0
     replace hx277_1 := pw_cell_below HB.out hx277_1
     replace hx277_2 := pw_cell_below HB.out hx277_2
     replace p277 := eq_true p277
     replace q277 := eq_true q277
     have hcz28_0 : wc.cell? ⟨gb261, 0, none⟩ = some (.int .i64 a1_0) := (blk_cell BK261.out 0).trans rfl
     have hcz28_1 : wc.cell? ⟨gb261, 1, none⟩ = some (.int .i64 a1_1) := (blk_cell BK261.out 1).trans rfl
     have hcz28_2 : wc.cell? ⟨gb261, 2, none⟩ = some (.int .i64 a1_2) := (blk_cell BK261.out 2).trans rfl
     have hfz28_0 := blk_frozen BK261.out 0
     have hfz28_1 := blk_frozen BK261.out 1
     have hfz28_2 := blk_frozen BK261.out 2
     go_wp2
     repeat (go_quiet (fail); try go_wp2)
     go_roundg kj7
     case measure => have := HK1.out; have := HJ7.out; omega
     case rel => exact ⟨(x5_1), (x6_1), (wrap64 (x7_1 + 1)), qz7, qz7, H', ⟨by have := HK1.out; have := HJ7.out; omega⟩, ⟨by (with_reducible repeat (first | apply Kd.R_alloc | apply Kd.R_drewN | apply Kd.R_drew)); (first | exact HO_5.out | exact Kd.R_mono HO_5.out (fun _ h_ => h_.1) | exact Kd.R_mono HO_5.out (fun _ h_ => h_.2))⟩, ⟨by (with_reducible repeat (first | refine blk_drewN ?_ _ | refine blk_drew ?_ | refine blk_alloc ?_ _)); exact BK261.out⟩, ⟨by repeat (first | (with_reducible first | exact HB.out | apply below_alloc | apply pw_below_drewN | apply below_drew1 | refine below_set ?_ GE261.out) | exact HB.out)⟩⟩
     }
     {
     rw [if_neg c27] at H
     have c27b0 := beq_eq_false_iff_ne.mpr c27
     have c27b1 := bne_iff_ne.mpr c27
     by_cases c29 : x5_1.length < 5864062014805
     {
     rw [if_pos c29] at H
     have LMc29 := aM c29
     clear c29
     obtain ⟨y279, hy279⟩ : ∃ y_ : List (S72), y_ = (x5_1 ++ [(⟨(rd_T72 l0 x7_1).f0, (rd_T72 l0 x7_1).f1, (rd_T72 l0 x7_1).f2⟩ : S72)]) := ⟨_, rfl⟩
     replace H : (spec_l5With.l0 kj7 l0 y279 x6_1 (wrap64 (x7_1 + 1)) a1_0 a1_1 a1_2) = some r := by first | (rw [hy279]; with_reducible exact H) | (have H2_ := (Option.bind_some _ _).symm.trans H; rw [hy279]; with_reducible exact H2_) | (have H2_ := (Option.bind_some _ _).symm.trans H; with_reducible exact H2_) | with_reducible exact H | (rw [hy279]; exact H) | exact H
     have Ny279 := aM hy279
     clear hy279
     have H' := aM H
     clear H
     have p277 : 0 ≤ (x7_1 : Int) := of_decide_eq_true qz3
     have q277 : x7_1 < (l0.length : Int) := of_decide_eq_true qz3
     obtain ⟨ad277, e277, hx277_0, hx277_1, hx277_2⟩ := at_T72 HR0.out x7_1 p277 q277
     cases e277
     replace hx277_0 := pw_cell_below HB.out hx277_0
     replace hx277_1 := pw_cell_below HB.out hx277_1
     replace hx277_2 := pw_cell_below HB.out hx277_2
     replace p277 := eq_true p277
     replace q277 := eq_true q277
     have hcz30_0 : wc.cell? ⟨gb261, 0, none⟩ = some (.int .i64 a1_0) := (blk_cell BK261.out 0).trans rfl
     have hcz30_1 : wc.cell? ⟨gb261, 1, none⟩ = some (.int .i64 a1_1) := (blk_cell BK261.out 1).trans rfl
     have hcz30_2 : wc.cell? ⟨gb261, 2, none⟩ = some (.int .i64 a1_2) := (blk_cell BK261.out 2).trans rfl
     have hfz30_0 := blk_frozen BK261.out 0
     have hfz30_1 := blk_frozen BK261.out 1
     have hfz30_2 := blk_frozen BK261.out 2
     have p278 : 0 ≤ (x7_1 : Int) := of_decide_eq_true qz3
     have q278 : x7_1 < (l0.length : Int) := of_decide_eq_true qz3
     obtain ⟨ad278, e278, hx278_0, hx278_1, hx278_2⟩ := at_T72 HR0.out x7_1 p278 q278
     obtain rfl : ad277 = ad278 := (by injection e278)
     replace hx278_0 := pw_cell_below HB.out hx278_0
     replace hx278_1 := pw_cell_below HB.out hx278_1
     replace hx278_2 := pw_cell_below HB.out hx278_2
     replace p278 := eq_true p278
     replace q278 := eq_true q278
     go_wp2_with (first | ((with_reducible refine gate_builtin (b := .append) (xs := #[.tmp 42, .tmp 47]) rfl ?_); at_builtin; refine Kd.R_append k72 (w0 := w) w.heap.size rfl (.tmp 42) (.tmp 47) 77 72 (.agg #[(.int .i64 0), (.int .i64 0), (.int .i64 0)]) 24 rfl Try.underlying77 info72 rfl (by decide) (by omega) u5 x5_1 (⟨(rd_T72 l0 x7_1).f0, (rd_T72 l0 x7_1).f1, (rd_T72 l0 x7_1).f2⟩ : S72) [.int .i64 ((rd_T72 l0 x7_1).f0), .int .i64 ((rd_T72 l0 x7_1).f1), .int .i64 ((rd_T72 l0 x7_1).f2)] (fun k_ => k_ ≠ gb261) (fun _ => False) rfl rfl ?aP (fun _ hk => hk.elim) ?aF ?aO ?aB ?aS ?aL ?_; (case aP => exact qz64); (case aB => exact qz4); (case aF => exact (fun k_ hk => Kd.freshB (g := gb261) (o := .cells #[.int .i64 a1_0, .int .i64 a1_1, .int .i64 a1_2] 72 (0, 0)) qz6 k_ hk)); (case aO => exact qz28); (case aS => exact (below_size qz4)); (case aL => have := LMc29.out; omega); intro v280 w31 ho hb hg hat; rw [← Ny279.out] at ho; have n0_ := aM (blk_grown (g := gb261) (o := .cells #[.int .i64 a1_0, .int .i64 a1_1, .int .i64 a1_2] 72 (0, 0)) qz6 hg (Kd.R_away HO_5.out (fun _ hk => hk))); have n1_ := aM (hb); have n2_ := aM (ho); clear BK261 HB HO_5; have BK261 := n0_; have HB := n1_; have HO281 := n2_; clear n0_ n1_ n2_; clear ho hb hg hat))
     repeat (go_quiet (first | ((with_reducible refine gate_builtin (b := .append) (xs := #[.tmp 42, .tmp 47]) rfl ?_); at_builtin; refine Kd.R_append k72 (w0 := w) w.heap.size rfl (.tmp 42) (.tmp 47) 77 72 (.agg #[(.int .i64 0), (.int .i64 0), (.int .i64 0)]) 24 rfl Try.underlying77 info72 rfl (by decide) (by omega) u5 x5_1 (⟨(rd_T72 l0 x7_1).f0, (rd_T72 l0 x7_1).f1, (rd_T72 l0 x7_1).f2⟩ : S72) [.int .i64 ((rd_T72 l0 x7_1).f0), .int .i64 ((rd_T72 l0 x7_1).f1), .int .i64 ((rd_T72 l0 x7_1).f2)] (fun k_ => k_ ≠ gb261) (fun _ => False) rfl rfl ?aP (fun _ hk => hk.elim) ?aF ?aO ?aB ?aS ?aL ?_; (case aP => exact qz64); (case aB => exact qz4); (case aF => exact (fun k_ hk => Kd.freshB (g := gb261) (o := .cells #[.int .i64 a1_0, .int .i64 a1_1, .int .i64 a1_2] 72 (0, 0)) qz6 k_ hk)); (case aO => exact qz28); (case aS => exact (below_size qz4)); (case aL => have := LMc29.out; omega); intro v280 w31 ho hb hg hat; rw [← Ny279.out] at ho; have n0_ := aM (blk_grown (g := gb261) (o := .cells #[.int .i64 a1_0, .int .i64 a1_1, .int .i64 a1_2] 72 (0, 0)) qz6 hg (Kd.R_away HO_5.out (fun _ hk => hk))); have n1_ := aM (hb); have n2_ := aM (ho); clear BK261 HB HO_5; have BK261 := n0_; have HB := n1_; have HO281 := n2_; clear n0_ n1_ n2_; clear ho hb hg hat)); try go_wp2_with (first | ((with_reducible refine gate_builtin (b := .append) (xs := #[.tmp 42, .tmp 47]) rfl ?_); at_builtin; refine Kd.R_append k72 (w0 := w) w.heap.size rfl (.tmp 42) (.tmp 47) 77 72 (.agg #[(.int .i64 0), (.int .i64 0), (.int .i64 0)]) 24 rfl Try.underlying77 info72 rfl (by decide) (by omega) u5 x5_1 (⟨(rd_T72 l0 x7_1).f0, (rd_T72 l0 x7_1).f1, (rd_T72 l0 x7_1).f2⟩ : S72) [.int .i64 ((rd_T72 l0 x7_1).f0), .int .i64 ((rd_T72 l0 x7_1).f1), .int .i64 ((rd_T72 l0 x7_1).f2)] (fun k_ => k_ ≠ gb261) (fun _ => False) rfl rfl ?aP (fun _ hk => hk.elim) ?aF ?aO ?aB ?aS ?aL ?_; (case aP => exact qz64); (case aB => exact qz4); (case aF => exact (fun k_ hk => Kd.freshB (g := gb261) (o := .cells #[.int .i64 a1_0, .int .i64 a1_1, .int .i64 a1_2] 72 (0, 0)) qz6 k_ hk)); (case aO => exact qz28); (case aS => exact (below_size qz4)); (case aL => have := LMc29.out; omega); intro v280 w31 ho hb hg hat; rw [← Ny279.out] at ho; have n0_ := aM (blk_grown (g := gb261) (o := .cells #[.int .i64 a1_0, .int .i64 a1_1, .int .i64 a1_2] 72 (0, 0)) qz6 hg (Kd.R_away HO_5.out (fun _ hk => hk))); have n1_ := aM (hb); have n2_ := aM (ho); clear BK261 HB HO_5; have BK261 := n0_; have HB := n1_; have HO281 := n2_; clear n0_ n1_ n2_; clear ho hb hg hat)))
     go_roundg kj7
     case measure => have := HK1.out; have := HJ7.out; omega
     case rel => exact ⟨(y279), (x6_1), (wrap64 (x7_1 + 1)), qz7, qz7, H', ⟨by have := HK1.out; have := HJ7.out; omega⟩, ⟨by (with_reducible repeat (first | apply Kd.R_alloc | apply Kd.R_drewN | apply Kd.R_drew)); (first | exact HO281.out | exact Kd.R_mono HO281.out (fun _ h_ => h_.1) | exact Kd.R_mono HO281.out (fun _ h_ => h_.2))⟩, ⟨by (with_reducible repeat (first | refine blk_drewN ?_ _ | refine blk_drew ?_ | refine blk_alloc ?_ _)); exact BK261.out⟩, ⟨by repeat (first | (with_reducible first | exact HB.out | apply below_alloc | apply pw_below_drewN | apply below_drew1 | refine below_set ?_ GE261.out) | exact HB.out)⟩⟩
     }
     {
     rw [if_neg c29] at H
     exact absurd H (by simp)
     }
     }
     }
     {
     rw [if_neg c26] at H
     exact absurd H (by simp)
     }
     }
     {
     rw [if_neg c25] at H
     exact absurd H (by simp)
     }
     }
   }
   {
   rw [if_neg c7] at H
   have c7b0 := decide_eq_false c7
   clear c7
   by_cases c32 : x6_1 = true
   {
   subst c32
   rw [if_pos rfl] at H
   obtain rfl := Option.some.inj H
   simp only [Option.some.injEq, Prod.mk.injEq] at H
   obtain ⟨rfl⟩ := H
   go_wp2
   repeat (go_quiet (fail); try go_wp2)
   go_ret
   exact ⟨_, by first | rfl | (simp [errW_none, errW_some] <;> rfl) | (simp [*, errW_none, errW_some] <;> rfl), by (with_reducible repeat (first | apply Kd.R_alloc | apply Kd.R_drewN | apply Kd.R_drew)); exact Kd.R_mono HO_5.out (fun _ hk => trivial), by repeat (first | (with_reducible first | exact HB.out | apply below_alloc | apply pw_below_drewN | apply below_drew1 | refine below_set ?_ GE261.out) | exact HB.out)⟩
   }
   {
   replace c32 := Bool.eq_false_iff.mpr c32
   subst c32
   rw [if_neg (show ¬ (false = true) by decide)] at H
   by_cases c33 : x5_1.length < 5864062014805
   {
   rw [if_pos c33] at H
   have LMc33 := aM c33
   clear c33
   obtain ⟨y265, hy265⟩ : ∃ y_ : List (S72), y_ = (x5_1 ++ [(⟨a1_0, a1_1, a1_2⟩ : S72)]) := ⟨_, rfl⟩
   replace H : (some y265) = some r := by first | (rw [hy265]; with_reducible exact H) | (have H2_ := (Option.bind_some _ _).symm.trans H; rw [hy265]; with_reducible exact H2_) | (have H2_ := (Option.bind_some _ _).symm.trans H; with_reducible exact H2_) | with_reducible exact H | (rw [hy265]; exact H) | exact H
   have Ny265 := aM hy265
   clear hy265
   obtain rfl := Option.some.inj H
   simp only [Option.some.injEq, Prod.mk.injEq] at H
   obtain ⟨rfl⟩ := H
   have hcz34_0 : wr.cell? ⟨gb261, 0, none⟩ = some (.int .i64 a1_0) := (blk_cell BK261.out 0).trans rfl
   have hcz34_1 : wr.cell? ⟨gb261, 1, none⟩ = some (.int .i64 a1_1) := (blk_cell BK261.out 1).trans rfl
   have hcz34_2 : wr.cell? ⟨gb261, 2, none⟩ = some (.int .i64 a1_2) := (blk_cell BK261.out 2).trans rfl
   have hfz34_0 := blk_frozen BK261.out 0
   have hfz34_1 := blk_frozen BK261.out 1
   have hfz34_2 := blk_frozen BK261.out 2
   go_wp2_with (first | ((with_reducible refine gate_builtin (b := .append) (xs := #[.tmp 51, .tmp 53]) rfl ?_); at_builtin; refine Kd.R_append k72 (w0 := w) w.heap.size rfl (.tmp 51) (.tmp 53) 77 72 (.agg #[(.int .i64 0), (.int .i64 0), (.int .i64 0)]) 24 rfl Try.underlying77 info72 rfl (by decide) (by omega) u5 x5_1 (⟨a1_0, a1_1, a1_2⟩ : S72) [.int .i64 a1_0, .int .i64 a1_1, .int .i64 a1_2] (fun k_ => k_ ≠ gb261) (fun _ => False) rfl rfl ?aP (fun _ hk => hk.elim) ?aF ?aO ?aB ?aS ?aL ?_; (case aP => exact qz94); (case aB => exact qz4); (case aF => exact (fun k_ hk => Kd.freshB (g := gb261) (o := .cells #[.int .i64 a1_0, .int .i64 a1_1, .int .i64 a1_2] 72 (0, 0)) qz6 k_ hk)); (case aO => exact qz28); (case aS => exact (below_size qz4)); (case aL => have := LMc33.out; omega); intro v266 w35 ho hb hg hat; rw [← Ny265.out] at ho; have n0_ := aM (blk_grown (g := gb261) (o := .cells #[.int .i64 a1_0, .int .i64 a1_1, .int .i64 a1_2] 72 (0, 0)) qz6 hg (Kd.R_away HO_5.out (fun _ hk => hk))); have n1_ := aM (hb); have n2_ := aM (ho); clear BK261 HB HO_5; have BK261 := n0_; have HB := n1_; have HO267 := n2_; clear n0_ n1_ n2_; clear ho hb hg hat))
   repeat (go_quiet (first | ((with_reducible refine gate_builtin (b := .append) (xs := #[.tmp 51, .tmp 53]) rfl ?_); at_builtin; refine Kd.R_append k72 (w0 := w) w.heap.size rfl (.tmp 51) (.tmp 53) 77 72 (.agg #[(.int .i64 0), (.int .i64 0), (.int .i64 0)]) 24 rfl Try.underlying77 info72 rfl (by decide) (by omega) u5 x5_1 (⟨a1_0, a1_1, a1_2⟩ : S72) [.int .i64 a1_0, .int .i64 a1_1, .int .i64 a1_2] (fun k_ => k_ ≠ gb261) (fun _ => False) rfl rfl ?aP (fun _ hk => hk.elim) ?aF ?aO ?aB ?aS ?aL ?_; (case aP => exact qz94); (case aB => exact qz4); (case aF => exact (fun k_ hk => Kd.freshB (g := gb261) (o := .cells #[.int .i64 a1_0, .int .i64 a1_1, .int .i64 a1_2] 72 (0, 0)) qz6 k_ hk)); (case aO => exact qz28); (case aS => exact (below_size qz4)); (case aL => have := LMc33.out; omega); intro v266 w35 ho hb hg hat; rw [← Ny265.out] at ho; have n0_ := aM (blk_grown (g := gb261) (o := .cells #[.int .i64 a1_0, .int .i64 a1_1, .int .i64 a1_2] 72 (0, 0)) qz6 hg (Kd.R_away HO_5.out (fun _ hk => hk))); have n1_ := aM (hb); have n2_ := aM (ho); clear BK261 HB HO_5; have BK261 := n0_; have HB := n1_; have HO267 := n2_; clear n0_ n1_ n2_; clear ho hb hg hat)); try go_wp2_with (first | ((with_reducible refine gate_builtin (b := .append) (xs := #[.tmp 51, .tmp 53]) rfl ?_); at_builtin; refine Kd.R_append k72 (w0 := w) w.heap.size rfl (.tmp 51) (.tmp 53) 77 72 (.agg #[(.int .i64 0), (.int .i64 0), (.int .i64 0)]) 24 rfl Try.underlying77 info72 rfl (by decide) (by omega) u5 x5_1 (⟨a1_0, a1_1, a1_2⟩ : S72) [.int .i64 a1_0, .int .i64 a1_1, .int .i64 a1_2] (fun k_ => k_ ≠ gb261) (fun _ => False) rfl rfl ?aP (fun _ hk => hk.elim) ?aF ?aO ?aB ?aS ?aL ?_; (case aP => exact qz94); (case aB => exact qz4); (case aF => exact (fun k_ hk => Kd.freshB (g := gb261) (o := .cells #[.int .i64 a1_0, .int .i64 a1_1, .int .i64 a1_2] 72 (0, 0)) qz6 k_ hk)); (case aO => exact qz28); (case aS => exact (below_size qz4)); (case aL => have := LMc33.out; omega); intro v266 w35 ho hb hg hat; rw [← Ny265.out] at ho; have n0_ := aM (blk_grown (g := gb261) (o := .cells #[.int .i64 a1_0, .int .i64 a1_1, .int .i64 a1_2] 72 (0, 0)) qz6 hg (Kd.R_away HO_5.out (fun _ hk => hk))); have n1_ := aM (hb); have n2_ := aM (ho); clear BK261 HB HO_5; have BK261 := n0_; have HB := n1_; have HO267 := n2_; clear n0_ n1_ n2_; clear ho hb hg hat)))
   go_ret
   exact ⟨_, by first | rfl | (simp [errW_none, errW_some] <;> rfl) | (simp [*, errW_none, errW_some] <;> rfl), by (with_reducible repeat (first | apply Kd.R_alloc | apply Kd.R_drewN | apply Kd.R_drew)); exact Kd.R_mono HO267.out (fun _ hk => trivial), by repeat (first | (with_reducible first | exact HB.out | apply below_alloc | apply pw_below_drewN | apply below_drew1 | refine below_set ?_ GE261.out) | exact HB.out)⟩
   }
   {
   rw [if_neg c33] at H
   exact absurd H (by simp)

   }
   }
   }
end Go.Proofs.Yteajnkondkfmgaa.PFnExactHoldAll
