-- Made by a program of this session out of the translation. Lean checks it.
import Derived.Test.YteajnkondkfmgaaPFnExactTakeAllx0
namespace Go.Proofs.Yteajnkondkfmgaa.PFnExactTakeAll
open Go.RowKit Go.Proofs.YteajnkondkfmgaaW.PrintWords Go.Proofs.YteajnkondkfmgaaW.PrintLast Go.Proofs.YteajnkondkfmgaaW.PrintMore
attribute [local go_sem] max2_int min2_int max_two min_two max_three min_three max_four min_four   -- for this text's walks alone
set_option linter.unusedVariables false
set_option linter.unusedSimpArgs false

/-! ### spec_l5Copy: function 62 -/
def spec_l5Copy.l0 : Nat → Int → List (S79) → List (S79) → Option ((List (S79)))
 | 0, _, _, _ => none
 | k + 1, x4, x271000, x273000 => if x4 < (x271000.length : Int) then (if 0 ≤ x4 then ((some (([] : List (S72)) : List (S72))).bind fun y275 => (if y275.length + ((rd_T79 x271000 x4).f2).length < 5864062014805 then (if x273000.length < 3518437208883 then (spec_l5Copy.l0 k (wrap64 (x4 + 1)) x271000 (x273000 ++ [(⟨(rd_T79 x271000 x4).f0, (rd_T79 x271000 x4).f1, (y275 ++ ((rd_T79 x271000 x4).f2))⟩ : S79)])) else (none)) else (none))) else (none)) else (some x273000)
def spec_l5Copy.f (k : Nat) (l0_0 : List (S79)) : Option ((List (S79))) := spec_l5Copy.l0 k 0 l0_0 ([] : List (S79))
theorem spec_l5Copy.mono_l : ∀ k, (∀ y0 y1 y2, LeO (spec_l5Copy.l0 k y0 y1 y2) (spec_l5Copy.l0 (k + 1) y0 y1 y2))
 | 0 => fun _ _ _ r h => by simp [spec_l5Copy.l0] at h
 | k + 1 => by
  have ih0 := spec_l5Copy.mono_l k
  {
  intro y0 y1 y2
  unfold spec_l5Copy.l0
  repeat' first
  | (with_reducible first | exact ih0 _ _ _ | exact LeO.refl _ | exact LeO.none _ | refine LeO.ite ?_ ?_ | refine LeO.bind ?_ (fun _ => ?_))
  | exact ih0 _ _ _
  | exact LeO.none _
  | refine LeO.ite ?_ ?_
  | refine LeO.bind ?_ (fun _ => ?_)
  }
theorem spec_l5Copy.mono : ∀ a0 k, LeO (spec_l5Copy.f k a0) (spec_l5Copy.f (k + 1) a0) := by
 intro a0 k
 have ih0 := spec_l5Copy.mono_l k
 unfold spec_l5Copy.f
 repeat' first
  | (with_reducible first | exact ih0 _ _ _ | exact LeO.refl _ | exact LeO.none _ | refine LeO.ite ?_ ?_ | refine LeO.bind ?_ (fun _ => ?_))
  | exact ih0 _ _ _
  | exact LeO.none _
  | refine LeO.ite ?_ ?_
  | refine LeO.bind ?_ (fun _ => ?_)
def spec_l5Copy.T6 : Bool × List (List Nat × List Nat) := (true, [([], []), ([0], [0]), ([], []), ([2], [2]), ([], []), ([4], [4]), ([], []), ([], []), ([7], [7]), ([6, 8], [6, 8]), ([3, 5, 9], [3, 5, 9]), ([10], [10]), ([1, 11, 9], [1, 11]), ([0, 1, 2, 3, 4, 5, 6, 7, 8, 9, 10, 11, 12], []), ([13, 12, 12, 0, 1, 2, 3, 4, 5, 6, 7, 8, 9, 10, 11, 12], [12, 13])])
def spec_l5Copy.B6 : List Nat := [0, 1, 0, 4, 0, 16, 0, 0, 128, 448, 1020, 2044, 4095, 8191, 16383]
theorem spec_l5Copy.tab6 : rtab .any (opsOf Try.f62 6) = spec_l5Copy.T6 := by kernel_rfl
theorem spec_l5Copy.bits6 : waitsOk spec_l5Copy.T6.2 spec_l5Copy.B6 = true := by kernel_rfl
set_option maxHeartbeats 8000000 in
set_option maxRecDepth 100000 in
theorem spec_l5Copy.calls (k : Nat) (A0_0 : Option Addr) (c0_0 : Nat) (l0_0 : List (S79)) (r : List (S79)) (w : World) (hr0_0 : Kd.C k79 w A0_0 l0_0.length l0_0) (hc0_0 : l0_0.length ≤ c0_0) (h : spec_l5Copy.f k l0_0 = some r) :
  Calls Try.prog 62 #[.agg #[.slice A0_0 l0_0.length c0_0]] w fun e w' => ∃ v0_ : Value, e = .returned (.agg #[v0_]) ∧ Kd.S k79 79 w' w.heap.size (fun _ => True) v0_ r ∧ Below w.heap.size w w' := by
 have hu26 := Try.underlying26
 have hu79 := Try.underlying79
 have HR0_0 := aM hr0_0
 have HC0_0 := aM hc0_0
 clear hr0_0 hc0_0
 have HB := aM (Below.refl w.heap.size w)
 have H : (spec_l5Copy.l0 k 0 l0_0 ([] : List (S79))) = some r := h
 clear h
 have H' := aM H
 clear H
 go_enter Try.func62, Try.ntmps62
 go_wp2_with (first | ((with_reducible refine gate_dst (N := 1) rfl ?_); refine bx_ 1 #[.slice A0_0 l0_0.length c0_0] 26 ?_; intro gb270 hg w2 hbox hb; have n0_ := aM (below_step qz1 hb); have n1_ := aM (hbox); have n2_ := aM ((by rw [hg]; exact (below_size qz1) : w.heap.size ≤ gb270)); have n3_ := aM ((by rw [hg]; exact (below_size qz1) : w.heap.size ≤ gb270)); clear HB; have HB := n0_; have BK270 := n1_; have GW270 := n2_; have GE270 := n3_; clear n0_ n1_ n2_ n3_; clear hb hbox hg) | ((with_reducible refine gate_dst (N := 2) rfl ?_); refine bx_ 2 #[.slice none 0 0] 26 ?_; intro gb271 hg w3 hbox hb; have n0_ := aM (blk_below (bk_ BK270.out) hb); have n1_ := aM (below_step qz55 hb); have n2_ := aM (hbox); have n3_ := aM ((by rw [hg]; exact (below_size qz55) : w.heap.size ≤ gb271)); have n4_ := aM ((by rw [hg]; exact (below_size qz55) : w.heap.size ≤ gb271)); have n5_ := aM ((by rw [hg]; exact Nat.ne_of_lt (blk_lt (bk_ BK270.out)) : gb270 ≠ gb271)); have n6_ := aM ((by rw [hg]; exact Nat.ne_of_gt (blk_lt (bk_ BK270.out)) : gb271 ≠ gb270)); clear BK270 HB; have BK270 := n0_; have HB := n1_; have BK271 := n2_; have GW271 := n3_; have GE271 := n4_; have NB270_271 := n5_; have NB271_270 := n6_; clear n0_ n1_ n2_ n3_ n4_ n5_ n6_; clear hb hbox hg) | ((with_reducible refine gate_dst (N := 3) rfl ?_); refine bx_ 3 #[.slice none 0 0] 26 ?_; intro gb272 hg w4 hbox hb; have n0_ := aM (blk_below (bk_ BK270.out) hb); have n1_ := aM (blk_below (bk_ BK271.out) hb); have n2_ := aM (below_step qz42 hb); have n3_ := aM (hbox); have n4_ := aM ((by rw [hg]; exact (below_size qz42) : w.heap.size ≤ gb272)); have n5_ := aM ((by rw [hg]; exact (below_size qz42) : w.heap.size ≤ gb272)); have n6_ := aM ((by rw [hg]; exact Nat.ne_of_lt (blk_lt (bk_ BK270.out)) : gb270 ≠ gb272)); have n7_ := aM ((by rw [hg]; exact Nat.ne_of_gt (blk_lt (bk_ BK270.out)) : gb272 ≠ gb270)); have n8_ := aM ((by rw [hg]; exact Nat.ne_of_lt (blk_lt (bk_ BK271.out)) : gb271 ≠ gb272)); have n9_ := aM ((by rw [hg]; exact Nat.ne_of_gt (blk_lt (bk_ BK271.out)) : gb272 ≠ gb271)); clear BK270 BK271 HB; have BK270 := n0_; have BK271 := n1_; have HB := n2_; have BK272 := n3_; have GW272 := n4_; have GE272 := n5_; have NB270_272 := n6_; have NB272_270 := n7_; have NB271_272 := n8_; have NB272_271 := n9_; clear n0_ n1_ n2_ n3_ n4_ n5_ n6_ n7_ n8_ n9_; clear hb hbox hg; have hnb5 := NB272_270.out; have hnc5 := NB270_272.out; have hnb6 := NB272_271.out; have hnc6 := NB271_272.out; have hcz7_0 := bc0_ BK272.out; have hfz7_0 := blk_frozen BK272.out 0))
 go_loopg [4] k (fun kq v4 w' => ∃ (x4_1 : Int) (x273000_1 : List (S79)) (u273000 : Value), v4 = .int .i64 x4_1 ∧ Aside0 (spec_l5Copy.l0 kq x4_1 l0_0 x273000_1 = some r) ∧ Aside0 (kq ≤ k) ∧ Aside0 (Kd.S k79 79 w' w.heap.size (fun _ => True) u273000 x273000_1) ∧ Aside0 (w'.heap[gb270]? = some (.cells #[(.slice A0_0 l0_0.length c0_0)] 26 (0, 0))) ∧ Aside0 (w'.heap[gb271]? = some (.cells #[(.slice none 0 0)] 26 (0, 0))) ∧ Aside0 (w'.heap[gb272]? = some (.cells #[u273000] 26 (0, 0))) ∧ Aside0 (Below w.heap.size w w'))
 case atStart => exact ⟨(0), (([] : List (S79))), (.slice none 0 0), qz6, H', ⟨Nat.le_refl _⟩, ⟨by first | exact Kd.S_nil _ _ _ _ _ | exact Kd.N_nil _ _ _ _ _ | exact Kd.V_nil _ _ _ _ _ | exact Kd.Q_nil _ _ _ _ _ | exact Kd.R_nil _ _ _ _ _⟩, ⟨by (with_reducible repeat (first | refine blk_drewN ?_ _ | refine blk_drew ?_ | refine blk_alloc ?_ _)); refine blk_far ?_ NB270_272.out _; exact bk_ BK270.out⟩, ⟨by (with_reducible repeat (first | refine blk_drewN ?_ _ | refine blk_drew ?_ | refine blk_alloc ?_ _)); refine blk_far ?_ NB271_272.out _; exact bk_ BK271.out⟩, ⟨by (with_reducible repeat (first | refine blk_drewN ?_ _ | refine blk_drew ?_ | refine blk_alloc ?_ _)); refine blk_put (cs := #[.slice none 0 0]) ?_ 0 _ rfl; exact bk_ BK272.out⟩, ⟨by repeat (first | (with_reducible first | exact HB.out | apply below_alloc | apply pw_below_drewN | apply below_drew1 | refine below_set ?_ GE270.out | refine below_set ?_ GE271.out | refine below_set ?_ GE272.out) | exact HB.out)⟩⟩
 case round =>
  clear H'
  try clear p2
  try clear c5
  try clear c6
  try clear hcz7_0
  try clear hfz7_0
  obtain ⟨x4_1, x273000_1, u273000, rfl, HA, HK1, HO_273000, BK270, BK271, BK272, HB⟩ := hrel
  cases gk with
  | zero => exact absurd HA.out (by simp [spec_l5Copy.l0])
  | succ k1 =>
   have H := HA.out
   clear HA
   simp only [spec_l5Copy.l0] at H
   by_cases c8 : x4_1 < (l0_0.length : Int)
   {
   rw [if_pos c8] at H
   have c8b0 := decide_eq_true c8
   clear c8
   by_cases c9 : 0 ≤ x4_1
   {
   rw [if_pos c9] at H
   have c9b0 := decide_eq_true c9
   clear c9
   obtain ⟨y275, hy275⟩ : ∃ y_ : List (S72), y_ = (([] : List (S72))) := ⟨_, rfl⟩
   replace H : (if y275.length + ((rd_T79 l0_0 x4_1).f2).length < 5864062014805 then (if x273000_1.length < 3518437208883 then (spec_l5Copy.l0 k1 (wrap64 (x4_1 + 1)) l0_0 (x273000_1 ++ [(⟨(rd_T79 l0_0 x4_1).f0, (rd_T79 l0_0 x4_1).f1, (y275 ++ ((rd_T79 l0_0 x4_1).f2))⟩ : S79)])) else (none)) else (none)) = some r := by first | (rw [hy275]; with_reducible exact H) | (have H2_ := (Option.bind_some _ _).symm.trans H; rw [hy275]; with_reducible exact H2_) | (have H2_ := (Option.bind_some _ _).symm.trans H; with_reducible exact H2_) | with_reducible exact H | (rw [hy275]; exact H) | exact H
   have Ny275 := aM hy275
   clear hy275
   by_cases c10 : y275.length + ((rd_T79 l0_0 x4_1).f2).length < 5864062014805
   {
   rw [if_pos c10] at H
   have LMc10 := aM c10
   clear c10
   obtain ⟨y278, hy278⟩ : ∃ y_ : List (S72), y_ = (y275 ++ ((rd_T79 l0_0 x4_1).f2)) := ⟨_, rfl⟩
   replace H : (if x273000_1.length < 3518437208883 then (spec_l5Copy.l0 k1 (wrap64 (x4_1 + 1)) l0_0 (x273000_1 ++ [(⟨(rd_T79 l0_0 x4_1).f0, (rd_T79 l0_0 x4_1).f1, y278⟩ : S79)])) else (none)) = some r := by first | (rw [hy278]; with_reducible exact H) | (have H2_ := (Option.bind_some _ _).symm.trans H; rw [hy278]; with_reducible exact H2_) | (have H2_ := (Option.bind_some _ _).symm.trans H; with_reducible exact H2_) | with_reducible exact H | (rw [hy278]; exact H) | exact H
   have Ny278 := aM hy278
   clear hy278
   by_cases c11 : x273000_1.length < 3518437208883
   {
   rw [if_pos c11] at H
   have LMc11 := aM c11
   clear c11
   obtain ⟨y281, hy281⟩ : ∃ y_ : List (S79), y_ = (x273000_1 ++ [(⟨(rd_T79 l0_0 x4_1).f0, (rd_T79 l0_0 x4_1).f1, y278⟩ : S79)]) := ⟨_, rfl⟩
   replace H : (spec_l5Copy.l0 k1 (wrap64 (x4_1 + 1)) l0_0 y281) = some r := by first | (rw [hy281]; with_reducible exact H) | (have H2_ := (Option.bind_some _ _).symm.trans H; rw [hy281]; with_reducible exact H2_) | (have H2_ := (Option.bind_some _ _).symm.trans H; with_reducible exact H2_) | with_reducible exact H | (rw [hy281]; exact H) | exact H
   have Ny281 := aM hy281
   clear hy281
   have H' := aM H
   clear H
   have hnb12 := NB270_271.out
   have hnc12 := NB271_270.out
   have hnb13 := NB270_272.out
   have hnc13 := NB272_270.out
   have hcz14_0 := bc0_ BK270.out
   have hfz14_0 := blk_frozen BK270.out 0
   have p273 : 0 ≤ (x4_1 : Int) := of_decide_eq_true qz3
   have q273 : x4_1 < (l0_0.length : Int) := of_decide_eq_true qz3
   obtain ⟨ad273, A273_2, c273_2, e273, hx273_0, hx273_1, hx273_2, hl273_2, hi273_2⟩ := at_T79 HR0_0.out x4_1 p273 q273
   cases e273
   replace hx273_0 := pw_cell_below HB.out hx273_0
   replace hx273_1 := pw_cell_below HB.out hx273_1
   replace hx273_2 := pw_cell_below HB.out hx273_2
   have HR273_2 := aM hi273_2
   have HC273_2 := aM hl273_2
   clear hi273_2 hl273_2
   replace p273 := eq_true p273
   replace q273 := eq_true q273
   try go_wp2_with (first | ((with_reducible refine gate_dst (N := 5) rfl ?_); refine bx_ 5 #[.int .i64 0, .int .i64 0, .slice none 0 0] 79 ?_; intro gb274 hg w15 hbox hb; have n0_ := aM (Kd.S_below (Kd.S_elderB (rs_ HO_273000.out) gb274 (Nat.le_of_eq hg.symm)) hb); have n1_ := aM (blk_below (bk_ BK270.out) hb); have n2_ := aM (blk_below (bk_ BK271.out) hb); have n3_ := aM (blk_below (bk_ BK272.out) hb); have n4_ := aM (below_step qz36 hb); have n5_ := aM (hbox); have n6_ := aM ((by rw [hg]; exact (below_size qz36) : w.heap.size ≤ gb274)); have n7_ := aM ((by rw [hg]; exact (below_size qz36) : w.heap.size ≤ gb274)); have n8_ := aM ((by rw [hg]; exact Nat.ne_of_lt (blk_lt (bk_ BK270.out)) : gb270 ≠ gb274)); have n9_ := aM ((by rw [hg]; exact Nat.ne_of_gt (blk_lt (bk_ BK270.out)) : gb274 ≠ gb270)); have n10_ := aM ((by rw [hg]; exact Nat.ne_of_lt (blk_lt (bk_ BK271.out)) : gb271 ≠ gb274)); have n11_ := aM ((by rw [hg]; exact Nat.ne_of_gt (blk_lt (bk_ BK271.out)) : gb274 ≠ gb271)); have n12_ := aM ((by rw [hg]; exact Nat.ne_of_lt (blk_lt (bk_ BK272.out)) : gb272 ≠ gb274)); have n13_ := aM ((by rw [hg]; exact Nat.ne_of_gt (blk_lt (bk_ BK272.out)) : gb274 ≠ gb272)); clear HO_273000 BK270 BK271 BK272 HB; have HO_273000 := n0_; have BK270 := n1_; have BK271 := n2_; have BK272 := n3_; have HB := n4_; have BK274 := n5_; have GW274 := n6_; have GE274 := n7_; have NB270_274 := n8_; have NB274_270 := n9_; have NB271_274 := n10_; have NB274_271 := n11_; have NB272_274 := n12_; have NB274_272 := n13_; clear n0_ n1_ n2_ n3_ n4_ n5_ n6_ n7_ n8_ n9_ n10_ n11_ n12_ n13_; clear hb hbox hg; have hnb16 := NB274_270.out; have hnc16 := NB270_274.out; have hnb17 := NB274_271.out; have hnc17 := NB271_274.out; have hnb18 := NB274_272.out; have hnc18 := NB272_274.out; obtain ⟨hcz19_0, hcz19_1, hcz19_2, hfz19_0, hfz19_1, hfz19_2⟩ := b6_ BK274.out))
   generalize hq_ : (((w15.setCell ⟨gb274, 0, none⟩ (.int .i64 ((rd_T79 l0_0 x4_1).f0))).setCell ⟨gb274, 1, none⟩ (.int .i64 ((rd_T79 l0_0 x4_1).f1))).setCell ⟨gb274, 2, none⟩ (.slice A273_2 ((rd_T79 l0_0 x4_1).f2).length c273_2)) = w20
   have n0_ : Aside0 (Kd.S k79 79 w20 w.heap.size (fun k_ => k_ ≠ gb274) u273000 x273000_1) := ⟨by rw [← hq_]; exact (by (with_reducible repeat (first | apply Kd.S_alloc | apply Kd.S_drewN | apply Kd.S_drew)); exact Kd.S_mono (Kd.S_far (p := ⟨gb274, 2, none⟩) (Kd.S_far (p := ⟨gb274, 1, none⟩) (Kd.S_far (p := ⟨gb274, 0, none⟩) (Kd.S_mono HO_273000.out (fun k_ hk => (⟨hk, hk.2⟩ : _ ∧ k_ ≠ gb274))) (fun _ hk => hk.2) (.int .i64 ((rd_T79 l0_0 x4_1).f0))) (fun _ hk => hk.2) (.int .i64 ((rd_T79 l0_0 x4_1).f1))) (fun _ hk => hk.2) (.slice A273_2 ((rd_T79 l0_0 x4_1).f2).length c273_2)) (fun _ hk => hk.1.2))⟩
   have n1_ : Aside0 (w20.heap[gb270]? = some (.cells #[.slice (some ad273) l0_0.length c0_0] 26 (0, 0))) := ⟨by rw [← hq_]; exact (by (with_reducible repeat (first | refine blk_drewN ?_ _ | refine blk_drew ?_ | refine blk_alloc ?_ _)); refine blk_far ?_ NB270_274.out _; (with_reducible repeat (first | refine blk_drewN ?_ _ | refine blk_drew ?_ | refine blk_alloc ?_ _)); refine blk_far ?_ NB270_274.out _; (with_reducible repeat (first | refine blk_drewN ?_ _ | refine blk_drew ?_ | refine blk_alloc ?_ _)); refine blk_far ?_ NB270_274.out _; exact bk_ BK270.out)⟩
   have n2_ : Aside0 (w20.heap[gb271]? = some (.cells #[.slice none 0 0] 26 (0, 0))) := ⟨by rw [← hq_]; exact (by (with_reducible repeat (first | refine blk_drewN ?_ _ | refine blk_drew ?_ | refine blk_alloc ?_ _)); refine blk_far ?_ NB271_274.out _; (with_reducible repeat (first | refine blk_drewN ?_ _ | refine blk_drew ?_ | refine blk_alloc ?_ _)); refine blk_far ?_ NB271_274.out _; (with_reducible repeat (first | refine blk_drewN ?_ _ | refine blk_drew ?_ | refine blk_alloc ?_ _)); refine blk_far ?_ NB271_274.out _; exact bk_ BK271.out)⟩
   have n3_ : Aside0 (w20.heap[gb272]? = some (.cells #[u273000] 26 (0, 0))) := ⟨by rw [← hq_]; exact (by (with_reducible repeat (first | refine blk_drewN ?_ _ | refine blk_drew ?_ | refine blk_alloc ?_ _)); refine blk_far ?_ NB272_274.out _; (with_reducible repeat (first | refine blk_drewN ?_ _ | refine blk_drew ?_ | refine blk_alloc ?_ _)); refine blk_far ?_ NB272_274.out _; (with_reducible repeat (first | refine blk_drewN ?_ _ | refine blk_drew ?_ | refine blk_alloc ?_ _)); refine blk_far ?_ NB272_274.out _; exact bk_ BK272.out)⟩
   have n4_ : Aside0 (w20.heap[gb274]? = some (.cells #[.int .i64 ((rd_T79 l0_0 x4_1).f0), .int .i64 ((rd_T79 l0_0 x4_1).f1), .slice A273_2 ((rd_T79 l0_0 x4_1).f2).length c273_2] 79 (0, 0))) := ⟨by rw [← hq_]; exact (by (with_reducible repeat (first | refine blk_drewN ?_ _ | refine blk_drew ?_ | refine blk_alloc ?_ _)); refine blk_put (cs := #[.int .i64 ((rd_T79 l0_0 x4_1).f0), .int .i64 ((rd_T79 l0_0 x4_1).f1), .slice none 0 0]) ?_ 2 _ rfl; (with_reducible repeat (first | refine blk_drewN ?_ _ | refine blk_drew ?_ | refine blk_alloc ?_ _)); refine blk_put (cs := #[.int .i64 ((rd_T79 l0_0 x4_1).f0), .int .i64 0, .slice none 0 0]) ?_ 1 _ rfl; (with_reducible repeat (first | refine blk_drewN ?_ _ | refine blk_drew ?_ | refine blk_alloc ?_ _)); refine blk_put (cs := #[.int .i64 0, .int .i64 0, .slice none 0 0]) ?_ 0 _ rfl; exact bk_ BK274.out)⟩
   have n5_ : Aside0 (Below w.heap.size w w20) := ⟨by rw [← hq_]; exact qz20⟩
   (try clear HO_273000)
   (try clear BK270)
   (try clear BK271)
   (try clear BK272)
   (try clear BK274)
   (try clear HB)
   clear hq_
   have HO_273000 := n0_
   have BK270 := n1_
   have BK271 := n2_
   have BK272 := n3_
   have BK274 := n4_
   have HB := n5_
   clear n0_ n1_ n2_ n3_ n4_ n5_
   have n0_ := aM (Kd.S_drew HO_273000.out)
   have n1_ := aM (blk_drew BK270.out)
   have n2_ := aM (blk_drew BK271.out)
   have n3_ := aM (blk_drew BK272.out)
   have n4_ := aM (blk_drew BK274.out)
   have n5_ := aM (below_drew1 HB.out)
   clear HO_273000
   clear BK270
   clear BK271
   clear BK272
   clear BK274
   clear HB
   have HO_273000 := n0_
   have BK270 := n1_
   have BK271 := n2_
   have BK272 := n3_
   have BK274 := n4_
   have HB := n5_
   clear n0_ n1_ n2_ n3_ n4_ n5_
   refine start_ (n := 15) (S := fun w' => w'.cell? ⟨gb272, 0, none⟩ = some (u273000) ∧ w'.cell? ⟨gb274, 0, none⟩ = some (.int .i64 ((rd_T79 l0_0 x4_1).f0)) ∧ w'.cell? ⟨gb274, 1, none⟩ = some (.int .i64 ((rd_T79 l0_0 x4_1).f1)) ∧ w'.cell? ⟨gb274, 2, none⟩ = some (.slice A273_2 ((rd_T79 l0_0 x4_1).f2).length c273_2)) (ds := [14]) #[false, false, false, false, false, false, false, false, false, false, false, false, false, false, false] (by kernel_rfl) rfl rfl ⟨(blk_cell BK272.out 0).trans rfl, (blk_cell BK274.out 0).trans rfl, (blk_cell BK274.out 1).trans rfl, (blk_cell BK274.out 2).trans rfl⟩ (fun hHeld => ?_); refine with_tabW spec_l5Copy.tab6 spec_l5Copy.bits6 (fun HT_ HW_ => ?_)
   generalize w20.drew = w21 at HO_273000 BK270 BK271 BK272 BK274 HB hHeld ⊢
   refine pI_ 0 19 (bqz 15 1) ?_
   refine pI_ 2 21 (bqz 15 5) ?_
   refine pI_ 4 23 (bqz 15 21) ?_
   refine pI_ 7 26 (bqz 15 149) ?_
   refine tI4_ 1 20 (bqz 15 151) ?_
   refine tI4_ 3 22 (bqz 15 159) ?_
   refine tI4_ 5 24 (bqz 15 191) ?_
   refine tI4_ 8 27 (bqz 15 447) ?_
   refine one_ (i := 6) (N := some 25) (bqz 15 511) rfl rfl qzc (by decide) (fun K hK => ?_)
   refine Kd.R_lit_step k72 _ 72 ?hg (N := 25) ?hd (xs := ([] : List (S72))) (inner := []) (ok := fun _ => True) (okp := fun _ => True) ?hr ?hp (fun _ hk => hk) trivial (Below.refl _ _) (Nat.le_refl _) (by simp) ?_; (case hd => rfl); (case hg => rfl); (case hr => exact qz44); (case hp => exact (Reps.none _ _))
   intro v276 w22 ho23 hb hg_ hnew_
   clear hg_ hnew_
   (first | rw [← Ny275.out] at ho23 | (simp only [Int.reduceToNat] at ho23; rw [← Ny275.out] at ho23))
   have n0_ := aM (Kd.S_elder' (rs_ HO_273000.out) (Kd.R_base ho23) hb)
   have n1_ := aM (Kd.R_lower ho23 (below_size qz20))
   have n2_ := aM (blk_below (bk_ BK270.out) hb)
   have n3_ := aM (blk_below (bk_ BK271.out) hb)
   have n4_ := aM (blk_below (bk_ BK272.out) hb)
   have n5_ := aM (blk_below (bk_ BK274.out) hb)
   have n6_ := aM (below_step qz20 hb)
   clear HO_273000
   clear BK270
   clear BK271
   clear BK272
   clear BK274
   clear HB
   have HO_273000 := n0_
   have HO277 := n1_
   have BK270 := n2_
   have BK271 := n3_
   have BK272 := n4_
   have BK274 := n5_
   have HB := n6_
   clear n0_ n1_ n2_ n3_ n4_ n5_ n6_
   clear hb ho23
   refine hK.out _ _ ⟨(blk_cell BK272.out 0).trans rfl, (blk_cell BK274.out 0).trans rfl, (blk_cell BK274.out 1).trans rfl, (blk_cell BK274.out 2).trans rfl⟩ (fun hHeld => ?_)
   clear hK K
   refine norm_ (a' := ?_) ?_ ?_
   rotate_left
   {
   show Act.put _ (some 25) _ = _
   simp only [qzs]
   rfl
   }
   refine one_ (i := 9) (N := some 28) (bqz 15 1023) rfl rfl qzc (by decide) (fun K hK => ?_)
   refine Kd.R_append_rows_step k72 (w0 := w) w.heap.size (by rfl) (.tmp 25) (.tmp 27) 77 72 (.agg #[(.int .i64 0), (.int .i64 0), (.int .i64 0)]) 24 rfl Try.underlying77 info72 rfl (by decide) (by omega) v276 y275 ((rd_T79 l0_0 x4_1).f2) _ _ _ (fun _ => True) (fun _ => False) rfl rfl ?aO ?aR (fun _ _ h => h) (fun _ h => h.elim) ?aF ?aB ?aS ?aL ?_
   (case aR => repeat (first | exact (Kd.C_below HR273_2.out HB.out) | (with_reducible refine Kd.C_alloc ?_ _) | (with_reducible refine Kd.C_drewN ?_ _) | (with_reducible refine Kd.C_drew ?_)))
   (case aB => exact qz20)
   (case aF => exact (fun _ _ => trivial))
   (case aO => exact (rr_ HO277.out))
   (case aS => exact (below_size qz20))
   (case aL => have := LMc10.out; omega)
   intro v279 w24 ho hb hg hat
   rw [← Ny278.out] at ho
   have n0_ := aM (Kd.S_after (ok := (fun k_ => k_ ≠ gb274)) (rs_ HO_273000.out) hg hat)
   have n1_ := aM (blk_grown (bk_ BK270.out) hg (Kd.R_ne HO277.out BK270.out (by decide)))
   have n2_ := aM (blk_grown (bk_ BK271.out) hg (Kd.R_ne HO277.out BK271.out (by decide)))
   have n3_ := aM (blk_grown (bk_ BK272.out) hg (Kd.R_ne HO277.out BK272.out (by decide)))
   have n4_ := aM (blk_grown (bk_ BK274.out) hg (Kd.R_ne HO277.out BK274.out (by decide)))
   have n5_ := aM (hb)
   have n6_ := aM (ho)
   clear HO_273000
   clear BK270
   clear BK271
   clear BK272
   clear BK274
   clear HB
   clear HO277
   have HO_273000 := n0_
   have BK270 := n1_
   have BK271 := n2_
   have BK272 := n3_
   have BK274 := n4_
   have HB := n5_
   have HO280 := n6_
   clear n0_ n1_ n2_ n3_ n4_ n5_ n6_
   clear ho hb hg hat
   obtain ⟨Ao25, co25, eo25⟩ := Kd.R_slice HO280.out
   (first | subst eo25 | (injection eo25 with f1_ f2_ f3_; have f4_ := f1_.symm; have f5_ := f3_.symm; clear f1_ f2_ f3_; subst f4_; subst f5_))
   refine hK.out _ _ ⟨(blk_cell BK272.out 0).trans rfl, (blk_cell BK274.out 0).trans rfl, (blk_cell BK274.out 1).trans rfl, (blk_cell BK274.out 2).trans rfl⟩ (fun hHeld => ?_)
   clear hK K
   refine norm_ (a' := ?_) ?_ ?_
   rotate_left
   {
   show Act.put _ (some 28) _ = _
   simp only [qzs]
   rfl
   }
   refine pI_ 10 29 (bqz 15 2047) ?_
   refine one_ (i := 11) (N := some 30) (bqz 15 4095) rfl rfl qzc (by decide) (fun K hK => ?_)
   refine value_ (w1 := ?_) (v := ?_) (by rfl) rfl ?_ ?_
   rotate_left 2
   {
   go_simp
   constructor
   {
   rfl
   }
   {
   rfl
   }
   }
   refine hK.out _ _ ⟨(blk_cell (blk_alloc BK272.out _) 0).trans rfl, (blk_cell (blk_alloc BK274.out _) 0).trans rfl, (blk_cell (blk_alloc BK274.out _) 1).trans rfl, (blk_cell (blk_alloc BK274.out _) 2).trans rfl⟩ (fun hHeld => ?_)
   clear hK K
   refine norm_ (a' := ?_) ?_ ?_
   rotate_left
   {
   show Act.put _ (some 30) _ = _
   simp only [qzs]
   rfl
   }
   refine one_ (i := 12) (N := some 31) (bqz 15 8191) rfl rfl qzc (by decide) (fun K hK => ?_)
   refine Kd.S_append_step k79 (w0 := w) w.heap.size (by rfl) (.tmp 20) (.tmp 30) 24 79 (.agg #[(.int .i64 0), (.int .i64 0), (.slice none 0 0)]) 40 rfl Try.underlying24 info79 rfl (by decide) (by omega) u273000 x273000_1 (⟨(rd_T79 l0_0 x4_1).f0, (rd_T79 l0_0 x4_1).f1, y278⟩ : S79) [.int .i64 ((rd_T79 l0_0 x4_1).f0), .int .i64 ((rd_T79 l0_0 x4_1).f1), .slice Ao25 y278.length co25] (fun k_ => k_ ≠ gb274) (fun k_ => some k_ = (.slice Ao25 y278.length co25 : Value).ownBlock) rfl rfl ?aP (fun k_ hk_ => ((Kd.R_mono (ok' := fun k_ => ((fun k_ => k_ ≠ gb274)) k_ ∧ some k_ ≠ (u273000 : Value).ownBlock) (Kd.R_types (Kd.R_apart' (HO280.out) (Kd.S_typed HO_273000.out) (by decide)) BK274.out (by decide)) (fun k_ hk => ⟨hk.2, hk.1.2⟩))).1 k_ hk_.symm) ?aF ?aO ?aB ?aS ?aL ?_
   (case aP => exact k79_mkM _ _ _ (⟨(rd_T79 l0_0 x4_1).f0, (rd_T79 l0_0 x4_1).f1, y278⟩ : S79) (Kd.R_mono (Kd.R_tight rfl (Kd.R_mono (ok' := fun k_ => ((fun k_ => k_ ≠ gb274)) k_ ∧ some k_ ≠ (u273000 : Value).ownBlock) (Kd.R_types (Kd.R_apart' (HO280.out) (Kd.S_typed HO_273000.out) (by decide)) BK274.out (by decide)) (fun k_ hk => ⟨hk.2, hk.1.2⟩))) (fun _ h_ => h_)))
   (case aB => exact qz20)
   (case aF => exact (fun k_ hk => Kd.freshB (bk_ BK274.out) k_ hk))
   (case aO => exact (by (with_reducible repeat (first | apply Kd.S_alloc | apply Kd.S_drewN | apply Kd.S_drew)); exact Kd.S_mono HO_273000.out (fun k_ hk => ⟨hk.1, fun e_ => hk.2 e_⟩)))
   (case aS => exact (below_size qz20))
   (case aL => have := LMc11.out; omega)
   intro v282 w26 ho hb hg hat
   rw [← Ny281.out] at ho
   have n0_ := aM (blk_grown (bk_ BK270.out) hg (Kd.S_ne HO_273000.out BK270.out (by decide)))
   have n1_ := aM (blk_grown (bk_ BK271.out) hg (Kd.S_ne HO_273000.out BK271.out (by decide)))
   have n2_ := aM (blk_grown (bk_ BK272.out) hg (Kd.S_ne HO_273000.out BK272.out (by decide)))
   have n3_ := aM (blk_grown (bk_ BK274.out) hg (Kd.S_away HO_273000.out (fun _ hk => hk.1)))
   have n4_ := aM (hb)
   have n5_ := aM (ho)
   clear BK270
   clear BK271
   clear BK272
   clear BK274
   clear HB
   clear HO_273000
   clear HO280
   have BK270 := n0_
   have BK271 := n1_
   have BK272 := n2_
   have BK274 := n3_
   have HB := n4_
   have HO283 := n5_
   clear n0_ n1_ n2_ n3_ n4_ n5_
   clear ho hb hg hat
   obtain ⟨Ao27, co27, eo27⟩ := Kd.S_slice HO283.out
   (first | subst eo27 | (injection eo27 with f1_ f2_ f3_; have f4_ := f1_.symm; have f5_ := f3_.symm; clear f1_ f2_ f3_; subst f4_; subst f5_))
   refine hK.out _ _ ⟨(blk_cell BK272.out 0).trans rfl, (blk_cell BK274.out 0).trans rfl, (blk_cell BK274.out 1).trans rfl, (blk_cell BK274.out 2).trans rfl⟩ (fun hHeld => ?_)
   clear hK K
   refine norm_ (a' := ?_) ?_ ?_
   rotate_left
   {
   show Act.put _ (some 31) _ = _
   simp only [qzs]
   rfl
   }
   refine pI_ 13 32 (bqz 15 16383) ?_
   refine last_ (i := 14) (N := none) (bqz 15 32767) rfl rfl qzc (by decide) (fun K hK => ?_)
   have hs28 : w26.cell? ⟨gb272, 0, none⟩ = some (u273000) := (blk_cell BK272.out 0).trans rfl
   have hfs28 := blk_frozen BK272.out 0
   have hns28_0 := NB270_272.out
   have hns28_1 := NB271_272.out
   have hns28_3 := NB274_272.out
   have hms28_0 := NB272_270.out
   have hms28_1 := NB272_271.out
   have hms28_3 := NB272_274.out
   refine skip_ (w1 := ?_) (by rfl) rfl ?_ ?_
   rotate_left
   {
   go_simp
   rfl
   }
   refine hK.out _ _ ?_
   clear hK K
   refine done_ (done_of HT_.out (by kernel_rfl)) ?_
   try go_wp2
   go_roundg k1
   case measure => have := HK1.out; omega
   case rel => exact ⟨(wrap64 (x4_1 + 1)), (y281), (.slice Ao27 y281.length co27), qz6, H', ⟨by have := HK1.out; omega⟩, ⟨by (with_reducible repeat (first | apply Kd.S_alloc | apply Kd.S_drewN | apply Kd.S_drew)); exact Kd.S_mono (Kd.S_far (p := ⟨gb272, 0, none⟩) (Kd.S_types HO283.out BK272.out (by decide)) (fun _ hk => hk.2) (.slice Ao27 y281.length co27)) (fun _ hk => trivial)⟩, ⟨by (with_reducible repeat (first | refine blk_drewN ?_ _ | refine blk_drew ?_ | refine blk_alloc ?_ _)); refine blk_far ?_ NB270_272.out _; exact bk_ BK270.out⟩, ⟨by (with_reducible repeat (first | refine blk_drewN ?_ _ | refine blk_drew ?_ | refine blk_alloc ?_ _)); refine blk_far ?_ NB271_272.out _; exact bk_ BK271.out⟩, ⟨by (with_reducible repeat (first | refine blk_drewN ?_ _ | refine blk_drew ?_ | refine blk_alloc ?_ _)); refine blk_put (cs := #[u273000]) ?_ 0 _ rfl; exact bk_ BK272.out⟩, ⟨by repeat (first | (with_reducible first | exact HB.out | apply below_alloc | apply pw_below_drewN | apply below_drew1 | refine below_set ?_ GE270.out | refine below_set ?_ GE271.out | refine below_set ?_ GE272.out | refine below_set ?_ GE274.out) | exact HB.out)⟩⟩
   }
   {
   rw [if_neg c11] at H
   exact absurd H (by simp)
   }
   }
   {
   rw [if_neg c10] at H
   exact absurd H (by simp)
   }
   }
   {
   rw [if_neg c9] at H
   exact absurd H (by simp)
   }
   }
   {
   rw [if_neg c8] at H
   have c8b0 := decide_eq_false c8
   clear c8
   obtain rfl := Option.some.inj H
   simp only [Option.some.injEq, Prod.mk.injEq] at H
   obtain ⟨rfl⟩ := H
   have hnb29 := NB270_271.out
   have hnc29 := NB271_270.out
   have hnb30 := NB270_272.out
   have hnc30 := NB272_270.out
   have hcz31_0 := bc0_ BK270.out
   have hfz31_0 := blk_frozen BK270.out 0
   have hnb32 := NB272_271.out
   have hnc32 := NB271_272.out
   have hcz33_0 := bc0_ BK272.out
   have hfz33_0 := blk_frozen BK272.out 0
   obtain ⟨Ao34, co34, eo34⟩ := Kd.S_slice HO_273000.out
   subst eo34
   have hcz35_0 := bc0_ BK271.out
   have hfz35_0 := blk_frozen BK271.out 0
   go_wp2
   refine bodyPost_ret (results_cell_row rfl _ _ gb271 26 #[.slice Ao34 x273000_1.length co34] (0, 0) _ rfl (by (with_reducible repeat (first | refine blk_drewN ?_ _ | refine blk_drew ?_ | refine blk_alloc ?_ _)); refine blk_put (cs := #[.slice none 0 0]) ?_ 0 _ rfl; exact bk_ BK271.out) Try.underlying26 rfl (by kernel_rfl)) rfl ?_
   exact ⟨_, by first | rfl | (simp [errW_none, errW_some] <;> rfl) | (simp [*, errW_none, errW_some] <;> rfl), by (with_reducible repeat (first | apply Kd.S_alloc | apply Kd.S_drewN | apply Kd.S_drew)); exact Kd.S_mono (Kd.S_far (p := ⟨gb271, 0, none⟩) (Kd.S_types HO_273000.out BK271.out (by decide)) (fun _ hk => hk.2) (.slice Ao34 x273000_1.length co34)) (fun _ hk => trivial), by repeat (first | (with_reducible first | exact HB.out | apply below_alloc | apply pw_below_drewN | apply below_drew1 | refine below_set ?_ GE270.out | refine below_set ?_ GE271.out | refine below_set ?_ GE272.out) | exact HB.out)⟩

   }
/-! ### spec_l5With: function 95 -/
mutual
def spec_l5With.l0 : Nat → List (S72) → List (S72) → Bool → Int → Int → Int → Int → Option ((List (S72)))
 | 0, _, _, _, _, _, _, _ => none
 | k + 1, x0, x5, x6, x7, x285000, x285001, x285002 => if x7 < (x0.length : Int) then (if x6 = true then (spec_l5With.j1 k x0 x5 x6 x7 false x285000 x285001 x285002) else (if 0 ≤ x7 then (spec_l5With.j1 k x0 x5 x6 x7 (decide (((rd_T72 x0 x7).f0) ≥ x285000)) x285000 x285001 x285002) else (none))) else (if x6 = true then (some x5) else (if x5.length < 5864062014805 then (some (x5 ++ [(⟨x285000, x285001, x285002⟩ : S72)])) else (none)))
def spec_l5With.j1 : Nat → List (S72) → List (S72) → Bool → Int → Bool → Int → Int → Int → Option ((List (S72)))
 | 0, _, _, _, _, _, _, _, _ => none
 | k + 1, x0, x5, x6, x7, x29, x285000, x285001, x285002 => if x29 = true then (if x5.length < 5864062014805 then ((some (x5 ++ [(⟨x285000, x285001, x285002⟩ : S72)] : List (S72))).bind fun y292 => (if 0 ≤ x7 then (if x7 < (x0.length : Int) then (if ((rd_T72 x0 x7).f0) = x285000 then (spec_l5With.l0 k x0 y292 true (wrap64 (x7 + 1)) x285000 x285001 x285002) else (if y292.length < 5864062014805 then (spec_l5With.l0 k x0 (y292 ++ [(⟨(rd_T72 x0 x7).f0, (rd_T72 x0 x7).f1, (rd_T72 x0 x7).f2⟩ : S72)]) true (wrap64 (x7 + 1)) x285000 x285001 x285002) else (none))) else (none)) else (none))) else (none)) else (if 0 ≤ x7 then (if x7 < (x0.length : Int) then (if ((rd_T72 x0 x7).f0) = x285000 then (spec_l5With.l0 k x0 x5 x6 (wrap64 (x7 + 1)) x285000 x285001 x285002) else (if x5.length < 5864062014805 then (spec_l5With.l0 k x0 (x5 ++ [(⟨(rd_T72 x0 x7).f0, (rd_T72 x0 x7).f1, (rd_T72 x0 x7).f2⟩ : S72)]) x6 (wrap64 (x7 + 1)) x285000 x285001 x285002) else (none))) else (none)) else (none))
end
def spec_l5With.f (k : Nat) (l0 : List (S72)) (a1_0 : Int) (a1_1 : Int) (a1_2 : Int) : Option ((List (S72))) := spec_l5With.l0 k l0 (([] : List (S72))) (a1_1 == 0) 0 a1_0 a1_1 a1_2
theorem spec_l5With.mono_l : ∀ k, (∀ y0 y1 y2 y3 y4 y5 y6, LeO (spec_l5With.l0 k y0 y1 y2 y3 y4 y5 y6) (spec_l5With.l0 (k + 1) y0 y1 y2 y3 y4 y5 y6)) ∧ (∀ y0 y1 y2 y3 y4 y5 y6 y7, LeO (spec_l5With.j1 k y0 y1 y2 y3 y4 y5 y6 y7) (spec_l5With.j1 (k + 1) y0 y1 y2 y3 y4 y5 y6 y7))
 | 0 => ⟨fun _ _ _ _ _ _ _ r h => by simp [spec_l5With.l0] at h, fun _ _ _ _ _ _ _ _ r h => by simp [spec_l5With.j1] at h⟩
 | k + 1 => by
  obtain ⟨ih0, ih1⟩ := spec_l5With.mono_l k
  refine ⟨?_, ?_⟩
  {
  intro y0 y1 y2 y3 y4 y5 y6
  unfold spec_l5With.l0
  repeat' first
  | (with_reducible first | exact ih0 _ _ _ _ _ _ _ | exact ih1 _ _ _ _ _ _ _ _ | exact LeO.refl _ | exact LeO.none _ | refine LeO.ite ?_ ?_ | refine LeO.bind ?_ (fun _ => ?_))
  | exact ih0 _ _ _ _ _ _ _
  | exact ih1 _ _ _ _ _ _ _ _
  | exact LeO.none _
  | refine LeO.ite ?_ ?_
  | refine LeO.bind ?_ (fun _ => ?_)
  }
  {
  intro y0 y1 y2 y3 y4 y5 y6 y7
  unfold spec_l5With.j1
  repeat' first
  | (with_reducible first | exact ih0 _ _ _ _ _ _ _ | exact ih1 _ _ _ _ _ _ _ _ | exact LeO.refl _ | exact LeO.none _ | refine LeO.ite ?_ ?_ | refine LeO.bind ?_ (fun _ => ?_))
  | exact ih0 _ _ _ _ _ _ _
  | exact ih1 _ _ _ _ _ _ _ _
  | exact LeO.none _
  | refine LeO.ite ?_ ?_
  | refine LeO.bind ?_ (fun _ => ?_)
  }
theorem spec_l5With.mono : ∀ a0 a1 a2 a3 k, LeO (spec_l5With.f k a0 a1 a2 a3) (spec_l5With.f (k + 1) a0 a1 a2 a3) := by
 intro a0 a1 a2 a3 k
 obtain ⟨ih0, ih1⟩ := spec_l5With.mono_l k
 unfold spec_l5With.f
 repeat' first
  | (with_reducible first | exact ih0 _ _ _ _ _ _ _ | exact ih1 _ _ _ _ _ _ _ _ | exact LeO.refl _ | exact LeO.none _ | refine LeO.ite ?_ ?_ | refine LeO.bind ?_ (fun _ => ?_))
  | exact ih0 _ _ _ _ _ _ _
  | exact ih1 _ _ _ _ _ _ _ _
  | exact LeO.none _
  | refine LeO.ite ?_ ?_
  | refine LeO.bind ?_ (fun _ => ?_)
set_option maxHeartbeats 8000000 in
set_option maxRecDepth 100000 in
theorem spec_l5With.calls (k : Nat) (A0 : Option Addr) (c0 : Nat) (l0 : List (S72)) (a1_0 : Int) (a1_1 : Int) (a1_2 : Int) (r : List (S72)) (w : World) (hr0 : Kd.C k72 w A0 l0.length l0) (hc0 : l0.length ≤ c0) (h : spec_l5With.f k l0 a1_0 a1_1 a1_2 = some r) :
  Calls Try.prog 95 #[.slice A0 l0.length c0, .agg #[.int .i64 a1_0, .int .i64 a1_1, .int .i64 a1_2]] w fun e w' => ∃ v0_ : Value, e = .returned (v0_) ∧ Kd.R k72 72 w' w.heap.size (fun _ => True) v0_ r ∧ Below w.heap.size w w' := by
 have hu72 := Try.underlying72
 have HR0 := aM hr0
 have HC0 := aM hc0
 clear hr0 hc0
 have HB := aM (Below.refl w.heap.size w)
 have H : (spec_l5With.l0 k l0 (([] : List (S72))) (a1_1 == 0) 0 a1_0 a1_1 a1_2) = some r := h
 clear h
 obtain ⟨y285, hy285⟩ : ∃ y_ : List (S72), y_ = (([] : List (S72))) := ⟨_, rfl⟩
 replace H : (spec_l5With.l0 k l0 y285 (a1_1 == 0) 0 a1_0 a1_1 a1_2) = some r := by first | (rw [hy285]; with_reducible exact H) | (have H2_ := (Option.bind_some _ _).symm.trans H; rw [hy285]; with_reducible exact H2_) | (have H2_ := (Option.bind_some _ _).symm.trans H; with_reducible exact H2_) | with_reducible exact H | (rw [hy285]; exact H) | exact H
 have Ny285 := aM hy285
 clear hy285
 have H' := aM H
 clear H
 go_enter Try.func95, Try.ntmps95
 go_wp2_with (first | ((with_reducible refine gate_dst (N := 3) rfl ?_); refine bx_ 3 #[.int .i64 a1_0, .int .i64 a1_1, .int .i64 a1_2] 72 ?_; intro gb284 hg w3 hbox hb; have n0_ := aM (below_step qz1 hb); have n1_ := aM (hbox); have n2_ := aM ((by rw [hg]; exact (below_size qz1) : w.heap.size ≤ gb284)); have n3_ := aM ((by rw [hg]; exact (below_size qz1) : w.heap.size ≤ gb284)); clear HB; have HB := n0_; have BK284 := n1_; have GW284 := n2_; have GE284 := n3_; clear n0_ n1_ n2_ n3_; clear hb hbox hg) | ((with_reducible refine gate_dst (N := 8) rfl ?_); refine Kd.R_lit k72 _ 72 ?hg (N := 8) ?hd (xs := ([] : List (S72))) (inner := []) (ok := fun _ => True) (okp := fun _ => True) ?hr ?hp (fun _ hk => hk) trivial (Below.refl _ _) (Nat.le_refl _) (by simp) ?_; (case hd => rfl); (case hg => rfl); (case hr => exact qz44); (case hp => exact (Reps.none _ _)); intro v286 w4 ho5 hb hg_ hnew_; clear hg_ hnew_; (first | rw [← Ny285.out] at ho5 | (simp only [Int.reduceToNat] at ho5; rw [← Ny285.out] at ho5)); have n0_ := aM (Kd.R_lower (Kd.R_newB ho5 (bk_ BK284.out)) (below_size qz4)); have n1_ := aM (blk_below (bk_ BK284.out) hb); have n2_ := aM (below_step qz4 hb); clear BK284 HB; have HO287 := n0_; have BK284 := n1_; have HB := n2_; clear n0_ n1_ n2_; clear hb ho5; obtain ⟨hcz6_0, hcz6_1, hcz6_2, hfz6_0, hfz6_1, hfz6_2⟩ := b6_ BK284.out))
 repeat (go_quiet (first | ((with_reducible refine gate_dst (N := 3) rfl ?_); refine bx_ 3 #[.int .i64 a1_0, .int .i64 a1_1, .int .i64 a1_2] 72 ?_; intro gb284 hg w3 hbox hb; have n0_ := aM (below_step qz1 hb); have n1_ := aM (hbox); have n2_ := aM ((by rw [hg]; exact (below_size qz1) : w.heap.size ≤ gb284)); have n3_ := aM ((by rw [hg]; exact (below_size qz1) : w.heap.size ≤ gb284)); clear HB; have HB := n0_; have BK284 := n1_; have GW284 := n2_; have GE284 := n3_; clear n0_ n1_ n2_ n3_; clear hb hbox hg) | ((with_reducible refine gate_dst (N := 8) rfl ?_); refine Kd.R_lit k72 _ 72 ?hg (N := 8) ?hd (xs := ([] : List (S72))) (inner := []) (ok := fun _ => True) (okp := fun _ => True) ?hr ?hp (fun _ hk => hk) trivial (Below.refl _ _) (Nat.le_refl _) (by simp) ?_; (case hd => rfl); (case hg => rfl); (case hr => exact qz44); (case hp => exact (Reps.none _ _)); intro v286 w4 ho5 hb hg_ hnew_; clear hg_ hnew_; (first | rw [← Ny285.out] at ho5 | (simp only [Int.reduceToNat] at ho5; rw [← Ny285.out] at ho5)); have n0_ := aM (Kd.R_lower (Kd.R_newB ho5 (bk_ BK284.out)) (below_size qz4)); have n1_ := aM (blk_below (bk_ BK284.out) hb); have n2_ := aM (below_step qz4 hb); clear BK284 HB; have HO287 := n0_; have BK284 := n1_; have HB := n2_; clear n0_ n1_ n2_; clear hb ho5; obtain ⟨hcz6_0, hcz6_1, hcz6_2, hfz6_0, hfz6_1, hfz6_2⟩ := b6_ BK284.out)); try go_wp2_with (first | ((with_reducible refine gate_dst (N := 3) rfl ?_); refine bx_ 3 #[.int .i64 a1_0, .int .i64 a1_1, .int .i64 a1_2] 72 ?_; intro gb284 hg w3 hbox hb; have n0_ := aM (below_step qz1 hb); have n1_ := aM (hbox); have n2_ := aM ((by rw [hg]; exact (below_size qz1) : w.heap.size ≤ gb284)); have n3_ := aM ((by rw [hg]; exact (below_size qz1) : w.heap.size ≤ gb284)); clear HB; have HB := n0_; have BK284 := n1_; have GW284 := n2_; have GE284 := n3_; clear n0_ n1_ n2_ n3_; clear hb hbox hg) | ((with_reducible refine gate_dst (N := 8) rfl ?_); refine Kd.R_lit k72 _ 72 ?hg (N := 8) ?hd (xs := ([] : List (S72))) (inner := []) (ok := fun _ => True) (okp := fun _ => True) ?hr ?hp (fun _ hk => hk) trivial (Below.refl _ _) (Nat.le_refl _) (by simp) ?_; (case hd => rfl); (case hg => rfl); (case hr => exact qz44); (case hp => exact (Reps.none _ _)); intro v286 w4 ho5 hb hg_ hnew_; clear hg_ hnew_; (first | rw [← Ny285.out] at ho5 | (simp only [Int.reduceToNat] at ho5; rw [← Ny285.out] at ho5)); have n0_ := aM (Kd.R_lower (Kd.R_newB ho5 (bk_ BK284.out)) (below_size qz4)); have n1_ := aM (blk_below (bk_ BK284.out) hb); have n2_ := aM (below_step qz4 hb); clear BK284 HB; have HO287 := n0_; have BK284 := n1_; have HB := n2_; clear n0_ n1_ n2_; clear hb ho5; obtain ⟨hcz6_0, hcz6_1, hcz6_2, hfz6_0, hfz6_1, hfz6_2⟩ := b6_ BK284.out)))
 go_loopg [5, 6, 7] k (fun kq v5 v6 v7 w' => ∃ (x5_1 : List (S72)) (x6_1 : Bool) (x7_1 : Int), v6 = .bool x6_1 ∧ v7 = .int .i64 x7_1 ∧ Aside0 (spec_l5With.l0 kq l0 x5_1 x6_1 x7_1 a1_0 a1_1 a1_2 = some r) ∧ Aside0 (kq ≤ k) ∧ Aside0 (Kd.R k72 72 w' w.heap.size (fun k_ => k_ ≠ gb284) v5 x5_1) ∧ Aside0 (w'.heap[gb284]? = some (.cells #[.int .i64 a1_0, .int .i64 a1_1, .int .i64 a1_2] 72 (0, 0))) ∧ Aside0 (Below w.heap.size w w'))
 case atStart => exact ⟨(y285), ((a1_1 == 0)), (0), qz6, qz6, H', ⟨Nat.le_refl _⟩, ⟨by (with_reducible repeat (first | apply Kd.R_alloc | apply Kd.R_drewN | apply Kd.R_drew)); exact Kd.R_mono HO287.out (fun _ hk => hk.2)⟩, ⟨bk_ BK284.out⟩, ⟨by repeat (first | (with_reducible first | exact HB.out | apply below_alloc | apply pw_below_drewN | apply below_drew1 | refine below_set ?_ GE284.out) | exact HB.out)⟩⟩
 case round =>
  clear H'
  try clear p2
  try clear hcz6_0
  try clear hcz6_1
  try clear hcz6_2
  try clear hfz6_0
  try clear hfz6_1
  try clear hfz6_2
  obtain ⟨x5_1, x6_1, x7_1, rfl, rfl, HA, HK1, HO_5, BK284, HB⟩ := hrel
  cases gk with
  | zero => exact absurd HA.out (by simp [spec_l5With.l0])
  | succ k1 =>
   have H := HA.out
   clear HA
   simp only [spec_l5With.l0] at H
   by_cases c7 : x7_1 < (l0.length : Int)
   {
   rw [if_pos c7] at H
   have c7b0 := decide_eq_true c7
   clear c7
   have HC8 := aM H
   clear H
   go_upto_region 6 with (fail)
   repeat (go_quiet (fail); go_upto_region 6 with (fail))
   go_cut [29] (fun v29 wc => ∃ (kq : Nat) (x29_7 : Bool), v29 = .bool x29_7 ∧ Aside0 (spec_l5With.j1 kq l0 x5_1 x6_1 x7_1 x29_7 a1_0 a1_1 a1_2 = some r) ∧ Aside0 (kq ≤ k1) ∧ Aside0 (Kd.R k72 72 wc w.heap.size (fun k_ => k_ ≠ gb284) u5 x5_1) ∧ Aside0 (wc.heap[gb284]? = some (.cells #[.int .i64 a1_0, .int .i64 a1_1, .int .i64 a1_2] 72 (0, 0))) ∧ Aside0 (Below w.heap.size w wc))
   case first =>
    have H := HC8.out
    clear HC8
    by_cases c9 : x6_1 = true
    {
    subst c9
    rw [if_pos rfl] at H
    have H' := aM H
    clear H
    go_wp2
    repeat (go_quiet (fail); try go_wp2)
    go_meet
    case rel => exact ⟨_, (false), qz6, H', ⟨by have := HK1.out; first | omega | exact Nat.le_refl _⟩, ⟨rm_ HO_5.out⟩, ⟨bk_ BK284.out⟩, ⟨by repeat (first | (with_reducible first | exact HB.out | apply below_alloc | apply pw_below_drewN | apply below_drew1 | refine below_set ?_ GE284.out) | exact HB.out)⟩⟩
    }
    {
    replace c9 := Bool.eq_false_iff.mpr c9
    subst c9
    rw [if_neg (show ¬ (false = true) by decide)] at H
    by_cases c10 : 0 ≤ x7_1
    {
    rw [if_pos c10] at H
    have c10b0 := decide_eq_true c10
    clear c10
    (first | rw [c10b0] | (simp only [i64_w, i32_w]; rw [c10b0]) | rw [@decide_eq_true _ _ (of_decide_eq_true c10b0)] | rw [@decide_eq_true _ _ (of_decide_eq_true c10b1)] | skip)
    have H' := aM H
    clear H
    have p291 : 0 ≤ (x7_1 : Int) := of_decide_eq_true qz3
    have q291 : x7_1 < (l0.length : Int) := of_decide_eq_true qz3
    obtain ⟨ad291, e291, hx291_0, hx291_1, hx291_2⟩ := at_T72 HR0.out x7_1 p291 q291
    cases e291
    replace hx291_0 := pw_cell_below HB.out hx291_0
    replace hx291_1 := pw_cell_below HB.out hx291_1
    replace hx291_2 := pw_cell_below HB.out hx291_2
    replace p291 := eq_true p291
    replace q291 := eq_true q291
    obtain ⟨hcz11_0, hcz11_1, hcz11_2, hfz11_0, hfz11_1, hfz11_2⟩ := b6_ BK284.out
    go_wp2
    repeat (go_quiet (fail); try go_wp2)
    go_meet
    case rel => exact ⟨_, (decide (((rd_T72 l0 x7_1).f0) ≥ a1_0)), qz6, H', ⟨by have := HK1.out; first | omega | exact Nat.le_refl _⟩, ⟨rm_ HO_5.out⟩, ⟨bk_ BK284.out⟩, ⟨by repeat (first | (with_reducible first | exact HB.out | apply below_alloc | apply pw_below_drewN | apply below_drew1 | refine below_set ?_ GE284.out) | exact HB.out)⟩⟩
    }
    {
    rw [if_neg c10] at H
    exact absurd H (by simp)
    }
    }
   case rest =>
    clear HC8
    try clear c1
    try clear p2
    try clear q2
    try clear hx2
    try clear c7
    try clear c7b0
    try clear c9
    try clear c10
    try clear c10b0
    try clear c10b1
    try clear hcz11_0
    try clear hcz11_1
    try clear hcz11_2
    try clear hcz6_0
    try clear hcz6_1
    try clear hcz6_2
    try clear hfz11_0
    try clear hfz11_1
    try clear hfz11_2
    try clear hfz6_0
    try clear hfz6_1
    try clear hfz6_2
    try clear hx291_0
    try clear hx291_1
    try clear hx291_2
    try clear p2
    try clear p291
    try clear q291
    obtain ⟨kq, x29_7, rfl, HA, HJ7, HO_5, BK284, HB⟩ := hcut
    cases kq with
    | zero => exact absurd HA.out (by simp [spec_l5With.j1])
    | succ kj7 =>
     have H := HA.out
     clear HA
     simp only [spec_l5With.j1] at H
     by_cases c12 : x29_7 = true
     {
     subst c12
     rw [if_pos rfl] at H
     by_cases c13 : x5_1.length < 5864062014805
     {
     rw [if_pos c13] at H
     have LMc13 := aM c13
     clear c13
     obtain ⟨y292, hy292⟩ : ∃ y_ : List (S72), y_ = (x5_1 ++ [(⟨a1_0, a1_1, a1_2⟩ : S72)]) := ⟨_, rfl⟩
     replace H : (if 0 ≤ x7_1 then (if x7_1 < (l0.length : Int) then (if ((rd_T72 l0 x7_1).f0) = a1_0 then (spec_l5With.l0 kj7 l0 y292 true (wrap64 (x7_1 + 1)) a1_0 a1_1 a1_2) else (if y292.length < 5864062014805 then (spec_l5With.l0 kj7 l0 (y292 ++ [(⟨(rd_T72 l0 x7_1).f0, (rd_T72 l0 x7_1).f1, (rd_T72 l0 x7_1).f2⟩ : S72)]) true (wrap64 (x7_1 + 1)) a1_0 a1_1 a1_2) else (none))) else (none)) else (none)) = some r := by first | (rw [hy292]; with_reducible exact H) | (have H2_ := (Option.bind_some _ _).symm.trans H; rw [hy292]; with_reducible exact H2_) | (have H2_ := (Option.bind_some _ _).symm.trans H; with_reducible exact H2_) | with_reducible exact H | (rw [hy292]; exact H) | exact H
     have Ny292 := aM hy292
     clear hy292
     by_cases c14 : 0 ≤ x7_1
     {
     rw [if_pos c14] at H
     have c14b0 := decide_eq_true c14
     clear c14
     by_cases c15 : x7_1 < (l0.length : Int)
     {
     rw [if_pos c15] at H
     have c15b0 := decide_eq_true c15
     clear c15
     by_cases c16 : ((rd_T72 l0 x7_1).f0) = a1_0
     {
     rw [if_pos c16] at H
     have c16b0 := beq_iff_eq.mpr c16
     have c16b1 := bne_eq_false_iff_eq.mpr c16
     clear c16
     have H' := aM H
     clear H
     obtain ⟨hcz17_0, hcz17_1, hcz17_2, hfz17_0, hfz17_1, hfz17_2⟩ := b6_ BK284.out
     go_wp2_with (first | ((with_reducible refine gate_builtin (b := .append) (xs := #[.tmp 30, .tmp 32]) rfl ?_); at_builtin; refine Kd.R_append k72 (w0 := w) w.heap.size rfl (.tmp 30) (.tmp 32) 77 72 (.agg #[(.int .i64 0), (.int .i64 0), (.int .i64 0)]) 24 rfl Try.underlying77 info72 rfl (by decide) (by omega) u5 x5_1 (⟨a1_0, a1_1, a1_2⟩ : S72) [.int .i64 a1_0, .int .i64 a1_1, .int .i64 a1_2] (fun k_ => k_ ≠ gb284) (fun _ => False) rfl rfl ?aP (fun _ hk => hk.elim) ?aF ?aO ?aB ?aS ?aL ?_; (case aP => exact qz63); (case aB => exact qz4); (case aF => exact qz32); (case aO => exact (rr_ HO_5.out)); (case aS => exact (below_size qz4)); (case aL => have := LMc13.out; omega); intro v293 w18 ho hb hg hat; rw [← Ny292.out] at ho; have n0_ := aM (blk_grown (bk_ BK284.out) hg (Kd.R_away HO_5.out (fun _ hk => hk))); have n1_ := aM (hb); have n2_ := aM (ho); clear BK284 HB HO_5; have BK284 := n0_; have HB := n1_; have HO294 := n2_; clear n0_ n1_ n2_; clear ho hb hg hat; have p295 : 0 ≤ (x7_1 : Int) := of_decide_eq_true qz3; have q295 : x7_1 < (l0.length : Int) := of_decide_eq_true qz3; obtain ⟨ad295, e295, hx295_0, hx295_1, hx295_2⟩ := at_T72 HR0.out x7_1 p295 q295; cases e295; replace hx295_0 := pw_cell_below HB.out hx295_0; replace hx295_1 := pw_cell_below HB.out hx295_1; replace hx295_2 := pw_cell_below HB.out hx295_2; replace p295 := eq_true p295; replace q295 := eq_true q295; obtain ⟨hcz19_0, hcz19_1, hcz19_2, hfz19_0, hfz19_1, hfz19_2⟩ := b6_ BK284.out))
     repeat (go_quiet (first | ((with_reducible refine gate_builtin (b := .append) (xs := #[.tmp 30, .tmp 32]) rfl ?_); at_builtin; refine Kd.R_append k72 (w0 := w) w.heap.size rfl (.tmp 30) (.tmp 32) 77 72 (.agg #[(.int .i64 0), (.int .i64 0), (.int .i64 0)]) 24 rfl Try.underlying77 info72 rfl (by decide) (by omega) u5 x5_1 (⟨a1_0, a1_1, a1_2⟩ : S72) [.int .i64 a1_0, .int .i64 a1_1, .int .i64 a1_2] (fun k_ => k_ ≠ gb284) (fun _ => False) rfl rfl ?aP (fun _ hk => hk.elim) ?aF ?aO ?aB ?aS ?aL ?_; (case aP => exact qz63); (case aB => exact qz4); (case aF => exact qz32); (case aO => exact (rr_ HO_5.out)); (case aS => exact (below_size qz4)); (case aL => have := LMc13.out; omega); intro v293 w18 ho hb hg hat; rw [← Ny292.out] at ho; have n0_ := aM (blk_grown (bk_ BK284.out) hg (Kd.R_away HO_5.out (fun _ hk => hk))); have n1_ := aM (hb); have n2_ := aM (ho); clear BK284 HB HO_5; have BK284 := n0_; have HB := n1_; have HO294 := n2_; clear n0_ n1_ n2_; clear ho hb hg hat; have p295 : 0 ≤ (x7_1 : Int) := of_decide_eq_true qz3; have q295 : x7_1 < (l0.length : Int) := of_decide_eq_true qz3; obtain ⟨ad295, e295, hx295_0, hx295_1, hx295_2⟩ := at_T72 HR0.out x7_1 p295 q295; cases e295; replace hx295_0 := pw_cell_below HB.out hx295_0; replace hx295_1 := pw_cell_below HB.out hx295_1; replace hx295_2 := pw_cell_below HB.out hx295_2; replace p295 := eq_true p295; replace q295 := eq_true q295; obtain ⟨hcz19_0, hcz19_1, hcz19_2, hfz19_0, hfz19_1, hfz19_2⟩ := b6_ BK284.out)); try go_wp2_with (first | ((with_reducible refine gate_builtin (b := .append) (xs := #[.tmp 30, .tmp 32]) rfl ?_); at_builtin; refine Kd.R_append k72 (w0 := w) w.heap.size rfl (.tmp 30) (.tmp 32) 77 72 (.agg #[(.int .i64 0), (.int .i64 0), (.int .i64 0)]) 24 rfl Try.underlying77 info72 rfl (by decide) (by omega) u5 x5_1 (⟨a1_0, a1_1, a1_2⟩ : S72) [.int .i64 a1_0, .int .i64 a1_1, .int .i64 a1_2] (fun k_ => k_ ≠ gb284) (fun _ => False) rfl rfl ?aP (fun _ hk => hk.elim) ?aF ?aO ?aB ?aS ?aL ?_; (case aP => exact qz63); (case aB => exact qz4); (case aF => exact qz32); (case aO => exact (rr_ HO_5.out)); (case aS => exact (below_size qz4)); (case aL => have := LMc13.out; omega); intro v293 w18 ho hb hg hat; rw [← Ny292.out] at ho; have n0_ := aM (blk_grown (bk_ BK284.out) hg (Kd.R_away HO_5.out (fun _ hk => hk))); have n1_ := aM (hb); have n2_ := aM (ho); clear BK284 HB HO_5; have BK284 := n0_; have HB := n1_; have HO294 := n2_; clear n0_ n1_ n2_; clear ho hb hg hat; have p295 : 0 ≤ (x7_1 : Int) := of_decide_eq_true qz3; have q295 : x7_1 < (l0.length : Int) := of_decide_eq_true qz3; obtain ⟨ad295, e295, hx295_0, hx295_1, hx295_2⟩ := at_T72 HR0.out x7_1 p295 q295; cases e295; replace hx295_0 := pw_cell_below HB.out hx295_0; replace hx295_1 := pw_cell_below HB.out hx295_1; replace hx295_2 := pw_cell_below HB.out hx295_2; replace p295 := eq_true p295; replace q295 := eq_true q295; obtain ⟨hcz19_0, hcz19_1, hcz19_2, hfz19_0, hfz19_1, hfz19_2⟩ := b6_ BK284.out)))
     go_roundg kj7
     case measure => have := HK1.out; have := HJ7.out; omega
     case rel => exact ⟨(y292), (true), (wrap64 (x7_1 + 1)), qz6, qz6, H', ⟨by have := HK1.out; have := HJ7.out; omega⟩, ⟨rm_ HO294.out⟩, ⟨bk_ BK284.out⟩, ⟨by repeat (first | (with_reducible first | exact HB.out | apply below_alloc | apply pw_below_drewN | apply below_drew1 | refine below_set ?_ GE284.out) | exact HB.out)⟩⟩
     }
     {
     rw [if_neg c16] at H
     have c16b0 := beq_eq_false_iff_ne.mpr c16
     have c16b1 := bne_iff_ne.mpr c16
     by_cases c20 : y292.length < 5864062014805
     {
     rw [if_pos c20] at H
     have LMc20 := aM c20
     clear c20
     obtain ⟨y297, hy297⟩ : ∃ y_ : List (S72), y_ = (y292 ++ [(⟨(rd_T72 l0 x7_1).f0, (rd_T72 l0 x7_1).f1, (rd_T72 l0 x7_1).f2⟩ : S72)]) := ⟨_, rfl⟩
     replace H : (spec_l5With.l0 kj7 l0 y297 true (wrap64 (x7_1 + 1)) a1_0 a1_1 a1_2) = some r := by first | (rw [hy297]; with_reducible exact H) | (have H2_ := (Option.bind_some _ _).symm.trans H; rw [hy297]; with_reducible exact H2_) | (have H2_ := (Option.bind_some _ _).symm.trans H; with_reducible exact H2_) | with_reducible exact H | (rw [hy297]; exact H) | exact H
     have Ny297 := aM hy297
     clear hy297
     have H' := aM H
     clear H
     obtain ⟨hcz21_0, hcz21_1, hcz21_2, hfz21_0, hfz21_1, hfz21_2⟩ := b6_ BK284.out
     go_wp2_with (first | ((with_reducible refine gate_builtin (b := .append) (xs := #[.tmp 30, .tmp 32]) rfl ?_); at_builtin; refine Kd.R_append k72 (w0 := w) w.heap.size rfl (.tmp 30) (.tmp 32) 77 72 (.agg #[(.int .i64 0), (.int .i64 0), (.int .i64 0)]) 24 rfl Try.underlying77 info72 rfl (by decide) (by omega) u5 x5_1 (⟨a1_0, a1_1, a1_2⟩ : S72) [.int .i64 a1_0, .int .i64 a1_1, .int .i64 a1_2] (fun k_ => k_ ≠ gb284) (fun _ => False) rfl rfl ?aP (fun _ hk => hk.elim) ?aF ?aO ?aB ?aS ?aL ?_; (case aP => exact qz63); (case aB => exact qz4); (case aF => exact qz32); (case aO => exact (rr_ HO_5.out)); (case aS => exact (below_size qz4)); (case aL => have := LMc13.out; omega); intro v293 w22 ho hb hg hat; rw [← Ny292.out] at ho; have n0_ := aM (blk_grown (bk_ BK284.out) hg (Kd.R_away HO_5.out (fun _ hk => hk))); have n1_ := aM (hb); have n2_ := aM (ho); clear BK284 HB HO_5; have BK284 := n0_; have HB := n1_; have HO294 := n2_; clear n0_ n1_ n2_; clear ho hb hg hat; have p295 : 0 ≤ (x7_1 : Int) := of_decide_eq_true qz3; have q295 : x7_1 < (l0.length : Int) := of_decide_eq_true qz3; obtain ⟨ad295, e295, hx295_0, hx295_1, hx295_2⟩ := at_T72 HR0.out x7_1 p295 q295; cases e295; replace hx295_0 := pw_cell_below HB.out hx295_0; replace hx295_1 := pw_cell_below HB.out hx295_1; replace hx295_2 := pw_cell_below HB.out hx295_2; replace p295 := eq_true p295; replace q295 := eq_true q295; obtain ⟨hcz23_0, hcz23_1, hcz23_2, hfz23_0, hfz23_1, hfz23_2⟩ := b6_ BK284.out; have p296 : 0 ≤ (x7_1 : Int) := of_decide_eq_true qz3; have q296 : x7_1 < (l0.length : Int) := of_decide_eq_true qz3; obtain ⟨ad296, e296, hx296_0, hx296_1, hx296_2⟩ := at_T72 HR0.out x7_1 p296 q296; obtain rfl : ad295 = ad296 := (by injection e296); replace hx296_0 := pw_cell_below HB.out hx296_0; replace hx296_1 := pw_cell_below HB.out hx296_1; replace hx296_2 := pw_cell_below HB.out hx296_2; replace p296 := eq_true p296; replace q296 := eq_true q296) | ((with_reducible refine gate_builtin (b := .append) (xs := #[.tmp 42, .tmp 47]) rfl ?_); at_builtin; refine Kd.R_append k72 (w0 := w) w.heap.size rfl (.tmp 42) (.tmp 47) 77 72 (.agg #[(.int .i64 0), (.int .i64 0), (.int .i64 0)]) 24 rfl Try.underlying77 info72 rfl (by decide) (by omega) v293 y292 (⟨(rd_T72 l0 x7_1).f0, (rd_T72 l0 x7_1).f1, (rd_T72 l0 x7_1).f2⟩ : S72) [.int .i64 ((rd_T72 l0 x7_1).f0), .int .i64 ((rd_T72 l0 x7_1).f1), .int .i64 ((rd_T72 l0 x7_1).f2)] (fun k_ => k_ ≠ gb284) (fun _ => False) rfl rfl ?aP (fun _ hk => hk.elim) ?aF ?aO ?aB ?aS ?aL ?_; (case aP => exact qz37); (case aB => exact qz4); (case aF => exact qz32); (case aO => exact (rr_ HO294.out)); (case aS => exact (below_size qz4)); (case aL => have := LMc20.out; omega); intro v298 w24 ho hb hg hat; rw [← Ny297.out] at ho; have n0_ := aM (blk_grown (bk_ BK284.out) hg (Kd.R_away HO294.out (fun _ hk => hk))); have n1_ := aM (hb); have n2_ := aM (ho); clear BK284 HB HO294; have BK284 := n0_; have HB := n1_; have HO299 := n2_; clear n0_ n1_ n2_; clear ho hb hg hat))
     repeat (go_quiet (first | ((with_reducible refine gate_builtin (b := .append) (xs := #[.tmp 30, .tmp 32]) rfl ?_); at_builtin; refine Kd.R_append k72 (w0 := w) w.heap.size rfl (.tmp 30) (.tmp 32) 77 72 (.agg #[(.int .i64 0), (.int .i64 0), (.int .i64 0)]) 24 rfl Try.underlying77 info72 rfl (by decide) (by omega) u5 x5_1 (⟨a1_0, a1_1, a1_2⟩ : S72) [.int .i64 a1_0, .int .i64 a1_1, .int .i64 a1_2] (fun k_ => k_ ≠ gb284) (fun _ => False) rfl rfl ?aP (fun _ hk => hk.elim) ?aF ?aO ?aB ?aS ?aL ?_; (case aP => exact qz63); (case aB => exact qz4); (case aF => exact qz32); (case aO => exact (rr_ HO_5.out)); (case aS => exact (below_size qz4)); (case aL => have := LMc13.out; omega); intro v293 w22 ho hb hg hat; rw [← Ny292.out] at ho; have n0_ := aM (blk_grown (bk_ BK284.out) hg (Kd.R_away HO_5.out (fun _ hk => hk))); have n1_ := aM (hb); have n2_ := aM (ho); clear BK284 HB HO_5; have BK284 := n0_; have HB := n1_; have HO294 := n2_; clear n0_ n1_ n2_; clear ho hb hg hat; have p295 : 0 ≤ (x7_1 : Int) := of_decide_eq_true qz3; have q295 : x7_1 < (l0.length : Int) := of_decide_eq_true qz3; obtain ⟨ad295, e295, hx295_0, hx295_1, hx295_2⟩ := at_T72 HR0.out x7_1 p295 q295; cases e295; replace hx295_0 := pw_cell_below HB.out hx295_0; replace hx295_1 := pw_cell_below HB.out hx295_1; replace hx295_2 := pw_cell_below HB.out hx295_2; replace p295 := eq_true p295; replace q295 := eq_true q295; obtain ⟨hcz23_0, hcz23_1, hcz23_2, hfz23_0, hfz23_1, hfz23_2⟩ := b6_ BK284.out; have p296 : 0 ≤ (x7_1 : Int) := of_decide_eq_true qz3; have q296 : x7_1 < (l0.length : Int) := of_decide_eq_true qz3; obtain ⟨ad296, e296, hx296_0, hx296_1, hx296_2⟩ := at_T72 HR0.out x7_1 p296 q296; obtain rfl : ad295 = ad296 := (by injection e296); replace hx296_0 := pw_cell_below HB.out hx296_0; replace hx296_1 := pw_cell_below HB.out hx296_1; replace hx296_2 := pw_cell_below HB.out hx296_2; replace p296 := eq_true p296; replace q296 := eq_true q296) | ((with_reducible refine gate_builtin (b := .append) (xs := #[.tmp 42, .tmp 47]) rfl ?_); at_builtin; refine Kd.R_append k72 (w0 := w) w.heap.size rfl (.tmp 42) (.tmp 47) 77 72 (.agg #[(.int .i64 0), (.int .i64 0), (.int .i64 0)]) 24 rfl Try.underlying77 info72 rfl (by decide) (by omega) v293 y292 (⟨(rd_T72 l0 x7_1).f0, (rd_T72 l0 x7_1).f1, (rd_T72 l0 x7_1).f2⟩ : S72) [.int .i64 ((rd_T72 l0 x7_1).f0), .int .i64 ((rd_T72 l0 x7_1).f1), .int .i64 ((rd_T72 l0 x7_1).f2)] (fun k_ => k_ ≠ gb284) (fun _ => False) rfl rfl ?aP (fun _ hk => hk.elim) ?aF ?aO ?aB ?aS ?aL ?_; (case aP => exact qz37); (case aB => exact qz4); (case aF => exact qz32); (case aO => exact (rr_ HO294.out)); (case aS => exact (below_size qz4)); (case aL => have := LMc20.out; omega); intro v298 w24 ho hb hg hat; rw [← Ny297.out] at ho; have n0_ := aM (blk_grown (bk_ BK284.out) hg (Kd.R_away HO294.out (fun _ hk => hk))); have n1_ := aM (hb); have n2_ := aM (ho); clear BK284 HB HO294; have BK284 := n0_; have HB := n1_; have HO299 := n2_; clear n0_ n1_ n2_; clear ho hb hg hat)); try go_wp2_with (first | ((with_reducible refine gate_builtin (b := .append) (xs := #[.tmp 30, .tmp 32]) rfl ?_); at_builtin; refine Kd.R_append k72 (w0 := w) w.heap.size rfl (.tmp 30) (.tmp 32) 77 72 (.agg #[(.int .i64 0), (.int .i64 0), (.int .i64 0)]) 24 rfl Try.underlying77 info72 rfl (by decide) (by omega) u5 x5_1 (⟨a1_0, a1_1, a1_2⟩ : S72) [.int .i64 a1_0, .int .i64 a1_1, .int .i64 a1_2] (fun k_ => k_ ≠ gb284) (fun _ => False) rfl rfl ?aP (fun _ hk => hk.elim) ?aF ?aO ?aB ?aS ?aL ?_; (case aP => exact qz63); (case aB => exact qz4); (case aF => exact qz32); (case aO => exact (rr_ HO_5.out)); (case aS => exact (below_size qz4)); (case aL => have := LMc13.out; omega); intro v293 w22 ho hb hg hat; rw [← Ny292.out] at ho; have n0_ := aM (blk_grown (bk_ BK284.out) hg (Kd.R_away HO_5.out (fun _ hk => hk))); have n1_ := aM (hb); have n2_ := aM (ho); clear BK284 HB HO_5; have BK284 := n0_; have HB := n1_; have HO294 := n2_; clear n0_ n1_ n2_; clear ho hb hg hat; have p295 : 0 ≤ (x7_1 : Int) := of_decide_eq_true qz3; have q295 : x7_1 < (l0.length : Int) := of_decide_eq_true qz3; obtain ⟨ad295, e295, hx295_0, hx295_1, hx295_2⟩ := at_T72 HR0.out x7_1 p295 q295; cases e295; replace hx295_0 := pw_cell_below HB.out hx295_0; replace hx295_1 := pw_cell_below HB.out hx295_1; replace hx295_2 := pw_cell_below HB.out hx295_2; replace p295 := eq_true p295; replace q295 := eq_true q295; obtain ⟨hcz23_0, hcz23_1, hcz23_2, hfz23_0, hfz23_1, hfz23_2⟩ := b6_ BK284.out; have p296 : 0 ≤ (x7_1 : Int) := of_decide_eq_true qz3; have q296 : x7_1 < (l0.length : Int) := of_decide_eq_true qz3; obtain ⟨ad296, e296, hx296_0, hx296_1, hx296_2⟩ := at_T72 HR0.out x7_1 p296 q296; obtain rfl : ad295 = ad296 := (by injection e296); replace hx296_0 := pw_cell_below HB.out hx296_0; replace hx296_1 := pw_cell_below HB.out hx296_1; replace hx296_2 := pw_cell_below HB.out hx296_2; replace p296 := eq_true p296; replace q296 := eq_true q296) | ((with_reducible refine gate_builtin (b := .append) (xs := #[.tmp 42, .tmp 47]) rfl ?_); at_builtin; refine Kd.R_append k72 (w0 := w) w.heap.size rfl (.tmp 42) (.tmp 47) 77 72 (.agg #[(.int .i64 0), (.int .i64 0), (.int .i64 0)]) 24 rfl Try.underlying77 info72 rfl (by decide) (by omega) v293 y292 (⟨(rd_T72 l0 x7_1).f0, (rd_T72 l0 x7_1).f1, (rd_T72 l0 x7_1).f2⟩ : S72) [.int .i64 ((rd_T72 l0 x7_1).f0), .int .i64 ((rd_T72 l0 x7_1).f1), .int .i64 ((rd_T72 l0 x7_1).f2)] (fun k_ => k_ ≠ gb284) (fun _ => False) rfl rfl ?aP (fun _ hk => hk.elim) ?aF ?aO ?aB ?aS ?aL ?_; (case aP => exact qz37); (case aB => exact qz4); (case aF => exact qz32); (case aO => exact (rr_ HO294.out)); (case aS => exact (below_size qz4)); (case aL => have := LMc20.out; omega); intro v298 w24 ho hb hg hat; rw [← Ny297.out] at ho; have n0_ := aM (blk_grown (bk_ BK284.out) hg (Kd.R_away HO294.out (fun _ hk => hk))); have n1_ := aM (hb); have n2_ := aM (ho); clear BK284 HB HO294; have BK284 := n0_; have HB := n1_; have HO299 := n2_; clear n0_ n1_ n2_; clear ho hb hg hat)))
     go_roundg kj7
     case measure => have := HK1.out; have := HJ7.out; omega
     case rel => exact ⟨(y297), (true), (wrap64 (x7_1 + 1)), qz6, qz6, H', ⟨by have := HK1.out; have := HJ7.out; omega⟩, ⟨rm_ HO299.out⟩, ⟨bk_ BK284.out⟩, ⟨by repeat (first | (with_reducible first | exact HB.out | apply below_alloc | apply pw_below_drewN | apply below_drew1 | refine below_set ?_ GE284.out) | exact HB.out)⟩⟩
     }
     {
     rw [if_neg c20] at H
     exact absurd H (by simp)
     }
     }
     }
     {
     rw [if_neg c15] at H
     exact absurd H (by simp)
     }
     }
     {
     rw [if_neg c14] at H
     exact absurd H (by simp)
     }
     }
     {
     rw [if_neg c13] at H
     exact absurd H (by simp)
     }
     }
     {
     replace c12 := Bool.eq_false_iff.mpr c12
     subst c12
     rw [if_neg (show ¬ (false = true) by decide)] at H
     by_cases c25 : 0 ≤ x7_1
     {
     rw [if_pos c25] at H
     have c25b0 := decide_eq_true c25
     clear c25
     by_cases c26 : x7_1 < (l0.length : Int)
     {
     rw [if_pos c26] at H
     have c26b0 := decide_eq_true c26
     clear c26
     by_cases c27 : ((rd_T72 l0 x7_1).f0) = a1_0
     {
     rw [if_pos c27] at H
     have c27b0 := beq_iff_eq.mpr c27
     have c27b1 := bne_eq_false_iff_eq.mpr c27
     clear c27
     have H' := aM H
     clear H
     have p300 : 0 ≤ (x7_1 : Int) := of_decide_eq_true qz3
     have q300 : x7_1 < (l0.length : Int) := of_decide_eq_true qz3
     obtain ⟨ad300, e300, hx300_0, hx300_1, hx300_2⟩ := at_T72 HR0.out x7_1 p300 q300
     cases e300
     replace hx300_0 := pw_cell_below HB.out hx300_0
     replace hx300_1 := pw_cell_below HB.out hx300_1
     replace hx300_2 := pw_cell_below HB.out hx300_2
     replace p300 := eq_true p300
     replace q300 := eq_true q300
     obtain ⟨hcz28_0, hcz28_1, hcz28_2, hfz28_0, hfz28_1, hfz28_2⟩ := b6_ BK284.out
     go_wp2
     repeat (go_quiet (fail); try go_wp2)
     go_roundg kj7
     case measure => have := HK1.out; have := HJ7.out; omega
     case rel => exact ⟨(x5_1), (x6_1), (wrap64 (x7_1 + 1)), qz6, qz6, H', ⟨by have := HK1.out; have := HJ7.out; omega⟩, ⟨rm_ HO_5.out⟩, ⟨bk_ BK284.out⟩, ⟨by repeat (first | (with_reducible first | exact HB.out | apply below_alloc | apply pw_below_drewN | apply below_drew1 | refine below_set ?_ GE284.out) | exact HB.out)⟩⟩
     }
     {
     rw [if_neg c27] at H
     have c27b0 := beq_eq_false_iff_ne.mpr c27
     have c27b1 := bne_iff_ne.mpr c27
     by_cases c29 : x5_1.length < 5864062014805
     {
     rw [if_pos c29] at H
     have LMc29 := aM c29
     clear c29
     obtain ⟨y302, hy302⟩ : ∃ y_ : List (S72), y_ = (x5_1 ++ [(⟨(rd_T72 l0 x7_1).f0, (rd_T72 l0 x7_1).f1, (rd_T72 l0 x7_1).f2⟩ : S72)]) := ⟨_, rfl⟩
     replace H : (spec_l5With.l0 kj7 l0 y302 x6_1 (wrap64 (x7_1 + 1)) a1_0 a1_1 a1_2) = some r := by first | (rw [hy302]; with_reducible exact H) | (have H2_ := (Option.bind_some _ _).symm.trans H; rw [hy302]; with_reducible exact H2_) | (have H2_ := (Option.bind_some _ _).symm.trans H; with_reducible exact H2_) | with_reducible exact H | (rw [hy302]; exact H) | exact H
     have Ny302 := aM hy302
     clear hy302
     have H' := aM H
     clear H
     have p300 : 0 ≤ (x7_1 : Int) := of_decide_eq_true qz3
     have q300 : x7_1 < (l0.length : Int) := of_decide_eq_true qz3
     obtain ⟨ad300, e300, hx300_0, hx300_1, hx300_2⟩ := at_T72 HR0.out x7_1 p300 q300
     cases e300
     replace hx300_0 := pw_cell_below HB.out hx300_0
     replace hx300_1 := pw_cell_below HB.out hx300_1
     replace hx300_2 := pw_cell_below HB.out hx300_2
     replace p300 := eq_true p300
     replace q300 := eq_true q300
     obtain ⟨hcz30_0, hcz30_1, hcz30_2, hfz30_0, hfz30_1, hfz30_2⟩ := b6_ BK284.out
     have p301 : 0 ≤ (x7_1 : Int) := of_decide_eq_true qz3
     have q301 : x7_1 < (l0.length : Int) := of_decide_eq_true qz3
     obtain ⟨ad301, e301, hx301_0, hx301_1, hx301_2⟩ := at_T72 HR0.out x7_1 p301 q301
     obtain rfl : ad300 = ad301 := (by injection e301)
     replace hx301_0 := pw_cell_below HB.out hx301_0
     replace hx301_1 := pw_cell_below HB.out hx301_1
     replace hx301_2 := pw_cell_below HB.out hx301_2
     replace p301 := eq_true p301
     replace q301 := eq_true q301
     go_wp2_with (first | ((with_reducible refine gate_builtin (b := .append) (xs := #[.tmp 42, .tmp 47]) rfl ?_); at_builtin; refine Kd.R_append k72 (w0 := w) w.heap.size rfl (.tmp 42) (.tmp 47) 77 72 (.agg #[(.int .i64 0), (.int .i64 0), (.int .i64 0)]) 24 rfl Try.underlying77 info72 rfl (by decide) (by omega) u5 x5_1 (⟨(rd_T72 l0 x7_1).f0, (rd_T72 l0 x7_1).f1, (rd_T72 l0 x7_1).f2⟩ : S72) [.int .i64 ((rd_T72 l0 x7_1).f0), .int .i64 ((rd_T72 l0 x7_1).f1), .int .i64 ((rd_T72 l0 x7_1).f2)] (fun k_ => k_ ≠ gb284) (fun _ => False) rfl rfl ?aP (fun _ hk => hk.elim) ?aF ?aO ?aB ?aS ?aL ?_; (case aP => exact qz37); (case aB => exact qz4); (case aF => exact qz32); (case aO => exact (rr_ HO_5.out)); (case aS => exact (below_size qz4)); (case aL => have := LMc29.out; omega); intro v303 w31 ho hb hg hat; rw [← Ny302.out] at ho; have n0_ := aM (blk_grown (bk_ BK284.out) hg (Kd.R_away HO_5.out (fun _ hk => hk))); have n1_ := aM (hb); have n2_ := aM (ho); clear BK284 HB HO_5; have BK284 := n0_; have HB := n1_; have HO304 := n2_; clear n0_ n1_ n2_; clear ho hb hg hat))
     repeat (go_quiet (first | ((with_reducible refine gate_builtin (b := .append) (xs := #[.tmp 42, .tmp 47]) rfl ?_); at_builtin; refine Kd.R_append k72 (w0 := w) w.heap.size rfl (.tmp 42) (.tmp 47) 77 72 (.agg #[(.int .i64 0), (.int .i64 0), (.int .i64 0)]) 24 rfl Try.underlying77 info72 rfl (by decide) (by omega) u5 x5_1 (⟨(rd_T72 l0 x7_1).f0, (rd_T72 l0 x7_1).f1, (rd_T72 l0 x7_1).f2⟩ : S72) [.int .i64 ((rd_T72 l0 x7_1).f0), .int .i64 ((rd_T72 l0 x7_1).f1), .int .i64 ((rd_T72 l0 x7_1).f2)] (fun k_ => k_ ≠ gb284) (fun _ => False) rfl rfl ?aP (fun _ hk => hk.elim) ?aF ?aO ?aB ?aS ?aL ?_; (case aP => exact qz37); (case aB => exact qz4); (case aF => exact qz32); (case aO => exact (rr_ HO_5.out)); (case aS => exact (below_size qz4)); (case aL => have := LMc29.out; omega); intro v303 w31 ho hb hg hat; rw [← Ny302.out] at ho; have n0_ := aM (blk_grown (bk_ BK284.out) hg (Kd.R_away HO_5.out (fun _ hk => hk))); have n1_ := aM (hb); have n2_ := aM (ho); clear BK284 HB HO_5; have BK284 := n0_; have HB := n1_; have HO304 := n2_; clear n0_ n1_ n2_; clear ho hb hg hat)); try go_wp2_with (first | ((with_reducible refine gate_builtin (b := .append) (xs := #[.tmp 42, .tmp 47]) rfl ?_); at_builtin; refine Kd.R_append k72 (w0 := w) w.heap.size rfl (.tmp 42) (.tmp 47) 77 72 (.agg #[(.int .i64 0), (.int .i64 0), (.int .i64 0)]) 24 rfl Try.underlying77 info72 rfl (by decide) (by omega) u5 x5_1 (⟨(rd_T72 l0 x7_1).f0, (rd_T72 l0 x7_1).f1, (rd_T72 l0 x7_1).f2⟩ : S72) [.int .i64 ((rd_T72 l0 x7_1).f0), .int .i64 ((rd_T72 l0 x7_1).f1), .int .i64 ((rd_T72 l0 x7_1).f2)] (fun k_ => k_ ≠ gb284) (fun _ => False) rfl rfl ?aP (fun _ hk => hk.elim) ?aF ?aO ?aB ?aS ?aL ?_; (case aP => exact qz37); (case aB => exact qz4); (case aF => exact qz32); (case aO => exact (rr_ HO_5.out)); (case aS => exact (below_size qz4)); (case aL => have := LMc29.out; omega); intro v303 w31 ho hb hg hat; rw [← Ny302.out] at ho; have n0_ := aM (blk_grown (bk_ BK284.out) hg (Kd.R_away HO_5.out (fun _ hk => hk))); have n1_ := aM (hb); have n2_ := aM (ho); clear BK284 HB HO_5; have BK284 := n0_; have HB := n1_; have HO304 := n2_; clear n0_ n1_ n2_; clear ho hb hg hat)))
     go_roundg kj7
     case measure => have := HK1.out; have := HJ7.out; omega
     case rel => exact ⟨(y302), (x6_1), (wrap64 (x7_1 + 1)), qz6, qz6, H', ⟨by have := HK1.out; have := HJ7.out; omega⟩, ⟨rm_ HO304.out⟩, ⟨bk_ BK284.out⟩, ⟨by repeat (first | (with_reducible first | exact HB.out | apply below_alloc | apply pw_below_drewN | apply below_drew1 | refine below_set ?_ GE284.out) | exact HB.out)⟩⟩
     }
     {
     rw [if_neg c29] at H
     exact absurd H (by simp)
     }
     }
     }
     {
     rw [if_neg c26] at H
     exact absurd H (by simp)
     }
     }
     {
     rw [if_neg c25] at H
     exact absurd H (by simp)
     }
     }
   }
   {
   rw [if_neg c7] at H
   have c7b0 := decide_eq_false c7
   clear c7
   by_cases c32 : x6_1 = true
   {
   subst c32
   rw [if_pos rfl] at H
   obtain rfl := Option.some.inj H
   simp only [Option.some.injEq, Prod.mk.injEq] at H
   obtain ⟨rfl⟩ := H
   go_wp2
   repeat (go_quiet (fail); try go_wp2)
   go_ret
   exact ⟨_, by first | rfl | (simp [errW_none, errW_some] <;> rfl) | (simp [*, errW_none, errW_some] <;> rfl), by (with_reducible repeat (first | apply Kd.R_alloc | apply Kd.R_drewN | apply Kd.R_drew)); exact Kd.R_mono HO_5.out (fun _ hk => trivial), by repeat (first | (with_reducible first | exact HB.out | apply below_alloc | apply pw_below_drewN | apply below_drew1 | refine below_set ?_ GE284.out) | exact HB.out)⟩
   }
   {
   replace c32 := Bool.eq_false_iff.mpr c32
   subst c32
   rw [if_neg (show ¬ (false = true) by decide)] at H
   by_cases c33 : x5_1.length < 5864062014805
   {
   rw [if_pos c33] at H
   have LMc33 := aM c33
   clear c33
   obtain ⟨y288, hy288⟩ : ∃ y_ : List (S72), y_ = (x5_1 ++ [(⟨a1_0, a1_1, a1_2⟩ : S72)]) := ⟨_, rfl⟩
   replace H : (some y288) = some r := by first | (rw [hy288]; with_reducible exact H) | (have H2_ := (Option.bind_some _ _).symm.trans H; rw [hy288]; with_reducible exact H2_) | (have H2_ := (Option.bind_some _ _).symm.trans H; with_reducible exact H2_) | with_reducible exact H | (rw [hy288]; exact H) | exact H
   have Ny288 := aM hy288
   clear hy288
   obtain rfl := Option.some.inj H
   simp only [Option.some.injEq, Prod.mk.injEq] at H
   obtain ⟨rfl⟩ := H
   obtain ⟨hcz34_0, hcz34_1, hcz34_2, hfz34_0, hfz34_1, hfz34_2⟩ := b6_ BK284.out
   go_wp2_with (first | ((with_reducible refine gate_builtin (b := .append) (xs := #[.tmp 51, .tmp 53]) rfl ?_); at_builtin; refine Kd.R_append k72 (w0 := w) w.heap.size rfl (.tmp 51) (.tmp 53) 77 72 (.agg #[(.int .i64 0), (.int .i64 0), (.int .i64 0)]) 24 rfl Try.underlying77 info72 rfl (by decide) (by omega) u5 x5_1 (⟨a1_0, a1_1, a1_2⟩ : S72) [.int .i64 a1_0, .int .i64 a1_1, .int .i64 a1_2] (fun k_ => k_ ≠ gb284) (fun _ => False) rfl rfl ?aP (fun _ hk => hk.elim) ?aF ?aO ?aB ?aS ?aL ?_; (case aP => exact qz63); (case aB => exact qz4); (case aF => exact qz32); (case aO => exact (rr_ HO_5.out)); (case aS => exact (below_size qz4)); (case aL => have := LMc33.out; omega); intro v289 w35 ho hb hg hat; rw [← Ny288.out] at ho; have n0_ := aM (blk_grown (bk_ BK284.out) hg (Kd.R_away HO_5.out (fun _ hk => hk))); have n1_ := aM (hb); have n2_ := aM (ho); clear BK284 HB HO_5; have BK284 := n0_; have HB := n1_; have HO290 := n2_; clear n0_ n1_ n2_; clear ho hb hg hat))
   repeat (go_quiet (first | ((with_reducible refine gate_builtin (b := .append) (xs := #[.tmp 51, .tmp 53]) rfl ?_); at_builtin; refine Kd.R_append k72 (w0 := w) w.heap.size rfl (.tmp 51) (.tmp 53) 77 72 (.agg #[(.int .i64 0), (.int .i64 0), (.int .i64 0)]) 24 rfl Try.underlying77 info72 rfl (by decide) (by omega) u5 x5_1 (⟨a1_0, a1_1, a1_2⟩ : S72) [.int .i64 a1_0, .int .i64 a1_1, .int .i64 a1_2] (fun k_ => k_ ≠ gb284) (fun _ => False) rfl rfl ?aP (fun _ hk => hk.elim) ?aF ?aO ?aB ?aS ?aL ?_; (case aP => exact qz63); (case aB => exact qz4); (case aF => exact qz32); (case aO => exact (rr_ HO_5.out)); (case aS => exact (below_size qz4)); (case aL => have := LMc33.out; omega); intro v289 w35 ho hb hg hat; rw [← Ny288.out] at ho; have n0_ := aM (blk_grown (bk_ BK284.out) hg (Kd.R_away HO_5.out (fun _ hk => hk))); have n1_ := aM (hb); have n2_ := aM (ho); clear BK284 HB HO_5; have BK284 := n0_; have HB := n1_; have HO290 := n2_; clear n0_ n1_ n2_; clear ho hb hg hat)); try go_wp2_with (first | ((with_reducible refine gate_builtin (b := .append) (xs := #[.tmp 51, .tmp 53]) rfl ?_); at_builtin; refine Kd.R_append k72 (w0 := w) w.heap.size rfl (.tmp 51) (.tmp 53) 77 72 (.agg #[(.int .i64 0), (.int .i64 0), (.int .i64 0)]) 24 rfl Try.underlying77 info72 rfl (by decide) (by omega) u5 x5_1 (⟨a1_0, a1_1, a1_2⟩ : S72) [.int .i64 a1_0, .int .i64 a1_1, .int .i64 a1_2] (fun k_ => k_ ≠ gb284) (fun _ => False) rfl rfl ?aP (fun _ hk => hk.elim) ?aF ?aO ?aB ?aS ?aL ?_; (case aP => exact qz63); (case aB => exact qz4); (case aF => exact qz32); (case aO => exact (rr_ HO_5.out)); (case aS => exact (below_size qz4)); (case aL => have := LMc33.out; omega); intro v289 w35 ho hb hg hat; rw [← Ny288.out] at ho; have n0_ := aM (blk_grown (bk_ BK284.out) hg (Kd.R_away HO_5.out (fun _ hk => hk))); have n1_ := aM (hb); have n2_ := aM (ho); clear BK284 HB HO_5; have BK284 := n0_; have HB := n1_; have HO290 := n2_; clear n0_ n1_ n2_; clear ho hb hg hat)))
   go_ret
   exact ⟨_, by first | rfl | (simp [errW_none, errW_some] <;> rfl) | (simp [*, errW_none, errW_some] <;> rfl), by (with_reducible repeat (first | apply Kd.R_alloc | apply Kd.R_drewN | apply Kd.R_drew)); exact Kd.R_mono HO290.out (fun _ hk => trivial), by repeat (first | (with_reducible first | exact HB.out | apply below_alloc | apply pw_below_drewN | apply below_drew1 | refine below_set ?_ GE284.out) | exact HB.out)⟩
   }
   {
   rw [if_neg c33] at H
   exact absurd H (by simp)

   }
   }
   }
end Go.Proofs.Yteajnkondkfmgaa.PFnExactTakeAll
