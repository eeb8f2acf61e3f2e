-- Made by a program of this session out of the translation. Lean checks it.
import Derived.Test.YteajnkondkfmgaaPFnHeldx0
namespace Go.Proofs.Yteajnkondkfmgaa.PFnHeld
open Go.RowKit Go.Proofs.YteajnkondkfmgaaW.PrintWords Go.Proofs.YteajnkondkfmgaaW.PrintLast Go.Proofs.YteajnkondkfmgaaW.PrintMore
attribute [local go_sem] max2_int min2_int max_two min_two max_three min_three max_four min_four   -- for this text's walks alone
set_option linter.unusedVariables false
set_option linter.unusedSimpArgs false

/-! ### spec_l5Copy: function 62 -/
def spec_l5Copy.l0 : Nat → Int → List (S79) → List (S79) → Option ((List (S79)))
 | 0, _, _, _ => none
 | k + 1, x4, x152000, x154000 => if x4 < (x152000.length : Int) then (if 0 ≤ x4 then ((some (([] : List (S72)) : List (S72))).bind fun y156 => (if y156.length + ((rd_T79 x152000 x4).f2).length < 5864062014805 then (if x154000.length < 3518437208883 then (spec_l5Copy.l0 k (wrap64 (x4 + 1)) x152000 (x154000 ++ [(⟨(rd_T79 x152000 x4).f0, (rd_T79 x152000 x4).f1, (y156 ++ ((rd_T79 x152000 x4).f2))⟩ : S79)])) else (none)) else (none))) else (none)) else (some x154000)
def spec_l5Copy.f (k : Nat) (l0_0 : List (S79)) : Option ((List (S79))) := spec_l5Copy.l0 k 0 l0_0 ([] : List (S79))
theorem spec_l5Copy.mono_l : ∀ k, (∀ y0 y1 y2, LeO (spec_l5Copy.l0 k y0 y1 y2) (spec_l5Copy.l0 (k + 1) y0 y1 y2))
 | 0 => fun _ _ _ r h => by simp [spec_l5Copy.l0] at h
 | k + 1 => by
  have ih0 := spec_l5Copy.mono_l k
  {
  intro y0 y1 y2
  unfold spec_l5Copy.l0
  repeat' first
  | (with_reducible first | exact ih0 _ _ _ | exact LeO.refl _ | exact LeO.none _ | refine LeO.ite ?_ ?_ | refine LeO.bind ?_ (fun _ => ?_))
  | exact ih0 _ _ _
  | exact LeO.none _
  | refine LeO.ite ?_ ?_
  | refine LeO.bind ?_ (fun _ => ?_)
  }
theorem spec_l5Copy.mono : ∀ a0 k, LeO (spec_l5Copy.f k a0) (spec_l5Copy.f (k + 1) a0) := by
 intro a0 k
 have ih0 := spec_l5Copy.mono_l k
 unfold spec_l5Copy.f
 repeat' first
  | (with_reducible first | exact ih0 _ _ _ | exact LeO.refl _ | exact LeO.none _ | refine LeO.ite ?_ ?_ | refine LeO.bind ?_ (fun _ => ?_))
  | exact ih0 _ _ _
  | exact LeO.none _
  | refine LeO.ite ?_ ?_
  | refine LeO.bind ?_ (fun _ => ?_)
def spec_l5Copy.T6 : Bool × List (List Nat × List Nat) := (true, [([], []), ([0], [0]), ([], []), ([2], [2]), ([], []), ([4], [4]), ([], []), ([], []), ([7], [7]), ([6, 8], [6, 8]), ([3, 5, 9], [3, 5, 9]), ([10], [10]), ([1, 11, 9], [1, 11]), ([0, 1, 2, 3, 4, 5, 6, 7, 8, 9, 10, 11, 12], []), ([13, 12, 12, 0, 1, 2, 3, 4, 5, 6, 7, 8, 9, 10, 11, 12], [12, 13])])
def spec_l5Copy.B6 : List Nat := [0, 1, 0, 4, 0, 16, 0, 0, 128, 448, 1020, 2044, 4095, 8191, 16383]
theorem spec_l5Copy.tab6 : rtab .any (opsOf Try.f62 6) = spec_l5Copy.T6 := by kernel_rfl
theorem spec_l5Copy.bits6 : waitsOk spec_l5Copy.T6.2 spec_l5Copy.B6 = true := by kernel_rfl
set_option maxHeartbeats 8000000 in
set_option maxRecDepth 100000 in
theorem spec_l5Copy.calls (k : Nat) (A0_0 : Option Addr) (c0_0 : Nat) (l0_0 : List (S79)) (r : List (S79)) (w : World) (hr0_0 : Kd.C k79 w A0_0 l0_0.length l0_0) (hc0_0 : l0_0.length ≤ c0_0) (h : spec_l5Copy.f k l0_0 = some r) :
  Calls Try.prog 62 #[.agg #[.slice A0_0 l0_0.length c0_0]] w fun e w' => ∃ v0_ : Value, e = .returned (.agg #[v0_]) ∧ Kd.S k79 79 w' w.heap.size (fun _ => True) v0_ r ∧ Below w.heap.size w w' := by
 have hu26 := Try.underlying26
 have hu79 := Try.underlying79
 have HR0_0 := aM hr0_0
 have HC0_0 := aM hc0_0
 clear hr0_0 hc0_0
 have HB := aM (Below.refl w.heap.size w)
 have H : (spec_l5Copy.l0 k 0 l0_0 ([] : List (S79))) = some r := h
 clear h
 have H' := aM H
 clear H
 go_enter Try.func62, Try.ntmps62
 go_wp2_with (first | ((with_reducible refine gate_dst (N := 1) rfl ?_); refine bx_ 1 #[.slice A0_0 l0_0.length c0_0] 26 ?_; intro gb151 hg w2 hbox hb; have n0_ := aM (below_step qz2 hb); have n1_ := aM (hbox); have n2_ := aM ((by rw [hg]; exact (below_size qz2) : w.heap.size ≤ gb151)); have n3_ := aM ((by rw [hg]; exact (below_size qz2) : w.heap.size ≤ gb151)); clear HB; have HB := n0_; have BK151 := n1_; have GW151 := n2_; have GE151 := n3_; clear n0_ n1_ n2_ n3_; clear hb hbox hg) | ((with_reducible refine gate_dst (N := 2) rfl ?_); refine bx_ 2 #[.slice none 0 0] 26 ?_; intro gb152 hg w3 hbox hb; have n0_ := aM (blk_below (bk_ BK151.out) hb); have n1_ := aM (below_step qz98 hb); have n2_ := aM (hbox); have n3_ := aM ((by rw [hg]; exact (below_size qz98) : w.heap.size ≤ gb152)); have n4_ := aM ((by rw [hg]; exact (below_size qz98) : w.heap.size ≤ gb152)); have n5_ := aM ((by rw [hg]; exact Nat.ne_of_lt (blk_lt (bk_ BK151.out)) : gb151 ≠ gb152)); have n6_ := aM ((by rw [hg]; exact Nat.ne_of_gt (blk_lt (bk_ BK151.out)) : gb152 ≠ gb151)); clear BK151 HB; have BK151 := n0_; have HB := n1_; have BK152 := n2_; have GW152 := n3_; have GE152 := n4_; have NB151_152 := n5_; have NB152_151 := n6_; clear n0_ n1_ n2_ n3_ n4_ n5_ n6_; clear hb hbox hg) | ((with_reducible refine gate_dst (N := 3) rfl ?_); refine bx_ 3 #[.slice none 0 0] 26 ?_; intro gb153 hg w4 hbox hb; have n0_ := aM (blk_below (bk_ BK151.out) hb); have n1_ := aM (blk_below (bk_ BK152.out) hb); have n2_ := aM (below_step qz86 hb); have n3_ := aM (hbox); have n4_ := aM ((by rw [hg]; exact (below_size qz86) : w.heap.size ≤ gb153)); have n5_ := aM ((by rw [hg]; exact (below_size qz86) : w.heap.size ≤ gb153)); have n6_ := aM ((by rw [hg]; exact Nat.ne_of_lt (blk_lt (bk_ BK151.out)) : gb151 ≠ gb153)); have n7_ := aM ((by rw [hg]; exact Nat.ne_of_gt (blk_lt (bk_ BK151.out)) : gb153 ≠ gb151)); have n8_ := aM ((by rw [hg]; exact Nat.ne_of_lt (blk_lt (bk_ BK152.out)) : gb152 ≠ gb153)); have n9_ := aM ((by rw [hg]; exact Nat.ne_of_gt (blk_lt (bk_ BK152.out)) : gb153 ≠ gb152)); clear BK151 BK152 HB; have BK151 := n0_; have BK152 := n1_; have HB := n2_; have BK153 := n3_; have GW153 := n4_; have GE153 := n5_; have NB151_153 := n6_; have NB153_151 := n7_; have NB152_153 := n8_; have NB153_152 := n9_; clear n0_ n1_ n2_ n3_ n4_ n5_ n6_ n7_ n8_ n9_; clear hb hbox hg; have hnb5 := NB153_151.out; have hnc5 := NB151_153.out; have hnb6 := NB153_152.out; have hnc6 := NB152_153.out; have hcz7_0 := bc0_ BK153.out; have hfz7_0 := blk_frozen BK153.out 0))
 go_loopg [4] k (fun kq v4 w' => ∃ (x4_1 : Int) (x154000_1 : List (S79)) (u154000 : Value), v4 = .int .i64 x4_1 ∧ Aside0 (spec_l5Copy.l0 kq x4_1 l0_0 x154000_1 = some r) ∧ Aside0 (kq ≤ k) ∧ Aside0 (Kd.S k79 79 w' w.heap.size (fun _ => True) u154000 x154000_1) ∧ Aside0 (w'.heap[gb151]? = some (.cells #[(.slice A0_0 l0_0.length c0_0)] 26 (0, 0))) ∧ Aside0 (w'.heap[gb152]? = some (.cells #[(.slice none 0 0)] 26 (0, 0))) ∧ Aside0 (w'.heap[gb153]? = some (.cells #[u154000] 26 (0, 0))) ∧ Aside0 (Below w.heap.size w w'))
 case atStart => exact ⟨(0), (([] : List (S79))), (.slice none 0 0), qz13, H', ⟨Nat.le_refl _⟩, ⟨by first | exact Kd.S_nil _ _ _ _ _ | exact Kd.N_nil _ _ _ _ _ | exact Kd.V_nil _ _ _ _ _ | exact Kd.Q_nil _ _ _ _ _ | exact Kd.R_nil _ _ _ _ _⟩, ⟨by (with_reducible repeat (first | refine blk_drewN ?_ _ | refine blk_drew ?_ | refine blk_alloc ?_ _)); refine blk_far ?_ NB151_153.out _; exact bk_ BK151.out⟩, ⟨by (with_reducible repeat (first | refine blk_drewN ?_ _ | refine blk_drew ?_ | refine blk_alloc ?_ _)); refine blk_far ?_ NB152_153.out _; exact bk_ BK152.out⟩, ⟨by (with_reducible repeat (first | refine blk_drewN ?_ _ | refine blk_drew ?_ | refine blk_alloc ?_ _)); refine blk_put (cs := #[.slice none 0 0]) ?_ 0 _ rfl; exact bk_ BK153.out⟩, ⟨by repeat (first | (with_reducible first | exact HB.out | apply below_alloc | apply pw_below_drewN | apply below_drew1 | refine below_set ?_ GE151.out | refine below_set ?_ GE152.out | refine below_set ?_ GE153.out) | exact HB.out)⟩⟩
 case round =>
  clear H'
  try clear p2
  try clear c5
  try clear c6
  try clear hcz7_0
  try clear hfz7_0
  obtain ⟨x4_1, x154000_1, u154000, rfl, HA, HK1, HO_154000, BK151, BK152, BK153, HB⟩ := hrel
  cases gk with
  | zero => exact absurd HA.out (by simp [spec_l5Copy.l0])
  | succ k1 =>
   have H := HA.out
   clear HA
   simp only [spec_l5Copy.l0] at H
   by_cases c8 : x4_1 < (l0_0.length : Int)
   {
   rw [if_pos c8] at H
   have c8b0 := decide_eq_true c8
   clear c8
   by_cases c9 : 0 ≤ x4_1
   {
   rw [if_pos c9] at H
   have c9b0 := decide_eq_true c9
   clear c9
   obtain ⟨y156, hy156⟩ : ∃ y_ : List (S72), y_ = (([] : List (S72))) := ⟨_, rfl⟩
   replace H : (if y156.length + ((rd_T79 l0_0 x4_1).f2).length < 5864062014805 then (if x154000_1.length < 3518437208883 then (spec_l5Copy.l0 k1 (wrap64 (x4_1 + 1)) l0_0 (x154000_1 ++ [(⟨(rd_T79 l0_0 x4_1).f0, (rd_T79 l0_0 x4_1).f1, (y156 ++ ((rd_T79 l0_0 x4_1).f2))⟩ : S79)])) else (none)) else (none)) = some r := by first | (rw [hy156]; with_reducible exact H) | (have H2_ := (Option.bind_some _ _).symm.trans H; rw [hy156]; with_reducible exact H2_) | (have H2_ := (Option.bind_some _ _).symm.trans H; with_reducible exact H2_) | with_reducible exact H | (rw [hy156]; exact H) | exact H
   have Ny156 := aM hy156
   clear hy156
   by_cases c10 : y156.length + ((rd_T79 l0_0 x4_1).f2).length < 5864062014805
   {
   rw [if_pos c10] at H
   have LMc10 := aM c10
   clear c10
   obtain ⟨y159, hy159⟩ : ∃ y_ : List (S72), y_ = (y156 ++ ((rd_T79 l0_0 x4_1).f2)) := ⟨_, rfl⟩
   replace H : (if x154000_1.length < 3518437208883 then (spec_l5Copy.l0 k1 (wrap64 (x4_1 + 1)) l0_0 (x154000_1 ++ [(⟨(rd_T79 l0_0 x4_1).f0, (rd_T79 l0_0 x4_1).f1, y159⟩ : S79)])) else (none)) = some r := by first | (rw [hy159]; with_reducible exact H) | (have H2_ := (Option.bind_some _ _).symm.trans H; rw [hy159]; with_reducible exact H2_) | (have H2_ := (Option.bind_some _ _).symm.trans H; with_reducible exact H2_) | with_reducible exact H | (rw [hy159]; exact H) | exact H
   have Ny159 := aM hy159
   clear hy159
   by_cases c11 : x154000_1.length < 3518437208883
   {
   rw [if_pos c11] at H
   have LMc11 := aM c11
   clear c11
   obtain ⟨y162, hy162⟩ : ∃ y_ : List (S79), y_ = (x154000_1 ++ [(⟨(rd_T79 l0_0 x4_1).f0, (rd_T79 l0_0 x4_1).f1, y159⟩ : S79)]) := ⟨_, rfl⟩
   replace H : (spec_l5Copy.l0 k1 (wrap64 (x4_1 + 1)) l0_0 y162) = some r := by first | (rw [hy162]; with_reducible exact H) | (have H2_ := (Option.bind_some _ _).symm.trans H; rw [hy162]; with_reducible exact H2_) | (have H2_ := (Option.bind_some _ _).symm.trans H; with_reducible exact H2_) | with_reducible exact H | (rw [hy162]; exact H) | exact H
   have Ny162 := aM hy162
   clear hy162
   have H' := aM H
   clear H
   have hnb12 := NB151_152.out
   have hnc12 := NB152_151.out
   have hnb13 := NB151_153.out
   have hnc13 := NB153_151.out
   have hcz14_0 := bc0_ BK151.out
   have hfz14_0 := blk_frozen BK151.out 0
   have p154 : 0 ≤ (x4_1 : Int) := of_decide_eq_true qz4
   have q154 : x4_1 < (l0_0.length : Int) := of_decide_eq_true qz4
   obtain ⟨ad154, A154_2, c154_2, e154, hx154_0, hx154_1, hx154_2, hl154_2, hi154_2⟩ := at_T79 HR0_0.out x4_1 p154 q154
   cases e154
   replace hx154_0 := pw_cell_below HB.out hx154_0
   replace hx154_1 := pw_cell_below HB.out hx154_1
   replace hx154_2 := pw_cell_below HB.out hx154_2
   have HR154_2 := aM hi154_2
   have HC154_2 := aM hl154_2
   clear hi154_2 hl154_2
   replace p154 := eq_true p154
   replace q154 := eq_true q154
   try go_wp2_with (first | ((with_reducible refine gate_dst (N := 5) rfl ?_); refine bx_ 5 #[.int .i64 0, .int .i64 0, .slice none 0 0] 79 ?_; intro gb155 hg w15 hbox hb; have n0_ := aM (Kd.S_below (Kd.S_elderB (rs_ HO_154000.out) gb155 (Nat.le_of_eq hg.symm)) hb); have n1_ := aM (blk_below (bk_ BK151.out) hb); have n2_ := aM (blk_below (bk_ BK152.out) hb); have n3_ := aM (blk_below (bk_ BK153.out) hb); have n4_ := aM (below_step qz78 hb); have n5_ := aM (hbox); have n6_ := aM ((by rw [hg]; exact (below_size qz78) : w.heap.size ≤ gb155)); have n7_ := aM ((by rw [hg]; exact (below_size qz78) : w.heap.size ≤ gb155)); have n8_ := aM ((by rw [hg]; exact Nat.ne_of_lt (blk_lt (bk_ BK151.out)) : gb151 ≠ gb155)); have n9_ := aM ((by rw [hg]; exact Nat.ne_of_gt (blk_lt (bk_ BK151.out)) : gb155 ≠ gb151)); have n10_ := aM ((by rw [hg]; exact Nat.ne_of_lt (blk_lt (bk_ BK152.out)) : gb152 ≠ gb155)); have n11_ := aM ((by rw [hg]; exact Nat.ne_of_gt (blk_lt (bk_ BK152.out)) : gb155 ≠ gb152)); have n12_ := aM ((by rw [hg]; exact Nat.ne_of_lt (blk_lt (bk_ BK153.out)) : gb153 ≠ gb155)); have n13_ := aM ((by rw [hg]; exact Nat.ne_of_gt (blk_lt (bk_ BK153.out)) : gb155 ≠ gb153)); clear HO_154000 BK151 BK152 BK153 HB; have HO_154000 := n0_; have BK151 := n1_; have BK152 := n2_; have BK153 := n3_; have HB := n4_; have BK155 := n5_; have GW155 := n6_; have GE155 := n7_; have NB151_155 := n8_; have NB155_151 := n9_; have NB152_155 := n10_; have NB155_152 := n11_; have NB153_155 := n12_; have NB155_153 := n13_; clear n0_ n1_ n2_ n3_ n4_ n5_ n6_ n7_ n8_ n9_ n10_ n11_ n12_ n13_; clear hb hbox hg; have hnb16 := NB155_151.out; have hnc16 := NB151_155.out; have hnb17 := NB155_152.out; have hnc17 := NB152_155.out; have hnb18 := NB155_153.out; have hnc18 := NB153_155.out; obtain ⟨hcz19_0, hcz19_1, hcz19_2, hfz19_0, hfz19_1, hfz19_2⟩ := b6_ BK155.out))
   generalize hq_ : (((w15.setCell ⟨gb155, 0, none⟩ (.int .i64 ((rd_T79 l0_0 x4_1).f0))).setCell ⟨gb155, 1, none⟩ (.int .i64 ((rd_T79 l0_0 x4_1).f1))).setCell ⟨gb155, 2, none⟩ (.slice A154_2 ((rd_T79 l0_0 x4_1).f2).length c154_2)) = w20
   have n0_ : Aside0 (Kd.S k79 79 w20 w.heap.size (fun k_ => k_ ≠ gb155) u154000 x154000_1) := ⟨by rw [← hq_]; exact (by (with_reducible repeat (first | apply Kd.S_alloc | apply Kd.S_drewN | apply Kd.S_drew)); exact Kd.S_mono (Kd.S_far (p := ⟨gb155, 2, none⟩) (Kd.S_far (p := ⟨gb155, 1, none⟩) (Kd.S_far (p := ⟨gb155, 0, none⟩) (Kd.S_mono HO_154000.out (fun k_ hk => (⟨hk, hk.2⟩ : _ ∧ k_ ≠ gb155))) (fun _ hk => hk.2) (.int .i64 ((rd_T79 l0_0 x4_1).f0))) (fun _ hk => hk.2) (.int .i64 ((rd_T79 l0_0 x4_1).f1))) (fun _ hk => hk.2) (.slice A154_2 ((rd_T79 l0_0 x4_1).f2).length c154_2)) (fun _ hk => hk.1.2))⟩
   have n1_ : Aside0 (w20.heap[gb151]? = some (.cells #[.slice (some ad154) l0_0.length c0_0] 26 (0, 0))) := ⟨by rw [← hq_]; exact (by (with_reducible repeat (first | refine blk_drewN ?_ _ | refine blk_drew ?_ | refine blk_alloc ?_ _)); refine blk_far ?_ NB151_155.out _; (with_reducible repeat (first | refine blk_drewN ?_ _ | refine blk_drew ?_ | refine blk_alloc ?_ _)); refine blk_far ?_ NB151_155.out _; (with_reducible repeat (first | refine blk_drewN ?_ _ | refine blk_drew ?_ | refine blk_alloc ?_ _)); refine blk_far ?_ NB151_155.out _; exact bk_ BK151.out)⟩
   have n2_ : Aside0 (w20.heap[gb152]? = some (.cells #[.slice none 0 0] 26 (0, 0))) := ⟨by rw [← hq_]; exact (by (with_reducible repeat (first | refine blk_drewN ?_ _ | refine blk_drew ?_ | refine blk_alloc ?_ _)); refine blk_far ?_ NB152_155.out _; (with_reducible repeat (first | refine blk_drewN ?_ _ | refine blk_drew ?_ | refine blk_alloc ?_ _)); refine blk_far ?_ NB152_155.out _; (with_reducible repeat (first | refine blk_drewN ?_ _ | refine blk_drew ?_ | refine blk_alloc ?_ _)); refine blk_far ?_ NB152_155.out _; exact bk_ BK152.out)⟩
   have n3_ : Aside0 (w20.heap[gb153]? = some (.cells #[u154000] 26 (0, 0))) := ⟨by rw [← hq_]; exact (by (with_reducible repeat (first | refine blk_drewN ?_ _ | refine blk_drew ?_ | refine blk_alloc ?_ _)); refine blk_far ?_ NB153_155.out _; (with_reducible repeat (first | refine blk_drewN ?_ _ | refine blk_drew ?_ | refine blk_alloc ?_ _)); refine blk_far ?_ NB153_155.out _; (with_reducible repeat (first | refine blk_drewN ?_ _ | refine blk_drew ?_ | refine blk_alloc ?_ _)); refine blk_far ?_ NB153_155.out _; exact bk_ BK153.out)⟩
   have n4_ : Aside0 (w20.heap[gb155]? = some (.cells #[.int .i64 ((rd_T79 l0_0 x4_1).f0), .int .i64 ((rd_T79 l0_0 x4_1).f1), .slice A154_2 ((rd_T79 l0_0 x4_1).f2).length c154_2] 79 (0, 0))) := ⟨by rw [← hq_]; exact (by (with_reducible repeat (first | refine blk_drewN ?_ _ | refine blk_drew ?_ | refine blk_alloc ?_ _)); refine blk_put (cs := #[.int .i64 ((rd_T79 l0_0 x4_1).f0), .int .i64 ((rd_T79 l0_0 x4_1).f1), .slice none 0 0]) ?_ 2 _ rfl; (with_reducible repeat (first | refine blk_drewN ?_ _ | refine blk_drew ?_ | refine blk_alloc ?_ _)); refine blk_put (cs := #[.int .i64 ((rd_T79 l0_0 x4_1).f0), .int .i64 0, .slice none 0 0]) ?_ 1 _ rfl; (with_reducible repeat (first | refine blk_drewN ?_ _ | refine blk_drew ?_ | refine blk_alloc ?_ _)); refine blk_put (cs := #[.int .i64 0, .int .i64 0, .slice none 0 0]) ?_ 0 _ rfl; exact bk_ BK155.out)⟩
   have n5_ : Aside0 (Below w.heap.size w w20) := ⟨by rw [← hq_]; exact qz35⟩
   (try clear HO_154000)
   (try clear BK151)
   (try clear BK152)
   (try clear BK153)
   (try clear BK155)
   (try clear HB)
   clear hq_
   have HO_154000 := n0_
   have BK151 := n1_
   have BK152 := n2_
   have BK153 := n3_
   have BK155 := n4_
   have HB := n5_
   clear n0_ n1_ n2_ n3_ n4_ n5_
   have n0_ := aM (Kd.S_drew HO_154000.out)
   have n1_ := aM (blk_drew BK151.out)
   have n2_ := aM (blk_drew BK152.out)
   have n3_ := aM (blk_drew BK153.out)
   have n4_ := aM (blk_drew BK155.out)
   have n5_ := aM (below_drew1 HB.out)
   clear HO_154000
   clear BK151
   clear BK152
   clear BK153
   clear BK155
   clear HB
   have HO_154000 := n0_
   have BK151 := n1_
   have BK152 := n2_
   have BK153 := n3_
   have BK155 := n4_
   have HB := n5_
   clear n0_ n1_ n2_ n3_ n4_ n5_
   refine start_ (n := 15) (S := fun w' => w'.cell? ⟨gb153, 0, none⟩ = some (u154000) ∧ w'.cell? ⟨gb155, 0, none⟩ = some (.int .i64 ((rd_T79 l0_0 x4_1).f0)) ∧ w'.cell? ⟨gb155, 1, none⟩ = some (.int .i64 ((rd_T79 l0_0 x4_1).f1)) ∧ w'.cell? ⟨gb155, 2, none⟩ = some (.slice A154_2 ((rd_T79 l0_0 x4_1).f2).length c154_2)) (ds := [14]) #[false, false, false, false, false, false, false, false, false, false, false, false, false, false, false] (by kernel_rfl) rfl rfl ⟨(blk_cell BK153.out 0).trans rfl, (blk_cell BK155.out 0).trans rfl, (blk_cell BK155.out 1).trans rfl, (blk_cell BK155.out 2).trans rfl⟩ (fun hHeld => ?_); refine with_tabW spec_l5Copy.tab6 spec_l5Copy.bits6 (fun HT_ HW_ => ?_)
   generalize w20.drew = w21 at HO_154000 BK151 BK152 BK153 BK155 HB hHeld ⊢
   refine pI_ 0 19 (bqz 15 1) ?_
   refine pI_ 2 21 (bqz 15 5) ?_
   refine pI_ 4 23 (bqz 15 21) ?_
   refine pI_ 7 26 (bqz 15 149) ?_
   refine tI4_ 1 20 (bqz 15 151) ?_
   refine tI4_ 3 22 (bqz 15 159) ?_
   refine tI4_ 5 24 (bqz 15 191) ?_
   refine tI4_ 8 27 (bqz 15 447) ?_
   refine one_ (i := 6) (N := some 25) (bqz 15 511) rfl rfl qzc (by decide) (fun K hK => ?_)
   refine Kd.R_lit_step k72 _ 72 ?hg (N := 25) ?hd (xs := ([] : List (S72))) (inner := []) (ok := fun _ => True) (okp := fun _ => True) ?hr ?hp (fun _ hk => hk) trivial (Below.refl _ _) (Nat.le_refl _) (by simp) ?_; (case hd => rfl); (case hg => rfl); (case hr => exact qz87); (case hp => exact (Reps.none _ _))
   intro v157 w22 ho23 hb hg_ hnew_
   clear hg_ hnew_
   (first | rw [← Ny156.out] at ho23 | (simp only [Int.reduceToNat] at ho23; rw [← Ny156.out] at ho23))
   have n0_ := aM (Kd.S_elder' (rs_ HO_154000.out) (Kd.R_base ho23) hb)
   have n1_ := aM (Kd.R_lower ho23 (below_size qz35))
   have n2_ := aM (blk_below (bk_ BK151.out) hb)
   have n3_ := aM (blk_below (bk_ BK152.out) hb)
   have n4_ := aM (blk_below (bk_ BK153.out) hb)
   have n5_ := aM (blk_below (bk_ BK155.out) hb)
   have n6_ := aM (below_step qz35 hb)
   clear HO_154000
   clear BK151
   clear BK152
   clear BK153
   clear BK155
   clear HB
   have HO_154000 := n0_
   have HO158 := n1_
   have BK151 := n2_
   have BK152 := n3_
   have BK153 := n4_
   have BK155 := n5_
   have HB := n6_
   clear n0_ n1_ n2_ n3_ n4_ n5_ n6_
   clear hb ho23
   refine hK.out _ _ ⟨(blk_cell BK153.out 0).trans rfl, (blk_cell BK155.out 0).trans rfl, (blk_cell BK155.out 1).trans rfl, (blk_cell BK155.out 2).trans rfl⟩ (fun hHeld => ?_)
   clear hK K
   refine norm_ (a' := ?_) ?_ ?_
   rotate_left
   {
   show Act.put _ (some 25) _ = _
   simp only [qzs]
   rfl
   }
   refine one_ (i := 9) (N := some 28) (bqz 15 1023) rfl rfl qzc (by decide) (fun K hK => ?_)
   refine Kd.R_append_rows_step k72 (w0 := w) w.heap.size (by rfl) (.tmp 25) (.tmp 27) 77 72 (.agg #[(.int .i64 0), (.int .i64 0), (.int .i64 0)]) 24 rfl Try.underlying77 info72 rfl (by decide) (by omega) v157 y156 ((rd_T79 l0_0 x4_1).f2) _ _ _ (fun _ => True) (fun _ => False) rfl rfl ?aO ?aR (fun _ _ h => h) (fun _ h => h.elim) ?aF ?aB ?aS ?aL ?_
   (case aR => repeat (first | exact (Kd.C_below HR154_2.out HB.out) | (with_reducible refine Kd.C_alloc ?_ _) | (with_reducible refine Kd.C_drewN ?_ _) | (with_reducible refine Kd.C_drew ?_)))
   (case aB => exact qz35)
   (case aF => exact (fun _ _ => trivial))
   (case aO => exact (rr_ HO158.out))
   (case aS => exact (below_size qz35))
   (case aL => have := LMc10.out; omega)
   intro v160 w24 ho hb hg hat
   rw [← Ny159.out] at ho
   have n0_ := aM (Kd.S_after (ok := (fun k_ => k_ ≠ gb155)) (rs_ HO_154000.out) hg hat)
   have n1_ := aM (blk_grown (bk_ BK151.out) hg (Kd.R_ne HO158.out BK151.out (by decide)))
   have n2_ := aM (blk_grown (bk_ BK152.out) hg (Kd.R_ne HO158.out BK152.out (by decide)))
   have n3_ := aM (blk_grown (bk_ BK153.out) hg (Kd.R_ne HO158.out BK153.out (by decide)))
   have n4_ := aM (blk_grown (bk_ BK155.out) hg (Kd.R_ne HO158.out BK155.out (by decide)))
   have n5_ := aM (hb)
   have n6_ := aM (ho)
   clear HO_154000
   clear BK151
   clear BK152
   clear BK153
   clear BK155
   clear HB
   clear HO158
   have HO_154000 := n0_
   have BK151 := n1_
   have BK152 := n2_
   have BK153 := n3_
   have BK155 := n4_
   have HB := n5_
   have HO161 := n6_
   clear n0_ n1_ n2_ n3_ n4_ n5_ n6_
   clear ho hb hg hat
   obtain ⟨Ao25, co25, eo25⟩ := Kd.R_slice HO161.out
   (first | subst eo25 | (injection eo25 with f1_ f2_ f3_; have f4_ := f1_.symm; have f5_ := f3_.symm; clear f1_ f2_ f3_; subst f4_; subst f5_))
   refine hK.out _ _ ⟨(blk_cell BK153.out 0).trans rfl, (blk_cell BK155.out 0).trans rfl, (blk_cell BK155.out 1).trans rfl, (blk_cell BK155.out 2).trans rfl⟩ (fun hHeld => ?_)
   clear hK K
   refine norm_ (a' := ?_) ?_ ?_
   rotate_left
   {
   show Act.put _ (some 28) _ = _
   simp only [qzs]
   rfl
   }
   refine pI_ 10 29 (bqz 15 2047) ?_
   refine one_ (i := 11) (N := some 30) (bqz 15 4095) rfl rfl qzc (by decide) (fun K hK => ?_)
   refine value_ (w1 := ?_) (v := ?_) (by rfl) rfl ?_ ?_
   rotate_left 2
   {
   go_simp
   constructor
   {
   rfl
   }
   {
   rfl
   }
   }
   refine hK.out _ _ ⟨(blk_cell (blk_alloc BK153.out _) 0).trans rfl, (blk_cell (blk_alloc BK155.out _) 0).trans rfl, (blk_cell (blk_alloc BK155.out _) 1).trans rfl, (blk_cell (blk_alloc BK155.out _) 2).trans rfl⟩ (fun hHeld => ?_)
   clear hK K
   refine norm_ (a' := ?_) ?_ ?_
   rotate_left
   {
   show Act.put _ (some 30) _ = _
   simp only [qzs]
   rfl
   }
   refine one_ (i := 12) (N := some 31) (bqz 15 8191) rfl rfl qzc (by decide) (fun K hK => ?_)
   refine Kd.S_append_step k79 (w0 := w) w.heap.size (by rfl) (.tmp 20) (.tmp 30) 24 79 (.agg #[(.int .i64 0), (.int .i64 0), (.slice none 0 0)]) 40 rfl Try.underlying24 info79 rfl (by decide) (by omega) u154000 x154000_1 (⟨(rd_T79 l0_0 x4_1).f0, (rd_T79 l0_0 x4_1).f1, y159⟩ : S79) [.int .i64 ((rd_T79 l0_0 x4_1).f0), .int .i64 ((rd_T79 l0_0 x4_1).f1), .slice Ao25 y159.length co25] (fun k_ => k_ ≠ gb155) (fun k_ => some k_ = (.slice Ao25 y159.length co25 : Value).ownBlock) rfl rfl ?aP (fun k_ hk_ => ((Kd.R_mono (ok' := fun k_ => ((fun k_ => k_ ≠ gb155)) k_ ∧ some k_ ≠ (u154000 : Value).ownBlock) (Kd.R_types (Kd.R_apart' (HO161.out) (Kd.S_typed HO_154000.out) (by decide)) BK155.out (by decide)) (fun k_ hk => ⟨hk.2, hk.1.2⟩))).1 k_ hk_.symm) ?aF ?aO ?aB ?aS ?aL ?_
   (case aP => exact k79_mkM _ _ _ (⟨(rd_T79 l0_0 x4_1).f0, (rd_T79 l0_0 x4_1).f1, y159⟩ : S79) (Kd.R_mono (Kd.R_tight rfl (Kd.R_mono (ok' := fun k_ => ((fun k_ => k_ ≠ gb155)) k_ ∧ some k_ ≠ (u154000 : Value).ownBlock) (Kd.R_types (Kd.R_apart' (HO161.out) (Kd.S_typed HO_154000.out) (by decide)) BK155.out (by decide)) (fun k_ hk => ⟨hk.2, hk.1.2⟩))) (fun _ h_ => h_)))
   (case aB => exact qz35)
   (case aF => exact (fun k_ hk => Kd.freshB (bk_ BK155.out) k_ hk))
   (case aO => exact (by (with_reducible repeat (first | apply Kd.S_alloc | apply Kd.S_drewN | apply Kd.S_drew)); exact Kd.S_mono HO_154000.out (fun k_ hk => ⟨hk.1, fun e_ => hk.2 e_⟩)))
   (case aS => exact (below_size qz35))
   (case aL => have := LMc11.out; omega)
   intro v163 w26 ho hb hg hat
   rw [← Ny162.out] at ho
   have n0_ := aM (blk_grown (bk_ BK151.out) hg (Kd.S_ne HO_154000.out BK151.out (by decide)))
   have n1_ := aM (blk_grown (bk_ BK152.out) hg (Kd.S_ne HO_154000.out BK152.out (by decide)))
   have n2_ := aM (blk_grown (bk_ BK153.out) hg (Kd.S_ne HO_154000.out BK153.out (by decide)))
   have n3_ := aM (blk_grown (bk_ BK155.out) hg (Kd.S_away HO_154000.out (fun _ hk => hk.1)))
   have n4_ := aM (hb)
   have n5_ := aM (ho)
   clear BK151
   clear BK152
   clear BK153
   clear BK155
   clear HB
   clear HO_154000
   clear HO161
   have BK151 := n0_
   have BK152 := n1_
   have BK153 := n2_
   have BK155 := n3_
   have HB := n4_
   have HO164 := n5_
   clear n0_ n1_ n2_ n3_ n4_ n5_
   clear ho hb hg hat
   obtain ⟨Ao27, co27, eo27⟩ := Kd.S_slice HO164.out
   (first | subst eo27 | (injection eo27 with f1_ f2_ f3_; have f4_ := f1_.symm; have f5_ := f3_.symm; clear f1_ f2_ f3_; subst f4_; subst f5_))
   refine hK.out _ _ ⟨(blk_cell BK153.out 0).trans rfl, (blk_cell BK155.out 0).trans rfl, (blk_cell BK155.out 1).trans rfl, (blk_cell BK155.out 2).trans rfl⟩ (fun hHeld => ?_)
   clear hK K
   refine norm_ (a' := ?_) ?_ ?_
   rotate_left
   {
   show Act.put _ (some 31) _ = _
   simp only [qzs]
   rfl
   }
   refine pI_ 13 32 (bqz 15 16383) ?_
   refine last_ (i := 14) (N := none) (bqz 15 32767) rfl rfl qzc (by decide) (fun K hK => ?_)
   have hs28 : w26.cell? ⟨gb153, 0, none⟩ = some (u154000) := (blk_cell BK153.out 0).trans rfl
   have hfs28 := blk_frozen BK153.out 0
   have hns28_0 := NB151_153.out
   have hns28_1 := NB152_153.out
   have hns28_3 := NB155_153.out
   have hms28_0 := NB153_151.out
   have hms28_1 := NB153_152.out
   have hms28_3 := NB153_155.out
   refine skip_ (w1 := ?_) (by rfl) rfl ?_ ?_
   rotate_left
   {
   go_simp
   rfl
   }
   refine hK.out _ _ ?_
   clear hK K
   refine done_ (done_of HT_.out (by kernel_rfl)) ?_
   try go_wp2
   go_roundg k1
   case measure => have := HK1.out; omega
   case rel => exact ⟨(wrap64 (x4_1 + 1)), (y162), (.slice Ao27 y162.length co27), qz13, H', ⟨by have := HK1.out; omega⟩, ⟨by (with_reducible repeat (first | apply Kd.S_alloc | apply Kd.S_drewN | apply Kd.S_drew)); exact Kd.S_mono (Kd.S_far (p := ⟨gb153, 0, none⟩) (Kd.S_types HO164.out BK153.out (by decide)) (fun _ hk => hk.2) (.slice Ao27 y162.length co27)) (fun _ hk => trivial)⟩, ⟨by (with_reducible repeat (first | refine blk_drewN ?_ _ | refine blk_drew ?_ | refine blk_alloc ?_ _)); refine blk_far ?_ NB151_153.out _; exact bk_ BK151.out⟩, ⟨by (with_reducible repeat (first | refine blk_drewN ?_ _ | refine blk_drew ?_ | refine blk_alloc ?_ _)); refine blk_far ?_ NB152_153.out _; exact bk_ BK152.out⟩, ⟨by (with_reducible repeat (first | refine blk_drewN ?_ _ | refine blk_drew ?_ | refine blk_alloc ?_ _)); refine blk_put (cs := #[u154000]) ?_ 0 _ rfl; exact bk_ BK153.out⟩, ⟨by repeat (first | (with_reducible first | exact HB.out | apply below_alloc | apply pw_below_drewN | apply below_drew1 | refine below_set ?_ GE151.out | refine below_set ?_ GE152.out | refine below_set ?_ GE153.out | refine below_set ?_ GE155.out) | exact HB.out)⟩⟩
   }
   {
   rw [if_neg c11] at H
   exact absurd H (by simp)
   }
   }
   {
   rw [if_neg c10] at H
   exact absurd H (by simp)
   }
   }
   {
   rw [if_neg c9] at H
   exact absurd H (by simp)
   }
   }
   {
   rw [if_neg c8] at H
   have c8b0 := decide_eq_false c8
   clear c8
   obtain rfl := Option.some.inj H
   simp only [Option.some.injEq, Prod.mk.injEq] at H
   obtain ⟨rfl⟩ := H
   have hnb29 := NB151_152.out
   have hnc29 := NB152_151.out
   have hnb30 := NB151_153.out
   have hnc30 := NB153_151.out
   have hcz31_0 := bc0_ BK151.out
   have hfz31_0 := blk_frozen BK151.out 0
   have hnb32 := NB153_152.out
   have hnc32 := NB152_153.out
   have hcz33_0 := bc0_ BK153.out
   have hfz33_0 := blk_frozen BK153.out 0
   obtain ⟨Ao34, co34, eo34⟩ := Kd.S_slice HO_154000.out
   subst eo34
   have hcz35_0 := bc0_ BK152.out
   have hfz35_0 := blk_frozen BK152.out 0
   go_wp2
   refine bodyPost_ret (results_cell_row rfl _ _ gb152 26 #[.slice Ao34 x154000_1.length co34] (0, 0) _ rfl (by (with_reducible repeat (first | refine blk_drewN ?_ _ | refine blk_drew ?_ | refine blk_alloc ?_ _)); refine blk_put (cs := #[.slice none 0 0]) ?_ 0 _ rfl; exact bk_ BK152.out) Try.underlying26 rfl (by kernel_rfl)) rfl ?_
   exact ⟨_, by first | rfl | (simp [errW_none, errW_some] <;> rfl) | (simp [*, errW_none, errW_some] <;> rfl), by (with_reducible repeat (first | apply Kd.S_alloc | apply Kd.S_drewN | apply Kd.S_drew)); exact Kd.S_mono (Kd.S_far (p := ⟨gb152, 0, none⟩) (Kd.S_types HO_154000.out BK152.out (by decide)) (fun _ hk => hk.2) (.slice Ao34 x154000_1.length co34)) (fun _ hk => trivial), by repeat (first | (with_reducible first | exact HB.out | apply below_alloc | apply pw_below_drewN | apply below_drew1 | refine below_set ?_ GE151.out | refine below_set ?_ GE152.out | refine below_set ?_ GE153.out) | exact HB.out)⟩

   }
end Go.Proofs.Yteajnkondkfmgaa.PFnHeld
