-- Made by a program of this session out of the translation. Lean checks it.
import Derived.Test.YteajnkondkfmgaaPFnPicksx0
namespace Go.Proofs.Yteajnkondkfmgaa.PFnPicks
open Go.RowKit Go.Proofs.YteajnkondkfmgaaW.PrintWords Go.Proofs.YteajnkondkfmgaaW.PrintLast Go.Proofs.YteajnkondkfmgaaW.PrintMore
attribute [local go_sem] max2_int min2_int max_two min_two max_three min_three max_four min_four   -- for this text's walks alone
set_option linter.unusedVariables false
set_option linter.unusedSimpArgs false

/-! ### spec_l5Copy: function 62 -/
def spec_l5Copy.l0 : Nat → Int → List (S79) → List (S79) → Option ((List (S79)))
 | 0, _, _, _ => none
 | k + 1, x4, x198000, x200000 => if x4 < (x198000.length : Int) then (if 0 ≤ x4 then ((some (([] : List (S72)) : List (S72))).bind fun y202 => (if y202.length + ((rd_T79 x198000 x4).f2).length < 5864062014805 then (if x200000.length < 3518437208883 then (spec_l5Copy.l0 k (wrap64 (x4 + 1)) x198000 (x200000 ++ [(⟨(rd_T79 x198000 x4).f0, (rd_T79 x198000 x4).f1, (y202 ++ ((rd_T79 x198000 x4).f2))⟩ : S79)])) else (none)) else (none))) else (none)) else (some x200000)
def spec_l5Copy.f (k : Nat) (l0_0 : List (S79)) : Option ((List (S79))) := spec_l5Copy.l0 k 0 l0_0 ([] : List (S79))
theorem spec_l5Copy.mono_l : ∀ k, (∀ y0 y1 y2, LeO (spec_l5Copy.l0 k y0 y1 y2) (spec_l5Copy.l0 (k + 1) y0 y1 y2))
 | 0 => fun _ _ _ r h => by simp [spec_l5Copy.l0] at h
 | k + 1 => by
  have ih0 := spec_l5Copy.mono_l k
  {
  intro y0 y1 y2
  unfold spec_l5Copy.l0
  exact qL
  }
theorem spec_l5Copy.mono : ∀ a0 k, LeO (spec_l5Copy.f k a0) (spec_l5Copy.f (k + 1) a0) := by
 intro a0 k
 have ih0 := spec_l5Copy.mono_l k
 unfold spec_l5Copy.f
 exact qL
def spec_l5Copy.T6 : Bool × List (List Nat × List Nat) := (true, [([], []), ([0], [0]), ([], []), ([2], [2]), ([], []), ([4], [4]), ([], []), ([], []), ([7], [7]), ([6, 8], [6, 8]), ([3, 5, 9], [3, 5, 9]), ([10], [10]), ([1, 11, 9], [1, 11]), ([0, 1, 2, 3, 4, 5, 6, 7, 8, 9, 10, 11, 12], []), ([13, 12, 12, 0, 1, 2, 3, 4, 5, 6, 7, 8, 9, 10, 11, 12], [12, 13])])
def spec_l5Copy.B6 : List Nat := [0, 1, 0, 4, 0, 16, 0, 0, 128, 448, 1020, 2044, 4095, 8191, 16383]
theorem spec_l5Copy.tab6 : rtab .any (opsOf Try.f62 6) = spec_l5Copy.T6 := by kernel_rfl
theorem spec_l5Copy.bits6 : waitsOk spec_l5Copy.T6.2 spec_l5Copy.B6 = true := by kernel_rfl
set_option maxHeartbeats 8000000 in
set_option maxRecDepth 100000 in
theorem spec_l5Copy.calls (k : Nat) (A0_0 : Option Addr) (c0_0 : Nat) (l0_0 : List (S79)) (r : List (S79)) (w : World) (hr0_0 : Kd.C k79 w A0_0 l0_0.length l0_0) (hc0_0 : l0_0.length ≤ c0_0) (h : spec_l5Copy.f k l0_0 = some r) :
  Calls Try.prog 62 #[.agg #[.slice A0_0 l0_0.length c0_0]] w fun e w' => ∃ v0_ : Value, e = .returned (.agg #[v0_]) ∧ Kd.S k79 79 w' w.heap.size (fun _ => True) v0_ r ∧ Below w.heap.size w w' := by
 have hu26 := Try.underlying26
 have hu79 := Try.underlying79
 have HR0_0 := aM hr0_0
 have HC0_0 := aM hc0_0
 clear hr0_0 hc0_0
 have HB := aM (Below.refl w.heap.size w)
 have H : (spec_l5Copy.l0 k 0 l0_0 ([] : List (S79))) = some r := h
 clear h
 have H' := aM H
 clear H
 go_enter Try.func62, Try.ntmps62
 go_wp2_with (first | ((with_reducible refine gate_dst (N := 1) rfl ?_); refine bx_ 1 #[.slice A0_0 l0_0.length c0_0] 26 ?_; intro gb197 hg w2 hbox hb; have BK197 := aM (hbox); have GW197 := aM (bz_ w hg qz1); have GE197 := GW197; replace HB := bS_ hb; clear hb hbox hg) | ((with_reducible refine gate_dst (N := 2) rfl ?_); refine bx_ 2 #[.slice none 0 0] 26 ?_; intro gb198 hg w3 hbox hb; have BK198 := aM (hbox); have GW198 := aM (bz_ w hg qz1); have GE198 := GW198; replace HB := bS_ hb; obtain ⟨NB197_198, NB198_197⟩ := nb_ hg (bk_ BK197.out); replace BK197 := bB_ BK197 hb; clear hb hbox hg) | ((with_reducible refine gate_dst (N := 3) rfl ?_); refine bx_ 3 #[.slice none 0 0] 26 ?_; intro gb199 hg w4 hbox hb; have BK199 := aM (hbox); have GW199 := aM (bz_ w hg qz1); have GE199 := GW199; replace HB := bS_ hb; obtain ⟨NB197_199, NB199_197⟩ := nb_ hg (bk_ BK197.out); replace BK197 := bB_ BK197 hb; obtain ⟨NB198_199, NB199_198⟩ := nb_ hg (bk_ BK198.out); replace BK198 := bB_ BK198 hb; clear hb hbox hg; have hnb5 := NB199_197.out; have hnc5 := NB197_199.out; have hnb6 := NB199_198.out; have hnc6 := NB198_199.out; obtain ⟨hcz7_0, hfz7_0⟩ := bf_ BK199.out))
 go_loopg [4] k (fun kq v4 w' => ∃ (x4_1 : Int) (x200000_1 : List (S79)) (u200000 : Value), v4 = .int .i64 x4_1 ∧ Aside0 (spec_l5Copy.l0 kq x4_1 l0_0 x200000_1 = some r) ∧ Aside0 (kq ≤ k) ∧ Aside0 (Kd.S k79 79 w' w.heap.size (fun _ => True) u200000 x200000_1) ∧ Aside0 (w'.heap[gb197]? = some (.cells #[(.slice A0_0 l0_0.length c0_0)] 26 (0, 0))) ∧ Aside0 (w'.heap[gb198]? = some (.cells #[(.slice none 0 0)] 26 (0, 0))) ∧ Aside0 (w'.heap[gb199]? = some (.cells #[u200000] 26 (0, 0))) ∧ Aside0 (Below w.heap.size w w'))
 case atStart => exact ⟨(0), (([] : List (S79))), (.slice none 0 0), qz5, H', ⟨Nat.le_refl _⟩, ⟨by first | exact Kd.S_nil _ _ _ _ _ | exact Kd.N_nil _ _ _ _ _ | exact Kd.V_nil _ _ _ _ _ | exact Kd.Q_nil _ _ _ _ _ | exact Kd.R_nil _ _ _ _ _⟩, ⟨by (with_reducible repeat (first | refine blk_drewN ?_ _ | refine blk_drew ?_ | refine blk_alloc ?_ _)); refine blk_far ?_ NB197_199.out _; exact bk_ BK197.out⟩, ⟨by (with_reducible repeat (first | refine blk_drewN ?_ _ | refine blk_drew ?_ | refine blk_alloc ?_ _)); refine blk_far ?_ NB198_199.out _; exact bk_ BK198.out⟩, ⟨by (with_reducible repeat (first | refine blk_drewN ?_ _ | refine blk_drew ?_ | refine blk_alloc ?_ _)); refine blk_put (cs := #[.slice none 0 0]) ?_ 0 _ rfl; exact bk_ BK199.out⟩, ⟨qz1⟩⟩
 case round =>
  clear H'
  try clear p2
  try clear c5
  try clear c6
  try clear hcz7_0
  try clear hfz7_0
  obtain ⟨x4_1, x200000_1, u200000, rfl, HA, HK1, HO_200000, BK197, BK198, BK199, HB⟩ := hrel
  cases gk with
  | zero => exact absurd HA.out (by simp [spec_l5Copy.l0])
  | succ k1 =>
   have H := HA.out
   clear HA
   simp only [spec_l5Copy.l0] at H
   by_cases c8 : x4_1 < (l0_0.length : Int)
   {
   rw [if_pos c8] at H
   have c8b0 := decide_eq_true c8
   clear c8
   by_cases c9 : 0 ≤ x4_1
   {
   rw [if_pos c9] at H
   have c9b0 := decide_eq_true c9
   clear c9
   obtain ⟨y202, hy202⟩ : ∃ y_ : List (S72), y_ = (([] : List (S72))) := ⟨_, rfl⟩
   replace H : (if y202.length + ((rd_T79 l0_0 x4_1).f2).length < 5864062014805 then (if x200000_1.length < 3518437208883 then (spec_l5Copy.l0 k1 (wrap64 (x4_1 + 1)) l0_0 (x200000_1 ++ [(⟨(rd_T79 l0_0 x4_1).f0, (rd_T79 l0_0 x4_1).f1, (y202 ++ ((rd_T79 l0_0 x4_1).f2))⟩ : S79)])) else (none)) else (none)) = some r := by first | (rw [hy202]; with_reducible exact H) | (have H2_ := (Option.bind_some _ _).symm.trans H; rw [hy202]; with_reducible exact H2_) | (have H2_ := (Option.bind_some _ _).symm.trans H; with_reducible exact H2_) | with_reducible exact H | (rw [hy202]; exact H) | exact H
   have Ny202 := aM hy202
   clear hy202
   by_cases c10 : y202.length + ((rd_T79 l0_0 x4_1).f2).length < 5864062014805
   {
   rw [if_pos c10] at H
   have LMc10 := aM c10
   clear c10
   obtain ⟨y205, hy205⟩ : ∃ y_ : List (S72), y_ = (y202 ++ ((rd_T79 l0_0 x4_1).f2)) := ⟨_, rfl⟩
   replace H : (if x200000_1.length < 3518437208883 then (spec_l5Copy.l0 k1 (wrap64 (x4_1 + 1)) l0_0 (x200000_1 ++ [(⟨(rd_T79 l0_0 x4_1).f0, (rd_T79 l0_0 x4_1).f1, y205⟩ : S79)])) else (none)) = some r := by first | (rw [hy205]; with_reducible exact H) | (have H2_ := (Option.bind_some _ _).symm.trans H; rw [hy205]; with_reducible exact H2_) | (have H2_ := (Option.bind_some _ _).symm.trans H; with_reducible exact H2_) | with_reducible exact H | (rw [hy205]; exact H) | exact H
   have Ny205 := aM hy205
   clear hy205
   by_cases c11 : x200000_1.length < 3518437208883
   {
   rw [if_pos c11] at H
   have LMc11 := aM c11
   clear c11
   obtain ⟨y208, hy208⟩ : ∃ y_ : List (S79), y_ = (x200000_1 ++ [(⟨(rd_T79 l0_0 x4_1).f0, (rd_T79 l0_0 x4_1).f1, y205⟩ : S79)]) := ⟨_, rfl⟩
   replace H : (spec_l5Copy.l0 k1 (wrap64 (x4_1 + 1)) l0_0 y208) = some r := by first | (rw [hy208]; with_reducible exact H) | (have H2_ := (Option.bind_some _ _).symm.trans H; rw [hy208]; with_reducible exact H2_) | (have H2_ := (Option.bind_some _ _).symm.trans H; with_reducible exact H2_) | with_reducible exact H | (rw [hy208]; exact H) | exact H
   have Ny208 := aM hy208
   clear hy208
   have H' := aM H
   clear H
   have hnb12 := NB197_198.out
   have hnc12 := NB198_197.out
   have hnb13 := NB197_199.out
   have hnc13 := NB199_197.out
   obtain ⟨hcz14_0, hfz14_0⟩ := bf_ BK197.out
   have p200 : 0 ≤ (x4_1 : Int) := dt_
   have q200 : x4_1 < (l0_0.length : Int) := dt_
   obtain ⟨ad200, A200_2, c200_2, e200, hx200_0, hx200_1, hx200_2, hl200_2, hi200_2⟩ := at_T79 HR0_0.out x4_1 p200 q200
   cases e200
   replace hx200_0 := cB_ hx200_0
   replace hx200_1 := cB_ hx200_1
   replace hx200_2 := cB_ hx200_2
   have HR200_2 := aM hi200_2
   have HC200_2 := aM hl200_2
   clear hi200_2 hl200_2
   replace p200 := eq_true p200
   replace q200 := eq_true q200
   try go_wp2_with (first | ((with_reducible refine gate_dst (N := 5) rfl ?_); refine bx_ 5 #[.int .i64 0, .int .i64 0, .slice none 0 0] 79 ?_; intro gb201 hg w15 hbox hb; replace HO_200000 := aM (Kd.S_below (Kd.S_elderB (rs_ HO_200000.out) gb201 (Nat.le_of_eq hg.symm)) hb); have BK201 := aM (hbox); have GW201 := aM (bz_ w hg qz1); have GE201 := GW201; replace HB := bS_ hb; obtain ⟨NB197_201, NB201_197⟩ := nb_ hg (bk_ BK197.out); replace BK197 := bB_ BK197 hb; obtain ⟨NB198_201, NB201_198⟩ := nb_ hg (bk_ BK198.out); replace BK198 := bB_ BK198 hb; obtain ⟨NB199_201, NB201_199⟩ := nb_ hg (bk_ BK199.out); replace BK199 := bB_ BK199 hb; clear hb hbox hg; have hnb16 := NB201_197.out; have hnc16 := NB197_201.out; have hnb17 := NB201_198.out; have hnc17 := NB198_201.out; have hnb18 := NB201_199.out; have hnc18 := NB199_201.out; obtain ⟨hcz19_0, hcz19_1, hcz19_2, hfz19_0, hfz19_1, hfz19_2⟩ := b6_ BK201.out))
   generalize hq_ : (((w15.setCell ⟨gb201, 0, none⟩ (.int .i64 ((rd_T79 l0_0 x4_1).f0))).setCell ⟨gb201, 1, none⟩ (.int .i64 ((rd_T79 l0_0 x4_1).f1))).setCell ⟨gb201, 2, none⟩ (.slice A200_2 ((rd_T79 l0_0 x4_1).f2).length c200_2)) = w20
   replace HO_200000 : Aside0 (Kd.S k79 79 w20 w.heap.size (fun k_ => k_ ≠ gb201) u200000 x200000_1) := ⟨by rw [← hq_]; exact (by (with_reducible repeat (first | apply Kd.S_alloc | apply Kd.S_drewN | apply Kd.S_drew)); exact Kd.S_mono (Kd.S_far (p := ⟨gb201, 2, none⟩) (Kd.S_far (p := ⟨gb201, 1, none⟩) (Kd.S_far (p := ⟨gb201, 0, none⟩) (Kd.S_mono HO_200000.out (fun k_ hk => (⟨hk, hk.2⟩ : _ ∧ k_ ≠ gb201))) (fun _ hk => hk.2) (.int .i64 ((rd_T79 l0_0 x4_1).f0))) (fun _ hk => hk.2) (.int .i64 ((rd_T79 l0_0 x4_1).f1))) (fun _ hk => hk.2) (.slice A200_2 ((rd_T79 l0_0 x4_1).f2).length c200_2)) (fun _ hk => hk.1.2))⟩
   replace BK197 : Aside0 (w20.heap[gb197]? = some (.cells #[.slice (some ad200) l0_0.length c0_0] 26 (0, 0))) := ⟨by rw [← hq_]; exact (bk2_ BK197.out)⟩
   replace BK198 : Aside0 (w20.heap[gb198]? = some (.cells #[.slice none 0 0] 26 (0, 0))) := ⟨by rw [← hq_]; exact (bk2_ BK198.out)⟩
   replace BK199 : Aside0 (w20.heap[gb199]? = some (.cells #[u200000] 26 (0, 0))) := ⟨by rw [← hq_]; exact (bk2_ BK199.out)⟩
   replace BK201 : Aside0 (w20.heap[gb201]? = some (.cells #[.int .i64 ((rd_T79 l0_0 x4_1).f0), .int .i64 ((rd_T79 l0_0 x4_1).f1), .slice A200_2 ((rd_T79 l0_0 x4_1).f2).length c200_2] 79 (0, 0))) := ⟨by rw [← hq_]; exact (by (with_reducible repeat (first | refine blk_drewN ?_ _ | refine blk_drew ?_ | refine blk_alloc ?_ _)); refine blk_put (cs := #[.int .i64 ((rd_T79 l0_0 x4_1).f0), .int .i64 ((rd_T79 l0_0 x4_1).f1), .slice none 0 0]) ?_ 2 _ rfl; (with_reducible repeat (first | refine blk_drewN ?_ _ | refine blk_drew ?_ | refine blk_alloc ?_ _)); refine blk_put (cs := #[.int .i64 ((rd_T79 l0_0 x4_1).f0), .int .i64 0, .slice none 0 0]) ?_ 1 _ rfl; (with_reducible repeat (first | refine blk_drewN ?_ _ | refine blk_drew ?_ | refine blk_alloc ?_ _)); refine blk_put (cs := #[.int .i64 0, .int .i64 0, .slice none 0 0]) ?_ 0 _ rfl; exact bk_ BK201.out)⟩
   replace HB : Aside0 (Below w.heap.size w w20) := ⟨by rw [← hq_]; exact qz1⟩
   clear hq_
   replace HO_200000 := aM (Kd.S_drew HO_200000.out)
   replace BK197 := aM (blk_drew BK197.out)
   replace BK198 := aM (blk_drew BK198.out)
   replace BK199 := aM (blk_drew BK199.out)
   replace BK201 := aM (blk_drew BK201.out)
   replace HB := aM (below_drew1 HB.out)
   refine start_ (n := 15) (S := fun w' => w'.cell? ⟨gb199, 0, none⟩ = some (u200000) ∧ w'.cell? ⟨gb201, 0, none⟩ = some (.int .i64 ((rd_T79 l0_0 x4_1).f0)) ∧ w'.cell? ⟨gb201, 1, none⟩ = some (.int .i64 ((rd_T79 l0_0 x4_1).f1)) ∧ w'.cell? ⟨gb201, 2, none⟩ = some (.slice A200_2 ((rd_T79 l0_0 x4_1).f2).length c200_2)) (ds := [14]) #[false, false, false, false, false, false, false, false, false, false, false, false, false, false, false] (by kernel_rfl) rfl rfl ⟨(blk_cell BK199.out 0).trans rfl, (blk_cell BK201.out 0).trans rfl, (blk_cell BK201.out 1).trans rfl, (blk_cell BK201.out 2).trans rfl⟩ (fun hHeld => ?_); refine with_tabW spec_l5Copy.tab6 spec_l5Copy.bits6 (fun HT_ HW_ => ?_)
   generalize w20.drew = w21 at HO_200000 BK197 BK198 BK199 BK201 HB hHeld ⊢
   refine pI_ 0 19 (bqz 15 1) ?_
   refine jI_ 2 21 ?_
   refine jI_ 4 23 ?_
   refine jI_ 7 26 ?_
   refine sI4_ 1 20 ?_
   refine sI4_ 3 22 ?_
   refine sI4_ 5 24 ?_
   refine sI4_ 8 27 ?_
   refine one_ (i := 6) (N := some 25) (bqz 15 511) rfl rfl qzc (by decide) (fun K hK => ?_)
   refine Kd.R_lit_step k72 _ 72 ?hg (N := 25) ?hd (xs := ([] : List (S72))) (inner := []) (ok := fun _ => True) (okp := fun _ => True) ?hr ?hp (fun _ hk => hk) trivial (Below.refl _ _) (Nat.le_refl _) (by simp) ?_; (case hd => rfl); (case hg => rfl); (case hr => exact qz27); (case hp => exact (Reps.none _ _))
   intro v203 w22 ho23 hb hg_ hnew_
   clear hg_ hnew_
   (first | rw [← Ny202.out] at ho23 | (simp only [Int.reduceToNat] at ho23; rw [← Ny202.out] at ho23))
   replace HO_200000 := aM (Kd.S_elder' (rs_ HO_200000.out) (Kd.R_base ho23) hb)
   have HO204 := aM (Kd.R_lower ho23 (below_size qz1))
   replace BK197 := bB_ BK197 hb
   replace BK198 := bB_ BK198 hb
   replace BK199 := bB_ BK199 hb
   replace BK201 := bB_ BK201 hb
   replace HB := bS_ hb
   clear hb ho23
   refine hK.out _ _ ⟨(blk_cell BK199.out 0).trans rfl, (blk_cell BK201.out 0).trans rfl, (blk_cell BK201.out 1).trans rfl, (blk_cell BK201.out 2).trans rfl⟩ (fun hHeld => ?_)
   clear hK K
   refine nm_ 25 ?_
   refine one_ (i := 9) (N := some 28) (bqz 15 1023) rfl rfl qzc (by decide) (fun K hK => ?_)
   refine Kd.R_append_rows_step k72 (w0 := w) w.heap.size (by rfl) (.tmp 25) (.tmp 27) 77 72 (.agg #[(.int .i64 0), (.int .i64 0), (.int .i64 0)]) 24 rfl Try.underlying77 info72 rfl (by decide) (by omega) v203 y202 ((rd_T79 l0_0 x4_1).f2) _ _ _ (fun _ => True) (fun _ => False) rfl rfl ?aO ?aR (fun _ _ h => h) (fun _ h => h.elim) ?aF ?aB ?aS ?aL ?_
   (case aR => repeat (first | exact (Kd.C_below HR200_2.out HB.out) | (with_reducible refine Kd.C_alloc ?_ _) | (with_reducible refine Kd.C_drewN ?_ _) | (with_reducible refine Kd.C_drew ?_)))
   (case aB => exact qz1)
   (case aF => exact (fun _ _ => trivial))
   (case aO => exact (rr_ HO204.out))
   (case aS => exact (below_size qz1))
   (case aL => have := LMc10.out; omega)
   intro v206 w24 ho hb hg hat
   rw [← Ny205.out] at ho
   replace HO_200000 := aM (Kd.S_after (ok := (fun k_ => k_ ≠ gb201)) (rs_ HO_200000.out) hg hat)
   replace BK197 := aM (blk_grown (bk_ BK197.out) hg (Kd.R_ne HO204.out BK197.out (by decide)))
   replace BK198 := aM (blk_grown (bk_ BK198.out) hg (Kd.R_ne HO204.out BK198.out (by decide)))
   replace BK199 := aM (blk_grown (bk_ BK199.out) hg (Kd.R_ne HO204.out BK199.out (by decide)))
   replace BK201 := aM (blk_grown (bk_ BK201.out) hg (Kd.R_ne HO204.out BK201.out (by decide)))
   replace HB := aM (hb)
   have HO207 := aM (ho)
   clear HO204 ho hb hg hat
   obtain ⟨Ao25, co25, eo25⟩ := Kd.R_slice HO207.out
   (first | subst eo25 | (injection eo25 with f1_ f2_ f3_; have f4_ := f1_.symm; have f5_ := f3_.symm; clear f1_ f2_ f3_; subst f4_; subst f5_))
   refine hK.out _ _ ⟨(blk_cell BK199.out 0).trans rfl, (blk_cell BK201.out 0).trans rfl, (blk_cell BK201.out 1).trans rfl, (blk_cell BK201.out 2).trans rfl⟩ (fun hHeld => ?_)
   clear hK K
   refine nm_ 28 ?_
   refine pI_ 10 29 (bqz 15 2047) ?_
   refine one_ (i := 11) (N := some 30) (bqz 15 4095) rfl rfl qzc (by decide) (fun K hK => ?_)
   refine value_ (w1 := ?_) (v := ?_) (by rfl) rfl ?_ ?_
   rotate_left 2
   {
   go_simp
   constructor
   {
   rfl
   }
   {
   rfl
   }
   }
   refine hK.out _ _ ⟨(blk_cell (blk_alloc BK199.out _) 0).trans rfl, (blk_cell (blk_alloc BK201.out _) 0).trans rfl, (blk_cell (blk_alloc BK201.out _) 1).trans rfl, (blk_cell (blk_alloc BK201.out _) 2).trans rfl⟩ (fun hHeld => ?_)
   clear hK K
   refine nm_ 30 ?_
   refine one_ (i := 12) (N := some 31) (bqz 15 8191) rfl rfl qzc (by decide) (fun K hK => ?_)
   refine Kd.S_append_step k79 (w0 := w) w.heap.size (by rfl) (.tmp 20) (.tmp 30) 24 79 (.agg #[(.int .i64 0), (.int .i64 0), (.slice none 0 0)]) 40 rfl Try.underlying24 info79 rfl (by decide) (by omega) u200000 x200000_1 (⟨(rd_T79 l0_0 x4_1).f0, (rd_T79 l0_0 x4_1).f1, y205⟩ : S79) [.int .i64 ((rd_T79 l0_0 x4_1).f0), .int .i64 ((rd_T79 l0_0 x4_1).f1), .slice Ao25 y205.length co25] (fun k_ => k_ ≠ gb201) (fun k_ => some k_ = (.slice Ao25 y205.length co25 : Value).ownBlock) rfl rfl ?aP (fun k_ hk_ => ((Kd.R_mono (ok' := fun k_ => ((fun k_ => k_ ≠ gb201)) k_ ∧ some k_ ≠ (u200000 : Value).ownBlock) (Kd.R_types (Kd.R_apart' (HO207.out) (Kd.S_typed HO_200000.out) (by decide)) BK201.out (by decide)) (fun k_ hk => ⟨hk.2, hk.1.2⟩))).1 k_ hk_.symm) ?aF ?aO ?aB ?aS ?aL ?_
   (case aP => exact k79_mkM _ _ _ (⟨(rd_T79 l0_0 x4_1).f0, (rd_T79 l0_0 x4_1).f1, y205⟩ : S79) (Kd.R_mono (Kd.R_tight rfl (Kd.R_mono (ok' := fun k_ => ((fun k_ => k_ ≠ gb201)) k_ ∧ some k_ ≠ (u200000 : Value).ownBlock) (Kd.R_types (Kd.R_apart' (HO207.out) (Kd.S_typed HO_200000.out) (by decide)) BK201.out (by decide)) (fun k_ hk => ⟨hk.2, hk.1.2⟩))) (fun _ h_ => h_)))
   (case aB => exact qz1)
   (case aF => exact (fun k_ hk => Kd.freshB (bk_ BK201.out) k_ hk))
   (case aO => exact (by (with_reducible repeat (first | apply Kd.S_alloc | apply Kd.S_drewN | apply Kd.S_drew)); exact Kd.S_mono HO_200000.out (fun k_ hk => ⟨hk.1, fun e_ => hk.2 e_⟩)))
   (case aS => exact (below_size qz1))
   (case aL => have := LMc11.out; omega)
   intro v209 w26 ho hb hg hat
   rw [← Ny208.out] at ho
   replace BK197 := aM (blk_grown (bk_ BK197.out) hg (Kd.S_ne HO_200000.out BK197.out (by decide)))
   replace BK198 := aM (blk_grown (bk_ BK198.out) hg (Kd.S_ne HO_200000.out BK198.out (by decide)))
   replace BK199 := aM (blk_grown (bk_ BK199.out) hg (Kd.S_ne HO_200000.out BK199.out (by decide)))
   replace BK201 := aM (blk_grown (bk_ BK201.out) hg (Kd.S_away HO_200000.out (fun _ hk => hk.1)))
   replace HB := aM (hb)
   have HO210 := aM (ho)
   clear HO_200000 HO207 ho hb hg hat
   obtain ⟨Ao27, co27, eo27⟩ := Kd.S_slice HO210.out
   (first | subst eo27 | (injection eo27 with f1_ f2_ f3_; have f4_ := f1_.symm; have f5_ := f3_.symm; clear f1_ f2_ f3_; subst f4_; subst f5_))
   refine hK.out _ _ ⟨(blk_cell BK199.out 0).trans rfl, (blk_cell BK201.out 0).trans rfl, (blk_cell BK201.out 1).trans rfl, (blk_cell BK201.out 2).trans rfl⟩ (fun hHeld => ?_)
   clear hK K
   refine nm_ 31 ?_
   refine pI_ 13 32 (bqz 15 16383) ?_
   refine last_ (i := 14) (N := none) (bqz 15 32767) rfl rfl qzc (by decide) (fun K hK => ?_)
   have hs28 : w26.cell? ⟨gb199, 0, none⟩ = some (u200000) := (blk_cell BK199.out 0).trans rfl
   have hfs28 := blk_frozen BK199.out 0
   have hns28_0 := NB197_199.out
   have hns28_1 := NB198_199.out
   have hns28_3 := NB201_199.out
   have hms28_0 := NB199_197.out
   have hms28_1 := NB199_198.out
   have hms28_3 := NB199_201.out
   refine sk_ ?_
   refine hK.out _ _ ?_
   clear hK K
   refine done_ (done_of HT_.out (by kernel_rfl)) ?_
   try go_wp2
   go_roundg k1
   case measure => have := HK1.out; omega
   case rel => exact ⟨(wrap64 (x4_1 + 1)), (y208), (.slice Ao27 y208.length co27), qz5, H', ⟨by have := HK1.out; omega⟩, ⟨by (with_reducible repeat (first | apply Kd.S_alloc | apply Kd.S_drewN | apply Kd.S_drew)); exact Kd.S_mono (Kd.S_far (p := ⟨gb199, 0, none⟩) (Kd.S_types HO210.out BK199.out (by decide)) (fun _ hk => hk.2) (.slice Ao27 y208.length co27)) (fun _ hk => trivial)⟩, ⟨by (with_reducible repeat (first | refine blk_drewN ?_ _ | refine blk_drew ?_ | refine blk_alloc ?_ _)); refine blk_far ?_ NB197_199.out _; exact bk_ BK197.out⟩, ⟨by (with_reducible repeat (first | refine blk_drewN ?_ _ | refine blk_drew ?_ | refine blk_alloc ?_ _)); refine blk_far ?_ NB198_199.out _; exact bk_ BK198.out⟩, ⟨by (with_reducible repeat (first | refine blk_drewN ?_ _ | refine blk_drew ?_ | refine blk_alloc ?_ _)); refine blk_put (cs := #[u200000]) ?_ 0 _ rfl; exact bk_ BK199.out⟩, ⟨qz1⟩⟩
   }
   {
   exact an_ c11 H
   }
   }
   {
   exact an_ c10 H
   }
   }
   {
   exact an_ c9 H
   }
   }
   {
   rw [if_neg c8] at H
   have c8b0 := decide_eq_false c8
   clear c8
   obtain rfl := Option.some.inj H
   simp only [Option.some.injEq, Prod.mk.injEq] at H
   obtain ⟨rfl⟩ := H
   have hnb29 := NB197_198.out
   have hnc29 := NB198_197.out
   have hnb30 := NB197_199.out
   have hnc30 := NB199_197.out
   obtain ⟨hcz31_0, hfz31_0⟩ := bf_ BK197.out
   have hnb32 := NB199_198.out
   have hnc32 := NB198_199.out
   obtain ⟨hcz33_0, hfz33_0⟩ := bf_ BK199.out
   obtain ⟨Ao34, co34, eo34⟩ := Kd.S_slice HO_200000.out
   subst eo34
   obtain ⟨hcz35_0, hfz35_0⟩ := bf_ BK198.out
   go_wp2
   refine bodyPost_ret (results_cell_row rfl _ _ gb198 26 #[.slice Ao34 x200000_1.length co34] (0, 0) _ rfl (by (with_reducible repeat (first | refine blk_drewN ?_ _ | refine blk_drew ?_ | refine blk_alloc ?_ _)); refine blk_put (cs := #[.slice none 0 0]) ?_ 0 _ rfl; exact bk_ BK198.out) Try.underlying26 rfl (by kernel_rfl)) rfl ?_
   exact ⟨_, qzw, by (with_reducible repeat (first | apply Kd.S_alloc | apply Kd.S_drewN | apply Kd.S_drew)); exact Kd.S_mono (Kd.S_far (p := ⟨gb198, 0, none⟩) (Kd.S_types HO_200000.out BK198.out (by decide)) (fun _ hk => hk.2) (.slice Ao34 x200000_1.length co34)) (fun _ hk => trivial), qz1⟩

   }
end Go.Proofs.Yteajnkondkfmgaa.PFnPicks
