-- Made by a program of this session out of the translation. Lean checks it.
import Derived.Test.YteajnkondkfmgaaPFnExactPicksx0
import Derived.Test.YteajnkondkfmgaaPFnExactPicksx13
namespace Go.Proofs.Yteajnkondkfmgaa.PFnExactPicks
open Go.RowKit Go.Proofs.YteajnkondkfmgaaW.PrintWords Go.Proofs.YteajnkondkfmgaaW.PrintLast Go.Proofs.YteajnkondkfmgaaW.PrintMore
attribute [local go_sem] max2_int min2_int max_two min_two max_three min_three max_four min_four   -- for this text's walks alone
set_option linter.unusedVariables false
set_option linter.unusedSimpArgs false

/-! ### spec_l6Could: function 89 -/
def spec_l6Could.l0 : Nat → List (S48) → List (S50) → Int → Int → Int → Int → List (S72) → Option ((List (S50)) × Int)
 | 0, _, _, _, _, _, _, _ => none
 | k + 1, x1, x6, x7, x8, x292000, x292001, x292002 => if x8 < (x1.length : Int) then (if 0 ≤ x8 then ((spec_l5Stack.f k x292000 x292001 x292002 ((rd_T48 x1 x8).f0)).bind fun bt296 => (if ((rd_T48 x1 x8).f1) < (wrap64 (bt296.2.1 - bt296.2.2)) then (if ((rd_T48 x1 x8).f1) > 0 then (if x6.length < 5864062014805 then (spec_l6Could.l0 k x1 (x6 ++ [(⟨x292000, (rd_T48 x1 x8).f0, (rd_T48 x1 x8).f1⟩ : S50)]) (wrap64 (x7 + ((rd_T48 x1 x8).f1))) (wrap64 (x8 + 1)) x292000 x292001 x292002) else (none)) else (spec_l6Could.l0 k x1 x6 x7 (wrap64 (x8 + 1)) x292000 x292001 x292002)) else (if (wrap64 (bt296.2.1 - bt296.2.2)) > 0 then (if x6.length < 5864062014805 then (spec_l6Could.l0 k x1 (x6 ++ [(⟨x292000, (rd_T48 x1 x8).f0, wrap64 (bt296.2.1 - bt296.2.2)⟩ : S50)]) (wrap64 (x7 + (wrap64 (bt296.2.1 - bt296.2.2)))) (wrap64 (x8 + 1)) x292000 x292001 x292002) else (none)) else (spec_l6Could.l0 k x1 x6 x7 (wrap64 (x8 + 1)) x292000 x292001 x292002)))) else (none)) else (some (x6, x7))
def spec_l6Could.f (k : Nat) (a0_0 : Int) (a0_1 : Int) (l0_2 : List (S72)) (l1 : List (S48)) : Option ((List (S50)) × Int) := spec_l6Could.l0 k l1 (([] : List (S50))) 0 0 a0_0 a0_1 l0_2
theorem spec_l6Could.mono_l : ∀ k, (∀ y0 y1 y2 y3 y4 y5 y6, LeO (spec_l6Could.l0 k y0 y1 y2 y3 y4 y5 y6) (spec_l6Could.l0 (k + 1) y0 y1 y2 y3 y4 y5 y6))
 | 0 => fun _ _ _ _ _ _ _ r h => by simp [spec_l6Could.l0] at h
 | k + 1 => by
  have ih0 := spec_l6Could.mono_l k
  {
  intro y0 y1 y2 y3 y4 y5 y6
  unfold spec_l6Could.l0
  repeat' first
  | (with_reducible first | exact ih0 _ _ _ _ _ _ _ | exact spec_l5Stack.mono _ _ _ _ _ | exact LeO.refl _ | exact LeO.none _ | refine LeO.ite ?_ ?_ | refine LeO.bind ?_ (fun _ => ?_))
  | exact ih0 _ _ _ _ _ _ _
  | exact spec_l5Stack.mono _ _ _ _ _
  | exact LeO.none _
  | refine LeO.ite ?_ ?_
  | refine LeO.bind ?_ (fun _ => ?_)
  }
theorem spec_l6Could.mono : ∀ a0 a1 a2 a3 k, LeO (spec_l6Could.f k a0 a1 a2 a3) (spec_l6Could.f (k + 1) a0 a1 a2 a3) := by
 intro a0 a1 a2 a3 k
 have ih0 := spec_l6Could.mono_l k
 unfold spec_l6Could.f
 repeat' first
  | (with_reducible first | exact ih0 _ _ _ _ _ _ _ | exact spec_l5Stack.mono _ _ _ _ _ | exact LeO.refl _ | exact LeO.none _ | refine LeO.ite ?_ ?_ | refine LeO.bind ?_ (fun _ => ?_))
  | exact ih0 _ _ _ _ _ _ _
  | exact spec_l5Stack.mono _ _ _ _ _
  | exact LeO.none _
  | refine LeO.ite ?_ ?_
  | refine LeO.bind ?_ (fun _ => ?_)
def spec_l6Could.T6 : Bool × List (List Nat × List Nat) := (true, [([], []), ([], []), ([], []), ([1, 2], [1, 2]), ([3], [3]), ([4], [4]), ([0, 5], [0, 5]), ([], []), ([7, 6, 6, 0, 1, 2, 3, 4, 5, 6, 7], [6, 7])])
def spec_l6Could.B6 : List Nat := [0, 0, 0, 6, 14, 30, 63, 0, 255]
theorem spec_l6Could.tab6 : rtab .any (opsOf Try.f89 6) = spec_l6Could.T6 := by kernel_rfl
theorem spec_l6Could.bits6 : waitsOk spec_l6Could.T6.2 spec_l6Could.B6 = true := by kernel_rfl
def spec_l6Could.T11 : Bool × List (List Nat × List Nat) := (true, [([], []), ([], []), ([1], [1]), ([], []), ([], []), ([3, 4], [3, 4]), ([5], [5]), ([6], [6]), ([], []), ([2, 7, 8], [2, 7, 8]), ([9], [9]), ([0, 10], [0, 10]), ([11, 11, 0, 1, 2, 3, 4, 5, 6, 7, 8, 9, 10, 11], [0, 11])])
def spec_l6Could.B11 : List Nat := [0, 0, 2, 0, 0, 24, 56, 120, 0, 510, 1022, 2047, 4095]
theorem spec_l6Could.tab11 : rtab .any (opsOf Try.f89 11) = spec_l6Could.T11 := by kernel_rfl
theorem spec_l6Could.bits11 : waitsOk spec_l6Could.T11.2 spec_l6Could.B11 = true := by kernel_rfl
set_option maxHeartbeats 8000000 in
set_option maxRecDepth 100000 in
theorem spec_l6Could.calls (k : Nat) (a0_0 : Int) (a0_1 : Int) (A0_2 : Option Addr) (c0_2 : Nat) (l0_2 : List (S72)) (A1 : Option Addr) (c1 : Nat) (l1 : List (S48)) (r1 : List (S50)) (r2 : Int) (w : World) (hr0_2 : Kd.C k72 w A0_2 l0_2.length l0_2) (hc0_2 : l0_2.length ≤ c0_2) (hr1 : Kd.C k48 w A1 l1.length l1) (hc1 : l1.length ≤ c1) (h : spec_l6Could.f k a0_0 a0_1 l0_2 l1 = some (r1, r2)) :
  Calls Try.prog 89 #[.agg #[.int .i64 a0_0, .int .i64 a0_1, .slice A0_2 l0_2.length c0_2], .slice A1 l1.length c1] w fun e w' => ∃ v0_ : Value, e = .returned (.tuple #[v0_, .int .i64 r2]) ∧ Kd.R k50 50 w' w.heap.size (fun _ => True) v0_ r1 ∧ Below w.heap.size w w' := by
 have hu79 := Try.underlying79
 have hu72 := Try.underlying72
 have hu50 := Try.underlying50
 have HR0_2 := aM hr0_2
 have HC0_2 := aM hc0_2
 clear hr0_2 hc0_2
 have HR1 := aM hr1
 have HC1 := aM hc1
 clear hr1 hc1
 have HB := aM (Below.refl w.heap.size w)
 have H : (spec_l6Could.l0 k l1 (([] : List (S50))) 0 0 a0_0 a0_1 l0_2) = some (r1, r2) := h
 clear h
 obtain ⟨y292, hy292⟩ : ∃ y_ : List (S50), y_ = (([] : List (S50))) := ⟨_, rfl⟩
 replace H : (spec_l6Could.l0 k l1 y292 0 0 a0_0 a0_1 l0_2) = some (r1, r2) := by first | (rw [hy292]; with_reducible exact H) | (have H2_ := (Option.bind_some _ _).symm.trans H; rw [hy292]; with_reducible exact H2_) | (have H2_ := (Option.bind_some _ _).symm.trans H; with_reducible exact H2_) | with_reducible exact H | (rw [hy292]; exact H) | exact H
 have Ny292 := aM hy292
 clear hy292
 have H' := aM H
 clear H
 go_enter Try.func89, Try.ntmps89
 go_wp2_with (first | ((with_reducible refine gate_dst (N := 2) rfl ?_); refine bx_ 2 #[.int .i64 a0_0, .int .i64 a0_1, .slice A0_2 l0_2.length c0_2] 79 ?_; intro gb291 hg w3 hbox hb; have n0_ := aM (below_step qz1 hb); have n1_ := aM (hbox); have n2_ := aM ((by rw [hg]; exact (below_size qz1) : w.heap.size ≤ gb291)); have n3_ := aM ((by rw [hg]; exact (below_size qz1) : w.heap.size ≤ gb291)); clear HB; have HB := n0_; have BK291 := n1_; have GW291 := n2_; have GE291 := n3_; clear n0_ n1_ n2_ n3_; clear hb hbox hg) | ((with_reducible refine gate_dst (N := 11) rfl ?_); refine Kd.R_lit k50 _ 50 ?hg (N := 11) ?hd (xs := ([] : List (S50))) (inner := []) (ok := fun _ => True) (okp := fun _ => True) ?hr ?hp (fun _ hk => hk) trivial (Below.refl _ _) (Nat.le_refl _) (by simp) ?_; (case hd => rfl); (case hg => rfl); (case hr => exact qz37); (case hp => exact (Reps.none _ _)); intro v293 w4 ho5 hb hg_ hnew_; clear hg_ hnew_; (first | rw [← Ny292.out] at ho5 | (simp only [Int.reduceToNat] at ho5; rw [← Ny292.out] at ho5)); have n0_ := aM (Kd.R_lower ho5 (below_size qz5)); have n1_ := aM (blk_below (bk_ BK291.out) hb); have n2_ := aM (below_step qz5 hb); clear BK291 HB; have HO294 := n0_; have BK291 := n1_; have HB := n2_; clear n0_ n1_ n2_; clear hb ho5))
 go_loopg [6, 7, 8] k (fun kq v6 v7 v8 w' => ∃ (x6_1 : List (S50)) (x7_1 : Int) (x8_1 : Int), v7 = .int .i64 x7_1 ∧ v8 = .int .i64 x8_1 ∧ Aside0 (spec_l6Could.l0 kq l1 x6_1 x7_1 x8_1 a0_0 a0_1 l0_2 = some (r1, r2)) ∧ Aside0 (kq ≤ k) ∧ Aside0 (Kd.R k50 50 w' w.heap.size (fun _ => True) v6 x6_1) ∧ Aside0 (w'.heap[gb291]? = some (.cells #[.int .i64 a0_0, .int .i64 a0_1, (.slice A0_2 l0_2.length c0_2)] 79 (0, 0))) ∧ Aside0 (Below w.heap.size w w'))
 case atStart => exact ⟨(y292), (0), (0), qz4, qz4, H', ⟨Nat.le_refl _⟩, ⟨rr_ HO294.out⟩, ⟨bk_ BK291.out⟩, ⟨by repeat (first | (with_reducible first | exact HB.out | apply below_alloc | apply pw_below_drewN | apply below_drew1 | refine below_set ?_ GE291.out) | exact HB.out)⟩⟩
 case round =>
  clear H'
  try clear c1
  try clear p2
  obtain ⟨x6_1, x7_1, x8_1, rfl, rfl, HA, HK1, HO_6, BK291, HB⟩ := hrel
  cases gk with
  | zero => exact absurd HA.out (by simp [spec_l6Could.l0])
  | succ k1 =>
   have H := HA.out
   clear HA
   simp only [spec_l6Could.l0] at H
   by_cases c6 : x8_1 < (l1.length : Int)
   {
   rw [if_pos c6] at H
   have c6b0 := decide_eq_true c6
   clear c6
   by_cases c7 : 0 ≤ x8_1
   {
   rw [if_pos c7] at H
   have c7b0 := decide_eq_true c7
   clear c7
   replace H := Option.bind_eq_some_iff.mp H
   obtain ⟨⟨t296, t297, t298⟩, A80, H⟩ := H
   replace H : (if ((rd_T48 l1 x8_1).f1) < (wrap64 (t297 - t298)) then (if ((rd_T48 l1 x8_1).f1) > 0 then (if x6_1.length < 5864062014805 then (spec_l6Could.l0 k1 l1 (x6_1 ++ [(⟨a0_0, (rd_T48 l1 x8_1).f0, (rd_T48 l1 x8_1).f1⟩ : S50)]) (wrap64 (x7_1 + ((rd_T48 l1 x8_1).f1))) (wrap64 (x8_1 + 1)) a0_0 a0_1 l0_2) else (none)) else (spec_l6Could.l0 k1 l1 x6_1 x7_1 (wrap64 (x8_1 + 1)) a0_0 a0_1 l0_2)) else (if (wrap64 (t297 - t298)) > 0 then (if x6_1.length < 5864062014805 then (spec_l6Could.l0 k1 l1 (x6_1 ++ [(⟨a0_0, (rd_T48 l1 x8_1).f0, wrap64 (t297 - t298)⟩ : S50)]) (wrap64 (x7_1 + (wrap64 (t297 - t298)))) (wrap64 (x8_1 + 1)) a0_0 a0_1 l0_2) else (none)) else (spec_l6Could.l0 k1 l1 x6_1 x7_1 (wrap64 (x8_1 + 1)) a0_0 a0_1 l0_2))) = some (r1, r2) := H
   have A8 := aM A80
   clear A80
   by_cases c9 : ((rd_T48 l1 x8_1).f1) < (wrap64 (t297 - t298))
   {
   rw [if_pos c9] at H
   have c9b0 := decide_eq_true c9
   clear c9
   by_cases c10 : ((rd_T48 l1 x8_1).f1) > 0
   {
   rw [if_pos c10] at H
   have c10b0 := decide_eq_true c10
   clear c10
   by_cases c11 : x6_1.length < 5864062014805
   {
   rw [if_pos c11] at H
   have LMc11 := aM c11
   clear c11
   obtain ⟨y303, hy303⟩ : ∃ y_ : List (S50), y_ = (x6_1 ++ [(⟨a0_0, (rd_T48 l1 x8_1).f0, (rd_T48 l1 x8_1).f1⟩ : S50)]) := ⟨_, rfl⟩
   replace H : (spec_l6Could.l0 k1 l1 y303 (wrap64 (x7_1 + ((rd_T48 l1 x8_1).f1))) (wrap64 (x8_1 + 1)) a0_0 a0_1 l0_2) = some (r1, r2) := by first | (rw [hy303]; with_reducible exact H) | (have H2_ := (Option.bind_some _ _).symm.trans H; rw [hy303]; with_reducible exact H2_) | (have H2_ := (Option.bind_some _ _).symm.trans H; with_reducible exact H2_) | with_reducible exact H | (rw [hy303]; exact H) | exact H
   have Ny303 := aM hy303
   clear hy303
   have H' := aM H
   clear H
   try go_wp2
   have n0_ := aM (Kd.R_drew HO_6.out)
   have n1_ := aM (blk_drew BK291.out)
   have n2_ := aM (below_drew1 HB.out)
   clear HO_6
   clear BK291
   clear HB
   have HO_6 := n0_
   have BK291 := n1_
   have HB := n2_
   clear n0_ n1_ n2_
   have p295 : 0 ≤ (x8_1 : Int) := of_decide_eq_true qz2
   have q295 : x8_1 < (l1.length : Int) := of_decide_eq_true qz2
   obtain ⟨ad295, e295, hx295_0, hx295_1⟩ := at_T48 HR1.out x8_1 p295 q295
   have hw295_1 := hx295_1
   have hw295_0 := hx295_0
   cases e295
   replace hx295_0 := pw_cell_below HB.out hx295_0
   replace hx295_1 := pw_cell_below HB.out hx295_1
   replace p295 := eq_true p295
   replace q295 := eq_true q295
   refine start_ (n := 9) (S := fun w' => w'.cell? ⟨gb291, 0, none⟩ = some (.int .i64 a0_0) ∧ w'.cell? ⟨gb291, 1, none⟩ = some (.int .i64 a0_1) ∧ w'.cell? ⟨gb291, 2, none⟩ = some (.slice A0_2 l0_2.length c0_2) ∧ w'.cell? (ad295.add ((x8_1).toNat * 2)) = some (.int .i64 ((rd_T48 l1 x8_1).f0)) ∧ w'.cell? ⟨(ad295.add ((x8_1).toNat * 2)).block, (ad295.add ((x8_1).toNat * 2)).off + 1, none⟩ = some (.int .i64 ((rd_T48 l1 x8_1).f1))) (ds := []) #[false, false, false, false, false, false, false, false, false] (by kernel_rfl) rfl rfl ⟨(blk_cell BK291.out 0).trans rfl, (blk_cell BK291.out 1).trans rfl, (blk_cell BK291.out 2).trans rfl, (pw_cell_below HB.out hw295_0), (pw_cell_below HB.out hw295_1)⟩ (fun hHeld => ?_); refine with_tabW spec_l6Could.tab6 spec_l6Could.bits6 (fun HT_ HW_ => ?_)
   generalize wr.drew = w12 at HO_6 BK291 HB hx295_0 hx295_1 hHeld ⊢
   refine pI_ 1 19 (bqz 9 2) ?_
   refine pI_ 2 20 (bqz 9 6) ?_
   refine pI_ 3 21 (bqz 9 14) ?_
   refine pI_ 4 22 (bqz 9 30) ?_
   refine tI5_ 0 18 (bqz 9 31) ?_
   refine tI5_ 5 23 (bqz 9 63) ?_
   refine join_ (σ := Nat) 1 (bqz 9 255) (fun s_ => [(24, .agg #[.int .i64 t296, .int .i64 t297, .int .i64 t298]), (9, .pointer (some ⟨s_, 0, none⟩))]) (fun s_ w' => (w'.cell? ⟨gb291, 0, none⟩ = some (.int .i64 a0_0) ∧ w'.cell? ⟨gb291, 1, none⟩ = some (.int .i64 a0_1) ∧ w'.cell? ⟨gb291, 2, none⟩ = some (.slice A0_2 l0_2.length c0_2) ∧ w'.cell? (ad295.add ((x8_1).toNat * 2)) = some (.int .i64 ((rd_T48 l1 x8_1).f0)) ∧ w'.cell? ⟨(ad295.add ((x8_1).toNat * 2)).block, (ad295.add ((x8_1).toNat * 2)).off + 1, none⟩ = some (.int .i64 ((rd_T48 l1 x8_1).f1))) ∧ (Kd.R k50 50 w' w.heap.size (fun _ => True) u6 x6_1) ∧ (w'.heap[gb291]? = some (.cells #[.int .i64 a0_0, .int .i64 a0_1, .slice A0_2 l0_2.length c0_2] 79 (0, 0))) ∧ (w'.heap[s_]? = some (.cells #[.int .i64 0, .int .i64 0, .int .i64 0] 72 (0, 0))) ∧ (w.heap.size ≤ s_) ∧ (w.heap.size ≤ s_) ∧ (gb291 ≠ s_) ∧ (s_ ≠ gb291) ∧ (Below w.heap.size w w')) ?_ ?_
   rotate_left
   {
   intro hCont
   refine two_ (i := 6) (j := 7) (Ni := some 24) (Nj := some 9) (bqz 9 127) (bqz 9 191) rfl rfl rfl rfl (two_of HT_.out (by kernel_rfl)) (by decide) (by decide) (fun K hK => ?_) (fun K hK => ?_)
   {
   skip
   refine goes_ Try.func94 (by kernel_rfl) rfl #[.agg #[.int .i64 a0_0, .int .i64 a0_1, .slice A0_2 l0_2.length c0_2], .int .i64 ((rd_T48 l1 x8_1).f0)] (by rfl) rfl rfl qz3 ?_
   with_reducible refine (spec_l5Stack.calls k1 a0_0 a0_1 _ _ l0_2 ((rd_T48 l1 x8_1).f0) t296 t297 t298 _ ?side1 ?side2 A8.out).mono ?_
   (case side1 => exact qz17)
   (case side2 => exact HC0_2.out)
   rintro e w13 ⟨rfl, hb⟩
   refine ⟨_, rfl, ?_⟩
   have n0_ := aM (Kd.R_below (rr_ HO_6.out) hb)
   have n1_ := aM (blk_below (bk_ BK291.out) hb)
   have n2_ := aM (below_step qz5 hb)
   clear HO_6
   clear BK291
   clear HB
   have HO_6 := n0_
   have BK291 := n1_
   have HB := n2_
   clear n0_ n1_ n2_
   (try clear hb)
   (try clear hb2)
   (try clear hk)
   (try clear hi)
   refine hK.out _ _ ⟨(blk_cell BK291.out 0).trans rfl, (blk_cell BK291.out 1).trans rfl, (blk_cell BK291.out 2).trans rfl, (pw_cell_below HB.out hw295_0), (pw_cell_below HB.out hw295_1)⟩ (fun hHeld => ?_)
   clear hK K
   refine norm_ (a' := ?_) ?_ ?_
   rotate_left
   {
   show Act.put _ (some 24) _ = _
   simp only [qzs]
   rfl
   }
   refine one_ (i := 7) (N := some 9) (bqz 9 255) rfl rfl qzc (by decide) (fun K hK => ?_)
   refine box_step ?hg (N := 9) ?hd (cs := #[.int .i64 0, .int .i64 0, .int .i64 0]) (t := 72) ?hr ?_; (case hd => rfl); (case hg => rfl); (case hr => exact qz37)
   intro gb299 hg w14 hbox hb
   have n0_ := aM (Kd.R_below (rr_ HO_6.out) hb)
   have n1_ := aM (blk_below (bk_ BK291.out) hb)
   have n2_ := aM (below_step qz5 hb)
   have n3_ := aM (hbox)
   have n4_ := aM ((by rw [hg]; exact (below_size qz5) : w.heap.size ≤ gb299))
   have n5_ := aM ((by rw [hg]; exact (below_size qz5) : w.heap.size ≤ gb299))
   have n6_ := aM ((by rw [hg]; exact Nat.ne_of_lt (blk_lt (bk_ BK291.out)) : gb291 ≠ gb299))
   have n7_ := aM ((by rw [hg]; exact Nat.ne_of_gt (blk_lt (bk_ BK291.out)) : gb299 ≠ gb291))
   clear HO_6
   clear BK291
   clear HB
   have HO_6 := n0_
   have BK291 := n1_
   have HB := n2_
   have BK299 := n3_
   have GW299 := n4_
   have GE299 := n5_
   have NB291_299 := n6_
   have NB299_291 := n7_
   clear n0_ n1_ n2_ n3_ n4_ n5_ n6_ n7_
   clear hb hbox hg
   refine hK.out _ _ ⟨(blk_cell BK291.out 0).trans rfl, (blk_cell BK291.out 1).trans rfl, (blk_cell BK291.out 2).trans rfl, (pw_cell_below HB.out hw295_0), (pw_cell_below HB.out hw295_1)⟩ (fun hHeld => ?_)
   clear hK K
   refine norm_ (a' := ?_) ?_ ?_
   rotate_left
   {
   show Act.put _ (some 9) _ = _
   simp only [qzs]
   rfl
   }
   exact norm_ qz38 (hCont (gb299) _ ⟨hHeld, (rr_ HO_6.out), (bk_ BK291.out), (bk_ BK299.out), GW299.out, GE299.out, NB291_299.out, NB299_291.out, qz9⟩)
   }
   {
   skip
   refine box_step ?hg (N := 9) ?hd (cs := #[.int .i64 0, .int .i64 0, .int .i64 0]) (t := 72) ?hr ?_; (case hd => rfl); (case hg => rfl); (case hr => exact qz37)
   intro gb299 hg w13 hbox hb
   have n0_ := aM (Kd.R_below (rr_ HO_6.out) hb)
   have n1_ := aM (blk_below (bk_ BK291.out) hb)
   have n2_ := aM (below_step qz5 hb)
   have n3_ := aM (hbox)
   have n4_ := aM ((by rw [hg]; exact (below_size qz5) : w.heap.size ≤ gb299))
   have n5_ := aM ((by rw [hg]; exact (below_size qz5) : w.heap.size ≤ gb299))
   have n6_ := aM ((by rw [hg]; exact Nat.ne_of_lt (blk_lt (bk_ BK291.out)) : gb291 ≠ gb299))
   have n7_ := aM ((by rw [hg]; exact Nat.ne_of_gt (blk_lt (bk_ BK291.out)) : gb299 ≠ gb291))
   clear HO_6
   clear BK291
   clear HB
   have HO_6 := n0_
   have BK291 := n1_
   have HB := n2_
   have BK299 := n3_
   have GW299 := n4_
   have GE299 := n5_
   have NB291_299 := n6_
   have NB299_291 := n7_
   clear n0_ n1_ n2_ n3_ n4_ n5_ n6_ n7_
   clear hb hbox hg
   refine hK.out _ _ ⟨(blk_cell BK291.out 0).trans rfl, (blk_cell BK291.out 1).trans rfl, (blk_cell BK291.out 2).trans rfl, (pw_cell_below HB.out hw295_0), (pw_cell_below HB.out hw295_1)⟩ (fun hHeld => ?_)
   clear hK K
   refine norm_ (a' := ?_) ?_ ?_
   rotate_left
   {
   show Act.put _ (some 9) _ = _
   simp only [qzs]
   rfl
   }
   refine one_ (i := 6) (N := some 24) (bqz 9 255) rfl rfl qzc (by decide) (fun K hK => ?_)
   refine goes_ Try.func94 (by kernel_rfl) rfl #[.agg #[.int .i64 a0_0, .int .i64 a0_1, .slice A0_2 l0_2.length c0_2], .int .i64 ((rd_T48 l1 x8_1).f0)] (by rfl) rfl rfl qz3 ?_
   with_reducible refine (spec_l5Stack.calls k1 a0_0 a0_1 _ _ l0_2 ((rd_T48 l1 x8_1).f0) t296 t297 t298 _ ?side1 ?side2 A8.out).mono ?_
   (case side1 => exact qz17)
   (case side2 => exact HC0_2.out)
   rintro e w14 ⟨rfl, hb⟩
   refine ⟨_, rfl, ?_⟩
   have n0_ := aM (Kd.R_below (rr_ HO_6.out) hb)
   have n1_ := aM (blk_below (bk_ BK291.out) hb)
   have n2_ := aM (blk_below (bk_ BK299.out) hb)
   have n3_ := aM (below_step qz9 hb)
   clear HO_6
   clear BK291
   clear BK299
   clear HB
   have HO_6 := n0_
   have BK291 := n1_
   have BK299 := n2_
   have HB := n3_
   clear n0_ n1_ n2_ n3_
   (try clear hb)
   (try clear hb2)
   (try clear hk)
   (try clear hi)
   refine hK.out _ _ ⟨(blk_cell BK291.out 0).trans rfl, (blk_cell BK291.out 1).trans rfl, (blk_cell BK291.out 2).trans rfl, (pw_cell_below HB.out hw295_0), (pw_cell_below HB.out hw295_1)⟩ (fun hHeld => ?_)
   clear hK K
   refine norm_ (a' := ?_) ?_ ?_
   rotate_left
   {
   show Act.put _ (some 24) _ = _
   simp only [qzs]
   rfl
   }
   exact norm_ qz38 (hCont (gb299) _ ⟨hHeld, (rr_ HO_6.out), (bk_ BK291.out), (bk_ BK299.out), GW299.out, GE299.out, NB291_299.out, NB299_291.out, qz9⟩)
   }
   }
   rintro gb299 w15 ⟨hS_, h0_, h1_, h2_, h3_, h4_, h5_, h6_, h7_⟩
   have n0_ : Aside0 (Kd.R k50 50 w15 w.heap.size (fun _ => True) u6 x6_1) := ⟨h0_⟩
   have n1_ : Aside0 (w15.heap[gb291]? = some (.cells #[.int .i64 a0_0, .int .i64 a0_1, .slice A0_2 l0_2.length c0_2] 79 (0, 0))) := ⟨h1_⟩
   have n2_ : Aside0 (w15.heap[gb299]? = some (.cells #[.int .i64 0, .int .i64 0, .int .i64 0] 72 (0, 0))) := ⟨h2_⟩
   have n3_ : Aside0 (w.heap.size ≤ gb299) := ⟨h3_⟩
   have n4_ : Aside0 (w.heap.size ≤ gb299) := ⟨h4_⟩
   have n5_ : Aside0 (gb291 ≠ gb299) := ⟨h5_⟩
   have n6_ : Aside0 (gb299 ≠ gb291) := ⟨h6_⟩
   have n7_ : Aside0 (Below w.heap.size w w15) := ⟨h7_⟩
   clear HO_6
   clear BK291
   clear HB
   clear h0_ h1_ h2_ h3_ h4_ h5_ h6_ h7_
   have HO_6 := n0_
   have BK291 := n1_
   have BK299 := n2_
   have GW299 := n3_
   have GE299 := n4_
   have NB291_299 := n5_
   have NB299_291 := n6_
   have HB := n7_
   clear n0_ n1_ n2_ n3_ n4_ n5_ n6_ n7_
   have hHeld : w15.cell? ⟨gb291, 0, none⟩ = some (.int .i64 a0_0) ∧ w15.cell? ⟨gb291, 1, none⟩ = some (.int .i64 a0_1) ∧ w15.cell? ⟨gb291, 2, none⟩ = some (.slice A0_2 l0_2.length c0_2) ∧ w15.cell? (ad295.add ((x8_1).toNat * 2)) = some (.int .i64 ((rd_T48 l1 x8_1).f0)) ∧ w15.cell? ⟨(ad295.add ((x8_1).toNat * 2)).block, (ad295.add ((x8_1).toNat * 2)).off + 1, none⟩ = some (.int .i64 ((rd_T48 l1 x8_1).f1)) := hS_
   refine norm_ (a' := ?_) ?_ ?_
   rotate_left
   {
   simp only [putAll, Act.put, List.setIfInBounds_toArray, List.set_cons_zero, List.set_cons_succ]
   rfl
   }
   refine one_ (i := 8) (N := none) (bqz 9 511) rfl rfl qzc (by decide) (fun K hK => ?_)
   have hs16 : w15.cell? ⟨gb299, 0, none⟩ = some (.int .i64 0) := (blk_cell BK299.out 0).trans rfl
   have hfs16 := blk_frozen BK299.out 0
   have hns16_0 := NB291_299.out
   have hms16_0 := NB299_291.out
   have hs17 : w15.cell? ⟨gb299, 1, none⟩ = some (.int .i64 0) := (blk_cell BK299.out 1).trans rfl
   have hfs17 := blk_frozen BK299.out 1
   have hns17_0 := NB291_299.out
   have hms17_0 := NB299_291.out
   have hs18 : w15.cell? ⟨gb299, 2, none⟩ = some (.int .i64 0) := (blk_cell BK299.out 2).trans rfl
   have hfs18 := blk_frozen BK299.out 2
   have hns18_0 := NB291_299.out
   have hms18_0 := NB299_291.out
   refine skip_ (w1 := ?_) (by rfl) rfl ?_ ?_
   rotate_left
   {
   go_simp
   rfl
   }
   refine hK.out _ _ ⟨((cell_far (p := ⟨gb299, _, none⟩) NB291_299.out _).trans (((cell_far (p := ⟨gb299, _, none⟩) NB291_299.out _).trans (((cell_far (p := ⟨gb299, _, none⟩) NB291_299.out _).trans (hHeld.1)))))), ((cell_far (p := ⟨gb299, _, none⟩) NB291_299.out _).trans (((cell_far (p := ⟨gb299, _, none⟩) NB291_299.out _).trans (((cell_far (p := ⟨gb299, _, none⟩) NB291_299.out _).trans (hHeld.2.1)))))), ((cell_far (p := ⟨gb299, _, none⟩) NB291_299.out _).trans (((cell_far (p := ⟨gb299, _, none⟩) NB291_299.out _).trans (((cell_far (p := ⟨gb299, _, none⟩) NB291_299.out _).trans (hHeld.2.2.1)))))), ((cell_far (p := ⟨gb299, _, none⟩) (by first | exact Nat.ne_of_lt (Nat.lt_of_lt_of_le (by have := World.block_lt_of_cell? _ _ hw295_0; first | rwa [add_block] at this | exact this) GW299.out) | (rw [add_block]; exact Nat.ne_of_lt (Nat.lt_of_lt_of_le (by have := World.block_lt_of_cell? _ _ hw295_0; first | rwa [add_block] at this | exact this) GW299.out)) | (show (Addr.add _ _).block ≠ _; rw [add_block]; exact Nat.ne_of_lt (Nat.lt_of_lt_of_le (by have := World.block_lt_of_cell? _ _ hw295_0; first | rwa [add_block] at this | exact this) GW299.out)) | (dsimp only; exact Nat.ne_of_lt (Nat.lt_of_lt_of_le (by have := World.block_lt_of_cell? _ _ hw295_0; first | rwa [add_block] at this | exact this) GW299.out))) _).trans (((cell_far (p := ⟨gb299, _, none⟩) (by first | exact Nat.ne_of_lt (Nat.lt_of_lt_of_le (by have := World.block_lt_of_cell? _ _ hw295_0; first | rwa [add_block] at this | exact this) GW299.out) | (rw [add_block]; exact Nat.ne_of_lt (Nat.lt_of_lt_of_le (by have := World.block_lt_of_cell? _ _ hw295_0; first | rwa [add_block] at this | exact this) GW299.out)) | (show (Addr.add _ _).block ≠ _; rw [add_block]; exact Nat.ne_of_lt (Nat.lt_of_lt_of_le (by have := World.block_lt_of_cell? _ _ hw295_0; first | rwa [add_block] at this | exact this) GW299.out)) | (dsimp only; exact Nat.ne_of_lt (Nat.lt_of_lt_of_le (by have := World.block_lt_of_cell? _ _ hw295_0; first | rwa [add_block] at this | exact this) GW299.out))) _).trans (((cell_far (p := ⟨gb299, _, none⟩) (by first | exact Nat.ne_of_lt (Nat.lt_of_lt_of_le (by have := World.block_lt_of_cell? _ _ hw295_0; first | rwa [add_block] at this | exact this) GW299.out) | (rw [add_block]; exact Nat.ne_of_lt (Nat.lt_of_lt_of_le (by have := World.block_lt_of_cell? _ _ hw295_0; first | rwa [add_block] at this | exact this) GW299.out)) | (show (Addr.add _ _).block ≠ _; rw [add_block]; exact Nat.ne_of_lt (Nat.lt_of_lt_of_le (by have := World.block_lt_of_cell? _ _ hw295_0; first | rwa [add_block] at this | exact this) GW299.out)) | (dsimp only; exact Nat.ne_of_lt (Nat.lt_of_lt_of_le (by have := World.block_lt_of_cell? _ _ hw295_0; first | rwa [add_block] at this | exact this) GW299.out))) _).trans (hHeld.2.2.2.1)))))), ((cell_far (p := ⟨gb299, _, none⟩) (by first | exact Nat.ne_of_lt (Nat.lt_of_lt_of_le (by have := World.block_lt_of_cell? _ _ hw295_1; first | rwa [add_block] at this | exact this) GW299.out) | (rw [add_block]; exact Nat.ne_of_lt (Nat.lt_of_lt_of_le (by have := World.block_lt_of_cell? _ _ hw295_1; first | rwa [add_block] at this | exact this) GW299.out)) | (show (Addr.add _ _).block ≠ _; rw [add_block]; exact Nat.ne_of_lt (Nat.lt_of_lt_of_le (by have := World.block_lt_of_cell? _ _ hw295_1; first | rwa [add_block] at this | exact this) GW299.out)) | (dsimp only; exact Nat.ne_of_lt (Nat.lt_of_lt_of_le (by have := World.block_lt_of_cell? _ _ hw295_1; first | rwa [add_block] at this | exact this) GW299.out))) _).trans (((cell_far (p := ⟨gb299, _, none⟩) (by first | exact Nat.ne_of_lt (Nat.lt_of_lt_of_le (by have := World.block_lt_of_cell? _ _ hw295_1; first | rwa [add_block] at this | exact this) GW299.out) | (rw [add_block]; exact Nat.ne_of_lt (Nat.lt_of_lt_of_le (by have := World.block_lt_of_cell? _ _ hw295_1; first | rwa [add_block] at this | exact this) GW299.out)) | (show (Addr.add _ _).block ≠ _; rw [add_block]; exact Nat.ne_of_lt (Nat.lt_of_lt_of_le (by have := World.block_lt_of_cell? _ _ hw295_1; first | rwa [add_block] at this | exact this) GW299.out)) | (dsimp only; exact Nat.ne_of_lt (Nat.lt_of_lt_of_le (by have := World.block_lt_of_cell? _ _ hw295_1; first | rwa [add_block] at this | exact this) GW299.out))) _).trans (((cell_far (p := ⟨gb299, _, none⟩) (by first | exact Nat.ne_of_lt (Nat.lt_of_lt_of_le (by have := World.block_lt_of_cell? _ _ hw295_1; first | rwa [add_block] at this | exact this) GW299.out) | (rw [add_block]; exact Nat.ne_of_lt (Nat.lt_of_lt_of_le (by have := World.block_lt_of_cell? _ _ hw295_1; first | rwa [add_block] at this | exact this) GW299.out)) | (show (Addr.add _ _).block ≠ _; rw [add_block]; exact Nat.ne_of_lt (Nat.lt_of_lt_of_le (by have := World.block_lt_of_cell? _ _ hw295_1; first | rwa [add_block] at this | exact this) GW299.out)) | (dsimp only; exact Nat.ne_of_lt (Nat.lt_of_lt_of_le (by have := World.block_lt_of_cell? _ _ hw295_1; first | rwa [add_block] at this | exact this) GW299.out))) _).trans (hHeld.2.2.2.2))))))⟩ (fun hHeld => ?_)
   clear hK K
   refine done_ (done_of HT_.out (by kernel_rfl)) ?_
   have hnb19 := NB299_291.out
   have hnc19 := NB291_299.out
   obtain ⟨hcz20_0, hcz20_1, hcz20_2, hfz20_0, hfz20_1, hfz20_2⟩ := b6_ BK299.out
   have p300 : 0 ≤ (x8_1 : Int) := of_decide_eq_true qz2
   have q300 : x8_1 < (l1.length : Int) := of_decide_eq_true qz2
   obtain ⟨ad300, e300, hx300_0, hx300_1⟩ := at_T48 HR1.out x8_1 p300 q300
   obtain rfl : ad295 = ad300 := (by injection e300)
   have hn300_0 : ad295.block ≠ gb299 := Nat.ne_of_lt (Nat.lt_of_lt_of_le (by have := World.block_lt_of_cell? _ _ hx300_0; first | rwa [add_block] at this | exact this) GW299.out)
   have hn300_1 : ad295.block ≠ gb299 := Nat.ne_of_lt (Nat.lt_of_lt_of_le (by have := World.block_lt_of_cell? _ _ hx300_0; first | rwa [add_block] at this | exact this) GW299.out)
   have hn300_2 : ad295.block ≠ gb299 := Nat.ne_of_lt (Nat.lt_of_lt_of_le (by have := World.block_lt_of_cell? _ _ hx300_0; first | rwa [add_block] at this | exact this) GW299.out)
   replace hx300_0 := pw_cell_below HB.out hx300_0
   replace hx300_1 := pw_cell_below HB.out hx300_1
   replace hx300_0 := (cell_far (p := ⟨gb299, 0, none⟩) qz31 (.int .i64 t296)).trans hx300_0
   replace hx300_1 := (cell_far (p := ⟨gb299, 0, none⟩) qz31 (.int .i64 t296)).trans hx300_1
   replace hx300_0 := (cell_far (p := ⟨gb299, 1, none⟩) qz32 (.int .i64 t297)).trans hx300_0
   replace hx300_1 := (cell_far (p := ⟨gb299, 1, none⟩) qz32 (.int .i64 t297)).trans hx300_1
   replace hx300_0 := (cell_far (p := ⟨gb299, 2, none⟩) qz33 (.int .i64 t298)).trans hx300_0
   replace hx300_1 := (cell_far (p := ⟨gb299, 2, none⟩) qz33 (.int .i64 t298)).trans hx300_1
   clear hn300_0
   clear hn300_1
   clear hn300_2
   replace p300 := eq_true p300
   replace q300 := eq_true q300
   have p301 : 0 ≤ (x8_1 : Int) := of_decide_eq_true qz2
   have q301 : x8_1 < (l1.length : Int) := of_decide_eq_true qz2
   obtain ⟨ad301, e301, hx301_0, hx301_1⟩ := at_T48 HR1.out x8_1 p301 q301
   obtain rfl : ad295 = ad301 := (by injection e301)
   have hn301_0 : ad295.block ≠ gb299 := Nat.ne_of_lt (Nat.lt_of_lt_of_le (by have := World.block_lt_of_cell? _ _ hx301_0; first | rwa [add_block] at this | exact this) GW299.out)
   have hn301_1 : ad295.block ≠ gb299 := Nat.ne_of_lt (Nat.lt_of_lt_of_le (by have := World.block_lt_of_cell? _ _ hx301_0; first | rwa [add_block] at this | exact this) GW299.out)
   have hn301_2 : ad295.block ≠ gb299 := Nat.ne_of_lt (Nat.lt_of_lt_of_le (by have := World.block_lt_of_cell? _ _ hx301_0; first | rwa [add_block] at this | exact this) GW299.out)
   replace hx301_0 := pw_cell_below HB.out hx301_0
   replace hx301_1 := pw_cell_below HB.out hx301_1
   replace hx301_0 := (cell_far (p := ⟨gb299, 0, none⟩) qz51 (.int .i64 t296)).trans hx301_0
   replace hx301_1 := (cell_far (p := ⟨gb299, 0, none⟩) qz51 (.int .i64 t296)).trans hx301_1
   replace hx301_0 := (cell_far (p := ⟨gb299, 1, none⟩) qz52 (.int .i64 t297)).trans hx301_0
   replace hx301_1 := (cell_far (p := ⟨gb299, 1, none⟩) qz52 (.int .i64 t297)).trans hx301_1
   replace hx301_0 := (cell_far (p := ⟨gb299, 2, none⟩) qz53 (.int .i64 t298)).trans hx301_0
   replace hx301_1 := (cell_far (p := ⟨gb299, 2, none⟩) qz53 (.int .i64 t298)).trans hx301_1
   clear hn301_0
   clear hn301_1
   clear hn301_2
   replace p301 := eq_true p301
   replace q301 := eq_true q301
   try go_wp2
   generalize hq_ : (((w15.setCell ⟨gb299, 0, none⟩ (.int .i64 t296)).setCell ⟨gb299, 1, none⟩ (.int .i64 t297)).setCell ⟨gb299, 2, none⟩ (.int .i64 t298)) = w21
   have n0_ : Aside0 (Kd.R k50 50 w21 w.heap.size (fun _ => True) u6 x6_1) := ⟨by rw [← hq_]; exact (by (with_reducible repeat (first | apply Kd.R_alloc | apply Kd.R_drewN | apply Kd.R_drew)); exact Kd.R_mono (Kd.R_far (p := ⟨gb299, 2, none⟩) (Kd.R_far (p := ⟨gb299, 1, none⟩) (Kd.R_far (p := ⟨gb299, 0, none⟩) (Kd.R_types HO_6.out BK299.out (by decide)) (fun _ hk => hk.2) (.int .i64 t296)) (fun _ hk => hk.2) (.int .i64 t297)) (fun _ hk => hk.2) (.int .i64 t298)) (fun _ hk => trivial))⟩
   have n1_ : Aside0 (w21.heap[gb291]? = some (.cells #[.int .i64 a0_0, .int .i64 a0_1, .slice A0_2 l0_2.length c0_2] 79 (0, 0))) := ⟨by rw [← hq_]; exact qz43⟩
   have n2_ : Aside0 (w21.heap[gb299]? = some (.cells #[.int .i64 t296, .int .i64 t297, .int .i64 t298] 72 (0, 0))) := ⟨by rw [← hq_]; exact (by (with_reducible repeat (first | refine blk_drewN ?_ _ | refine blk_drew ?_ | refine blk_alloc ?_ _)); refine blk_put (cs := #[.int .i64 t296, .int .i64 t297, .int .i64 0]) ?_ 2 _ rfl; (with_reducible repeat (first | refine blk_drewN ?_ _ | refine blk_drew ?_ | refine blk_alloc ?_ _)); refine blk_put (cs := #[.int .i64 t296, .int .i64 0, .int .i64 0]) ?_ 1 _ rfl; (with_reducible repeat (first | refine blk_drewN ?_ _ | refine blk_drew ?_ | refine blk_alloc ?_ _)); refine blk_put (cs := #[.int .i64 0, .int .i64 0, .int .i64 0]) ?_ 0 _ rfl; exact bk_ BK299.out)⟩
   have n3_ : Aside0 (Below w.heap.size w w21) := ⟨by rw [← hq_]; exact qz9⟩
   (try clear HO_6)
   (try clear BK291)
   (try clear BK299)
   (try clear HB)
   clear hq_
   have HO_6 := n0_
   have BK291 := n1_
   have BK299 := n2_
   have HB := n3_
   clear n0_ n1_ n2_ n3_
   have n0_ := aM (Kd.R_drew HO_6.out)
   have n1_ := aM (blk_drew BK291.out)
   have n2_ := aM (blk_drew BK299.out)
   have n3_ := aM (below_drew1 HB.out)
   clear HO_6
   clear BK291
   clear BK299
   clear HB
   have HO_6 := n0_
   have BK291 := n1_
   have BK299 := n2_
   have HB := n3_
   clear n0_ n1_ n2_ n3_
   have p302 : 0 ≤ (x8_1 : Int) := of_decide_eq_true qz2
   have q302 : x8_1 < (l1.length : Int) := of_decide_eq_true qz2
   obtain ⟨ad302, e302, hx302_0, hx302_1⟩ := at_T48 HR1.out x8_1 p302 q302
   have hw302_1 := hx302_1
   have hw302_0 := hx302_0
   obtain rfl : ad295 = ad302 := (by injection e302)
   replace hx302_0 := pw_cell_below HB.out hx302_0
   replace hx302_1 := pw_cell_below HB.out hx302_1
   replace p302 := eq_true p302
   replace q302 := eq_true q302
   refine start_ (n := 13) (S := fun w' => w'.cell? ⟨gb291, 0, none⟩ = some (.int .i64 a0_0) ∧ w'.cell? ⟨gb291, 1, none⟩ = some (.int .i64 a0_1) ∧ w'.cell? ⟨gb291, 2, none⟩ = some (.slice A0_2 l0_2.length c0_2) ∧ w'.cell? (ad295.add ((x8_1).toNat * 2)) = some (.int .i64 ((rd_T48 l1 x8_1).f0)) ∧ w'.cell? ⟨(ad295.add ((x8_1).toNat * 2)).block, (ad295.add ((x8_1).toNat * 2)).off + 1, none⟩ = some (.int .i64 ((rd_T48 l1 x8_1).f1))) (ds := []) #[false, false, false, false, false, false, false, false, false, false, false, false, false] (by kernel_rfl) rfl rfl ⟨(blk_cell BK291.out 0).trans rfl, (blk_cell BK291.out 1).trans rfl, (blk_cell BK291.out 2).trans rfl, (pw_cell_below HB.out hw302_0), (pw_cell_below HB.out hw302_1)⟩ (fun hHeld => ?_); refine with_tabW spec_l6Could.tab11 spec_l6Could.bits11 (fun HT_ HW_ => ?_)
   generalize w21.drew = w22 at HO_6 BK291 BK299 HB hx302_0 hx302_1 hHeld ⊢
   refine pI_ 0 44 (bqz 13 1) ?_
   refine pI_ 1 45 (bqz 13 3) ?_
   refine pI_ 3 47 (bqz 13 11) ?_
   refine pI_ 4 48 (bqz 13 27) ?_
   refine pI_ 5 49 (bqz 13 59) ?_
   refine pI_ 6 50 (bqz 13 123) ?_
   refine pI_ 8 52 (bqz 13 379) ?_
   refine tI5_ 2 46 (bqz 13 383) ?_
   refine tI5_ 7 51 (bqz 13 511) ?_
   refine pI_ 9 53 (bqz 13 1023) ?_
   refine one_ (i := 10) (N := some 54) (bqz 13 2047) rfl rfl qzc (by decide) (fun K hK => ?_)
   refine value_ (w1 := ?_) (v := ?_) (by rfl) rfl ?_ ?_
   rotate_left 2
   {
   go_simp
   constructor
   {
   rfl
   }
   {
   rfl
   }
   }
   refine hK.out _ _ ⟨(blk_cell (blk_alloc BK291.out _) 0).trans rfl, (blk_cell (blk_alloc BK291.out _) 1).trans rfl, (blk_cell (blk_alloc BK291.out _) 2).trans rfl, (World.cell?_alloc_lt _ _ _ (World.block_lt_of_cell? _ _ ((pw_cell_below HB.out hw302_0)))).trans ((pw_cell_below HB.out hw302_0)), (World.cell?_alloc_lt _ _ _ (World.block_lt_of_cell? _ _ ((pw_cell_below HB.out hw302_1)))).trans ((pw_cell_below HB.out hw302_1))⟩ (fun hHeld => ?_)
   clear hK K
   refine norm_ (a' := ?_) ?_ ?_
   rotate_left
   {
   show Act.put _ (some 54) _ = _
   simp only [qzs]
   rfl
   }
   refine one_ (i := 11) (N := some 55) (bqz 13 4095) rfl rfl qzc (by decide) (fun K hK => ?_)
   refine Kd.R_append_step k50 (w0 := w) w.heap.size (by rfl) (.tmp 44) (.tmp 54) 43 50 (.agg #[(.int .i64 0), (.int .i64 0), (.int .i64 0)]) 24 rfl Try.underlying43 info50 rfl (by decide) (by omega) u6 x6_1 (⟨a0_0, (rd_T48 l1 x8_1).f0, (rd_T48 l1 x8_1).f1⟩ : S50) [.int .i64 a0_0, .int .i64 ((rd_T48 l1 x8_1).f0), .int .i64 ((rd_T48 l1 x8_1).f1)] (fun _ => True) (fun _ => False) rfl rfl ?aP (fun _ hk => hk.elim) ?aF ?aO ?aB ?aS ?aL ?_
   (case aP => exact k50_mkM _ _ _ (⟨a0_0, (rd_T48 l1 x8_1).f0, (rd_T48 l1 x8_1).f1⟩ : S50))
   (case aB => exact qz9)
   (case aF => exact (fun _ _ => trivial))
   (case aO => exact (rr_ HO_6.out))
   (case aS => exact (below_size qz9))
   (case aL => have := LMc11.out; omega)
   intro v304 w23 ho hb hg hat
   rw [← Ny303.out] at ho
   have n0_ := aM (blk_grown (bk_ BK291.out) hg (Kd.R_ne HO_6.out BK291.out (by decide)))
   have n1_ := aM (blk_grown (bk_ BK299.out) hg (Kd.R_ne HO_6.out BK299.out (by decide)))
   have n2_ := aM (hb)
   have n3_ := aM (ho)
   clear BK291
   clear BK299
   clear HB
   clear HO_6
   have BK291 := n0_
   have BK299 := n1_
   have HB := n2_
   have HO305 := n3_
   clear n0_ n1_ n2_ n3_
   clear ho hb hg hat
   refine hK.out _ _ ⟨(blk_cell BK291.out 0).trans rfl, (blk_cell BK291.out 1).trans rfl, (blk_cell BK291.out 2).trans rfl, (pw_cell_below HB.out hw302_0), (pw_cell_below HB.out hw302_1)⟩ (fun hHeld => ?_)
   clear hK K
   refine norm_ (a' := ?_) ?_ ?_
   rotate_left
   {
   show Act.put _ (some 55) _ = _
   simp only [qzs]
   rfl
   }
   refine pI_ 12 6 (bqz 13 8191) ?_
   refine done_ (done_of HT_.out (by kernel_rfl)) ?_
   try go_wp2
   go_roundg k1
   case measure => have := HK1.out; omega
   case rel => exact ⟨(y303), (wrap64 (x7_1 + ((rd_T48 l1 x8_1).f1))), (wrap64 (x8_1 + 1)), qz4, qz4, H', ⟨by have := HK1.out; omega⟩, ⟨rm_ HO305.out⟩, ⟨bk_ BK291.out⟩, ⟨by repeat (first | (with_reducible first | exact HB.out | apply below_alloc | apply pw_below_drewN | apply below_drew1 | refine below_set ?_ GE291.out | refine below_set ?_ GE299.out) | exact HB.out)⟩⟩
   }
   {
   rw [if_neg c11] at H
   exact absurd H (by simp)
   }
   }
   {
   rw [if_neg c10] at H
   have c10b0 := decide_eq_false c10
   clear c10
   have H' := aM H
   clear H
   try go_wp2
   have n0_ := aM (Kd.R_drew HO_6.out)
   have n1_ := aM (blk_drew BK291.out)
   have n2_ := aM (below_drew1 HB.out)
   clear HO_6
   clear BK291
   clear HB
   have HO_6 := n0_
   have BK291 := n1_
   have HB := n2_
   clear n0_ n1_ n2_
   have p295 : 0 ≤ (x8_1 : Int) := of_decide_eq_true qz2
   have q295 : x8_1 < (l1.length : Int) := of_decide_eq_true qz2
   obtain ⟨ad295, e295, hx295_0, hx295_1⟩ := at_T48 HR1.out x8_1 p295 q295
   have hw295_1 := hx295_1
   have hw295_0 := hx295_0
   cases e295
   replace hx295_0 := pw_cell_below HB.out hx295_0
   replace hx295_1 := pw_cell_below HB.out hx295_1
   replace p295 := eq_true p295
   replace q295 := eq_true q295
   refine start_ (n := 9) (S := fun w' => w'.cell? ⟨gb291, 0, none⟩ = some (.int .i64 a0_0) ∧ w'.cell? ⟨gb291, 1, none⟩ = some (.int .i64 a0_1) ∧ w'.cell? ⟨gb291, 2, none⟩ = some (.slice A0_2 l0_2.length c0_2) ∧ w'.cell? (ad295.add ((x8_1).toNat * 2)) = some (.int .i64 ((rd_T48 l1 x8_1).f0)) ∧ w'.cell? ⟨(ad295.add ((x8_1).toNat * 2)).block, (ad295.add ((x8_1).toNat * 2)).off + 1, none⟩ = some (.int .i64 ((rd_T48 l1 x8_1).f1))) (ds := []) #[false, false, false, false, false, false, false, false, false] (by kernel_rfl) rfl rfl ⟨(blk_cell BK291.out 0).trans rfl, (blk_cell BK291.out 1).trans rfl, (blk_cell BK291.out 2).trans rfl, (pw_cell_below HB.out hw295_0), (pw_cell_below HB.out hw295_1)⟩ (fun hHeld => ?_); refine with_tabW spec_l6Could.tab6 spec_l6Could.bits6 (fun HT_ HW_ => ?_)
   generalize wr.drew = w24 at HO_6 BK291 HB hx295_0 hx295_1 hHeld ⊢
   refine pI_ 1 19 (bqz 9 2) ?_
   refine pI_ 2 20 (bqz 9 6) ?_
   refine pI_ 3 21 (bqz 9 14) ?_
   refine pI_ 4 22 (bqz 9 30) ?_
   refine tI5_ 0 18 (bqz 9 31) ?_
   refine tI5_ 5 23 (bqz 9 63) ?_
   refine join_ (σ := Nat) 1 (bqz 9 255) (fun s_ => [(24, .agg #[.int .i64 t296, .int .i64 t297, .int .i64 t298]), (9, .pointer (some ⟨s_, 0, none⟩))]) (fun s_ w' => (w'.cell? ⟨gb291, 0, none⟩ = some (.int .i64 a0_0) ∧ w'.cell? ⟨gb291, 1, none⟩ = some (.int .i64 a0_1) ∧ w'.cell? ⟨gb291, 2, none⟩ = some (.slice A0_2 l0_2.length c0_2) ∧ w'.cell? (ad295.add ((x8_1).toNat * 2)) = some (.int .i64 ((rd_T48 l1 x8_1).f0)) ∧ w'.cell? ⟨(ad295.add ((x8_1).toNat * 2)).block, (ad295.add ((x8_1).toNat * 2)).off + 1, none⟩ = some (.int .i64 ((rd_T48 l1 x8_1).f1))) ∧ (Kd.R k50 50 w' w.heap.size (fun _ => True) u6 x6_1) ∧ (w'.heap[gb291]? = some (.cells #[.int .i64 a0_0, .int .i64 a0_1, .slice A0_2 l0_2.length c0_2] 79 (0, 0))) ∧ (w'.heap[s_]? = some (.cells #[.int .i64 0, .int .i64 0, .int .i64 0] 72 (0, 0))) ∧ (w.heap.size ≤ s_) ∧ (w.heap.size ≤ s_) ∧ (gb291 ≠ s_) ∧ (s_ ≠ gb291) ∧ (Below w.heap.size w w')) ?_ ?_
   rotate_left
   {
   intro hCont
   refine two_ (i := 6) (j := 7) (Ni := some 24) (Nj := some 9) (bqz 9 127) (bqz 9 191) rfl rfl rfl rfl (two_of HT_.out (by kernel_rfl)) (by decide) (by decide) (fun K hK => ?_) (fun K hK => ?_)
   {
   skip
   refine goes_ Try.func94 (by kernel_rfl) rfl #[.agg #[.int .i64 a0_0, .int .i64 a0_1, .slice A0_2 l0_2.length c0_2], .int .i64 ((rd_T48 l1 x8_1).f0)] (by rfl) rfl rfl qz3 ?_
   with_reducible refine (spec_l5Stack.calls k1 a0_0 a0_1 _ _ l0_2 ((rd_T48 l1 x8_1).f0) t296 t297 t298 _ ?side1 ?side2 A8.out).mono ?_
   (case side1 => exact qz17)
   (case side2 => exact HC0_2.out)
   rintro e w25 ⟨rfl, hb⟩
   refine ⟨_, rfl, ?_⟩
   have n0_ := aM (Kd.R_below (rr_ HO_6.out) hb)
   have n1_ := aM (blk_below (bk_ BK291.out) hb)
   have n2_ := aM (below_step qz5 hb)
   clear HO_6
   clear BK291
   clear HB
   have HO_6 := n0_
   have BK291 := n1_
   have HB := n2_
   clear n0_ n1_ n2_
   (try clear hb)
   (try clear hb2)
   (try clear hk)
   (try clear hi)
   refine hK.out _ _ ⟨(blk_cell BK291.out 0).trans rfl, (blk_cell BK291.out 1).trans rfl, (blk_cell BK291.out 2).trans rfl, (pw_cell_below HB.out hw295_0), (pw_cell_below HB.out hw295_1)⟩ (fun hHeld => ?_)
   clear hK K
   refine norm_ (a' := ?_) ?_ ?_
   rotate_left
   {
   show Act.put _ (some 24) _ = _
   simp only [qzs]
   rfl
   }
   refine one_ (i := 7) (N := some 9) (bqz 9 255) rfl rfl qzc (by decide) (fun K hK => ?_)
   refine box_step ?hg (N := 9) ?hd (cs := #[.int .i64 0, .int .i64 0, .int .i64 0]) (t := 72) ?hr ?_; (case hd => rfl); (case hg => rfl); (case hr => exact qz37)
   intro gb299 hg w26 hbox hb
   have n0_ := aM (Kd.R_below (rr_ HO_6.out) hb)
   have n1_ := aM (blk_below (bk_ BK291.out) hb)
   have n2_ := aM (below_step qz5 hb)
   have n3_ := aM (hbox)
   have n4_ := aM ((by rw [hg]; exact (below_size qz5) : w.heap.size ≤ gb299))
   have n5_ := aM ((by rw [hg]; exact (below_size qz5) : w.heap.size ≤ gb299))
   have n6_ := aM ((by rw [hg]; exact Nat.ne_of_lt (blk_lt (bk_ BK291.out)) : gb291 ≠ gb299))
   have n7_ := aM ((by rw [hg]; exact Nat.ne_of_gt (blk_lt (bk_ BK291.out)) : gb299 ≠ gb291))
   clear HO_6
   clear BK291
   clear HB
   have HO_6 := n0_
   have BK291 := n1_
   have HB := n2_
   have BK299 := n3_
   have GW299 := n4_
   have GE299 := n5_
   have NB291_299 := n6_
   have NB299_291 := n7_
   clear n0_ n1_ n2_ n3_ n4_ n5_ n6_ n7_
   clear hb hbox hg
   refine hK.out _ _ ⟨(blk_cell BK291.out 0).trans rfl, (blk_cell BK291.out 1).trans rfl, (blk_cell BK291.out 2).trans rfl, (pw_cell_below HB.out hw295_0), (pw_cell_below HB.out hw295_1)⟩ (fun hHeld => ?_)
   clear hK K
   refine norm_ (a' := ?_) ?_ ?_
   rotate_left
   {
   show Act.put _ (some 9) _ = _
   simp only [qzs]
   rfl
   }
   exact norm_ qz38 (hCont (gb299) _ ⟨hHeld, (rr_ HO_6.out), (bk_ BK291.out), (bk_ BK299.out), GW299.out, GE299.out, NB291_299.out, NB299_291.out, qz9⟩)
   }
   {
   skip
   refine box_step ?hg (N := 9) ?hd (cs := #[.int .i64 0, .int .i64 0, .int .i64 0]) (t := 72) ?hr ?_; (case hd => rfl); (case hg => rfl); (case hr => exact qz37)
   intro gb299 hg w25 hbox hb
   have n0_ := aM (Kd.R_below (rr_ HO_6.out) hb)
   have n1_ := aM (blk_below (bk_ BK291.out) hb)
   have n2_ := aM (below_step qz5 hb)
   have n3_ := aM (hbox)
   have n4_ := aM ((by rw [hg]; exact (below_size qz5) : w.heap.size ≤ gb299))
   have n5_ := aM ((by rw [hg]; exact (below_size qz5) : w.heap.size ≤ gb299))
   have n6_ := aM ((by rw [hg]; exact Nat.ne_of_lt (blk_lt (bk_ BK291.out)) : gb291 ≠ gb299))
   have n7_ := aM ((by rw [hg]; exact Nat.ne_of_gt (blk_lt (bk_ BK291.out)) : gb299 ≠ gb291))
   clear HO_6
   clear BK291
   clear HB
   have HO_6 := n0_
   have BK291 := n1_
   have HB := n2_
   have BK299 := n3_
   have GW299 := n4_
   have GE299 := n5_
   have NB291_299 := n6_
   have NB299_291 := n7_
   clear n0_ n1_ n2_ n3_ n4_ n5_ n6_ n7_
   clear hb hbox hg
   refine hK.out _ _ ⟨(blk_cell BK291.out 0).trans rfl, (blk_cell BK291.out 1).trans rfl, (blk_cell BK291.out 2).trans rfl, (pw_cell_below HB.out hw295_0), (pw_cell_below HB.out hw295_1)⟩ (fun hHeld => ?_)
   clear hK K
   refine norm_ (a' := ?_) ?_ ?_
   rotate_left
   {
   show Act.put _ (some 9) _ = _
   simp only [qzs]
   rfl
   }
   refine one_ (i := 6) (N := some 24) (bqz 9 255) rfl rfl qzc (by decide) (fun K hK => ?_)
   refine goes_ Try.func94 (by kernel_rfl) rfl #[.agg #[.int .i64 a0_0, .int .i64 a0_1, .slice A0_2 l0_2.length c0_2], .int .i64 ((rd_T48 l1 x8_1).f0)] (by rfl) rfl rfl qz3 ?_
   with_reducible refine (spec_l5Stack.calls k1 a0_0 a0_1 _ _ l0_2 ((rd_T48 l1 x8_1).f0) t296 t297 t298 _ ?side1 ?side2 A8.out).mono ?_
   (case side1 => exact qz17)
   (case side2 => exact HC0_2.out)
   rintro e w26 ⟨rfl, hb⟩
   refine ⟨_, rfl, ?_⟩
   have n0_ := aM (Kd.R_below (rr_ HO_6.out) hb)
   have n1_ := aM (blk_below (bk_ BK291.out) hb)
   have n2_ := aM (blk_below (bk_ BK299.out) hb)
   have n3_ := aM (below_step qz9 hb)
   clear HO_6
   clear BK291
   clear BK299
   clear HB
   have HO_6 := n0_
   have BK291 := n1_
   have BK299 := n2_
   have HB := n3_
   clear n0_ n1_ n2_ n3_
   (try clear hb)
   (try clear hb2)
   (try clear hk)
   (try clear hi)
   refine hK.out _ _ ⟨(blk_cell BK291.out 0).trans rfl, (blk_cell BK291.out 1).trans rfl, (blk_cell BK291.out 2).trans rfl, (pw_cell_below HB.out hw295_0), (pw_cell_below HB.out hw295_1)⟩ (fun hHeld => ?_)
   clear hK K
   refine norm_ (a' := ?_) ?_ ?_
   rotate_left
   {
   show Act.put _ (some 24) _ = _
   simp only [qzs]
   rfl
   }
   exact norm_ qz38 (hCont (gb299) _ ⟨hHeld, (rr_ HO_6.out), (bk_ BK291.out), (bk_ BK299.out), GW299.out, GE299.out, NB291_299.out, NB299_291.out, qz9⟩)
   }
   }
   rintro gb299 w27 ⟨hS_, h0_, h1_, h2_, h3_, h4_, h5_, h6_, h7_⟩
   have n0_ : Aside0 (Kd.R k50 50 w27 w.heap.size (fun _ => True) u6 x6_1) := ⟨h0_⟩
   have n1_ : Aside0 (w27.heap[gb291]? = some (.cells #[.int .i64 a0_0, .int .i64 a0_1, .slice A0_2 l0_2.length c0_2] 79 (0, 0))) := ⟨h1_⟩
   have n2_ : Aside0 (w27.heap[gb299]? = some (.cells #[.int .i64 0, .int .i64 0, .int .i64 0] 72 (0, 0))) := ⟨h2_⟩
   have n3_ : Aside0 (w.heap.size ≤ gb299) := ⟨h3_⟩
   have n4_ : Aside0 (w.heap.size ≤ gb299) := ⟨h4_⟩
   have n5_ : Aside0 (gb291 ≠ gb299) := ⟨h5_⟩
   have n6_ : Aside0 (gb299 ≠ gb291) := ⟨h6_⟩
   have n7_ : Aside0 (Below w.heap.size w w27) := ⟨h7_⟩
   clear HO_6
   clear BK291
   clear HB
   clear h0_ h1_ h2_ h3_ h4_ h5_ h6_ h7_
   have HO_6 := n0_
   have BK291 := n1_
   have BK299 := n2_
   have GW299 := n3_
   have GE299 := n4_
   have NB291_299 := n5_
   have NB299_291 := n6_
   have HB := n7_
   clear n0_ n1_ n2_ n3_ n4_ n5_ n6_ n7_
   have hHeld : w27.cell? ⟨gb291, 0, none⟩ = some (.int .i64 a0_0) ∧ w27.cell? ⟨gb291, 1, none⟩ = some (.int .i64 a0_1) ∧ w27.cell? ⟨gb291, 2, none⟩ = some (.slice A0_2 l0_2.length c0_2) ∧ w27.cell? (ad295.add ((x8_1).toNat * 2)) = some (.int .i64 ((rd_T48 l1 x8_1).f0)) ∧ w27.cell? ⟨(ad295.add ((x8_1).toNat * 2)).block, (ad295.add ((x8_1).toNat * 2)).off + 1, none⟩ = some (.int .i64 ((rd_T48 l1 x8_1).f1)) := hS_
   refine norm_ (a' := ?_) ?_ ?_
   rotate_left
   {
   simp only [putAll, Act.put, List.setIfInBounds_toArray, List.set_cons_zero, List.set_cons_succ]
   rfl
   }
   refine one_ (i := 8) (N := none) (bqz 9 511) rfl rfl qzc (by decide) (fun K hK => ?_)
   have hs28 : w27.cell? ⟨gb299, 0, none⟩ = some (.int .i64 0) := (blk_cell BK299.out 0).trans rfl
   have hfs28 := blk_frozen BK299.out 0
   have hns28_0 := NB291_299.out
   have hms28_0 := NB299_291.out
   have hs29 : w27.cell? ⟨gb299, 1, none⟩ = some (.int .i64 0) := (blk_cell BK299.out 1).trans rfl
   have hfs29 := blk_frozen BK299.out 1
   have hns29_0 := NB291_299.out
   have hms29_0 := NB299_291.out
   have hs30 : w27.cell? ⟨gb299, 2, none⟩ = some (.int .i64 0) := (blk_cell BK299.out 2).trans rfl
   have hfs30 := blk_frozen BK299.out 2
   have hns30_0 := NB291_299.out
   have hms30_0 := NB299_291.out
   refine skip_ (w1 := ?_) (by rfl) rfl ?_ ?_
   rotate_left
   {
   go_simp
   rfl
   }
   refine hK.out _ _ ⟨((cell_far (p := ⟨gb299, _, none⟩) NB291_299.out _).trans (((cell_far (p := ⟨gb299, _, none⟩) NB291_299.out _).trans (((cell_far (p := ⟨gb299, _, none⟩) NB291_299.out _).trans (hHeld.1)))))), ((cell_far (p := ⟨gb299, _, none⟩) NB291_299.out _).trans (((cell_far (p := ⟨gb299, _, none⟩) NB291_299.out _).trans (((cell_far (p := ⟨gb299, _, none⟩) NB291_299.out _).trans (hHeld.2.1)))))), ((cell_far (p := ⟨gb299, _, none⟩) NB291_299.out _).trans (((cell_far (p := ⟨gb299, _, none⟩) NB291_299.out _).trans (((cell_far (p := ⟨gb299, _, none⟩) NB291_299.out _).trans (hHeld.2.2.1)))))), ((cell_far (p := ⟨gb299, _, none⟩) (by first | exact Nat.ne_of_lt (Nat.lt_of_lt_of_le (by have := World.block_lt_of_cell? _ _ hw295_0; first | rwa [add_block] at this | exact this) GW299.out) | (rw [add_block]; exact Nat.ne_of_lt (Nat.lt_of_lt_of_le (by have := World.block_lt_of_cell? _ _ hw295_0; first | rwa [add_block] at this | exact this) GW299.out)) | (show (Addr.add _ _).block ≠ _; rw [add_block]; exact Nat.ne_of_lt (Nat.lt_of_lt_of_le (by have := World.block_lt_of_cell? _ _ hw295_0; first | rwa [add_block] at this | exact this) GW299.out)) | (dsimp only; exact Nat.ne_of_lt (Nat.lt_of_lt_of_le (by have := World.block_lt_of_cell? _ _ hw295_0; first | rwa [add_block] at this | exact this) GW299.out))) _).trans (((cell_far (p := ⟨gb299, _, none⟩) (by first | exact Nat.ne_of_lt (Nat.lt_of_lt_of_le (by have := World.block_lt_of_cell? _ _ hw295_0; first | rwa [add_block] at this | exact this) GW299.out) | (rw [add_block]; exact Nat.ne_of_lt (Nat.lt_of_lt_of_le (by have := World.block_lt_of_cell? _ _ hw295_0; first | rwa [add_block] at this | exact this) GW299.out)) | (show (Addr.add _ _).block ≠ _; rw [add_block]; exact Nat.ne_of_lt (Nat.lt_of_lt_of_le (by have := World.block_lt_of_cell? _ _ hw295_0; first | rwa [add_block] at this | exact this) GW299.out)) | (dsimp only; exact Nat.ne_of_lt (Nat.lt_of_lt_of_le (by have := World.block_lt_of_cell? _ _ hw295_0; first | rwa [add_block] at this | exact this) GW299.out))) _).trans (((cell_far (p := ⟨gb299, _, none⟩) (by first | exact Nat.ne_of_lt (Nat.lt_of_lt_of_le (by have := World.block_lt_of_cell? _ _ hw295_0; first | rwa [add_block] at this | exact this) GW299.out) | (rw [add_block]; exact Nat.ne_of_lt (Nat.lt_of_lt_of_le (by have := World.block_lt_of_cell? _ _ hw295_0; first | rwa [add_block] at this | exact this) GW299.out)) | (show (Addr.add _ _).block ≠ _; rw [add_block]; exact Nat.ne_of_lt (Nat.lt_of_lt_of_le (by have := World.block_lt_of_cell? _ _ hw295_0; first | rwa [add_block] at this | exact this) GW299.out)) | (dsimp only; exact Nat.ne_of_lt (Nat.lt_of_lt_of_le (by have := World.block_lt_of_cell? _ _ hw295_0; first | rwa [add_block] at this | exact this) GW299.out))) _).trans (hHeld.2.2.2.1)))))), ((cell_far (p := ⟨gb299, _, none⟩) (by first | exact Nat.ne_of_lt (Nat.lt_of_lt_of_le (by have := World.block_lt_of_cell? _ _ hw295_1; first | rwa [add_block] at this | exact this) GW299.out) | (rw [add_block]; exact Nat.ne_of_lt (Nat.lt_of_lt_of_le (by have := World.block_lt_of_cell? _ _ hw295_1; first | rwa [add_block] at this | exact this) GW299.out)) | (show (Addr.add _ _).block ≠ _; rw [add_block]; exact Nat.ne_of_lt (Nat.lt_of_lt_of_le (by have := World.block_lt_of_cell? _ _ hw295_1; first | rwa [add_block] at this | exact this) GW299.out)) | (dsimp only; exact Nat.ne_of_lt (Nat.lt_of_lt_of_le (by have := World.block_lt_of_cell? _ _ hw295_1; first | rwa [add_block] at this | exact this) GW299.out))) _).trans (((cell_far (p := ⟨gb299, _, none⟩) (by first | exact Nat.ne_of_lt (Nat.lt_of_lt_of_le (by have := World.block_lt_of_cell? _ _ hw295_1; first | rwa [add_block] at this | exact this) GW299.out) | (rw [add_block]; exact Nat.ne_of_lt (Nat.lt_of_lt_of_le (by have := World.block_lt_of_cell? _ _ hw295_1; first | rwa [add_block] at this | exact this) GW299.out)) | (show (Addr.add _ _).block ≠ _; rw [add_block]; exact Nat.ne_of_lt (Nat.lt_of_lt_of_le (by have := World.block_lt_of_cell? _ _ hw295_1; first | rwa [add_block] at this | exact this) GW299.out)) | (dsimp only; exact Nat.ne_of_lt (Nat.lt_of_lt_of_le (by have := World.block_lt_of_cell? _ _ hw295_1; first | rwa [add_block] at this | exact this) GW299.out))) _).trans (((cell_far (p := ⟨gb299, _, none⟩) (by first | exact Nat.ne_of_lt (Nat.lt_of_lt_of_le (by have := World.block_lt_of_cell? _ _ hw295_1; first | rwa [add_block] at this | exact this) GW299.out) | (rw [add_block]; exact Nat.ne_of_lt (Nat.lt_of_lt_of_le (by have := World.block_lt_of_cell? _ _ hw295_1; first | rwa [add_block] at this | exact this) GW299.out)) | (show (Addr.add _ _).block ≠ _; rw [add_block]; exact Nat.ne_of_lt (Nat.lt_of_lt_of_le (by have := World.block_lt_of_cell? _ _ hw295_1; first | rwa [add_block] at this | exact this) GW299.out)) | (dsimp only; exact Nat.ne_of_lt (Nat.lt_of_lt_of_le (by have := World.block_lt_of_cell? _ _ hw295_1; first | rwa [add_block] at this | exact this) GW299.out))) _).trans (hHeld.2.2.2.2))))))⟩ (fun hHeld => ?_)
   clear hK K
   refine done_ (done_of HT_.out (by kernel_rfl)) ?_
   have hnb31 := NB299_291.out
   have hnc31 := NB291_299.out
   obtain ⟨hcz32_0, hcz32_1, hcz32_2, hfz32_0, hfz32_1, hfz32_2⟩ := b6_ BK299.out
   have p300 : 0 ≤ (x8_1 : Int) := of_decide_eq_true qz2
   have q300 : x8_1 < (l1.length : Int) := of_decide_eq_true qz2
   obtain ⟨ad300, e300, hx300_0, hx300_1⟩ := at_T48 HR1.out x8_1 p300 q300
   obtain rfl : ad295 = ad300 := (by injection e300)
   have hn300_0 : ad295.block ≠ gb299 := Nat.ne_of_lt (Nat.lt_of_lt_of_le (by have := World.block_lt_of_cell? _ _ hx300_0; first | rwa [add_block] at this | exact this) GW299.out)
   have hn300_1 : ad295.block ≠ gb299 := Nat.ne_of_lt (Nat.lt_of_lt_of_le (by have := World.block_lt_of_cell? _ _ hx300_0; first | rwa [add_block] at this | exact this) GW299.out)
   have hn300_2 : ad295.block ≠ gb299 := Nat.ne_of_lt (Nat.lt_of_lt_of_le (by have := World.block_lt_of_cell? _ _ hx300_0; first | rwa [add_block] at this | exact this) GW299.out)
   replace hx300_0 := pw_cell_below HB.out hx300_0
   replace hx300_1 := pw_cell_below HB.out hx300_1
   replace hx300_0 := (cell_far (p := ⟨gb299, 0, none⟩) qz31 (.int .i64 t296)).trans hx300_0
   replace hx300_1 := (cell_far (p := ⟨gb299, 0, none⟩) qz31 (.int .i64 t296)).trans hx300_1
   replace hx300_0 := (cell_far (p := ⟨gb299, 1, none⟩) qz32 (.int .i64 t297)).trans hx300_0
   replace hx300_1 := (cell_far (p := ⟨gb299, 1, none⟩) qz32 (.int .i64 t297)).trans hx300_1
   replace hx300_0 := (cell_far (p := ⟨gb299, 2, none⟩) qz33 (.int .i64 t298)).trans hx300_0
   replace hx300_1 := (cell_far (p := ⟨gb299, 2, none⟩) qz33 (.int .i64 t298)).trans hx300_1
   clear hn300_0
   clear hn300_1
   clear hn300_2
   replace p300 := eq_true p300
   replace q300 := eq_true q300
   have p301 : 0 ≤ (x8_1 : Int) := of_decide_eq_true qz2
   have q301 : x8_1 < (l1.length : Int) := of_decide_eq_true qz2
   obtain ⟨ad301, e301, hx301_0, hx301_1⟩ := at_T48 HR1.out x8_1 p301 q301
   obtain rfl : ad295 = ad301 := (by injection e301)
   have hn301_0 : ad295.block ≠ gb299 := Nat.ne_of_lt (Nat.lt_of_lt_of_le (by have := World.block_lt_of_cell? _ _ hx301_0; first | rwa [add_block] at this | exact this) GW299.out)
   have hn301_1 : ad295.block ≠ gb299 := Nat.ne_of_lt (Nat.lt_of_lt_of_le (by have := World.block_lt_of_cell? _ _ hx301_0; first | rwa [add_block] at this | exact this) GW299.out)
   have hn301_2 : ad295.block ≠ gb299 := Nat.ne_of_lt (Nat.lt_of_lt_of_le (by have := World.block_lt_of_cell? _ _ hx301_0; first | rwa [add_block] at this | exact this) GW299.out)
   replace hx301_0 := pw_cell_below HB.out hx301_0
   replace hx301_1 := pw_cell_below HB.out hx301_1
   replace hx301_0 := (cell_far (p := ⟨gb299, 0, none⟩) qz51 (.int .i64 t296)).trans hx301_0
   replace hx301_1 := (cell_far (p := ⟨gb299, 0, none⟩) qz51 (.int .i64 t296)).trans hx301_1
   replace hx301_0 := (cell_far (p := ⟨gb299, 1, none⟩) qz52 (.int .i64 t297)).trans hx301_0
   replace hx301_1 := (cell_far (p := ⟨gb299, 1, none⟩) qz52 (.int .i64 t297)).trans hx301_1
   replace hx301_0 := (cell_far (p := ⟨gb299, 2, none⟩) qz53 (.int .i64 t298)).trans hx301_0
   replace hx301_1 := (cell_far (p := ⟨gb299, 2, none⟩) qz53 (.int .i64 t298)).trans hx301_1
   clear hn301_0
   clear hn301_1
   clear hn301_2
   replace p301 := eq_true p301
   replace q301 := eq_true q301
   try go_wp2
   go_roundg k1
   case measure => have := HK1.out; omega
   case rel => exact ⟨(x6_1), (x7_1), (wrap64 (x8_1 + 1)), qz4, qz4, H', ⟨by have := HK1.out; omega⟩, ⟨by (with_reducible repeat (first | apply Kd.R_alloc | apply Kd.R_drewN | apply Kd.R_drew)); exact Kd.R_mono (Kd.R_far (p := ⟨gb299, 2, none⟩) (Kd.R_far (p := ⟨gb299, 1, none⟩) (Kd.R_far (p := ⟨gb299, 0, none⟩) (Kd.R_types HO_6.out BK299.out (by decide)) (fun _ hk => hk.2) (.int .i64 t296)) (fun _ hk => hk.2) (.int .i64 t297)) (fun _ hk => hk.2) (.int .i64 t298)) (fun _ hk => trivial)⟩, ⟨by (with_reducible repeat (first | refine blk_drewN ?_ _ | refine blk_drew ?_ | refine blk_alloc ?_ _)); refine blk_far ?_ NB291_299.out _; (with_reducible repeat (first | refine blk_drewN ?_ _ | refine blk_drew ?_ | refine blk_alloc ?_ _)); refine blk_far ?_ NB291_299.out _; (with_reducible repeat (first | refine blk_drewN ?_ _ | refine blk_drew ?_ | refine blk_alloc ?_ _)); refine blk_far ?_ NB291_299.out _; exact bk_ BK291.out⟩, ⟨by repeat (first | (with_reducible first | exact HB.out | apply below_alloc | apply pw_below_drewN | apply below_drew1 | refine below_set ?_ GE291.out | refine below_set ?_ GE299.out) | exact HB.out)⟩⟩
   }
   }
   {
   rw [if_neg c9] at H
   have c9b0 := decide_eq_false c9
   clear c9
   by_cases c33 : (wrap64 (t297 - t298)) > 0
   {
   rw [if_pos c33] at H
   have c33b0 := decide_eq_true c33
   clear c33
   by_cases c34 : x6_1.length < 5864062014805
   {
   rw [if_pos c34] at H
   have LMc34 := aM c34
   clear c34
   obtain ⟨y307, hy307⟩ : ∃ y_ : List (S50), y_ = (x6_1 ++ [(⟨a0_0, (rd_T48 l1 x8_1).f0, wrap64 (t297 - t298)⟩ : S50)]) := ⟨_, rfl⟩
   replace H : (spec_l6Could.l0 k1 l1 y307 (wrap64 (x7_1 + (wrap64 (t297 - t298)))) (wrap64 (x8_1 + 1)) a0_0 a0_1 l0_2) = some (r1, r2) := by first | (rw [hy307]; with_reducible exact H) | (have H2_ := (Option.bind_some _ _).symm.trans H; rw [hy307]; with_reducible exact H2_) | (have H2_ := (Option.bind_some _ _).symm.trans H; with_reducible exact H2_) | with_reducible exact H | (rw [hy307]; exact H) | exact H
   have Ny307 := aM hy307
   clear hy307
   have H' := aM H
   clear H
   try go_wp2
   have n0_ := aM (Kd.R_drew HO_6.out)
   have n1_ := aM (blk_drew BK291.out)
   have n2_ := aM (below_drew1 HB.out)
   clear HO_6
   clear BK291
   clear HB
   have HO_6 := n0_
   have BK291 := n1_
   have HB := n2_
   clear n0_ n1_ n2_
   have p295 : 0 ≤ (x8_1 : Int) := of_decide_eq_true qz2
   have q295 : x8_1 < (l1.length : Int) := of_decide_eq_true qz2
   obtain ⟨ad295, e295, hx295_0, hx295_1⟩ := at_T48 HR1.out x8_1 p295 q295
   have hw295_1 := hx295_1
   have hw295_0 := hx295_0
   cases e295
   replace hx295_0 := pw_cell_below HB.out hx295_0
   replace hx295_1 := pw_cell_below HB.out hx295_1
   replace p295 := eq_true p295
   replace q295 := eq_true q295
   refine start_ (n := 9) (S := fun w' => w'.cell? ⟨gb291, 0, none⟩ = some (.int .i64 a0_0) ∧ w'.cell? ⟨gb291, 1, none⟩ = some (.int .i64 a0_1) ∧ w'.cell? ⟨gb291, 2, none⟩ = some (.slice A0_2 l0_2.length c0_2) ∧ w'.cell? (ad295.add ((x8_1).toNat * 2)) = some (.int .i64 ((rd_T48 l1 x8_1).f0)) ∧ w'.cell? ⟨(ad295.add ((x8_1).toNat * 2)).block, (ad295.add ((x8_1).toNat * 2)).off + 1, none⟩ = some (.int .i64 ((rd_T48 l1 x8_1).f1))) (ds := []) #[false, false, false, false, false, false, false, false, false] (by kernel_rfl) rfl rfl ⟨(blk_cell BK291.out 0).trans rfl, (blk_cell BK291.out 1).trans rfl, (blk_cell BK291.out 2).trans rfl, (pw_cell_below HB.out hw295_0), (pw_cell_below HB.out hw295_1)⟩ (fun hHeld => ?_); refine with_tabW spec_l6Could.tab6 spec_l6Could.bits6 (fun HT_ HW_ => ?_)
   generalize wr.drew = w35 at HO_6 BK291 HB hx295_0 hx295_1 hHeld ⊢
   refine pI_ 1 19 (bqz 9 2) ?_
   refine pI_ 2 20 (bqz 9 6) ?_
   refine pI_ 3 21 (bqz 9 14) ?_
   refine pI_ 4 22 (bqz 9 30) ?_
   refine tI5_ 0 18 (bqz 9 31) ?_
   refine tI5_ 5 23 (bqz 9 63) ?_
   refine join_ (σ := Nat) 1 (bqz 9 255) (fun s_ => [(24, .agg #[.int .i64 t296, .int .i64 t297, .int .i64 t298]), (9, .pointer (some ⟨s_, 0, none⟩))]) (fun s_ w' => (w'.cell? ⟨gb291, 0, none⟩ = some (.int .i64 a0_0) ∧ w'.cell? ⟨gb291, 1, none⟩ = some (.int .i64 a0_1) ∧ w'.cell? ⟨gb291, 2, none⟩ = some (.slice A0_2 l0_2.length c0_2) ∧ w'.cell? (ad295.add ((x8_1).toNat * 2)) = some (.int .i64 ((rd_T48 l1 x8_1).f0)) ∧ w'.cell? ⟨(ad295.add ((x8_1).toNat * 2)).block, (ad295.add ((x8_1).toNat * 2)).off + 1, none⟩ = some (.int .i64 ((rd_T48 l1 x8_1).f1))) ∧ (Kd.R k50 50 w' w.heap.size (fun _ => True) u6 x6_1) ∧ (w'.heap[gb291]? = some (.cells #[.int .i64 a0_0, .int .i64 a0_1, .slice A0_2 l0_2.length c0_2] 79 (0, 0))) ∧ (w'.heap[s_]? = some (.cells #[.int .i64 0, .int .i64 0, .int .i64 0] 72 (0, 0))) ∧ (w.heap.size ≤ s_) ∧ (w.heap.size ≤ s_) ∧ (gb291 ≠ s_) ∧ (s_ ≠ gb291) ∧ (Below w.heap.size w w')) ?_ ?_
   rotate_left
   {
   intro hCont
   refine two_ (i := 6) (j := 7) (Ni := some 24) (Nj := some 9) (bqz 9 127) (bqz 9 191) rfl rfl rfl rfl (two_of HT_.out (by kernel_rfl)) (by decide) (by decide) (fun K hK => ?_) (fun K hK => ?_)
   {
   skip
   refine goes_ Try.func94 (by kernel_rfl) rfl #[.agg #[.int .i64 a0_0, .int .i64 a0_1, .slice A0_2 l0_2.length c0_2], .int .i64 ((rd_T48 l1 x8_1).f0)] (by rfl) rfl rfl qz3 ?_
   with_reducible refine (spec_l5Stack.calls k1 a0_0 a0_1 _ _ l0_2 ((rd_T48 l1 x8_1).f0) t296 t297 t298 _ ?side1 ?side2 A8.out).mono ?_
   (case side1 => exact qz17)
   (case side2 => exact HC0_2.out)
   rintro e w36 ⟨rfl, hb⟩
   refine ⟨_, rfl, ?_⟩
   have n0_ := aM (Kd.R_below (rr_ HO_6.out) hb)
   have n1_ := aM (blk_below (bk_ BK291.out) hb)
   have n2_ := aM (below_step qz5 hb)
   clear HO_6
   clear BK291
   clear HB
   have HO_6 := n0_
   have BK291 := n1_
   have HB := n2_
   clear n0_ n1_ n2_
   (try clear hb)
   (try clear hb2)
   (try clear hk)
   (try clear hi)
   refine hK.out _ _ ⟨(blk_cell BK291.out 0).trans rfl, (blk_cell BK291.out 1).trans rfl, (blk_cell BK291.out 2).trans rfl, (pw_cell_below HB.out hw295_0), (pw_cell_below HB.out hw295_1)⟩ (fun hHeld => ?_)
   clear hK K
   refine norm_ (a' := ?_) ?_ ?_
   rotate_left
   {
   show Act.put _ (some 24) _ = _
   simp only [qzs]
   rfl
   }
   refine one_ (i := 7) (N := some 9) (bqz 9 255) rfl rfl qzc (by decide) (fun K hK => ?_)
   refine box_step ?hg (N := 9) ?hd (cs := #[.int .i64 0, .int .i64 0, .int .i64 0]) (t := 72) ?hr ?_; (case hd => rfl); (case hg => rfl); (case hr => exact qz37)
   intro gb299 hg w37 hbox hb
   have n0_ := aM (Kd.R_below (rr_ HO_6.out) hb)
   have n1_ := aM (blk_below (bk_ BK291.out) hb)
   have n2_ := aM (below_step qz5 hb)
   have n3_ := aM (hbox)
   have n4_ := aM ((by rw [hg]; exact (below_size qz5) : w.heap.size ≤ gb299))
   have n5_ := aM ((by rw [hg]; exact (below_size qz5) : w.heap.size ≤ gb299))
   have n6_ := aM ((by rw [hg]; exact Nat.ne_of_lt (blk_lt (bk_ BK291.out)) : gb291 ≠ gb299))
   have n7_ := aM ((by rw [hg]; exact Nat.ne_of_gt (blk_lt (bk_ BK291.out)) : gb299 ≠ gb291))
   clear HO_6
   clear BK291
   clear HB
   have HO_6 := n0_
   have BK291 := n1_
   have HB := n2_
   have BK299 := n3_
   have GW299 := n4_
   have GE299 := n5_
   have NB291_299 := n6_
   have NB299_291 := n7_
   clear n0_ n1_ n2_ n3_ n4_ n5_ n6_ n7_
   clear hb hbox hg
   refine hK.out _ _ ⟨(blk_cell BK291.out 0).trans rfl, (blk_cell BK291.out 1).trans rfl, (blk_cell BK291.out 2).trans rfl, (pw_cell_below HB.out hw295_0), (pw_cell_below HB.out hw295_1)⟩ (fun hHeld => ?_)
   clear hK K
   refine norm_ (a' := ?_) ?_ ?_
   rotate_left
   {
   show Act.put _ (some 9) _ = _
   simp only [qzs]
   rfl
   }
   exact norm_ qz38 (hCont (gb299) _ ⟨hHeld, (rr_ HO_6.out), (bk_ BK291.out), (bk_ BK299.out), GW299.out, GE299.out, NB291_299.out, NB299_291.out, qz9⟩)
   }
   {
   skip
   refine box_step ?hg (N := 9) ?hd (cs := #[.int .i64 0, .int .i64 0, .int .i64 0]) (t := 72) ?hr ?_; (case hd => rfl); (case hg => rfl); (case hr => exact qz37)
   intro gb299 hg w36 hbox hb
   have n0_ := aM (Kd.R_below (rr_ HO_6.out) hb)
   have n1_ := aM (blk_below (bk_ BK291.out) hb)
   have n2_ := aM (below_step qz5 hb)
   have n3_ := aM (hbox)
   have n4_ := aM ((by rw [hg]; exact (below_size qz5) : w.heap.size ≤ gb299))
   have n5_ := aM ((by rw [hg]; exact (below_size qz5) : w.heap.size ≤ gb299))
   have n6_ := aM ((by rw [hg]; exact Nat.ne_of_lt (blk_lt (bk_ BK291.out)) : gb291 ≠ gb299))
   have n7_ := aM ((by rw [hg]; exact Nat.ne_of_gt (blk_lt (bk_ BK291.out)) : gb299 ≠ gb291))
   clear HO_6
   clear BK291
   clear HB
   have HO_6 := n0_
   have BK291 := n1_
   have HB := n2_
   have BK299 := n3_
   have GW299 := n4_
   have GE299 := n5_
   have NB291_299 := n6_
   have NB299_291 := n7_
   clear n0_ n1_ n2_ n3_ n4_ n5_ n6_ n7_
   clear hb hbox hg
   refine hK.out _ _ ⟨(blk_cell BK291.out 0).trans rfl, (blk_cell BK291.out 1).trans rfl, (blk_cell BK291.out 2).trans rfl, (pw_cell_below HB.out hw295_0), (pw_cell_below HB.out hw295_1)⟩ (fun hHeld => ?_)
   clear hK K
   refine norm_ (a' := ?_) ?_ ?_
   rotate_left
   {
   show Act.put _ (some 9) _ = _
   simp only [qzs]
   rfl
   }
   refine one_ (i := 6) (N := some 24) (bqz 9 255) rfl rfl qzc (by decide) (fun K hK => ?_)
   refine goes_ Try.func94 (by kernel_rfl) rfl #[.agg #[.int .i64 a0_0, .int .i64 a0_1, .slice A0_2 l0_2.length c0_2], .int .i64 ((rd_T48 l1 x8_1).f0)] (by rfl) rfl rfl qz3 ?_
   with_reducible refine (spec_l5Stack.calls k1 a0_0 a0_1 _ _ l0_2 ((rd_T48 l1 x8_1).f0) t296 t297 t298 _ ?side1 ?side2 A8.out).mono ?_
   (case side1 => exact qz17)
   (case side2 => exact HC0_2.out)
   rintro e w37 ⟨rfl, hb⟩
   refine ⟨_, rfl, ?_⟩
   have n0_ := aM (Kd.R_below (rr_ HO_6.out) hb)
   have n1_ := aM (blk_below (bk_ BK291.out) hb)
   have n2_ := aM (blk_below (bk_ BK299.out) hb)
   have n3_ := aM (below_step qz9 hb)
   clear HO_6
   clear BK291
   clear BK299
   clear HB
   have HO_6 := n0_
   have BK291 := n1_
   have BK299 := n2_
   have HB := n3_
   clear n0_ n1_ n2_ n3_
   (try clear hb)
   (try clear hb2)
   (try clear hk)
   (try clear hi)
   refine hK.out _ _ ⟨(blk_cell BK291.out 0).trans rfl, (blk_cell BK291.out 1).trans rfl, (blk_cell BK291.out 2).trans rfl, (pw_cell_below HB.out hw295_0), (pw_cell_below HB.out hw295_1)⟩ (fun hHeld => ?_)
   clear hK K
   refine norm_ (a' := ?_) ?_ ?_
   rotate_left
   {
   show Act.put _ (some 24) _ = _
   simp only [qzs]
   rfl
   }
   exact norm_ qz38 (hCont (gb299) _ ⟨hHeld, (rr_ HO_6.out), (bk_ BK291.out), (bk_ BK299.out), GW299.out, GE299.out, NB291_299.out, NB299_291.out, qz9⟩)
   }
   }
   rintro gb299 w38 ⟨hS_, h0_, h1_, h2_, h3_, h4_, h5_, h6_, h7_⟩
   have n0_ : Aside0 (Kd.R k50 50 w38 w.heap.size (fun _ => True) u6 x6_1) := ⟨h0_⟩
   have n1_ : Aside0 (w38.heap[gb291]? = some (.cells #[.int .i64 a0_0, .int .i64 a0_1, .slice A0_2 l0_2.length c0_2] 79 (0, 0))) := ⟨h1_⟩
   have n2_ : Aside0 (w38.heap[gb299]? = some (.cells #[.int .i64 0, .int .i64 0, .int .i64 0] 72 (0, 0))) := ⟨h2_⟩
   have n3_ : Aside0 (w.heap.size ≤ gb299) := ⟨h3_⟩
   have n4_ : Aside0 (w.heap.size ≤ gb299) := ⟨h4_⟩
   have n5_ : Aside0 (gb291 ≠ gb299) := ⟨h5_⟩
   have n6_ : Aside0 (gb299 ≠ gb291) := ⟨h6_⟩
   have n7_ : Aside0 (Below w.heap.size w w38) := ⟨h7_⟩
   clear HO_6
   clear BK291
   clear HB
   clear h0_ h1_ h2_ h3_ h4_ h5_ h6_ h7_
   have HO_6 := n0_
   have BK291 := n1_
   have BK299 := n2_
   have GW299 := n3_
   have GE299 := n4_
   have NB291_299 := n5_
   have NB299_291 := n6_
   have HB := n7_
   clear n0_ n1_ n2_ n3_ n4_ n5_ n6_ n7_
   have hHeld : w38.cell? ⟨gb291, 0, none⟩ = some (.int .i64 a0_0) ∧ w38.cell? ⟨gb291, 1, none⟩ = some (.int .i64 a0_1) ∧ w38.cell? ⟨gb291, 2, none⟩ = some (.slice A0_2 l0_2.length c0_2) ∧ w38.cell? (ad295.add ((x8_1).toNat * 2)) = some (.int .i64 ((rd_T48 l1 x8_1).f0)) ∧ w38.cell? ⟨(ad295.add ((x8_1).toNat * 2)).block, (ad295.add ((x8_1).toNat * 2)).off + 1, none⟩ = some (.int .i64 ((rd_T48 l1 x8_1).f1)) := hS_
   refine norm_ (a' := ?_) ?_ ?_
   rotate_left
   {
   simp only [putAll, Act.put, List.setIfInBounds_toArray, List.set_cons_zero, List.set_cons_succ]
   rfl
   }
   refine one_ (i := 8) (N := none) (bqz 9 511) rfl rfl qzc (by decide) (fun K hK => ?_)
   have hs39 : w38.cell? ⟨gb299, 0, none⟩ = some (.int .i64 0) := (blk_cell BK299.out 0).trans rfl
   have hfs39 := blk_frozen BK299.out 0
   have hns39_0 := NB291_299.out
   have hms39_0 := NB299_291.out
   have hs40 : w38.cell? ⟨gb299, 1, none⟩ = some (.int .i64 0) := (blk_cell BK299.out 1).trans rfl
   have hfs40 := blk_frozen BK299.out 1
   have hns40_0 := NB291_299.out
   have hms40_0 := NB299_291.out
   have hs41 : w38.cell? ⟨gb299, 2, none⟩ = some (.int .i64 0) := (blk_cell BK299.out 2).trans rfl
   have hfs41 := blk_frozen BK299.out 2
   have hns41_0 := NB291_299.out
   have hms41_0 := NB299_291.out
   refine skip_ (w1 := ?_) (by rfl) rfl ?_ ?_
   rotate_left
   {
   go_simp
   rfl
   }
   refine hK.out _ _ ⟨((cell_far (p := ⟨gb299, _, none⟩) NB291_299.out _).trans (((cell_far (p := ⟨gb299, _, none⟩) NB291_299.out _).trans (((cell_far (p := ⟨gb299, _, none⟩) NB291_299.out _).trans (hHeld.1)))))), ((cell_far (p := ⟨gb299, _, none⟩) NB291_299.out _).trans (((cell_far (p := ⟨gb299, _, none⟩) NB291_299.out _).trans (((cell_far (p := ⟨gb299, _, none⟩) NB291_299.out _).trans (hHeld.2.1)))))), ((cell_far (p := ⟨gb299, _, none⟩) NB291_299.out _).trans (((cell_far (p := ⟨gb299, _, none⟩) NB291_299.out _).trans (((cell_far (p := ⟨gb299, _, none⟩) NB291_299.out _).trans (hHeld.2.2.1)))))), ((cell_far (p := ⟨gb299, _, none⟩) (by first | exact Nat.ne_of_lt (Nat.lt_of_lt_of_le (by have := World.block_lt_of_cell? _ _ hw295_0; first | rwa [add_block] at this | exact this) GW299.out) | (rw [add_block]; exact Nat.ne_of_lt (Nat.lt_of_lt_of_le (by have := World.block_lt_of_cell? _ _ hw295_0; first | rwa [add_block] at this | exact this) GW299.out)) | (show (Addr.add _ _).block ≠ _; rw [add_block]; exact Nat.ne_of_lt (Nat.lt_of_lt_of_le (by have := World.block_lt_of_cell? _ _ hw295_0; first | rwa [add_block] at this | exact this) GW299.out)) | (dsimp only; exact Nat.ne_of_lt (Nat.lt_of_lt_of_le (by have := World.block_lt_of_cell? _ _ hw295_0; first | rwa [add_block] at this | exact this) GW299.out))) _).trans (((cell_far (p := ⟨gb299, _, none⟩) (by first | exact Nat.ne_of_lt (Nat.lt_of_lt_of_le (by have := World.block_lt_of_cell? _ _ hw295_0; first | rwa [add_block] at this | exact this) GW299.out) | (rw [add_block]; exact Nat.ne_of_lt (Nat.lt_of_lt_of_le (by have := World.block_lt_of_cell? _ _ hw295_0; first | rwa [add_block] at this | exact this) GW299.out)) | (show (Addr.add _ _).block ≠ _; rw [add_block]; exact Nat.ne_of_lt (Nat.lt_of_lt_of_le (by have := World.block_lt_of_cell? _ _ hw295_0; first | rwa [add_block] at this | exact this) GW299.out)) | (dsimp only; exact Nat.ne_of_lt (Nat.lt_of_lt_of_le (by have := World.block_lt_of_cell? _ _ hw295_0; first | rwa [add_block] at this | exact this) GW299.out))) _).trans (((cell_far (p := ⟨gb299, _, none⟩) (by first | exact Nat.ne_of_lt (Nat.lt_of_lt_of_le (by have := World.block_lt_of_cell? _ _ hw295_0; first | rwa [add_block] at this | exact this) GW299.out) | (rw [add_block]; exact Nat.ne_of_lt (Nat.lt_of_lt_of_le (by have := World.block_lt_of_cell? _ _ hw295_0; first | rwa [add_block] at this | exact this) GW299.out)) | (show (Addr.add _ _).block ≠ _; rw [add_block]; exact Nat.ne_of_lt (Nat.lt_of_lt_of_le (by have := World.block_lt_of_cell? _ _ hw295_0; first | rwa [add_block] at this | exact this) GW299.out)) | (dsimp only; exact Nat.ne_of_lt (Nat.lt_of_lt_of_le (by have := World.block_lt_of_cell? _ _ hw295_0; first | rwa [add_block] at this | exact this) GW299.out))) _).trans (hHeld.2.2.2.1)))))), ((cell_far (p := ⟨gb299, _, none⟩) (by first | exact Nat.ne_of_lt (Nat.lt_of_lt_of_le (by have := World.block_lt_of_cell? _ _ hw295_1; first | rwa [add_block] at this | exact this) GW299.out) | (rw [add_block]; exact Nat.ne_of_lt (Nat.lt_of_lt_of_le (by have := World.block_lt_of_cell? _ _ hw295_1; first | rwa [add_block] at this | exact this) GW299.out)) | (show (Addr.add _ _).block ≠ _; rw [add_block]; exact Nat.ne_of_lt (Nat.lt_of_lt_of_le (by have := World.block_lt_of_cell? _ _ hw295_1; first | rwa [add_block] at this | exact this) GW299.out)) | (dsimp only; exact Nat.ne_of_lt (Nat.lt_of_lt_of_le (by have := World.block_lt_of_cell? _ _ hw295_1; first | rwa [add_block] at this | exact this) GW299.out))) _).trans (((cell_far (p := ⟨gb299, _, none⟩) (by first | exact Nat.ne_of_lt (Nat.lt_of_lt_of_le (by have := World.block_lt_of_cell? _ _ hw295_1; first | rwa [add_block] at this | exact this) GW299.out) | (rw [add_block]; exact Nat.ne_of_lt (Nat.lt_of_lt_of_le (by have := World.block_lt_of_cell? _ _ hw295_1; first | rwa [add_block] at this | exact this) GW299.out)) | (show (Addr.add _ _).block ≠ _; rw [add_block]; exact Nat.ne_of_lt (Nat.lt_of_lt_of_le (by have := World.block_lt_of_cell? _ _ hw295_1; first | rwa [add_block] at this | exact this) GW299.out)) | (dsimp only; exact Nat.ne_of_lt (Nat.lt_of_lt_of_le (by have := World.block_lt_of_cell? _ _ hw295_1; first | rwa [add_block] at this | exact this) GW299.out))) _).trans (((cell_far (p := ⟨gb299, _, none⟩) (by first | exact Nat.ne_of_lt (Nat.lt_of_lt_of_le (by have := World.block_lt_of_cell? _ _ hw295_1; first | rwa [add_block] at this | exact this) GW299.out) | (rw [add_block]; exact Nat.ne_of_lt (Nat.lt_of_lt_of_le (by have := World.block_lt_of_cell? _ _ hw295_1; first | rwa [add_block] at this | exact this) GW299.out)) | (show (Addr.add _ _).block ≠ _; rw [add_block]; exact Nat.ne_of_lt (Nat.lt_of_lt_of_le (by have := World.block_lt_of_cell? _ _ hw295_1; first | rwa [add_block] at this | exact this) GW299.out)) | (dsimp only; exact Nat.ne_of_lt (Nat.lt_of_lt_of_le (by have := World.block_lt_of_cell? _ _ hw295_1; first | rwa [add_block] at this | exact this) GW299.out))) _).trans (hHeld.2.2.2.2))))))⟩ (fun hHeld => ?_)
   clear hK K
   refine done_ (done_of HT_.out (by kernel_rfl)) ?_
   have hnb42 := NB299_291.out
   have hnc42 := NB291_299.out
   obtain ⟨hcz43_0, hcz43_1, hcz43_2, hfz43_0, hfz43_1, hfz43_2⟩ := b6_ BK299.out
   have p300 : 0 ≤ (x8_1 : Int) := of_decide_eq_true qz2
   have q300 : x8_1 < (l1.length : Int) := of_decide_eq_true qz2
   obtain ⟨ad300, e300, hx300_0, hx300_1⟩ := at_T48 HR1.out x8_1 p300 q300
   obtain rfl : ad295 = ad300 := (by injection e300)
   have hn300_0 : ad295.block ≠ gb299 := Nat.ne_of_lt (Nat.lt_of_lt_of_le (by have := World.block_lt_of_cell? _ _ hx300_0; first | rwa [add_block] at this | exact this) GW299.out)
   have hn300_1 : ad295.block ≠ gb299 := Nat.ne_of_lt (Nat.lt_of_lt_of_le (by have := World.block_lt_of_cell? _ _ hx300_0; first | rwa [add_block] at this | exact this) GW299.out)
   have hn300_2 : ad295.block ≠ gb299 := Nat.ne_of_lt (Nat.lt_of_lt_of_le (by have := World.block_lt_of_cell? _ _ hx300_0; first | rwa [add_block] at this | exact this) GW299.out)
   replace hx300_0 := pw_cell_below HB.out hx300_0
   replace hx300_1 := pw_cell_below HB.out hx300_1
   replace hx300_0 := (cell_far (p := ⟨gb299, 0, none⟩) qz31 (.int .i64 t296)).trans hx300_0
   replace hx300_1 := (cell_far (p := ⟨gb299, 0, none⟩) qz31 (.int .i64 t296)).trans hx300_1
   replace hx300_0 := (cell_far (p := ⟨gb299, 1, none⟩) qz32 (.int .i64 t297)).trans hx300_0
   replace hx300_1 := (cell_far (p := ⟨gb299, 1, none⟩) qz32 (.int .i64 t297)).trans hx300_1
   replace hx300_0 := (cell_far (p := ⟨gb299, 2, none⟩) qz33 (.int .i64 t298)).trans hx300_0
   replace hx300_1 := (cell_far (p := ⟨gb299, 2, none⟩) qz33 (.int .i64 t298)).trans hx300_1
   clear hn300_0
   clear hn300_1
   clear hn300_2
   replace p300 := eq_true p300
   replace q300 := eq_true q300
   try go_wp2
   generalize hq_ : (((w38.setCell ⟨gb299, 0, none⟩ (.int .i64 t296)).setCell ⟨gb299, 1, none⟩ (.int .i64 t297)).setCell ⟨gb299, 2, none⟩ (.int .i64 t298)) = w44
   have n0_ : Aside0 (Kd.R k50 50 w44 w.heap.size (fun _ => True) u6 x6_1) := ⟨by rw [← hq_]; exact (by (with_reducible repeat (first | apply Kd.R_alloc | apply Kd.R_drewN | apply Kd.R_drew)); exact Kd.R_mono (Kd.R_far (p := ⟨gb299, 2, none⟩) (Kd.R_far (p := ⟨gb299, 1, none⟩) (Kd.R_far (p := ⟨gb299, 0, none⟩) (Kd.R_types HO_6.out BK299.out (by decide)) (fun _ hk => hk.2) (.int .i64 t296)) (fun _ hk => hk.2) (.int .i64 t297)) (fun _ hk => hk.2) (.int .i64 t298)) (fun _ hk => trivial))⟩
   have n1_ : Aside0 (w44.heap[gb291]? = some (.cells #[.int .i64 a0_0, .int .i64 a0_1, .slice A0_2 l0_2.length c0_2] 79 (0, 0))) := ⟨by rw [← hq_]; exact qz43⟩
   have n2_ : Aside0 (w44.heap[gb299]? = some (.cells #[.int .i64 t296, .int .i64 t297, .int .i64 t298] 72 (0, 0))) := ⟨by rw [← hq_]; exact (by (with_reducible repeat (first | refine blk_drewN ?_ _ | refine blk_drew ?_ | refine blk_alloc ?_ _)); refine blk_put (cs := #[.int .i64 t296, .int .i64 t297, .int .i64 0]) ?_ 2 _ rfl; (with_reducible repeat (first | refine blk_drewN ?_ _ | refine blk_drew ?_ | refine blk_alloc ?_ _)); refine blk_put (cs := #[.int .i64 t296, .int .i64 0, .int .i64 0]) ?_ 1 _ rfl; (with_reducible repeat (first | refine blk_drewN ?_ _ | refine blk_drew ?_ | refine blk_alloc ?_ _)); refine blk_put (cs := #[.int .i64 0, .int .i64 0, .int .i64 0]) ?_ 0 _ rfl; exact bk_ BK299.out)⟩
   have n3_ : Aside0 (Below w.heap.size w w44) := ⟨by rw [← hq_]; exact qz9⟩
   (try clear HO_6)
   (try clear BK291)
   (try clear BK299)
   (try clear HB)
   clear hq_
   have HO_6 := n0_
   have BK291 := n1_
   have BK299 := n2_
   have HB := n3_
   clear n0_ n1_ n2_ n3_
   have n0_ := aM (Kd.R_drew HO_6.out)
   have n1_ := aM (blk_drew BK291.out)
   have n2_ := aM (blk_drew BK299.out)
   have n3_ := aM (below_drew1 HB.out)
   clear HO_6
   clear BK291
   clear BK299
   clear HB
   have HO_6 := n0_
   have BK291 := n1_
   have BK299 := n2_
   have HB := n3_
   clear n0_ n1_ n2_ n3_
   have p306 : 0 ≤ (x8_1 : Int) := of_decide_eq_true qz2
   have q306 : x8_1 < (l1.length : Int) := of_decide_eq_true qz2
   obtain ⟨ad306, e306, hx306_0, hx306_1⟩ := at_T48 HR1.out x8_1 p306 q306
   have hw306_1 := hx306_1
   have hw306_0 := hx306_0
   obtain rfl : ad295 = ad306 := (by injection e306)
   replace hx306_0 := pw_cell_below HB.out hx306_0
   replace hx306_1 := pw_cell_below HB.out hx306_1
   replace p306 := eq_true p306
   replace q306 := eq_true q306
   refine start_ (n := 13) (S := fun w' => w'.cell? ⟨gb291, 0, none⟩ = some (.int .i64 a0_0) ∧ w'.cell? ⟨gb291, 1, none⟩ = some (.int .i64 a0_1) ∧ w'.cell? ⟨gb291, 2, none⟩ = some (.slice A0_2 l0_2.length c0_2) ∧ w'.cell? (ad295.add ((x8_1).toNat * 2)) = some (.int .i64 ((rd_T48 l1 x8_1).f0)) ∧ w'.cell? ⟨(ad295.add ((x8_1).toNat * 2)).block, (ad295.add ((x8_1).toNat * 2)).off + 1, none⟩ = some (.int .i64 ((rd_T48 l1 x8_1).f1))) (ds := []) #[false, false, false, false, false, false, false, false, false, false, false, false, false] (by kernel_rfl) rfl rfl ⟨(blk_cell BK291.out 0).trans rfl, (blk_cell BK291.out 1).trans rfl, (blk_cell BK291.out 2).trans rfl, (pw_cell_below HB.out hw306_0), (pw_cell_below HB.out hw306_1)⟩ (fun hHeld => ?_); refine with_tabW spec_l6Could.tab11 spec_l6Could.bits11 (fun HT_ HW_ => ?_)
   generalize w44.drew = w45 at HO_6 BK291 BK299 HB hx306_0 hx306_1 hHeld ⊢
   refine pI_ 0 44 (bqz 13 1) ?_
   refine pI_ 1 45 (bqz 13 3) ?_
   refine pI_ 3 47 (bqz 13 11) ?_
   refine pI_ 4 48 (bqz 13 27) ?_
   refine pI_ 5 49 (bqz 13 59) ?_
   refine pI_ 6 50 (bqz 13 123) ?_
   refine pI_ 8 52 (bqz 13 379) ?_
   refine tI5_ 2 46 (bqz 13 383) ?_
   refine tI5_ 7 51 (bqz 13 511) ?_
   refine pI_ 9 53 (bqz 13 1023) ?_
   refine one_ (i := 10) (N := some 54) (bqz 13 2047) rfl rfl qzc (by decide) (fun K hK => ?_)
   refine value_ (w1 := ?_) (v := ?_) (by rfl) rfl ?_ ?_
   rotate_left 2
   {
   go_simp
   constructor
   {
   rfl
   }
   {
   rfl
   }
   }
   refine hK.out _ _ ⟨(blk_cell (blk_alloc BK291.out _) 0).trans rfl, (blk_cell (blk_alloc BK291.out _) 1).trans rfl, (blk_cell (blk_alloc BK291.out _) 2).trans rfl, (World.cell?_alloc_lt _ _ _ (World.block_lt_of_cell? _ _ ((pw_cell_below HB.out hw306_0)))).trans ((pw_cell_below HB.out hw306_0)), (World.cell?_alloc_lt _ _ _ (World.block_lt_of_cell? _ _ ((pw_cell_below HB.out hw306_1)))).trans ((pw_cell_below HB.out hw306_1))⟩ (fun hHeld => ?_)
   clear hK K
   refine norm_ (a' := ?_) ?_ ?_
   rotate_left
   {
   show Act.put _ (some 54) _ = _
   simp only [qzs]
   rfl
   }
   refine one_ (i := 11) (N := some 55) (bqz 13 4095) rfl rfl qzc (by decide) (fun K hK => ?_)
   refine Kd.R_append_step k50 (w0 := w) w.heap.size (by rfl) (.tmp 44) (.tmp 54) 43 50 (.agg #[(.int .i64 0), (.int .i64 0), (.int .i64 0)]) 24 rfl Try.underlying43 info50 rfl (by decide) (by omega) u6 x6_1 (⟨a0_0, (rd_T48 l1 x8_1).f0, wrap64 (t297 - t298)⟩ : S50) [.int .i64 a0_0, .int .i64 ((rd_T48 l1 x8_1).f0), .int .i64 (wrap64 (t297 - t298))] (fun _ => True) (fun _ => False) rfl rfl ?aP (fun _ hk => hk.elim) ?aF ?aO ?aB ?aS ?aL ?_
   (case aP => exact k50_mkM _ _ _ (⟨a0_0, (rd_T48 l1 x8_1).f0, wrap64 (t297 - t298)⟩ : S50))
   (case aB => exact qz9)
   (case aF => exact (fun _ _ => trivial))
   (case aO => exact (rr_ HO_6.out))
   (case aS => exact (below_size qz9))
   (case aL => have := LMc34.out; omega)
   intro v308 w46 ho hb hg hat
   rw [← Ny307.out] at ho
   have n0_ := aM (blk_grown (bk_ BK291.out) hg (Kd.R_ne HO_6.out BK291.out (by decide)))
   have n1_ := aM (blk_grown (bk_ BK299.out) hg (Kd.R_ne HO_6.out BK299.out (by decide)))
   have n2_ := aM (hb)
   have n3_ := aM (ho)
   clear BK291
   clear BK299
   clear HB
   clear HO_6
   have BK291 := n0_
   have BK299 := n1_
   have HB := n2_
   have HO309 := n3_
   clear n0_ n1_ n2_ n3_
   clear ho hb hg hat
   refine hK.out _ _ ⟨(blk_cell BK291.out 0).trans rfl, (blk_cell BK291.out 1).trans rfl, (blk_cell BK291.out 2).trans rfl, (pw_cell_below HB.out hw306_0), (pw_cell_below HB.out hw306_1)⟩ (fun hHeld => ?_)
   clear hK K
   refine norm_ (a' := ?_) ?_ ?_
   rotate_left
   {
   show Act.put _ (some 55) _ = _
   simp only [qzs]
   rfl
   }
   refine pI_ 12 6 (bqz 13 8191) ?_
   refine done_ (done_of HT_.out (by kernel_rfl)) ?_
   try go_wp2
   go_roundg k1
   case measure => have := HK1.out; omega
   case rel => exact ⟨(y307), (wrap64 (x7_1 + (wrap64 (t297 - t298)))), (wrap64 (x8_1 + 1)), qz4, qz4, H', ⟨by have := HK1.out; omega⟩, ⟨rm_ HO309.out⟩, ⟨bk_ BK291.out⟩, ⟨by repeat (first | (with_reducible first | exact HB.out | apply below_alloc | apply pw_below_drewN | apply below_drew1 | refine below_set ?_ GE291.out | refine below_set ?_ GE299.out) | exact HB.out)⟩⟩
   }
   {
   rw [if_neg c34] at H
   exact absurd H (by simp)
   }
   }
   {
   rw [if_neg c33] at H
   have c33b0 := decide_eq_false c33
   clear c33
   have H' := aM H
   clear H
   try go_wp2
   have n0_ := aM (Kd.R_drew HO_6.out)
   have n1_ := aM (blk_drew BK291.out)
   have n2_ := aM (below_drew1 HB.out)
   clear HO_6
   clear BK291
   clear HB
   have HO_6 := n0_
   have BK291 := n1_
   have HB := n2_
   clear n0_ n1_ n2_
   have p295 : 0 ≤ (x8_1 : Int) := of_decide_eq_true qz2
   have q295 : x8_1 < (l1.length : Int) := of_decide_eq_true qz2
   obtain ⟨ad295, e295, hx295_0, hx295_1⟩ := at_T48 HR1.out x8_1 p295 q295
   have hw295_1 := hx295_1
   have hw295_0 := hx295_0
   cases e295
   replace hx295_0 := pw_cell_below HB.out hx295_0
   replace hx295_1 := pw_cell_below HB.out hx295_1
   replace p295 := eq_true p295
   replace q295 := eq_true q295
   refine start_ (n := 9) (S := fun w' => w'.cell? ⟨gb291, 0, none⟩ = some (.int .i64 a0_0) ∧ w'.cell? ⟨gb291, 1, none⟩ = some (.int .i64 a0_1) ∧ w'.cell? ⟨gb291, 2, none⟩ = some (.slice A0_2 l0_2.length c0_2) ∧ w'.cell? (ad295.add ((x8_1).toNat * 2)) = some (.int .i64 ((rd_T48 l1 x8_1).f0)) ∧ w'.cell? ⟨(ad295.add ((x8_1).toNat * 2)).block, (ad295.add ((x8_1).toNat * 2)).off + 1, none⟩ = some (.int .i64 ((rd_T48 l1 x8_1).f1))) (ds := []) #[false, false, false, false, false, false, false, false, false] (by kernel_rfl) rfl rfl ⟨(blk_cell BK291.out 0).trans rfl, (blk_cell BK291.out 1).trans rfl, (blk_cell BK291.out 2).trans rfl, (pw_cell_below HB.out hw295_0), (pw_cell_below HB.out hw295_1)⟩ (fun hHeld => ?_); refine with_tabW spec_l6Could.tab6 spec_l6Could.bits6 (fun HT_ HW_ => ?_)
   generalize wr.drew = w47 at HO_6 BK291 HB hx295_0 hx295_1 hHeld ⊢
   refine pI_ 1 19 (bqz 9 2) ?_
   refine pI_ 2 20 (bqz 9 6) ?_
   refine pI_ 3 21 (bqz 9 14) ?_
   refine pI_ 4 22 (bqz 9 30) ?_
   refine tI5_ 0 18 (bqz 9 31) ?_
   refine tI5_ 5 23 (bqz 9 63) ?_
   refine join_ (σ := Nat) 1 (bqz 9 255) (fun s_ => [(24, .agg #[.int .i64 t296, .int .i64 t297, .int .i64 t298]), (9, .pointer (some ⟨s_, 0, none⟩))]) (fun s_ w' => (w'.cell? ⟨gb291, 0, none⟩ = some (.int .i64 a0_0) ∧ w'.cell? ⟨gb291, 1, none⟩ = some (.int .i64 a0_1) ∧ w'.cell? ⟨gb291, 2, none⟩ = some (.slice A0_2 l0_2.length c0_2) ∧ w'.cell? (ad295.add ((x8_1).toNat * 2)) = some (.int .i64 ((rd_T48 l1 x8_1).f0)) ∧ w'.cell? ⟨(ad295.add ((x8_1).toNat * 2)).block, (ad295.add ((x8_1).toNat * 2)).off + 1, none⟩ = some (.int .i64 ((rd_T48 l1 x8_1).f1))) ∧ (Kd.R k50 50 w' w.heap.size (fun _ => True) u6 x6_1) ∧ (w'.heap[gb291]? = some (.cells #[.int .i64 a0_0, .int .i64 a0_1, .slice A0_2 l0_2.length c0_2] 79 (0, 0))) ∧ (w'.heap[s_]? = some (.cells #[.int .i64 0, .int .i64 0, .int .i64 0] 72 (0, 0))) ∧ (w.heap.size ≤ s_) ∧ (w.heap.size ≤ s_) ∧ (gb291 ≠ s_) ∧ (s_ ≠ gb291) ∧ (Below w.heap.size w w')) ?_ ?_
   rotate_left
   {
   intro hCont
   refine two_ (i := 6) (j := 7) (Ni := some 24) (Nj := some 9) (bqz 9 127) (bqz 9 191) rfl rfl rfl rfl (two_of HT_.out (by kernel_rfl)) (by decide) (by decide) (fun K hK => ?_) (fun K hK => ?_)
   {
   skip
   refine goes_ Try.func94 (by kernel_rfl) rfl #[.agg #[.int .i64 a0_0, .int .i64 a0_1, .slice A0_2 l0_2.length c0_2], .int .i64 ((rd_T48 l1 x8_1).f0)] (by rfl) rfl rfl qz3 ?_
   with_reducible refine (spec_l5Stack.calls k1 a0_0 a0_1 _ _ l0_2 ((rd_T48 l1 x8_1).f0) t296 t297 t298 _ ?side1 ?side2 A8.out).mono ?_
   (case side1 => exact qz17)
   (case side2 => exact HC0_2.out)
   rintro e w48 ⟨rfl, hb⟩
   refine ⟨_, rfl, ?_⟩
   have n0_ := aM (Kd.R_below (rr_ HO_6.out) hb)
   have n1_ := aM (blk_below (bk_ BK291.out) hb)
   have n2_ := aM (below_step qz5 hb)
   clear HO_6
   clear BK291
   clear HB
   have HO_6 := n0_
   have BK291 := n1_
   have HB := n2_
   clear n0_ n1_ n2_
   (try clear hb)
   (try clear hb2)
   (try clear hk)
   (try clear hi)
   refine hK.out _ _ ⟨(blk_cell BK291.out 0).trans rfl, (blk_cell BK291.out 1).trans rfl, (blk_cell BK291.out 2).trans rfl, (pw_cell_below HB.out hw295_0), (pw_cell_below HB.out hw295_1)⟩ (fun hHeld => ?_)
   clear hK K
   refine norm_ (a' := ?_) ?_ ?_
   rotate_left
   {
   show Act.put _ (some 24) _ = _
   simp only [qzs]
   rfl
   }
   refine one_ (i := 7) (N := some 9) (bqz 9 255) rfl rfl qzc (by decide) (fun K hK => ?_)
   refine box_step ?hg (N := 9) ?hd (cs := #[.int .i64 0, .int .i64 0, .int .i64 0]) (t := 72) ?hr ?_; (case hd => rfl); (case hg => rfl); (case hr => exact qz37)
   intro gb299 hg w49 hbox hb
   have n0_ := aM (Kd.R_below (rr_ HO_6.out) hb)
   have n1_ := aM (blk_below (bk_ BK291.out) hb)
   have n2_ := aM (below_step qz5 hb)
   have n3_ := aM (hbox)
   have n4_ := aM ((by rw [hg]; exact (below_size qz5) : w.heap.size ≤ gb299))
   have n5_ := aM ((by rw [hg]; exact (below_size qz5) : w.heap.size ≤ gb299))
   have n6_ := aM ((by rw [hg]; exact Nat.ne_of_lt (blk_lt (bk_ BK291.out)) : gb291 ≠ gb299))
   have n7_ := aM ((by rw [hg]; exact Nat.ne_of_gt (blk_lt (bk_ BK291.out)) : gb299 ≠ gb291))
   clear HO_6
   clear BK291
   clear HB
   have HO_6 := n0_
   have BK291 := n1_
   have HB := n2_
   have BK299 := n3_
   have GW299 := n4_
   have GE299 := n5_
   have NB291_299 := n6_
   have NB299_291 := n7_
   clear n0_ n1_ n2_ n3_ n4_ n5_ n6_ n7_
   clear hb hbox hg
   refine hK.out _ _ ⟨(blk_cell BK291.out 0).trans rfl, (blk_cell BK291.out 1).trans rfl, (blk_cell BK291.out 2).trans rfl, (pw_cell_below HB.out hw295_0), (pw_cell_below HB.out hw295_1)⟩ (fun hHeld => ?_)
   clear hK K
   refine norm_ (a' := ?_) ?_ ?_
   rotate_left
   {
   show Act.put _ (some 9) _ = _
   simp only [qzs]
   rfl
   }
   exact norm_ qz38 (hCont (gb299) _ ⟨hHeld, (rr_ HO_6.out), (bk_ BK291.out), (bk_ BK299.out), GW299.out, GE299.out, NB291_299.out, NB299_291.out, qz9⟩)
   }
   {
   skip
   refine box_step ?hg (N := 9) ?hd (cs := #[.int .i64 0, .int .i64 0, .int .i64 0]) (t := 72) ?hr ?_; (case hd => rfl); (case hg => rfl); (case hr => exact qz37)
   intro gb299 hg w48 hbox hb
   have n0_ := aM (Kd.R_below (rr_ HO_6.out) hb)
   have n1_ := aM (blk_below (bk_ BK291.out) hb)
   have n2_ := aM (below_step qz5 hb)
   have n3_ := aM (hbox)
   have n4_ := aM ((by rw [hg]; exact (below_size qz5) : w.heap.size ≤ gb299))
   have n5_ := aM ((by rw [hg]; exact (below_size qz5) : w.heap.size ≤ gb299))
   have n6_ := aM ((by rw [hg]; exact Nat.ne_of_lt (blk_lt (bk_ BK291.out)) : gb291 ≠ gb299))
   have n7_ := aM ((by rw [hg]; exact Nat.ne_of_gt (blk_lt (bk_ BK291.out)) : gb299 ≠ gb291))
   clear HO_6
   clear BK291
   clear HB
   have HO_6 := n0_
   have BK291 := n1_
   have HB := n2_
   have BK299 := n3_
   have GW299 := n4_
   have GE299 := n5_
   have NB291_299 := n6_
   have NB299_291 := n7_
   clear n0_ n1_ n2_ n3_ n4_ n5_ n6_ n7_
   clear hb hbox hg
   refine hK.out _ _ ⟨(blk_cell BK291.out 0).trans rfl, (blk_cell BK291.out 1).trans rfl, (blk_cell BK291.out 2).trans rfl, (pw_cell_below HB.out hw295_0), (pw_cell_below HB.out hw295_1)⟩ (fun hHeld => ?_)
   clear hK K
   refine norm_ (a' := ?_) ?_ ?_
   rotate_left
   {
   show Act.put _ (some 9) _ = _
   simp only [qzs]
   rfl
   }
   refine one_ (i := 6) (N := some 24) (bqz 9 255) rfl rfl qzc (by decide) (fun K hK => ?_)
   refine goes_ Try.func94 (by kernel_rfl) rfl #[.agg #[.int .i64 a0_0, .int .i64 a0_1, .slice A0_2 l0_2.length c0_2], .int .i64 ((rd_T48 l1 x8_1).f0)] (by rfl) rfl rfl qz3 ?_
   with_reducible refine (spec_l5Stack.calls k1 a0_0 a0_1 _ _ l0_2 ((rd_T48 l1 x8_1).f0) t296 t297 t298 _ ?side1 ?side2 A8.out).mono ?_
   (case side1 => exact qz17)
   (case side2 => exact HC0_2.out)
   rintro e w49 ⟨rfl, hb⟩
   refine ⟨_, rfl, ?_⟩
   have n0_ := aM (Kd.R_below (rr_ HO_6.out) hb)
   have n1_ := aM (blk_below (bk_ BK291.out) hb)
   have n2_ := aM (blk_below (bk_ BK299.out) hb)
   have n3_ := aM (below_step qz9 hb)
   clear HO_6
   clear BK291
   clear BK299
   clear HB
   have HO_6 := n0_
   have BK291 := n1_
   have BK299 := n2_
   have HB := n3_
   clear n0_ n1_ n2_ n3_
   (try clear hb)
   (try clear hb2)
   (try clear hk)
   (try clear hi)
   refine hK.out _ _ ⟨(blk_cell BK291.out 0).trans rfl, (blk_cell BK291.out 1).trans rfl, (blk_cell BK291.out 2).trans rfl, (pw_cell_below HB.out hw295_0), (pw_cell_below HB.out hw295_1)⟩ (fun hHeld => ?_)
   clear hK K
   refine norm_ (a' := ?_) ?_ ?_
   rotate_left
   {
   show Act.put _ (some 24) _ = _
   simp only [qzs]
   rfl
   }
   exact norm_ qz38 (hCont (gb299) _ ⟨hHeld, (rr_ HO_6.out), (bk_ BK291.out), (bk_ BK299.out), GW299.out, GE299.out, NB291_299.out, NB299_291.out, qz9⟩)
   }
   }
   rintro gb299 w50 ⟨hS_, h0_, h1_, h2_, h3_, h4_, h5_, h6_, h7_⟩
   have n0_ : Aside0 (Kd.R k50 50 w50 w.heap.size (fun _ => True) u6 x6_1) := ⟨h0_⟩
   have n1_ : Aside0 (w50.heap[gb291]? = some (.cells #[.int .i64 a0_0, .int .i64 a0_1, .slice A0_2 l0_2.length c0_2] 79 (0, 0))) := ⟨h1_⟩
   have n2_ : Aside0 (w50.heap[gb299]? = some (.cells #[.int .i64 0, .int .i64 0, .int .i64 0] 72 (0, 0))) := ⟨h2_⟩
   have n3_ : Aside0 (w.heap.size ≤ gb299) := ⟨h3_⟩
   have n4_ : Aside0 (w.heap.size ≤ gb299) := ⟨h4_⟩
   have n5_ : Aside0 (gb291 ≠ gb299) := ⟨h5_⟩
   have n6_ : Aside0 (gb299 ≠ gb291) := ⟨h6_⟩
   have n7_ : Aside0 (Below w.heap.size w w50) := ⟨h7_⟩
   clear HO_6
   clear BK291
   clear HB
   clear h0_ h1_ h2_ h3_ h4_ h5_ h6_ h7_
   have HO_6 := n0_
   have BK291 := n1_
   have BK299 := n2_
   have GW299 := n3_
   have GE299 := n4_
   have NB291_299 := n5_
   have NB299_291 := n6_
   have HB := n7_
   clear n0_ n1_ n2_ n3_ n4_ n5_ n6_ n7_
   have hHeld : w50.cell? ⟨gb291, 0, none⟩ = some (.int .i64 a0_0) ∧ w50.cell? ⟨gb291, 1, none⟩ = some (.int .i64 a0_1) ∧ w50.cell? ⟨gb291, 2, none⟩ = some (.slice A0_2 l0_2.length c0_2) ∧ w50.cell? (ad295.add ((x8_1).toNat * 2)) = some (.int .i64 ((rd_T48 l1 x8_1).f0)) ∧ w50.cell? ⟨(ad295.add ((x8_1).toNat * 2)).block, (ad295.add ((x8_1).toNat * 2)).off + 1, none⟩ = some (.int .i64 ((rd_T48 l1 x8_1).f1)) := hS_
   refine norm_ (a' := ?_) ?_ ?_
   rotate_left
   {
   simp only [putAll, Act.put, List.setIfInBounds_toArray, List.set_cons_zero, List.set_cons_succ]
   rfl
   }
   refine one_ (i := 8) (N := none) (bqz 9 511) rfl rfl qzc (by decide) (fun K hK => ?_)
   have hs51 : w50.cell? ⟨gb299, 0, none⟩ = some (.int .i64 0) := (blk_cell BK299.out 0).trans rfl
   have hfs51 := blk_frozen BK299.out 0
   have hns51_0 := NB291_299.out
   have hms51_0 := NB299_291.out
   have hs52 : w50.cell? ⟨gb299, 1, none⟩ = some (.int .i64 0) := (blk_cell BK299.out 1).trans rfl
   have hfs52 := blk_frozen BK299.out 1
   have hns52_0 := NB291_299.out
   have hms52_0 := NB299_291.out
   have hs53 : w50.cell? ⟨gb299, 2, none⟩ = some (.int .i64 0) := (blk_cell BK299.out 2).trans rfl
   have hfs53 := blk_frozen BK299.out 2
   have hns53_0 := NB291_299.out
   have hms53_0 := NB299_291.out
   refine skip_ (w1 := ?_) (by rfl) rfl ?_ ?_
   rotate_left
   {
   go_simp
   rfl
   }
   refine hK.out _ _ ⟨((cell_far (p := ⟨gb299, _, none⟩) NB291_299.out _).trans (((cell_far (p := ⟨gb299, _, none⟩) NB291_299.out _).trans (((cell_far (p := ⟨gb299, _, none⟩) NB291_299.out _).trans (hHeld.1)))))), ((cell_far (p := ⟨gb299, _, none⟩) NB291_299.out _).trans (((cell_far (p := ⟨gb299, _, none⟩) NB291_299.out _).trans (((cell_far (p := ⟨gb299, _, none⟩) NB291_299.out _).trans (hHeld.2.1)))))), ((cell_far (p := ⟨gb299, _, none⟩) NB291_299.out _).trans (((cell_far (p := ⟨gb299, _, none⟩) NB291_299.out _).trans (((cell_far (p := ⟨gb299, _, none⟩) NB291_299.out _).trans (hHeld.2.2.1)))))), ((cell_far (p := ⟨gb299, _, none⟩) (by first | exact Nat.ne_of_lt (Nat.lt_of_lt_of_le (by have := World.block_lt_of_cell? _ _ hw295_0; first | rwa [add_block] at this | exact this) GW299.out) | (rw [add_block]; exact Nat.ne_of_lt (Nat.lt_of_lt_of_le (by have := World.block_lt_of_cell? _ _ hw295_0; first | rwa [add_block] at this | exact this) GW299.out)) | (show (Addr.add _ _).block ≠ _; rw [add_block]; exact Nat.ne_of_lt (Nat.lt_of_lt_of_le (by have := World.block_lt_of_cell? _ _ hw295_0; first | rwa [add_block] at this | exact this) GW299.out)) | (dsimp only; exact Nat.ne_of_lt (Nat.lt_of_lt_of_le (by have := World.block_lt_of_cell? _ _ hw295_0; first | rwa [add_block] at this | exact this) GW299.out))) _).trans (((cell_far (p := ⟨gb299, _, none⟩) (by first | exact Nat.ne_of_lt (Nat.lt_of_lt_of_le (by have := World.block_lt_of_cell? _ _ hw295_0; first | rwa [add_block] at this | exact this) GW299.out) | (rw [add_block]; exact Nat.ne_of_lt (Nat.lt_of_lt_of_le (by have := World.block_lt_of_cell? _ _ hw295_0; first | rwa [add_block] at this | exact this) GW299.out)) | (show (Addr.add _ _).block ≠ _; rw [add_block]; exact Nat.ne_of_lt (Nat.lt_of_lt_of_le (by have := World.block_lt_of_cell? _ _ hw295_0; first | rwa [add_block] at this | exact this) GW299.out)) | (dsimp only; exact Nat.ne_of_lt (Nat.lt_of_lt_of_le (by have := World.block_lt_of_cell? _ _ hw295_0; first | rwa [add_block] at this | exact this) GW299.out))) _).trans (((cell_far (p := ⟨gb299, _, none⟩) (by first | exact Nat.ne_of_lt (Nat.lt_of_lt_of_le (by have := World.block_lt_of_cell? _ _ hw295_0; first | rwa [add_block] at this | exact this) GW299.out) | (rw [add_block]; exact Nat.ne_of_lt (Nat.lt_of_lt_of_le (by have := World.block_lt_of_cell? _ _ hw295_0; first | rwa [add_block] at this | exact this) GW299.out)) | (show (Addr.add _ _).block ≠ _; rw [add_block]; exact Nat.ne_of_lt (Nat.lt_of_lt_of_le (by have := World.block_lt_of_cell? _ _ hw295_0; first | rwa [add_block] at this | exact this) GW299.out)) | (dsimp only; exact Nat.ne_of_lt (Nat.lt_of_lt_of_le (by have := World.block_lt_of_cell? _ _ hw295_0; first | rwa [add_block] at this | exact this) GW299.out))) _).trans (hHeld.2.2.2.1)))))), ((cell_far (p := ⟨gb299, _, none⟩) (by first | exact Nat.ne_of_lt (Nat.lt_of_lt_of_le (by have := World.block_lt_of_cell? _ _ hw295_1; first | rwa [add_block] at this | exact this) GW299.out) | (rw [add_block]; exact Nat.ne_of_lt (Nat.lt_of_lt_of_le (by have := World.block_lt_of_cell? _ _ hw295_1; first | rwa [add_block] at this | exact this) GW299.out)) | (show (Addr.add _ _).block ≠ _; rw [add_block]; exact Nat.ne_of_lt (Nat.lt_of_lt_of_le (by have := World.block_lt_of_cell? _ _ hw295_1; first | rwa [add_block] at this | exact this) GW299.out)) | (dsimp only; exact Nat.ne_of_lt (Nat.lt_of_lt_of_le (by have := World.block_lt_of_cell? _ _ hw295_1; first | rwa [add_block] at this | exact this) GW299.out))) _).trans (((cell_far (p := ⟨gb299, _, none⟩) (by first | exact Nat.ne_of_lt (Nat.lt_of_lt_of_le (by have := World.block_lt_of_cell? _ _ hw295_1; first | rwa [add_block] at this | exact this) GW299.out) | (rw [add_block]; exact Nat.ne_of_lt (Nat.lt_of_lt_of_le (by have := World.block_lt_of_cell? _ _ hw295_1; first | rwa [add_block] at this | exact this) GW299.out)) | (show (Addr.add _ _).block ≠ _; rw [add_block]; exact Nat.ne_of_lt (Nat.lt_of_lt_of_le (by have := World.block_lt_of_cell? _ _ hw295_1; first | rwa [add_block] at this | exact this) GW299.out)) | (dsimp only; exact Nat.ne_of_lt (Nat.lt_of_lt_of_le (by have := World.block_lt_of_cell? _ _ hw295_1; first | rwa [add_block] at this | exact this) GW299.out))) _).trans (((cell_far (p := ⟨gb299, _, none⟩) (by first | exact Nat.ne_of_lt (Nat.lt_of_lt_of_le (by have := World.block_lt_of_cell? _ _ hw295_1; first | rwa [add_block] at this | exact this) GW299.out) | (rw [add_block]; exact Nat.ne_of_lt (Nat.lt_of_lt_of_le (by have := World.block_lt_of_cell? _ _ hw295_1; first | rwa [add_block] at this | exact this) GW299.out)) | (show (Addr.add _ _).block ≠ _; rw [add_block]; exact Nat.ne_of_lt (Nat.lt_of_lt_of_le (by have := World.block_lt_of_cell? _ _ hw295_1; first | rwa [add_block] at this | exact this) GW299.out)) | (dsimp only; exact Nat.ne_of_lt (Nat.lt_of_lt_of_le (by have := World.block_lt_of_cell? _ _ hw295_1; first | rwa [add_block] at this | exact this) GW299.out))) _).trans (hHeld.2.2.2.2))))))⟩ (fun hHeld => ?_)
   clear hK K
   refine done_ (done_of HT_.out (by kernel_rfl)) ?_
   have hnb54 := NB299_291.out
   have hnc54 := NB291_299.out
   obtain ⟨hcz55_0, hcz55_1, hcz55_2, hfz55_0, hfz55_1, hfz55_2⟩ := b6_ BK299.out
   have p300 : 0 ≤ (x8_1 : Int) := of_decide_eq_true qz2
   have q300 : x8_1 < (l1.length : Int) := of_decide_eq_true qz2
   obtain ⟨ad300, e300, hx300_0, hx300_1⟩ := at_T48 HR1.out x8_1 p300 q300
   obtain rfl : ad295 = ad300 := (by injection e300)
   have hn300_0 : ad295.block ≠ gb299 := Nat.ne_of_lt (Nat.lt_of_lt_of_le (by have := World.block_lt_of_cell? _ _ hx300_0; first | rwa [add_block] at this | exact this) GW299.out)
   have hn300_1 : ad295.block ≠ gb299 := Nat.ne_of_lt (Nat.lt_of_lt_of_le (by have := World.block_lt_of_cell? _ _ hx300_0; first | rwa [add_block] at this | exact this) GW299.out)
   have hn300_2 : ad295.block ≠ gb299 := Nat.ne_of_lt (Nat.lt_of_lt_of_le (by have := World.block_lt_of_cell? _ _ hx300_0; first | rwa [add_block] at this | exact this) GW299.out)
   replace hx300_0 := pw_cell_below HB.out hx300_0
   replace hx300_1 := pw_cell_below HB.out hx300_1
   replace hx300_0 := (cell_far (p := ⟨gb299, 0, none⟩) qz31 (.int .i64 t296)).trans hx300_0
   replace hx300_1 := (cell_far (p := ⟨gb299, 0, none⟩) qz31 (.int .i64 t296)).trans hx300_1
   replace hx300_0 := (cell_far (p := ⟨gb299, 1, none⟩) qz32 (.int .i64 t297)).trans hx300_0
   replace hx300_1 := (cell_far (p := ⟨gb299, 1, none⟩) qz32 (.int .i64 t297)).trans hx300_1
   replace hx300_0 := (cell_far (p := ⟨gb299, 2, none⟩) qz33 (.int .i64 t298)).trans hx300_0
   replace hx300_1 := (cell_far (p := ⟨gb299, 2, none⟩) qz33 (.int .i64 t298)).trans hx300_1
   clear hn300_0
   clear hn300_1
   clear hn300_2
   replace p300 := eq_true p300
   replace q300 := eq_true q300
   try go_wp2
   go_roundg k1
   case measure => have := HK1.out; omega
   case rel => exact ⟨(x6_1), (x7_1), (wrap64 (x8_1 + 1)), qz4, qz4, H', ⟨by have := HK1.out; omega⟩, ⟨by (with_reducible repeat (first | apply Kd.R_alloc | apply Kd.R_drewN | apply Kd.R_drew)); exact Kd.R_mono (Kd.R_far (p := ⟨gb299, 2, none⟩) (Kd.R_far (p := ⟨gb299, 1, none⟩) (Kd.R_far (p := ⟨gb299, 0, none⟩) (Kd.R_types HO_6.out BK299.out (by decide)) (fun _ hk => hk.2) (.int .i64 t296)) (fun _ hk => hk.2) (.int .i64 t297)) (fun _ hk => hk.2) (.int .i64 t298)) (fun _ hk => trivial)⟩, ⟨by (with_reducible repeat (first | refine blk_drewN ?_ _ | refine blk_drew ?_ | refine blk_alloc ?_ _)); refine blk_far ?_ NB291_299.out _; (with_reducible repeat (first | refine blk_drewN ?_ _ | refine blk_drew ?_ | refine blk_alloc ?_ _)); refine blk_far ?_ NB291_299.out _; (with_reducible repeat (first | refine blk_drewN ?_ _ | refine blk_drew ?_ | refine blk_alloc ?_ _)); refine blk_far ?_ NB291_299.out _; exact bk_ BK291.out⟩, ⟨by repeat (first | (with_reducible first | exact HB.out | apply below_alloc | apply pw_below_drewN | apply below_drew1 | refine below_set ?_ GE291.out | refine below_set ?_ GE299.out) | exact HB.out)⟩⟩
   }
   }
   }
   {
   rw [if_neg c7] at H
   exact absurd H (by simp)
   }
   }
   {
   rw [if_neg c6] at H
   have c6b0 := decide_eq_false c6
   clear c6
   simp only [Option.some.injEq, Prod.mk.injEq] at H
   obtain ⟨rfl, rfl⟩ := H
   go_wp2
   go_ret2
   exact ⟨_, by first | rfl | (simp [errW_none, errW_some] <;> rfl) | (simp [*, errW_none, errW_some] <;> rfl), by (with_reducible repeat (first | apply Kd.R_alloc | apply Kd.R_drewN | apply Kd.R_drew)); exact HO_6.out, by repeat (first | (with_reducible first | exact HB.out | apply below_alloc | apply pw_below_drewN | apply below_drew1 | refine below_set ?_ GE291.out) | exact HB.out)⟩

   }
end Go.Proofs.Yteajnkondkfmgaa.PFnExactPicks
