-- Made by a program of this session out of the translation. Lean checks it.
import Derived.Test.YteajnkondkfmgaaPFnEachx11
namespace Go.Proofs.Yteajnkondkfmgaa.PFnEach
open Go.RowKit Go.Proofs.YteajnkondkfmgaaW.PrintWords Go.Proofs.YteajnkondkfmgaaW.PrintLast Go.Proofs.YteajnkondkfmgaaW.PrintMore
attribute [local go_sem] max2_int min2_int max_two min_two max_three min_three max_four min_four   -- for this text's walks alone
set_option linter.unusedVariables false
set_option linter.unusedSimpArgs false

/-! ### spec_l6Could: function 89 -/
def spec_l6Could.l0 : Nat → List (S48) → List (S50) → Int → Int → Int → Int → List (S72) → Option ((List (S50)) × Int)
 | 0, _, _, _, _, _, _, _ => none
 | k + 1, x1, x6, x7, x8, x195000, x195001, x195002 => if x8 < (x1.length : Int) then (if 0 ≤ x8 then ((spec_l5Stack.f k x195000 x195001 x195002 ((rd_T48 x1 x8).f0)).bind fun bt199 => (if ((rd_T48 x1 x8).f1) < (wrap64 (bt199.2.1 - bt199.2.2)) then (if ((rd_T48 x1 x8).f1) > 0 then (if x6.length < 5864062014805 then (spec_l6Could.l0 k x1 (x6 ++ [(⟨x195000, (rd_T48 x1 x8).f0, (rd_T48 x1 x8).f1⟩ : S50)]) (wrap64 (x7 + ((rd_T48 x1 x8).f1))) (wrap64 (x8 + 1)) x195000 x195001 x195002) else (none)) else (spec_l6Could.l0 k x1 x6 x7 (wrap64 (x8 + 1)) x195000 x195001 x195002)) else (if (wrap64 (bt199.2.1 - bt199.2.2)) > 0 then (if x6.length < 5864062014805 then (spec_l6Could.l0 k x1 (x6 ++ [(⟨x195000, (rd_T48 x1 x8).f0, wrap64 (bt199.2.1 - bt199.2.2)⟩ : S50)]) (wrap64 (x7 + (wrap64 (bt199.2.1 - bt199.2.2)))) (wrap64 (x8 + 1)) x195000 x195001 x195002) else (none)) else (spec_l6Could.l0 k x1 x6 x7 (wrap64 (x8 + 1)) x195000 x195001 x195002)))) else (none)) else (some (x6, x7))
def spec_l6Could.f (k : Nat) (a0_0 : Int) (a0_1 : Int) (l0_2 : List (S72)) (l1 : List (S48)) : Option ((List (S50)) × Int) := spec_l6Could.l0 k l1 (([] : List (S50))) 0 0 a0_0 a0_1 l0_2
theorem spec_l6Could.mono_l : ∀ k, (∀ y0 y1 y2 y3 y4 y5 y6, LeO (spec_l6Could.l0 k y0 y1 y2 y3 y4 y5 y6) (spec_l6Could.l0 (k + 1) y0 y1 y2 y3 y4 y5 y6))
 | 0 => fun _ _ _ _ _ _ _ r h => by simp [spec_l6Could.l0] at h
 | k + 1 => by
  have ih0 := spec_l6Could.mono_l k
  {
  intro y0 y1 y2 y3 y4 y5 y6
  unfold spec_l6Could.l0
  have j0 := @spec_l5Stack.mono
  exact qL
  }
theorem spec_l6Could.mono : ∀ a0 a1 a2 a3 k, LeO (spec_l6Could.f k a0 a1 a2 a3) (spec_l6Could.f (k + 1) a0 a1 a2 a3) := by
 intro a0 a1 a2 a3 k
 have ih0 := spec_l6Could.mono_l k
 unfold spec_l6Could.f
 have j0 := @spec_l5Stack.mono
 exact qL
def spec_l6Could.T6 : Bool × List (List Nat × List Nat) := (true, [([], []), ([], []), ([], []), ([1, 2], [1, 2]), ([3], [3]), ([4], [4]), ([0, 5], [0, 5]), ([], []), ([7, 6, 6, 0, 1, 2, 3, 4, 5, 6, 7], [6, 7])])
def spec_l6Could.B6 : List Nat := [0, 0, 0, 6, 14, 30, 63, 0, 255]
theorem spec_l6Could.tab6 : rtab .any (opsOf Try.f89 6) = spec_l6Could.T6 := by kernel_rfl
theorem spec_l6Could.bits6 : waitsOk spec_l6Could.T6.2 spec_l6Could.B6 = true := by kernel_rfl
def spec_l6Could.T11 : Bool × List (List Nat × List Nat) := (true, [([], []), ([], []), ([1], [1]), ([], []), ([], []), ([3, 4], [3, 4]), ([5], [5]), ([6], [6]), ([], []), ([2, 7, 8], [2, 7, 8]), ([9], [9]), ([0, 10], [0, 10]), ([11, 11, 0, 1, 2, 3, 4, 5, 6, 7, 8, 9, 10, 11], [0, 11])])
def spec_l6Could.B11 : List Nat := [0, 0, 2, 0, 0, 24, 56, 120, 0, 510, 1022, 2047, 4095]
theorem spec_l6Could.tab11 : rtab .any (opsOf Try.f89 11) = spec_l6Could.T11 := by kernel_rfl
theorem spec_l6Could.bits11 : waitsOk spec_l6Could.T11.2 spec_l6Could.B11 = true := by kernel_rfl
set_option maxHeartbeats 8000000 in
set_option maxRecDepth 100000 in
theorem spec_l6Could.calls (k : Nat) (a0_0 : Int) (a0_1 : Int) (A0_2 : Option Addr) (c0_2 : Nat) (l0_2 : List (S72)) (A1 : Option Addr) (c1 : Nat) (l1 : List (S48)) (r1 : List (S50)) (r2 : Int) (w : World) (hr0_2 : Kd.C k72 w A0_2 l0_2.length l0_2) (hc0_2 : l0_2.length ≤ c0_2) (hr1 : Kd.C k48 w A1 l1.length l1) (hc1 : l1.length ≤ c1) (h : spec_l6Could.f k a0_0 a0_1 l0_2 l1 = some (r1, r2)) :
  Calls Try.prog 89 #[.agg #[.int .i64 a0_0, .int .i64 a0_1, .slice A0_2 l0_2.length c0_2], .slice A1 l1.length c1] w fun e w' => ∃ v0_ : Value, e = .returned (.tuple #[v0_, .int .i64 r2]) ∧ Kd.R k50 50 w' w.heap.size (fun _ => True) v0_ r1 ∧ Below w.heap.size w w' := by
 have hu79 := Try.underlying79
 have hu72 := Try.underlying72
 have hu50 := Try.underlying50
 have HR0_2 := aM hr0_2
 have HC0_2 := aM hc0_2
 clear hr0_2 hc0_2
 have HR1 := aM hr1
 have HC1 := aM hc1
 clear hr1 hc1
 have HB := aM (Below.refl w.heap.size w)
 have H : (spec_l6Could.l0 k l1 (([] : List (S50))) 0 0 a0_0 a0_1 l0_2) = some (r1, r2) := h
 clear h
 obtain ⟨y195, hy195⟩ : ∃ y_ : List (S50), y_ = (([] : List (S50))) := ⟨_, rfl⟩
 replace H : (spec_l6Could.l0 k l1 y195 0 0 a0_0 a0_1 l0_2) = some (r1, r2) := by first | (rw [hy195]; with_reducible exact H) | (have H2_ := (Option.bind_some _ _).symm.trans H; rw [hy195]; with_reducible exact H2_) | (have H2_ := (Option.bind_some _ _).symm.trans H; with_reducible exact H2_) | with_reducible exact H | (rw [hy195]; exact H) | exact H
 have Ny195 := aM hy195
 clear hy195
 have H' := aM H
 clear H
 go_enter Try.func89, Try.ntmps89
 go_wp2_with (first | ((with_reducible refine gate_dst (N := 2) rfl ?_); refine bx_ 2 #[.int .i64 a0_0, .int .i64 a0_1, .slice A0_2 l0_2.length c0_2] 79 ?_; intro gb194 hg w3 hbox hb; have BK194 := aM (hbox); have GW194 := aM (bz_ w hg qz1); have GE194 := GW194; replace HB := bS_ hb; clear hb hbox hg) | ((with_reducible refine gate_dst (N := 11) rfl ?_); refine Kd.R_lit k50 _ 50 ?hg (N := 11) ?hd (xs := ([] : List (S50))) (inner := []) (ok := fun _ => True) (okp := fun _ => True) ?hr ?hp (fun _ hk => hk) trivial (Below.refl _ _) (Nat.le_refl _) (by simp) ?_; (case hd => rfl); (case hg => rfl); (case hr => exact qz23); (case hp => exact (Reps.none _ _)); intro v196 w4 ho5 hb hg_ hnew_; clear hg_ hnew_; (first | rw [← Ny195.out] at ho5 | (simp only [Int.reduceToNat] at ho5; rw [← Ny195.out] at ho5)); have HO197 := aM (Kd.R_lower ho5 (below_size qz1)); replace BK194 := bB_ BK194 hb; replace HB := bS_ hb; clear hb ho5))
 go_loopg [6, 7, 8] k (fun kq v6 v7 v8 w' => ∃ (x6_1 : List (S50)) (x7_1 : Int) (x8_1 : Int), v7 = .int .i64 x7_1 ∧ v8 = .int .i64 x8_1 ∧ Aside0 (spec_l6Could.l0 kq l1 x6_1 x7_1 x8_1 a0_0 a0_1 l0_2 = some (r1, r2)) ∧ Aside0 (kq ≤ k) ∧ Aside0 (Kd.R k50 50 w' w.heap.size (fun _ => True) v6 x6_1) ∧ Aside0 (w'.heap[gb194]? = some (.cells #[.int .i64 a0_0, .int .i64 a0_1, (.slice A0_2 l0_2.length c0_2)] 79 (0, 0))) ∧ Aside0 (Below w.heap.size w w'))
 case atStart => exact ⟨(y195), (0), (0), qz5, qz5, H', ⟨Nat.le_refl _⟩, ⟨rr_ HO197.out⟩, ⟨bk_ BK194.out⟩, ⟨qz1⟩⟩
 case round =>
  clear H'
  try clear c1
  try clear p2
  obtain ⟨x6_1, x7_1, x8_1, rfl, rfl, HA, HK1, HO_6, BK194, HB⟩ := hrel
  cases gk with
  | zero => exact absurd HA.out (by simp [spec_l6Could.l0])
  | succ k1 =>
   have H := HA.out
   clear HA
   simp only [spec_l6Could.l0] at H
   by_cases c6 : x8_1 < (l1.length : Int)
   {
   rw [if_pos c6] at H
   have c6b0 := decide_eq_true c6
   clear c6
   by_cases c7 : 0 ≤ x8_1
   {
   rw [if_pos c7] at H
   have c7b0 := decide_eq_true c7
   clear c7
   replace H := Option.bind_eq_some_iff.mp H
   obtain ⟨⟨t199, t200, t201⟩, A80, H⟩ := H
   replace H : (if ((rd_T48 l1 x8_1).f1) < (wrap64 (t200 - t201)) then (if ((rd_T48 l1 x8_1).f1) > 0 then (if x6_1.length < 5864062014805 then (spec_l6Could.l0 k1 l1 (x6_1 ++ [(⟨a0_0, (rd_T48 l1 x8_1).f0, (rd_T48 l1 x8_1).f1⟩ : S50)]) (wrap64 (x7_1 + ((rd_T48 l1 x8_1).f1))) (wrap64 (x8_1 + 1)) a0_0 a0_1 l0_2) else (none)) else (spec_l6Could.l0 k1 l1 x6_1 x7_1 (wrap64 (x8_1 + 1)) a0_0 a0_1 l0_2)) else (if (wrap64 (t200 - t201)) > 0 then (if x6_1.length < 5864062014805 then (spec_l6Could.l0 k1 l1 (x6_1 ++ [(⟨a0_0, (rd_T48 l1 x8_1).f0, wrap64 (t200 - t201)⟩ : S50)]) (wrap64 (x7_1 + (wrap64 (t200 - t201)))) (wrap64 (x8_1 + 1)) a0_0 a0_1 l0_2) else (none)) else (spec_l6Could.l0 k1 l1 x6_1 x7_1 (wrap64 (x8_1 + 1)) a0_0 a0_1 l0_2))) = some (r1, r2) := H
   have A8 := aM A80
   clear A80
   by_cases c9 : ((rd_T48 l1 x8_1).f1) < (wrap64 (t200 - t201))
   {
   rw [if_pos c9] at H
   have c9b0 := decide_eq_true c9
   clear c9
   by_cases c10 : ((rd_T48 l1 x8_1).f1) > 0
   {
   rw [if_pos c10] at H
   have c10b0 := decide_eq_true c10
   clear c10
   by_cases c11 : x6_1.length < 5864062014805
   {
   rw [if_pos c11] at H
   have LMc11 := aM c11
   clear c11
   obtain ⟨y206, hy206⟩ : ∃ y_ : List (S50), y_ = (x6_1 ++ [(⟨a0_0, (rd_T48 l1 x8_1).f0, (rd_T48 l1 x8_1).f1⟩ : S50)]) := ⟨_, rfl⟩
   replace H : (spec_l6Could.l0 k1 l1 y206 (wrap64 (x7_1 + ((rd_T48 l1 x8_1).f1))) (wrap64 (x8_1 + 1)) a0_0 a0_1 l0_2) = some (r1, r2) := by first | (rw [hy206]; with_reducible exact H) | (have H2_ := (Option.bind_some _ _).symm.trans H; rw [hy206]; with_reducible exact H2_) | (have H2_ := (Option.bind_some _ _).symm.trans H; with_reducible exact H2_) | with_reducible exact H | (rw [hy206]; exact H) | exact H
   have Ny206 := aM hy206
   clear hy206
   have H' := aM H
   clear H
   try go_wp2
   replace HO_6 := aM (Kd.R_drew HO_6.out)
   replace BK194 := aM (blk_drew BK194.out)
   replace HB := aM (below_drew1 HB.out)
   have p198 : 0 ≤ (x8_1 : Int) := dt_
   have q198 : x8_1 < (l1.length : Int) := dt_
   obtain ⟨ad198, e198, hx198_0, hx198_1⟩ := at_T48 HR1.out x8_1 p198 q198
   have hw198_1 := hx198_1
   have hw198_0 := hx198_0
   cases e198
   replace hx198_0 := cB_ hx198_0
   replace hx198_1 := cB_ hx198_1
   replace p198 := eq_true p198
   replace q198 := eq_true q198
   refine start_ (n := 9) (S := fun w' => w'.cell? ⟨gb194, 0, none⟩ = some (.int .i64 a0_0) ∧ w'.cell? ⟨gb194, 1, none⟩ = some (.int .i64 a0_1) ∧ w'.cell? ⟨gb194, 2, none⟩ = some (.slice A0_2 l0_2.length c0_2) ∧ w'.cell? (ad198.add ((x8_1).toNat * 2)) = some (.int .i64 ((rd_T48 l1 x8_1).f0)) ∧ w'.cell? ⟨(ad198.add ((x8_1).toNat * 2)).block, (ad198.add ((x8_1).toNat * 2)).off + 1, none⟩ = some (.int .i64 ((rd_T48 l1 x8_1).f1))) (ds := []) #[false, false, false, false, false, false, false, false, false] (by kernel_rfl) rfl rfl ⟨(blk_cell BK194.out 0).trans rfl, (blk_cell BK194.out 1).trans rfl, (blk_cell BK194.out 2).trans rfl, (cB_ hw198_0), (cB_ hw198_1)⟩ (fun hHeld => ?_); refine with_tabW spec_l6Could.tab6 spec_l6Could.bits6 (fun HT_ HW_ => ?_)
   generalize wr.drew = w12 at HO_6 BK194 HB hx198_0 hx198_1 hHeld ⊢
   refine pI_ 1 19 (bqz 9 2) ?_
   refine jI_ 2 20 ?_
   refine jI_ 3 21 ?_
   refine jI_ 4 22 ?_
   refine sI5_ 0 18 ?_
   refine sI5_ 5 23 ?_
   refine join_ (σ := Nat) 1 (bqz 9 255) (fun s_ => [(24, .agg #[.int .i64 t199, .int .i64 t200, .int .i64 t201]), (9, .pointer (some ⟨s_, 0, none⟩))]) (fun s_ w' => (w'.cell? ⟨gb194, 0, none⟩ = some (.int .i64 a0_0) ∧ w'.cell? ⟨gb194, 1, none⟩ = some (.int .i64 a0_1) ∧ w'.cell? ⟨gb194, 2, none⟩ = some (.slice A0_2 l0_2.length c0_2) ∧ w'.cell? (ad198.add ((x8_1).toNat * 2)) = some (.int .i64 ((rd_T48 l1 x8_1).f0)) ∧ w'.cell? ⟨(ad198.add ((x8_1).toNat * 2)).block, (ad198.add ((x8_1).toNat * 2)).off + 1, none⟩ = some (.int .i64 ((rd_T48 l1 x8_1).f1))) ∧ (Kd.R k50 50 w' w.heap.size (fun _ => True) u6 x6_1) ∧ (w'.heap[gb194]? = some (.cells #[.int .i64 a0_0, .int .i64 a0_1, .slice A0_2 l0_2.length c0_2] 79 (0, 0))) ∧ (w'.heap[s_]? = some (.cells #[.int .i64 0, .int .i64 0, .int .i64 0] 72 (0, 0))) ∧ (w.heap.size ≤ s_) ∧ (w.heap.size ≤ s_) ∧ (gb194 ≠ s_) ∧ (s_ ≠ gb194) ∧ (Below w.heap.size w w')) ?_ ?_
   rotate_left
   {
   intro hCont
   refine two_ (i := 6) (j := 7) (Ni := some 24) (Nj := some 9) (bqz 9 127) (bqz 9 191) rfl rfl rfl rfl (two_of HT_.out (by kernel_rfl)) (by decide) (by decide) (fun K hK => ?_) (fun K hK => ?_)
   {
   skip
   refine goes_ Try.func94 (by kernel_rfl) rfl #[.agg #[.int .i64 a0_0, .int .i64 a0_1, .slice A0_2 l0_2.length c0_2], .int .i64 ((rd_T48 l1 x8_1).f0)] (by rfl) rfl rfl qz4 ?_
   with_reducible refine (spec_l5Stack.calls k1 a0_0 a0_1 _ _ l0_2 ((rd_T48 l1 x8_1).f0) t199 t200 t201 _ ?side1 ?side2 A8.out).mono ?_
   (case side1 => exact qz10)
   (case side2 => exact HC0_2.out)
   rintro e w13 ⟨rfl, hb⟩
   refine ⟨_, rfl, ?_⟩
   replace HO_6 := aM (Kd.R_below (rr_ HO_6.out) hb)
   replace BK194 := bB_ BK194 hb
   replace HB := bS_ hb
   (try clear hb)
   (try clear hb2)
   (try clear hk)
   (try clear hi)
   refine hK.out _ _ ⟨(blk_cell BK194.out 0).trans rfl, (blk_cell BK194.out 1).trans rfl, (blk_cell BK194.out 2).trans rfl, (cB_ hw198_0), (cB_ hw198_1)⟩ (fun hHeld => ?_)
   clear hK K
   refine nm_ 24 ?_
   refine one_ (i := 7) (N := some 9) (bqz 9 255) rfl rfl qzc (by decide) (fun K hK => ?_)
   refine box_step ?hg (N := 9) ?hd (cs := #[.int .i64 0, .int .i64 0, .int .i64 0]) (t := 72) ?hr ?_; (case hd => rfl); (case hg => rfl); (case hr => exact qz23)
   intro gb202 hg w14 hbox hb
   replace HO_6 := aM (Kd.R_below (rr_ HO_6.out) hb)
   have BK202 := aM (hbox)
   have GW202 := aM (bz_ w hg qz1)
   have GE202 := GW202
   replace HB := bS_ hb
   obtain ⟨NB194_202, NB202_194⟩ := nb_ hg (bk_ BK194.out)
   replace BK194 := bB_ BK194 hb
   clear hb hbox hg
   refine hK.out _ _ ⟨(blk_cell BK194.out 0).trans rfl, (blk_cell BK194.out 1).trans rfl, (blk_cell BK194.out 2).trans rfl, (cB_ hw198_0), (cB_ hw198_1)⟩ (fun hHeld => ?_)
   clear hK K
   refine nm_ 9 ?_
   exact norm_ qz24 (hCont (gb202) _ ⟨hHeld, (rr_ HO_6.out), (bk_ BK194.out), (bk_ BK202.out), GW202.out, GE202.out, NB194_202.out, NB202_194.out, qz1⟩)
   }
   {
   skip
   refine box_step ?hg (N := 9) ?hd (cs := #[.int .i64 0, .int .i64 0, .int .i64 0]) (t := 72) ?hr ?_; (case hd => rfl); (case hg => rfl); (case hr => exact qz23)
   intro gb202 hg w13 hbox hb
   replace HO_6 := aM (Kd.R_below (rr_ HO_6.out) hb)
   have BK202 := aM (hbox)
   have GW202 := aM (bz_ w hg qz1)
   have GE202 := GW202
   replace HB := bS_ hb
   obtain ⟨NB194_202, NB202_194⟩ := nb_ hg (bk_ BK194.out)
   replace BK194 := bB_ BK194 hb
   clear hb hbox hg
   refine hK.out _ _ ⟨(blk_cell BK194.out 0).trans rfl, (blk_cell BK194.out 1).trans rfl, (blk_cell BK194.out 2).trans rfl, (cB_ hw198_0), (cB_ hw198_1)⟩ (fun hHeld => ?_)
   clear hK K
   refine nm_ 9 ?_
   refine one_ (i := 6) (N := some 24) (bqz 9 255) rfl rfl qzc (by decide) (fun K hK => ?_)
   refine goes_ Try.func94 (by kernel_rfl) rfl #[.agg #[.int .i64 a0_0, .int .i64 a0_1, .slice A0_2 l0_2.length c0_2], .int .i64 ((rd_T48 l1 x8_1).f0)] (by rfl) rfl rfl qz4 ?_
   with_reducible refine (spec_l5Stack.calls k1 a0_0 a0_1 _ _ l0_2 ((rd_T48 l1 x8_1).f0) t199 t200 t201 _ ?side1 ?side2 A8.out).mono ?_
   (case side1 => exact qz10)
   (case side2 => exact HC0_2.out)
   rintro e w14 ⟨rfl, hb⟩
   refine ⟨_, rfl, ?_⟩
   replace HO_6 := aM (Kd.R_below (rr_ HO_6.out) hb)
   replace BK194 := bB_ BK194 hb
   replace BK202 := bB_ BK202 hb
   replace HB := bS_ hb
   (try clear hb)
   (try clear hb2)
   (try clear hk)
   (try clear hi)
   refine hK.out _ _ ⟨(blk_cell BK194.out 0).trans rfl, (blk_cell BK194.out 1).trans rfl, (blk_cell BK194.out 2).trans rfl, (cB_ hw198_0), (cB_ hw198_1)⟩ (fun hHeld => ?_)
   clear hK K
   refine nm_ 24 ?_
   exact norm_ qz24 (hCont (gb202) _ ⟨hHeld, (rr_ HO_6.out), (bk_ BK194.out), (bk_ BK202.out), GW202.out, GE202.out, NB194_202.out, NB202_194.out, qz1⟩)
   }
   }
   rintro gb202 w15 ⟨hS_, h0_, h1_, h2_, h3_, h4_, h5_, h6_, h7_⟩
   replace HO_6 : Aside0 (Kd.R k50 50 w15 w.heap.size (fun _ => True) u6 x6_1) := ⟨h0_⟩
   replace BK194 : Aside0 (w15.heap[gb194]? = some (.cells #[.int .i64 a0_0, .int .i64 a0_1, .slice A0_2 l0_2.length c0_2] 79 (0, 0))) := ⟨h1_⟩
   have BK202 : Aside0 (w15.heap[gb202]? = some (.cells #[.int .i64 0, .int .i64 0, .int .i64 0] 72 (0, 0))) := ⟨h2_⟩
   have GW202 : Aside0 (w.heap.size ≤ gb202) := ⟨h3_⟩
   have GE202 : Aside0 (w.heap.size ≤ gb202) := ⟨h4_⟩
   have NB194_202 : Aside0 (gb194 ≠ gb202) := ⟨h5_⟩
   have NB202_194 : Aside0 (gb202 ≠ gb194) := ⟨h6_⟩
   replace HB : Aside0 (Below w.heap.size w w15) := ⟨h7_⟩
   clear h0_ h1_ h2_ h3_ h4_ h5_ h6_ h7_
   have hHeld : w15.cell? ⟨gb194, 0, none⟩ = some (.int .i64 a0_0) ∧ w15.cell? ⟨gb194, 1, none⟩ = some (.int .i64 a0_1) ∧ w15.cell? ⟨gb194, 2, none⟩ = some (.slice A0_2 l0_2.length c0_2) ∧ w15.cell? (ad198.add ((x8_1).toNat * 2)) = some (.int .i64 ((rd_T48 l1 x8_1).f0)) ∧ w15.cell? ⟨(ad198.add ((x8_1).toNat * 2)).block, (ad198.add ((x8_1).toNat * 2)).off + 1, none⟩ = some (.int .i64 ((rd_T48 l1 x8_1).f1)) := hS_
   refine norm_ (a' := ?_) ?_ ?_
   rotate_left
   {
   simp only [putAll, Act.put, List.setIfInBounds_toArray, List.set_cons_zero, List.set_cons_succ]
   rfl
   }
   refine one_ (i := 8) (N := none) (bqz 9 511) rfl rfl qzc (by decide) (fun K hK => ?_)
   have hs16 : w15.cell? ⟨gb202, 0, none⟩ = some (.int .i64 0) := (blk_cell BK202.out 0).trans rfl
   have hfs16 := blk_frozen BK202.out 0
   have hns16_0 := NB194_202.out
   have hms16_0 := NB202_194.out
   have hs17 : w15.cell? ⟨gb202, 1, none⟩ = some (.int .i64 0) := (blk_cell BK202.out 1).trans rfl
   have hfs17 := blk_frozen BK202.out 1
   have hns17_0 := NB194_202.out
   have hms17_0 := NB202_194.out
   have hs18 : w15.cell? ⟨gb202, 2, none⟩ = some (.int .i64 0) := (blk_cell BK202.out 2).trans rfl
   have hfs18 := blk_frozen BK202.out 2
   have hns18_0 := NB194_202.out
   have hms18_0 := NB202_194.out
   refine sk_ ?_
   refine hK.out _ _ ⟨((cell_far (p := ⟨gb202, _, none⟩) NB194_202.out _).trans (((cell_far (p := ⟨gb202, _, none⟩) NB194_202.out _).trans (((cell_far (p := ⟨gb202, _, none⟩) NB194_202.out _).trans (hHeld.1)))))), ((cell_far (p := ⟨gb202, _, none⟩) NB194_202.out _).trans (((cell_far (p := ⟨gb202, _, none⟩) NB194_202.out _).trans (((cell_far (p := ⟨gb202, _, none⟩) NB194_202.out _).trans (hHeld.2.1)))))), ((cell_far (p := ⟨gb202, _, none⟩) NB194_202.out _).trans (((cell_far (p := ⟨gb202, _, none⟩) NB194_202.out _).trans (((cell_far (p := ⟨gb202, _, none⟩) NB194_202.out _).trans (hHeld.2.2.1)))))), ((cell_far (p := ⟨gb202, _, none⟩) (by first | exact Nat.ne_of_lt (Nat.lt_of_lt_of_le (by have := World.block_lt_of_cell? _ _ hw198_0; first | rwa [add_block] at this | exact this) GW202.out) | (rw [add_block]; exact Nat.ne_of_lt (Nat.lt_of_lt_of_le (by have := World.block_lt_of_cell? _ _ hw198_0; first | rwa [add_block] at this | exact this) GW202.out)) | (show (Addr.add _ _).block ≠ _; rw [add_block]; exact Nat.ne_of_lt (Nat.lt_of_lt_of_le (by have := World.block_lt_of_cell? _ _ hw198_0; first | rwa [add_block] at this | exact this) GW202.out)) | (dsimp only; exact Nat.ne_of_lt (Nat.lt_of_lt_of_le (by have := World.block_lt_of_cell? _ _ hw198_0; first | rwa [add_block] at this | exact this) GW202.out))) _).trans (((cell_far (p := ⟨gb202, _, none⟩) (by first | exact Nat.ne_of_lt (Nat.lt_of_lt_of_le (by have := World.block_lt_of_cell? _ _ hw198_0; first | rwa [add_block] at this | exact this) GW202.out) | (rw [add_block]; exact Nat.ne_of_lt (Nat.lt_of_lt_of_le (by have := World.block_lt_of_cell? _ _ hw198_0; first | rwa [add_block] at this | exact this) GW202.out)) | (show (Addr.add _ _).block ≠ _; rw [add_block]; exact Nat.ne_of_lt (Nat.lt_of_lt_of_le (by have := World.block_lt_of_cell? _ _ hw198_0; first | rwa [add_block] at this | exact this) GW202.out)) | (dsimp only; exact Nat.ne_of_lt (Nat.lt_of_lt_of_le (by have := World.block_lt_of_cell? _ _ hw198_0; first | rwa [add_block] at this | exact this) GW202.out))) _).trans (((cell_far (p := ⟨gb202, _, none⟩) (by first | exact Nat.ne_of_lt (Nat.lt_of_lt_of_le (by have := World.block_lt_of_cell? _ _ hw198_0; first | rwa [add_block] at this | exact this) GW202.out) | (rw [add_block]; exact Nat.ne_of_lt (Nat.lt_of_lt_of_le (by have := World.block_lt_of_cell? _ _ hw198_0; first | rwa [add_block] at this | exact this) GW202.out)) | (show (Addr.add _ _).block ≠ _; rw [add_block]; exact Nat.ne_of_lt (Nat.lt_of_lt_of_le (by have := World.block_lt_of_cell? _ _ hw198_0; first | rwa [add_block] at this | exact this) GW202.out)) | (dsimp only; exact Nat.ne_of_lt (Nat.lt_of_lt_of_le (by have := World.block_lt_of_cell? _ _ hw198_0; first | rwa [add_block] at this | exact this) GW202.out))) _).trans (hHeld.2.2.2.1)))))), ((cell_far (p := ⟨gb202, _, none⟩) (by first | exact Nat.ne_of_lt (Nat.lt_of_lt_of_le (by have := World.block_lt_of_cell? _ _ hw198_1; first | rwa [add_block] at this | exact this) GW202.out) | (rw [add_block]; exact Nat.ne_of_lt (Nat.lt_of_lt_of_le (by have := World.block_lt_of_cell? _ _ hw198_1; first | rwa [add_block] at this | exact this) GW202.out)) | (show (Addr.add _ _).block ≠ _; rw [add_block]; exact Nat.ne_of_lt (Nat.lt_of_lt_of_le (by have := World.block_lt_of_cell? _ _ hw198_1; first | rwa [add_block] at this | exact this) GW202.out)) | (dsimp only; exact Nat.ne_of_lt (Nat.lt_of_lt_of_le (by have := World.block_lt_of_cell? _ _ hw198_1; first | rwa [add_block] at this | exact this) GW202.out))) _).trans (((cell_far (p := ⟨gb202, _, none⟩) (by first | exact Nat.ne_of_lt (Nat.lt_of_lt_of_le (by have := World.block_lt_of_cell? _ _ hw198_1; first | rwa [add_block] at this | exact this) GW202.out) | (rw [add_block]; exact Nat.ne_of_lt (Nat.lt_of_lt_of_le (by have := World.block_lt_of_cell? _ _ hw198_1; first | rwa [add_block] at this | exact this) GW202.out)) | (show (Addr.add _ _).block ≠ _; rw [add_block]; exact Nat.ne_of_lt (Nat.lt_of_lt_of_le (by have := World.block_lt_of_cell? _ _ hw198_1; first | rwa [add_block] at this | exact this) GW202.out)) | (dsimp only; exact Nat.ne_of_lt (Nat.lt_of_lt_of_le (by have := World.block_lt_of_cell? _ _ hw198_1; first | rwa [add_block] at this | exact this) GW202.out))) _).trans (((cell_far (p := ⟨gb202, _, none⟩) (by first | exact Nat.ne_of_lt (Nat.lt_of_lt_of_le (by have := World.block_lt_of_cell? _ _ hw198_1; first | rwa [add_block] at this | exact this) GW202.out) | (rw [add_block]; exact Nat.ne_of_lt (Nat.lt_of_lt_of_le (by have := World.block_lt_of_cell? _ _ hw198_1; first | rwa [add_block] at this | exact this) GW202.out)) | (show (Addr.add _ _).block ≠ _; rw [add_block]; exact Nat.ne_of_lt (Nat.lt_of_lt_of_le (by have := World.block_lt_of_cell? _ _ hw198_1; first | rwa [add_block] at this | exact this) GW202.out)) | (dsimp only; exact Nat.ne_of_lt (Nat.lt_of_lt_of_le (by have := World.block_lt_of_cell? _ _ hw198_1; first | rwa [add_block] at this | exact this) GW202.out))) _).trans (hHeld.2.2.2.2))))))⟩ (fun hHeld => ?_)
   clear hK K
   refine done_ (done_of HT_.out (by kernel_rfl)) ?_
   have hnb19 := NB202_194.out
   have hnc19 := NB194_202.out
   obtain ⟨hcz20_0, hcz20_1, hcz20_2, hfz20_0, hfz20_1, hfz20_2⟩ := b6_ BK202.out
   have p203 : 0 ≤ (x8_1 : Int) := dt_
   have q203 : x8_1 < (l1.length : Int) := dt_
   obtain ⟨ad203, e203, hx203_0, hx203_1⟩ := at_T48 HR1.out x8_1 p203 q203
   obtain rfl : ad198 = ad203 := (by injection e203)
   have hn203_0 : ad198.block ≠ gb202 := nf_ hx203_0 GW202.out
   have hn203_1 : ad198.block ≠ gb202 := nf_ hx203_0 GW202.out
   have hn203_2 : ad198.block ≠ gb202 := nf_ hx203_0 GW202.out
   replace hx203_0 := cB_ hx203_0
   replace hx203_1 := cB_ hx203_1
   replace hx203_0 := (cell_far (p := ⟨gb202, 0, none⟩) qz17 (.int .i64 t199)).trans hx203_0
   replace hx203_1 := (cell_far (p := ⟨gb202, 0, none⟩) qz17 (.int .i64 t199)).trans hx203_1
   replace hx203_0 := (cell_far (p := ⟨gb202, 1, none⟩) qz18 (.int .i64 t200)).trans hx203_0
   replace hx203_1 := (cell_far (p := ⟨gb202, 1, none⟩) qz18 (.int .i64 t200)).trans hx203_1
   replace hx203_0 := (cell_far (p := ⟨gb202, 2, none⟩) qz19 (.int .i64 t201)).trans hx203_0
   replace hx203_1 := (cell_far (p := ⟨gb202, 2, none⟩) qz19 (.int .i64 t201)).trans hx203_1
   clear hn203_0 hn203_1 hn203_2
   replace p203 := eq_true p203
   replace q203 := eq_true q203
   have p204 : 0 ≤ (x8_1 : Int) := dt_
   have q204 : x8_1 < (l1.length : Int) := dt_
   obtain ⟨ad204, e204, hx204_0, hx204_1⟩ := at_T48 HR1.out x8_1 p204 q204
   obtain rfl : ad198 = ad204 := (by injection e204)
   have hn204_0 : ad198.block ≠ gb202 := nf_ hx204_0 GW202.out
   have hn204_1 : ad198.block ≠ gb202 := nf_ hx204_0 GW202.out
   have hn204_2 : ad198.block ≠ gb202 := nf_ hx204_0 GW202.out
   replace hx204_0 := cB_ hx204_0
   replace hx204_1 := cB_ hx204_1
   replace hx204_0 := (cell_far (p := ⟨gb202, 0, none⟩) qz34 (.int .i64 t199)).trans hx204_0
   replace hx204_1 := (cell_far (p := ⟨gb202, 0, none⟩) qz34 (.int .i64 t199)).trans hx204_1
   replace hx204_0 := (cell_far (p := ⟨gb202, 1, none⟩) qz35 (.int .i64 t200)).trans hx204_0
   replace hx204_1 := (cell_far (p := ⟨gb202, 1, none⟩) qz35 (.int .i64 t200)).trans hx204_1
   replace hx204_0 := (cell_far (p := ⟨gb202, 2, none⟩) qz36 (.int .i64 t201)).trans hx204_0
   replace hx204_1 := (cell_far (p := ⟨gb202, 2, none⟩) qz36 (.int .i64 t201)).trans hx204_1
   clear hn204_0 hn204_1 hn204_2
   replace p204 := eq_true p204
   replace q204 := eq_true q204
   try go_wp2
   generalize hq_ : (((w15.setCell ⟨gb202, 0, none⟩ (.int .i64 t199)).setCell ⟨gb202, 1, none⟩ (.int .i64 t200)).setCell ⟨gb202, 2, none⟩ (.int .i64 t201)) = w21
   replace HO_6 : Aside0 (Kd.R k50 50 w21 w.heap.size (fun _ => True) u6 x6_1) := ⟨by rw [← hq_]; exact (by (with_reducible repeat (first | apply Kd.R_alloc | apply Kd.R_drewN | apply Kd.R_drew)); exact Kd.R_mono (Kd.R_far (p := ⟨gb202, 2, none⟩) (Kd.R_far (p := ⟨gb202, 1, none⟩) (Kd.R_far (p := ⟨gb202, 0, none⟩) (Kd.R_types HO_6.out BK202.out (by decide)) (fun _ hk => hk.2) (.int .i64 t199)) (fun _ hk => hk.2) (.int .i64 t200)) (fun _ hk => hk.2) (.int .i64 t201)) (fun _ hk => trivial))⟩
   replace BK194 : Aside0 (w21.heap[gb194]? = some (.cells #[.int .i64 a0_0, .int .i64 a0_1, .slice A0_2 l0_2.length c0_2] 79 (0, 0))) := ⟨by rw [← hq_]; exact (bk2_ BK194.out)⟩
   replace BK202 : Aside0 (w21.heap[gb202]? = some (.cells #[.int .i64 t199, .int .i64 t200, .int .i64 t201] 72 (0, 0))) := ⟨by rw [← hq_]; exact (by (with_reducible repeat (first | refine blk_drewN ?_ _ | refine blk_drew ?_ | refine blk_alloc ?_ _)); refine blk_put (cs := #[.int .i64 t199, .int .i64 t200, .int .i64 0]) ?_ 2 _ rfl; (with_reducible repeat (first | refine blk_drewN ?_ _ | refine blk_drew ?_ | refine blk_alloc ?_ _)); refine blk_put (cs := #[.int .i64 t199, .int .i64 0, .int .i64 0]) ?_ 1 _ rfl; (with_reducible repeat (first | refine blk_drewN ?_ _ | refine blk_drew ?_ | refine blk_alloc ?_ _)); refine blk_put (cs := #[.int .i64 0, .int .i64 0, .int .i64 0]) ?_ 0 _ rfl; exact bk_ BK202.out)⟩
   replace HB : Aside0 (Below w.heap.size w w21) := ⟨by rw [← hq_]; exact qz1⟩
   clear hq_
   replace HO_6 := aM (Kd.R_drew HO_6.out)
   replace BK194 := aM (blk_drew BK194.out)
   replace BK202 := aM (blk_drew BK202.out)
   replace HB := aM (below_drew1 HB.out)
   have p205 : 0 ≤ (x8_1 : Int) := dt_
   have q205 : x8_1 < (l1.length : Int) := dt_
   obtain ⟨ad205, e205, hx205_0, hx205_1⟩ := at_T48 HR1.out x8_1 p205 q205
   have hw205_1 := hx205_1
   have hw205_0 := hx205_0
   obtain rfl : ad198 = ad205 := (by injection e205)
   replace hx205_0 := cB_ hx205_0
   replace hx205_1 := cB_ hx205_1
   replace p205 := eq_true p205
   replace q205 := eq_true q205
   refine start_ (n := 13) (S := fun w' => w'.cell? ⟨gb194, 0, none⟩ = some (.int .i64 a0_0) ∧ w'.cell? ⟨gb194, 1, none⟩ = some (.int .i64 a0_1) ∧ w'.cell? ⟨gb194, 2, none⟩ = some (.slice A0_2 l0_2.length c0_2) ∧ w'.cell? (ad198.add ((x8_1).toNat * 2)) = some (.int .i64 ((rd_T48 l1 x8_1).f0)) ∧ w'.cell? ⟨(ad198.add ((x8_1).toNat * 2)).block, (ad198.add ((x8_1).toNat * 2)).off + 1, none⟩ = some (.int .i64 ((rd_T48 l1 x8_1).f1))) (ds := []) #[false, false, false, false, false, false, false, false, false, false, false, false, false] (by kernel_rfl) rfl rfl ⟨(blk_cell BK194.out 0).trans rfl, (blk_cell BK194.out 1).trans rfl, (blk_cell BK194.out 2).trans rfl, (cB_ hw205_0), (cB_ hw205_1)⟩ (fun hHeld => ?_); refine with_tabW spec_l6Could.tab11 spec_l6Could.bits11 (fun HT_ HW_ => ?_)
   generalize w21.drew = w22 at HO_6 BK194 BK202 HB hx205_0 hx205_1 hHeld ⊢
   refine pI_ 0 44 (bqz 13 1) ?_
   refine jI_ 1 45 ?_
   refine jI_ 3 47 ?_
   refine jI_ 4 48 ?_
   refine jI_ 5 49 ?_
   refine jI_ 6 50 ?_
   refine jI_ 8 52 ?_
   refine sI5_ 2 46 ?_
   refine sI5_ 7 51 ?_
   refine jI_ 9 53 ?_
   refine one_ (i := 10) (N := some 54) (bqz 13 2047) rfl rfl qzc (by decide) (fun K hK => ?_)
   refine value_ (w1 := ?_) (v := ?_) (by rfl) rfl ?_ ?_
   rotate_left 2
   {
   go_simp
   constructor
   {
   rfl
   }
   {
   rfl
   }
   }
   refine hK.out _ _ ⟨(blk_cell (blk_alloc BK194.out _) 0).trans rfl, (blk_cell (blk_alloc BK194.out _) 1).trans rfl, (blk_cell (blk_alloc BK194.out _) 2).trans rfl, (World.cell?_alloc_lt _ _ _ (World.block_lt_of_cell? _ _ ((cB_ hw205_0)))).trans ((cB_ hw205_0)), (World.cell?_alloc_lt _ _ _ (World.block_lt_of_cell? _ _ ((cB_ hw205_1)))).trans ((cB_ hw205_1))⟩ (fun hHeld => ?_)
   clear hK K
   refine nm_ 54 ?_
   refine one_ (i := 11) (N := some 55) (bqz 13 4095) rfl rfl qzc (by decide) (fun K hK => ?_)
   refine Kd.R_append_step k50 (w0 := w) w.heap.size (by rfl) (.tmp 44) (.tmp 54) 43 50 (.agg #[(.int .i64 0), (.int .i64 0), (.int .i64 0)]) 24 rfl Try.underlying43 info50 rfl (by decide) (by omega) u6 x6_1 (⟨a0_0, (rd_T48 l1 x8_1).f0, (rd_T48 l1 x8_1).f1⟩ : S50) [.int .i64 a0_0, .int .i64 ((rd_T48 l1 x8_1).f0), .int .i64 ((rd_T48 l1 x8_1).f1)] (fun _ => True) (fun _ => False) rfl rfl ?aP (fun _ hk => hk.elim) ?aF ?aO ?aB ?aS ?aL ?_
   (case aP => exact k50_mkM _ _ _ (⟨a0_0, (rd_T48 l1 x8_1).f0, (rd_T48 l1 x8_1).f1⟩ : S50))
   (case aB => exact qz1)
   (case aF => exact (fun _ _ => trivial))
   (case aO => exact (rr_ HO_6.out))
   (case aS => exact qz46)
   (case aL => have := LMc11.out; omega)
   intro v207 w23 ho hb hg hat
   rw [← Ny206.out] at ho
   replace BK194 := aM (blk_grown (bk_ BK194.out) hg (Kd.R_ne HO_6.out BK194.out (by decide)))
   replace BK202 := aM (blk_grown (bk_ BK202.out) hg (Kd.R_ne HO_6.out BK202.out (by decide)))
   replace HB := aM (hb)
   have HO208 := aM (ho)
   clear HO_6 ho hb hg hat
   refine hK.out _ _ ⟨(blk_cell BK194.out 0).trans rfl, (blk_cell BK194.out 1).trans rfl, (blk_cell BK194.out 2).trans rfl, (cB_ hw205_0), (cB_ hw205_1)⟩ (fun hHeld => ?_)
   clear hK K
   refine nm_ 55 ?_
   refine pI_ 12 6 (bqz 13 8191) ?_
   refine done_ (done_of HT_.out (by kernel_rfl)) ?_
   try go_wp2
   go_roundg k1
   case measure => have := HK1.out; omega
   case rel => exact ⟨(y206), (wrap64 (x7_1 + ((rd_T48 l1 x8_1).f1))), (wrap64 (x8_1 + 1)), qz5, qz5, H', ⟨by have := HK1.out; omega⟩, ⟨rm_ HO208.out⟩, ⟨bk_ BK194.out⟩, ⟨qz1⟩⟩
   }
   {
   exact an_ c11 H
   }
   }
   {
   rw [if_neg c10] at H
   have c10b0 := decide_eq_false c10
   clear c10
   have H' := aM H
   clear H
   try go_wp2
   replace HO_6 := aM (Kd.R_drew HO_6.out)
   replace BK194 := aM (blk_drew BK194.out)
   replace HB := aM (below_drew1 HB.out)
   have p198 : 0 ≤ (x8_1 : Int) := dt_
   have q198 : x8_1 < (l1.length : Int) := dt_
   obtain ⟨ad198, e198, hx198_0, hx198_1⟩ := at_T48 HR1.out x8_1 p198 q198
   have hw198_1 := hx198_1
   have hw198_0 := hx198_0
   cases e198
   replace hx198_0 := cB_ hx198_0
   replace hx198_1 := cB_ hx198_1
   replace p198 := eq_true p198
   replace q198 := eq_true q198
   refine start_ (n := 9) (S := fun w' => w'.cell? ⟨gb194, 0, none⟩ = some (.int .i64 a0_0) ∧ w'.cell? ⟨gb194, 1, none⟩ = some (.int .i64 a0_1) ∧ w'.cell? ⟨gb194, 2, none⟩ = some (.slice A0_2 l0_2.length c0_2) ∧ w'.cell? (ad198.add ((x8_1).toNat * 2)) = some (.int .i64 ((rd_T48 l1 x8_1).f0)) ∧ w'.cell? ⟨(ad198.add ((x8_1).toNat * 2)).block, (ad198.add ((x8_1).toNat * 2)).off + 1, none⟩ = some (.int .i64 ((rd_T48 l1 x8_1).f1))) (ds := []) #[false, false, false, false, false, false, false, false, false] (by kernel_rfl) rfl rfl ⟨(blk_cell BK194.out 0).trans rfl, (blk_cell BK194.out 1).trans rfl, (blk_cell BK194.out 2).trans rfl, (cB_ hw198_0), (cB_ hw198_1)⟩ (fun hHeld => ?_); refine with_tabW spec_l6Could.tab6 spec_l6Could.bits6 (fun HT_ HW_ => ?_)
   generalize wr.drew = w24 at HO_6 BK194 HB hx198_0 hx198_1 hHeld ⊢
   refine pI_ 1 19 (bqz 9 2) ?_
   refine jI_ 2 20 ?_
   refine jI_ 3 21 ?_
   refine jI_ 4 22 ?_
   refine sI5_ 0 18 ?_
   refine sI5_ 5 23 ?_
   refine join_ (σ := Nat) 1 (bqz 9 255) (fun s_ => [(24, .agg #[.int .i64 t199, .int .i64 t200, .int .i64 t201]), (9, .pointer (some ⟨s_, 0, none⟩))]) (fun s_ w' => (w'.cell? ⟨gb194, 0, none⟩ = some (.int .i64 a0_0) ∧ w'.cell? ⟨gb194, 1, none⟩ = some (.int .i64 a0_1) ∧ w'.cell? ⟨gb194, 2, none⟩ = some (.slice A0_2 l0_2.length c0_2) ∧ w'.cell? (ad198.add ((x8_1).toNat * 2)) = some (.int .i64 ((rd_T48 l1 x8_1).f0)) ∧ w'.cell? ⟨(ad198.add ((x8_1).toNat * 2)).block, (ad198.add ((x8_1).toNat * 2)).off + 1, none⟩ = some (.int .i64 ((rd_T48 l1 x8_1).f1))) ∧ (Kd.R k50 50 w' w.heap.size (fun _ => True) u6 x6_1) ∧ (w'.heap[gb194]? = some (.cells #[.int .i64 a0_0, .int .i64 a0_1, .slice A0_2 l0_2.length c0_2] 79 (0, 0))) ∧ (w'.heap[s_]? = some (.cells #[.int .i64 0, .int .i64 0, .int .i64 0] 72 (0, 0))) ∧ (w.heap.size ≤ s_) ∧ (w.heap.size ≤ s_) ∧ (gb194 ≠ s_) ∧ (s_ ≠ gb194) ∧ (Below w.heap.size w w')) ?_ ?_
   rotate_left
   {
   intro hCont
   refine two_ (i := 6) (j := 7) (Ni := some 24) (Nj := some 9) (bqz 9 127) (bqz 9 191) rfl rfl rfl rfl (two_of HT_.out (by kernel_rfl)) (by decide) (by decide) (fun K hK => ?_) (fun K hK => ?_)
   {
   skip
   refine goes_ Try.func94 (by kernel_rfl) rfl #[.agg #[.int .i64 a0_0, .int .i64 a0_1, .slice A0_2 l0_2.length c0_2], .int .i64 ((rd_T48 l1 x8_1).f0)] (by rfl) rfl rfl qz4 ?_
   with_reducible refine (spec_l5Stack.calls k1 a0_0 a0_1 _ _ l0_2 ((rd_T48 l1 x8_1).f0) t199 t200 t201 _ ?side1 ?side2 A8.out).mono ?_
   (case side1 => exact qz10)
   (case side2 => exact HC0_2.out)
   rintro e w25 ⟨rfl, hb⟩
   refine ⟨_, rfl, ?_⟩
   replace HO_6 := aM (Kd.R_below (rr_ HO_6.out) hb)
   replace BK194 := bB_ BK194 hb
   replace HB := bS_ hb
   (try clear hb)
   (try clear hb2)
   (try clear hk)
   (try clear hi)
   refine hK.out _ _ ⟨(blk_cell BK194.out 0).trans rfl, (blk_cell BK194.out 1).trans rfl, (blk_cell BK194.out 2).trans rfl, (cB_ hw198_0), (cB_ hw198_1)⟩ (fun hHeld => ?_)
   clear hK K
   refine nm_ 24 ?_
   refine one_ (i := 7) (N := some 9) (bqz 9 255) rfl rfl qzc (by decide) (fun K hK => ?_)
   refine box_step ?hg (N := 9) ?hd (cs := #[.int .i64 0, .int .i64 0, .int .i64 0]) (t := 72) ?hr ?_; (case hd => rfl); (case hg => rfl); (case hr => exact qz23)
   intro gb202 hg w26 hbox hb
   replace HO_6 := aM (Kd.R_below (rr_ HO_6.out) hb)
   have BK202 := aM (hbox)
   have GW202 := aM (bz_ w hg qz1)
   have GE202 := GW202
   replace HB := bS_ hb
   obtain ⟨NB194_202, NB202_194⟩ := nb_ hg (bk_ BK194.out)
   replace BK194 := bB_ BK194 hb
   clear hb hbox hg
   refine hK.out _ _ ⟨(blk_cell BK194.out 0).trans rfl, (blk_cell BK194.out 1).trans rfl, (blk_cell BK194.out 2).trans rfl, (cB_ hw198_0), (cB_ hw198_1)⟩ (fun hHeld => ?_)
   clear hK K
   refine nm_ 9 ?_
   exact norm_ qz24 (hCont (gb202) _ ⟨hHeld, (rr_ HO_6.out), (bk_ BK194.out), (bk_ BK202.out), GW202.out, GE202.out, NB194_202.out, NB202_194.out, qz1⟩)
   }
   {
   skip
   refine box_step ?hg (N := 9) ?hd (cs := #[.int .i64 0, .int .i64 0, .int .i64 0]) (t := 72) ?hr ?_; (case hd => rfl); (case hg => rfl); (case hr => exact qz23)
   intro gb202 hg w25 hbox hb
   replace HO_6 := aM (Kd.R_below (rr_ HO_6.out) hb)
   have BK202 := aM (hbox)
   have GW202 := aM (bz_ w hg qz1)
   have GE202 := GW202
   replace HB := bS_ hb
   obtain ⟨NB194_202, NB202_194⟩ := nb_ hg (bk_ BK194.out)
   replace BK194 := bB_ BK194 hb
   clear hb hbox hg
   refine hK.out _ _ ⟨(blk_cell BK194.out 0).trans rfl, (blk_cell BK194.out 1).trans rfl, (blk_cell BK194.out 2).trans rfl, (cB_ hw198_0), (cB_ hw198_1)⟩ (fun hHeld => ?_)
   clear hK K
   refine nm_ 9 ?_
   refine one_ (i := 6) (N := some 24) (bqz 9 255) rfl rfl qzc (by decide) (fun K hK => ?_)
   refine goes_ Try.func94 (by kernel_rfl) rfl #[.agg #[.int .i64 a0_0, .int .i64 a0_1, .slice A0_2 l0_2.length c0_2], .int .i64 ((rd_T48 l1 x8_1).f0)] (by rfl) rfl rfl qz4 ?_
   with_reducible refine (spec_l5Stack.calls k1 a0_0 a0_1 _ _ l0_2 ((rd_T48 l1 x8_1).f0) t199 t200 t201 _ ?side1 ?side2 A8.out).mono ?_
   (case side1 => exact qz10)
   (case side2 => exact HC0_2.out)
   rintro e w26 ⟨rfl, hb⟩
   refine ⟨_, rfl, ?_⟩
   replace HO_6 := aM (Kd.R_below (rr_ HO_6.out) hb)
   replace BK194 := bB_ BK194 hb
   replace BK202 := bB_ BK202 hb
   replace HB := bS_ hb
   (try clear hb)
   (try clear hb2)
   (try clear hk)
   (try clear hi)
   refine hK.out _ _ ⟨(blk_cell BK194.out 0).trans rfl, (blk_cell BK194.out 1).trans rfl, (blk_cell BK194.out 2).trans rfl, (cB_ hw198_0), (cB_ hw198_1)⟩ (fun hHeld => ?_)
   clear hK K
   refine nm_ 24 ?_
   exact norm_ qz24 (hCont (gb202) _ ⟨hHeld, (rr_ HO_6.out), (bk_ BK194.out), (bk_ BK202.out), GW202.out, GE202.out, NB194_202.out, NB202_194.out, qz1⟩)
   }
   }
   rintro gb202 w27 ⟨hS_, h0_, h1_, h2_, h3_, h4_, h5_, h6_, h7_⟩
   replace HO_6 : Aside0 (Kd.R k50 50 w27 w.heap.size (fun _ => True) u6 x6_1) := ⟨h0_⟩
   replace BK194 : Aside0 (w27.heap[gb194]? = some (.cells #[.int .i64 a0_0, .int .i64 a0_1, .slice A0_2 l0_2.length c0_2] 79 (0, 0))) := ⟨h1_⟩
   have BK202 : Aside0 (w27.heap[gb202]? = some (.cells #[.int .i64 0, .int .i64 0, .int .i64 0] 72 (0, 0))) := ⟨h2_⟩
   have GW202 : Aside0 (w.heap.size ≤ gb202) := ⟨h3_⟩
   have GE202 : Aside0 (w.heap.size ≤ gb202) := ⟨h4_⟩
   have NB194_202 : Aside0 (gb194 ≠ gb202) := ⟨h5_⟩
   have NB202_194 : Aside0 (gb202 ≠ gb194) := ⟨h6_⟩
   replace HB : Aside0 (Below w.heap.size w w27) := ⟨h7_⟩
   clear h0_ h1_ h2_ h3_ h4_ h5_ h6_ h7_
   have hHeld : w27.cell? ⟨gb194, 0, none⟩ = some (.int .i64 a0_0) ∧ w27.cell? ⟨gb194, 1, none⟩ = some (.int .i64 a0_1) ∧ w27.cell? ⟨gb194, 2, none⟩ = some (.slice A0_2 l0_2.length c0_2) ∧ w27.cell? (ad198.add ((x8_1).toNat * 2)) = some (.int .i64 ((rd_T48 l1 x8_1).f0)) ∧ w27.cell? ⟨(ad198.add ((x8_1).toNat * 2)).block, (ad198.add ((x8_1).toNat * 2)).off + 1, none⟩ = some (.int .i64 ((rd_T48 l1 x8_1).f1)) := hS_
   refine norm_ (a' := ?_) ?_ ?_
   rotate_left
   {
   simp only [putAll, Act.put, List.setIfInBounds_toArray, List.set_cons_zero, List.set_cons_succ]
   rfl
   }
   refine one_ (i := 8) (N := none) (bqz 9 511) rfl rfl qzc (by decide) (fun K hK => ?_)
   have hs28 : w27.cell? ⟨gb202, 0, none⟩ = some (.int .i64 0) := (blk_cell BK202.out 0).trans rfl
   have hfs28 := blk_frozen BK202.out 0
   have hns28_0 := NB194_202.out
   have hms28_0 := NB202_194.out
   have hs29 : w27.cell? ⟨gb202, 1, none⟩ = some (.int .i64 0) := (blk_cell BK202.out 1).trans rfl
   have hfs29 := blk_frozen BK202.out 1
   have hns29_0 := NB194_202.out
   have hms29_0 := NB202_194.out
   have hs30 : w27.cell? ⟨gb202, 2, none⟩ = some (.int .i64 0) := (blk_cell BK202.out 2).trans rfl
   have hfs30 := blk_frozen BK202.out 2
   have hns30_0 := NB194_202.out
   have hms30_0 := NB202_194.out
   refine sk_ ?_
   refine hK.out _ _ ⟨((cell_far (p := ⟨gb202, _, none⟩) NB194_202.out _).trans (((cell_far (p := ⟨gb202, _, none⟩) NB194_202.out _).trans (((cell_far (p := ⟨gb202, _, none⟩) NB194_202.out _).trans (hHeld.1)))))), ((cell_far (p := ⟨gb202, _, none⟩) NB194_202.out _).trans (((cell_far (p := ⟨gb202, _, none⟩) NB194_202.out _).trans (((cell_far (p := ⟨gb202, _, none⟩) NB194_202.out _).trans (hHeld.2.1)))))), ((cell_far (p := ⟨gb202, _, none⟩) NB194_202.out _).trans (((cell_far (p := ⟨gb202, _, none⟩) NB194_202.out _).trans (((cell_far (p := ⟨gb202, _, none⟩) NB194_202.out _).trans (hHeld.2.2.1)))))), ((cell_far (p := ⟨gb202, _, none⟩) (by first | exact Nat.ne_of_lt (Nat.lt_of_lt_of_le (by have := World.block_lt_of_cell? _ _ hw198_0; first | rwa [add_block] at this | exact this) GW202.out) | (rw [add_block]; exact Nat.ne_of_lt (Nat.lt_of_lt_of_le (by have := World.block_lt_of_cell? _ _ hw198_0; first | rwa [add_block] at this | exact this) GW202.out)) | (show (Addr.add _ _).block ≠ _; rw [add_block]; exact Nat.ne_of_lt (Nat.lt_of_lt_of_le (by have := World.block_lt_of_cell? _ _ hw198_0; first | rwa [add_block] at this | exact this) GW202.out)) | (dsimp only; exact Nat.ne_of_lt (Nat.lt_of_lt_of_le (by have := World.block_lt_of_cell? _ _ hw198_0; first | rwa [add_block] at this | exact this) GW202.out))) _).trans (((cell_far (p := ⟨gb202, _, none⟩) (by first | exact Nat.ne_of_lt (Nat.lt_of_lt_of_le (by have := World.block_lt_of_cell? _ _ hw198_0; first | rwa [add_block] at this | exact this) GW202.out) | (rw [add_block]; exact Nat.ne_of_lt (Nat.lt_of_lt_of_le (by have := World.block_lt_of_cell? _ _ hw198_0; first | rwa [add_block] at this | exact this) GW202.out)) | (show (Addr.add _ _).block ≠ _; rw [add_block]; exact Nat.ne_of_lt (Nat.lt_of_lt_of_le (by have := World.block_lt_of_cell? _ _ hw198_0; first | rwa [add_block] at this | exact this) GW202.out)) | (dsimp only; exact Nat.ne_of_lt (Nat.lt_of_lt_of_le (by have := World.block_lt_of_cell? _ _ hw198_0; first | rwa [add_block] at this | exact this) GW202.out))) _).trans (((cell_far (p := ⟨gb202, _, none⟩) (by first | exact Nat.ne_of_lt (Nat.lt_of_lt_of_le (by have := World.block_lt_of_cell? _ _ hw198_0; first | rwa [add_block] at this | exact this) GW202.out) | (rw [add_block]; exact Nat.ne_of_lt (Nat.lt_of_lt_of_le (by have := World.block_lt_of_cell? _ _ hw198_0; first | rwa [add_block] at this | exact this) GW202.out)) | (show (Addr.add _ _).block ≠ _; rw [add_block]; exact Nat.ne_of_lt (Nat.lt_of_lt_of_le (by have := World.block_lt_of_cell? _ _ hw198_0; first | rwa [add_block] at this | exact this) GW202.out)) | (dsimp only; exact Nat.ne_of_lt (Nat.lt_of_lt_of_le (by have := World.block_lt_of_cell? _ _ hw198_0; first | rwa [add_block] at this | exact this) GW202.out))) _).trans (hHeld.2.2.2.1)))))), ((cell_far (p := ⟨gb202, _, none⟩) (by first | exact Nat.ne_of_lt (Nat.lt_of_lt_of_le (by have := World.block_lt_of_cell? _ _ hw198_1; first | rwa [add_block] at this | exact this) GW202.out) | (rw [add_block]; exact Nat.ne_of_lt (Nat.lt_of_lt_of_le (by have := World.block_lt_of_cell? _ _ hw198_1; first | rwa [add_block] at this | exact this) GW202.out)) | (show (Addr.add _ _).block ≠ _; rw [add_block]; exact Nat.ne_of_lt (Nat.lt_of_lt_of_le (by have := World.block_lt_of_cell? _ _ hw198_1; first | rwa [add_block] at this | exact this) GW202.out)) | (dsimp only; exact Nat.ne_of_lt (Nat.lt_of_lt_of_le (by have := World.block_lt_of_cell? _ _ hw198_1; first | rwa [add_block] at this | exact this) GW202.out))) _).trans (((cell_far (p := ⟨gb202, _, none⟩) (by first | exact Nat.ne_of_lt (Nat.lt_of_lt_of_le (by have := World.block_lt_of_cell? _ _ hw198_1; first | rwa [add_block] at this | exact this) GW202.out) | (rw [add_block]; exact Nat.ne_of_lt (Nat.lt_of_lt_of_le (by have := World.block_lt_of_cell? _ _ hw198_1; first | rwa [add_block] at this | exact this) GW202.out)) | (show (Addr.add _ _).block ≠ _; rw [add_block]; exact Nat.ne_of_lt (Nat.lt_of_lt_of_le (by have := World.block_lt_of_cell? _ _ hw198_1; first | rwa [add_block] at this | exact this) GW202.out)) | (dsimp only; exact Nat.ne_of_lt (Nat.lt_of_lt_of_le (by have := World.block_lt_of_cell? _ _ hw198_1; first | rwa [add_block] at this | exact this) GW202.out))) _).trans (((cell_far (p := ⟨gb202, _, none⟩) (by first | exact Nat.ne_of_lt (Nat.lt_of_lt_of_le (by have := World.block_lt_of_cell? _ _ hw198_1; first | rwa [add_block] at this | exact this) GW202.out) | (rw [add_block]; exact Nat.ne_of_lt (Nat.lt_of_lt_of_le (by have := World.block_lt_of_cell? _ _ hw198_1; first | rwa [add_block] at this | exact this) GW202.out)) | (show (Addr.add _ _).block ≠ _; rw [add_block]; exact Nat.ne_of_lt (Nat.lt_of_lt_of_le (by have := World.block_lt_of_cell? _ _ hw198_1; first | rwa [add_block] at this | exact this) GW202.out)) | (dsimp only; exact Nat.ne_of_lt (Nat.lt_of_lt_of_le (by have := World.block_lt_of_cell? _ _ hw198_1; first | rwa [add_block] at this | exact this) GW202.out))) _).trans (hHeld.2.2.2.2))))))⟩ (fun hHeld => ?_)
   clear hK K
   refine done_ (done_of HT_.out (by kernel_rfl)) ?_
   have hnb31 := NB202_194.out
   have hnc31 := NB194_202.out
   obtain ⟨hcz32_0, hcz32_1, hcz32_2, hfz32_0, hfz32_1, hfz32_2⟩ := b6_ BK202.out
   have p203 : 0 ≤ (x8_1 : Int) := dt_
   have q203 : x8_1 < (l1.length : Int) := dt_
   obtain ⟨ad203, e203, hx203_0, hx203_1⟩ := at_T48 HR1.out x8_1 p203 q203
   obtain rfl : ad198 = ad203 := (by injection e203)
   have hn203_0 : ad198.block ≠ gb202 := nf_ hx203_0 GW202.out
   have hn203_1 : ad198.block ≠ gb202 := nf_ hx203_0 GW202.out
   have hn203_2 : ad198.block ≠ gb202 := nf_ hx203_0 GW202.out
   replace hx203_0 := cB_ hx203_0
   replace hx203_1 := cB_ hx203_1
   replace hx203_0 := (cell_far (p := ⟨gb202, 0, none⟩) qz17 (.int .i64 t199)).trans hx203_0
   replace hx203_1 := (cell_far (p := ⟨gb202, 0, none⟩) qz17 (.int .i64 t199)).trans hx203_1
   replace hx203_0 := (cell_far (p := ⟨gb202, 1, none⟩) qz18 (.int .i64 t200)).trans hx203_0
   replace hx203_1 := (cell_far (p := ⟨gb202, 1, none⟩) qz18 (.int .i64 t200)).trans hx203_1
   replace hx203_0 := (cell_far (p := ⟨gb202, 2, none⟩) qz19 (.int .i64 t201)).trans hx203_0
   replace hx203_1 := (cell_far (p := ⟨gb202, 2, none⟩) qz19 (.int .i64 t201)).trans hx203_1
   clear hn203_0 hn203_1 hn203_2
   replace p203 := eq_true p203
   replace q203 := eq_true q203
   have p204 : 0 ≤ (x8_1 : Int) := dt_
   have q204 : x8_1 < (l1.length : Int) := dt_
   obtain ⟨ad204, e204, hx204_0, hx204_1⟩ := at_T48 HR1.out x8_1 p204 q204
   obtain rfl : ad198 = ad204 := (by injection e204)
   have hn204_0 : ad198.block ≠ gb202 := nf_ hx204_0 GW202.out
   have hn204_1 : ad198.block ≠ gb202 := nf_ hx204_0 GW202.out
   have hn204_2 : ad198.block ≠ gb202 := nf_ hx204_0 GW202.out
   replace hx204_0 := cB_ hx204_0
   replace hx204_1 := cB_ hx204_1
   replace hx204_0 := (cell_far (p := ⟨gb202, 0, none⟩) qz34 (.int .i64 t199)).trans hx204_0
   replace hx204_1 := (cell_far (p := ⟨gb202, 0, none⟩) qz34 (.int .i64 t199)).trans hx204_1
   replace hx204_0 := (cell_far (p := ⟨gb202, 1, none⟩) qz35 (.int .i64 t200)).trans hx204_0
   replace hx204_1 := (cell_far (p := ⟨gb202, 1, none⟩) qz35 (.int .i64 t200)).trans hx204_1
   replace hx204_0 := (cell_far (p := ⟨gb202, 2, none⟩) qz36 (.int .i64 t201)).trans hx204_0
   replace hx204_1 := (cell_far (p := ⟨gb202, 2, none⟩) qz36 (.int .i64 t201)).trans hx204_1
   clear hn204_0 hn204_1 hn204_2
   replace p204 := eq_true p204
   replace q204 := eq_true q204
   try go_wp2
   go_roundg k1
   case measure => have := HK1.out; omega
   case rel => exact ⟨(x6_1), (x7_1), (wrap64 (x8_1 + 1)), qz5, qz5, H', ⟨by have := HK1.out; omega⟩, ⟨by (with_reducible repeat (first | apply Kd.R_alloc | apply Kd.R_drewN | apply Kd.R_drew)); exact Kd.R_mono (Kd.R_far (p := ⟨gb202, 2, none⟩) (Kd.R_far (p := ⟨gb202, 1, none⟩) (Kd.R_far (p := ⟨gb202, 0, none⟩) (Kd.R_types HO_6.out BK202.out (by decide)) (fun _ hk => hk.2) (.int .i64 t199)) (fun _ hk => hk.2) (.int .i64 t200)) (fun _ hk => hk.2) (.int .i64 t201)) (fun _ hk => trivial)⟩, ⟨by (with_reducible repeat (first | refine blk_drewN ?_ _ | refine blk_drew ?_ | refine blk_alloc ?_ _)); refine blk_far ?_ NB194_202.out _; (with_reducible repeat (first | refine blk_drewN ?_ _ | refine blk_drew ?_ | refine blk_alloc ?_ _)); refine blk_far ?_ NB194_202.out _; (with_reducible repeat (first | refine blk_drewN ?_ _ | refine blk_drew ?_ | refine blk_alloc ?_ _)); refine blk_far ?_ NB194_202.out _; exact bk_ BK194.out⟩, ⟨qz1⟩⟩
   }
   }
   {
   rw [if_neg c9] at H
   have c9b0 := decide_eq_false c9
   clear c9
   by_cases c33 : (wrap64 (t200 - t201)) > 0
   {
   rw [if_pos c33] at H
   have c33b0 := decide_eq_true c33
   clear c33
   by_cases c34 : x6_1.length < 5864062014805
   {
   rw [if_pos c34] at H
   have LMc34 := aM c34
   clear c34
   obtain ⟨y210, hy210⟩ : ∃ y_ : List (S50), y_ = (x6_1 ++ [(⟨a0_0, (rd_T48 l1 x8_1).f0, wrap64 (t200 - t201)⟩ : S50)]) := ⟨_, rfl⟩
   replace H : (spec_l6Could.l0 k1 l1 y210 (wrap64 (x7_1 + (wrap64 (t200 - t201)))) (wrap64 (x8_1 + 1)) a0_0 a0_1 l0_2) = some (r1, r2) := by first | (rw [hy210]; with_reducible exact H) | (have H2_ := (Option.bind_some _ _).symm.trans H; rw [hy210]; with_reducible exact H2_) | (have H2_ := (Option.bind_some _ _).symm.trans H; with_reducible exact H2_) | with_reducible exact H | (rw [hy210]; exact H) | exact H
   have Ny210 := aM hy210
   clear hy210
   have H' := aM H
   clear H
   try go_wp2
   replace HO_6 := aM (Kd.R_drew HO_6.out)
   replace BK194 := aM (blk_drew BK194.out)
   replace HB := aM (below_drew1 HB.out)
   have p198 : 0 ≤ (x8_1 : Int) := dt_
   have q198 : x8_1 < (l1.length : Int) := dt_
   obtain ⟨ad198, e198, hx198_0, hx198_1⟩ := at_T48 HR1.out x8_1 p198 q198
   have hw198_1 := hx198_1
   have hw198_0 := hx198_0
   cases e198
   replace hx198_0 := cB_ hx198_0
   replace hx198_1 := cB_ hx198_1
   replace p198 := eq_true p198
   replace q198 := eq_true q198
   refine start_ (n := 9) (S := fun w' => w'.cell? ⟨gb194, 0, none⟩ = some (.int .i64 a0_0) ∧ w'.cell? ⟨gb194, 1, none⟩ = some (.int .i64 a0_1) ∧ w'.cell? ⟨gb194, 2, none⟩ = some (.slice A0_2 l0_2.length c0_2) ∧ w'.cell? (ad198.add ((x8_1).toNat * 2)) = some (.int .i64 ((rd_T48 l1 x8_1).f0)) ∧ w'.cell? ⟨(ad198.add ((x8_1).toNat * 2)).block, (ad198.add ((x8_1).toNat * 2)).off + 1, none⟩ = some (.int .i64 ((rd_T48 l1 x8_1).f1))) (ds := []) #[false, false, false, false, false, false, false, false, false] (by kernel_rfl) rfl rfl ⟨(blk_cell BK194.out 0).trans rfl, (blk_cell BK194.out 1).trans rfl, (blk_cell BK194.out 2).trans rfl, (cB_ hw198_0), (cB_ hw198_1)⟩ (fun hHeld => ?_); refine with_tabW spec_l6Could.tab6 spec_l6Could.bits6 (fun HT_ HW_ => ?_)
   generalize wr.drew = w35 at HO_6 BK194 HB hx198_0 hx198_1 hHeld ⊢
   refine pI_ 1 19 (bqz 9 2) ?_
   refine jI_ 2 20 ?_
   refine jI_ 3 21 ?_
   refine jI_ 4 22 ?_
   refine sI5_ 0 18 ?_
   refine sI5_ 5 23 ?_
   refine join_ (σ := Nat) 1 (bqz 9 255) (fun s_ => [(24, .agg #[.int .i64 t199, .int .i64 t200, .int .i64 t201]), (9, .pointer (some ⟨s_, 0, none⟩))]) (fun s_ w' => (w'.cell? ⟨gb194, 0, none⟩ = some (.int .i64 a0_0) ∧ w'.cell? ⟨gb194, 1, none⟩ = some (.int .i64 a0_1) ∧ w'.cell? ⟨gb194, 2, none⟩ = some (.slice A0_2 l0_2.length c0_2) ∧ w'.cell? (ad198.add ((x8_1).toNat * 2)) = some (.int .i64 ((rd_T48 l1 x8_1).f0)) ∧ w'.cell? ⟨(ad198.add ((x8_1).toNat * 2)).block, (ad198.add ((x8_1).toNat * 2)).off + 1, none⟩ = some (.int .i64 ((rd_T48 l1 x8_1).f1))) ∧ (Kd.R k50 50 w' w.heap.size (fun _ => True) u6 x6_1) ∧ (w'.heap[gb194]? = some (.cells #[.int .i64 a0_0, .int .i64 a0_1, .slice A0_2 l0_2.length c0_2] 79 (0, 0))) ∧ (w'.heap[s_]? = some (.cells #[.int .i64 0, .int .i64 0, .int .i64 0] 72 (0, 0))) ∧ (w.heap.size ≤ s_) ∧ (w.heap.size ≤ s_) ∧ (gb194 ≠ s_) ∧ (s_ ≠ gb194) ∧ (Below w.heap.size w w')) ?_ ?_
   rotate_left
   {
   intro hCont
   refine two_ (i := 6) (j := 7) (Ni := some 24) (Nj := some 9) (bqz 9 127) (bqz 9 191) rfl rfl rfl rfl (two_of HT_.out (by kernel_rfl)) (by decide) (by decide) (fun K hK => ?_) (fun K hK => ?_)
   {
   skip
   refine goes_ Try.func94 (by kernel_rfl) rfl #[.agg #[.int .i64 a0_0, .int .i64 a0_1, .slice A0_2 l0_2.length c0_2], .int .i64 ((rd_T48 l1 x8_1).f0)] (by rfl) rfl rfl qz4 ?_
   with_reducible refine (spec_l5Stack.calls k1 a0_0 a0_1 _ _ l0_2 ((rd_T48 l1 x8_1).f0) t199 t200 t201 _ ?side1 ?side2 A8.out).mono ?_
   (case side1 => exact qz10)
   (case side2 => exact HC0_2.out)
   rintro e w36 ⟨rfl, hb⟩
   refine ⟨_, rfl, ?_⟩
   replace HO_6 := aM (Kd.R_below (rr_ HO_6.out) hb)
   replace BK194 := bB_ BK194 hb
   replace HB := bS_ hb
   (try clear hb)
   (try clear hb2)
   (try clear hk)
   (try clear hi)
   refine hK.out _ _ ⟨(blk_cell BK194.out 0).trans rfl, (blk_cell BK194.out 1).trans rfl, (blk_cell BK194.out 2).trans rfl, (cB_ hw198_0), (cB_ hw198_1)⟩ (fun hHeld => ?_)
   clear hK K
   refine nm_ 24 ?_
   refine one_ (i := 7) (N := some 9) (bqz 9 255) rfl rfl qzc (by decide) (fun K hK => ?_)
   refine box_step ?hg (N := 9) ?hd (cs := #[.int .i64 0, .int .i64 0, .int .i64 0]) (t := 72) ?hr ?_; (case hd => rfl); (case hg => rfl); (case hr => exact qz23)
   intro gb202 hg w37 hbox hb
   replace HO_6 := aM (Kd.R_below (rr_ HO_6.out) hb)
   have BK202 := aM (hbox)
   have GW202 := aM (bz_ w hg qz1)
   have GE202 := GW202
   replace HB := bS_ hb
   obtain ⟨NB194_202, NB202_194⟩ := nb_ hg (bk_ BK194.out)
   replace BK194 := bB_ BK194 hb
   clear hb hbox hg
   refine hK.out _ _ ⟨(blk_cell BK194.out 0).trans rfl, (blk_cell BK194.out 1).trans rfl, (blk_cell BK194.out 2).trans rfl, (cB_ hw198_0), (cB_ hw198_1)⟩ (fun hHeld => ?_)
   clear hK K
   refine nm_ 9 ?_
   exact norm_ qz24 (hCont (gb202) _ ⟨hHeld, (rr_ HO_6.out), (bk_ BK194.out), (bk_ BK202.out), GW202.out, GE202.out, NB194_202.out, NB202_194.out, qz1⟩)
   }
   {
   skip
   refine box_step ?hg (N := 9) ?hd (cs := #[.int .i64 0, .int .i64 0, .int .i64 0]) (t := 72) ?hr ?_; (case hd => rfl); (case hg => rfl); (case hr => exact qz23)
   intro gb202 hg w36 hbox hb
   replace HO_6 := aM (Kd.R_below (rr_ HO_6.out) hb)
   have BK202 := aM (hbox)
   have GW202 := aM (bz_ w hg qz1)
   have GE202 := GW202
   replace HB := bS_ hb
   obtain ⟨NB194_202, NB202_194⟩ := nb_ hg (bk_ BK194.out)
   replace BK194 := bB_ BK194 hb
   clear hb hbox hg
   refine hK.out _ _ ⟨(blk_cell BK194.out 0).trans rfl, (blk_cell BK194.out 1).trans rfl, (blk_cell BK194.out 2).trans rfl, (cB_ hw198_0), (cB_ hw198_1)⟩ (fun hHeld => ?_)
   clear hK K
   refine nm_ 9 ?_
   refine one_ (i := 6) (N := some 24) (bqz 9 255) rfl rfl qzc (by decide) (fun K hK => ?_)
   refine goes_ Try.func94 (by kernel_rfl) rfl #[.agg #[.int .i64 a0_0, .int .i64 a0_1, .slice A0_2 l0_2.length c0_2], .int .i64 ((rd_T48 l1 x8_1).f0)] (by rfl) rfl rfl qz4 ?_
   with_reducible refine (spec_l5Stack.calls k1 a0_0 a0_1 _ _ l0_2 ((rd_T48 l1 x8_1).f0) t199 t200 t201 _ ?side1 ?side2 A8.out).mono ?_
   (case side1 => exact qz10)
   (case side2 => exact HC0_2.out)
   rintro e w37 ⟨rfl, hb⟩
   refine ⟨_, rfl, ?_⟩
   replace HO_6 := aM (Kd.R_below (rr_ HO_6.out) hb)
   replace BK194 := bB_ BK194 hb
   replace BK202 := bB_ BK202 hb
   replace HB := bS_ hb
   (try clear hb)
   (try clear hb2)
   (try clear hk)
   (try clear hi)
   refine hK.out _ _ ⟨(blk_cell BK194.out 0).trans rfl, (blk_cell BK194.out 1).trans rfl, (blk_cell BK194.out 2).trans rfl, (cB_ hw198_0), (cB_ hw198_1)⟩ (fun hHeld => ?_)
   clear hK K
   refine nm_ 24 ?_
   exact norm_ qz24 (hCont (gb202) _ ⟨hHeld, (rr_ HO_6.out), (bk_ BK194.out), (bk_ BK202.out), GW202.out, GE202.out, NB194_202.out, NB202_194.out, qz1⟩)
   }
   }
   rintro gb202 w38 ⟨hS_, h0_, h1_, h2_, h3_, h4_, h5_, h6_, h7_⟩
   replace HO_6 : Aside0 (Kd.R k50 50 w38 w.heap.size (fun _ => True) u6 x6_1) := ⟨h0_⟩
   replace BK194 : Aside0 (w38.heap[gb194]? = some (.cells #[.int .i64 a0_0, .int .i64 a0_1, .slice A0_2 l0_2.length c0_2] 79 (0, 0))) := ⟨h1_⟩
   have BK202 : Aside0 (w38.heap[gb202]? = some (.cells #[.int .i64 0, .int .i64 0, .int .i64 0] 72 (0, 0))) := ⟨h2_⟩
   have GW202 : Aside0 (w.heap.size ≤ gb202) := ⟨h3_⟩
   have GE202 : Aside0 (w.heap.size ≤ gb202) := ⟨h4_⟩
   have NB194_202 : Aside0 (gb194 ≠ gb202) := ⟨h5_⟩
   have NB202_194 : Aside0 (gb202 ≠ gb194) := ⟨h6_⟩
   replace HB : Aside0 (Below w.heap.size w w38) := ⟨h7_⟩
   clear h0_ h1_ h2_ h3_ h4_ h5_ h6_ h7_
   have hHeld : w38.cell? ⟨gb194, 0, none⟩ = some (.int .i64 a0_0) ∧ w38.cell? ⟨gb194, 1, none⟩ = some (.int .i64 a0_1) ∧ w38.cell? ⟨gb194, 2, none⟩ = some (.slice A0_2 l0_2.length c0_2) ∧ w38.cell? (ad198.add ((x8_1).toNat * 2)) = some (.int .i64 ((rd_T48 l1 x8_1).f0)) ∧ w38.cell? ⟨(ad198.add ((x8_1).toNat * 2)).block, (ad198.add ((x8_1).toNat * 2)).off + 1, none⟩ = some (.int .i64 ((rd_T48 l1 x8_1).f1)) := hS_
   refine norm_ (a' := ?_) ?_ ?_
   rotate_left
   {
   simp only [putAll, Act.put, List.setIfInBounds_toArray, List.set_cons_zero, List.set_cons_succ]
   rfl
   }
   refine one_ (i := 8) (N := none) (bqz 9 511) rfl rfl qzc (by decide) (fun K hK => ?_)
   have hs39 : w38.cell? ⟨gb202, 0, none⟩ = some (.int .i64 0) := (blk_cell BK202.out 0).trans rfl
   have hfs39 := blk_frozen BK202.out 0
   have hns39_0 := NB194_202.out
   have hms39_0 := NB202_194.out
   have hs40 : w38.cell? ⟨gb202, 1, none⟩ = some (.int .i64 0) := (blk_cell BK202.out 1).trans rfl
   have hfs40 := blk_frozen BK202.out 1
   have hns40_0 := NB194_202.out
   have hms40_0 := NB202_194.out
   have hs41 : w38.cell? ⟨gb202, 2, none⟩ = some (.int .i64 0) := (blk_cell BK202.out 2).trans rfl
   have hfs41 := blk_frozen BK202.out 2
   have hns41_0 := NB194_202.out
   have hms41_0 := NB202_194.out
   refine sk_ ?_
   refine hK.out _ _ ⟨((cell_far (p := ⟨gb202, _, none⟩) NB194_202.out _).trans (((cell_far (p := ⟨gb202, _, none⟩) NB194_202.out _).trans (((cell_far (p := ⟨gb202, _, none⟩) NB194_202.out _).trans (hHeld.1)))))), ((cell_far (p := ⟨gb202, _, none⟩) NB194_202.out _).trans (((cell_far (p := ⟨gb202, _, none⟩) NB194_202.out _).trans (((cell_far (p := ⟨gb202, _, none⟩) NB194_202.out _).trans (hHeld.2.1)))))), ((cell_far (p := ⟨gb202, _, none⟩) NB194_202.out _).trans (((cell_far (p := ⟨gb202, _, none⟩) NB194_202.out _).trans (((cell_far (p := ⟨gb202, _, none⟩) NB194_202.out _).trans (hHeld.2.2.1)))))), ((cell_far (p := ⟨gb202, _, none⟩) (by first | exact Nat.ne_of_lt (Nat.lt_of_lt_of_le (by have := World.block_lt_of_cell? _ _ hw198_0; first | rwa [add_block] at this | exact this) GW202.out) | (rw [add_block]; exact Nat.ne_of_lt (Nat.lt_of_lt_of_le (by have := World.block_lt_of_cell? _ _ hw198_0; first | rwa [add_block] at this | exact this) GW202.out)) | (show (Addr.add _ _).block ≠ _; rw [add_block]; exact Nat.ne_of_lt (Nat.lt_of_lt_of_le (by have := World.block_lt_of_cell? _ _ hw198_0; first | rwa [add_block] at this | exact this) GW202.out)) | (dsimp only; exact Nat.ne_of_lt (Nat.lt_of_lt_of_le (by have := World.block_lt_of_cell? _ _ hw198_0; first | rwa [add_block] at this | exact this) GW202.out))) _).trans (((cell_far (p := ⟨gb202, _, none⟩) (by first | exact Nat.ne_of_lt (Nat.lt_of_lt_of_le (by have := World.block_lt_of_cell? _ _ hw198_0; first | rwa [add_block] at this | exact this) GW202.out) | (rw [add_block]; exact Nat.ne_of_lt (Nat.lt_of_lt_of_le (by have := World.block_lt_of_cell? _ _ hw198_0; first | rwa [add_block] at this | exact this) GW202.out)) | (show (Addr.add _ _).block ≠ _; rw [add_block]; exact Nat.ne_of_lt (Nat.lt_of_lt_of_le (by have := World.block_lt_of_cell? _ _ hw198_0; first | rwa [add_block] at this | exact this) GW202.out)) | (dsimp only; exact Nat.ne_of_lt (Nat.lt_of_lt_of_le (by have := World.block_lt_of_cell? _ _ hw198_0; first | rwa [add_block] at this | exact this) GW202.out))) _).trans (((cell_far (p := ⟨gb202, _, none⟩) (by first | exact Nat.ne_of_lt (Nat.lt_of_lt_of_le (by have := World.block_lt_of_cell? _ _ hw198_0; first | rwa [add_block] at this | exact this) GW202.out) | (rw [add_block]; exact Nat.ne_of_lt (Nat.lt_of_lt_of_le (by have := World.block_lt_of_cell? _ _ hw198_0; first | rwa [add_block] at this | exact this) GW202.out)) | (show (Addr.add _ _).block ≠ _; rw [add_block]; exact Nat.ne_of_lt (Nat.lt_of_lt_of_le (by have := World.block_lt_of_cell? _ _ hw198_0; first | rwa [add_block] at this | exact this) GW202.out)) | (dsimp only; exact Nat.ne_of_lt (Nat.lt_of_lt_of_le (by have := World.block_lt_of_cell? _ _ hw198_0; first | rwa [add_block] at this | exact this) GW202.out))) _).trans (hHeld.2.2.2.1)))))), ((cell_far (p := ⟨gb202, _, none⟩) (by first | exact Nat.ne_of_lt (Nat.lt_of_lt_of_le (by have := World.block_lt_of_cell? _ _ hw198_1; first | rwa [add_block] at this | exact this) GW202.out) | (rw [add_block]; exact Nat.ne_of_lt (Nat.lt_of_lt_of_le (by have := World.block_lt_of_cell? _ _ hw198_1; first | rwa [add_block] at this | exact this) GW202.out)) | (show (Addr.add _ _).block ≠ _; rw [add_block]; exact Nat.ne_of_lt (Nat.lt_of_lt_of_le (by have := World.block_lt_of_cell? _ _ hw198_1; first | rwa [add_block] at this | exact this) GW202.out)) | (dsimp only; exact Nat.ne_of_lt (Nat.lt_of_lt_of_le (by have := World.block_lt_of_cell? _ _ hw198_1; first | rwa [add_block] at this | exact this) GW202.out))) _).trans (((cell_far (p := ⟨gb202, _, none⟩) (by first | exact Nat.ne_of_lt (Nat.lt_of_lt_of_le (by have := World.block_lt_of_cell? _ _ hw198_1; first | rwa [add_block] at this | exact this) GW202.out) | (rw [add_block]; exact Nat.ne_of_lt (Nat.lt_of_lt_of_le (by have := World.block_lt_of_cell? _ _ hw198_1; first | rwa [add_block] at this | exact this) GW202.out)) | (show (Addr.add _ _).block ≠ _; rw [add_block]; exact Nat.ne_of_lt (Nat.lt_of_lt_of_le (by have := World.block_lt_of_cell? _ _ hw198_1; first | rwa [add_block] at this | exact this) GW202.out)) | (dsimp only; exact Nat.ne_of_lt (Nat.lt_of_lt_of_le (by have := World.block_lt_of_cell? _ _ hw198_1; first | rwa [add_block] at this | exact this) GW202.out))) _).trans (((cell_far (p := ⟨gb202, _, none⟩) (by first | exact Nat.ne_of_lt (Nat.lt_of_lt_of_le (by have := World.block_lt_of_cell? _ _ hw198_1; first | rwa [add_block] at this | exact this) GW202.out) | (rw [add_block]; exact Nat.ne_of_lt (Nat.lt_of_lt_of_le (by have := World.block_lt_of_cell? _ _ hw198_1; first | rwa [add_block] at this | exact this) GW202.out)) | (show (Addr.add _ _).block ≠ _; rw [add_block]; exact Nat.ne_of_lt (Nat.lt_of_lt_of_le (by have := World.block_lt_of_cell? _ _ hw198_1; first | rwa [add_block] at this | exact this) GW202.out)) | (dsimp only; exact Nat.ne_of_lt (Nat.lt_of_lt_of_le (by have := World.block_lt_of_cell? _ _ hw198_1; first | rwa [add_block] at this | exact this) GW202.out))) _).trans (hHeld.2.2.2.2))))))⟩ (fun hHeld => ?_)
   clear hK K
   refine done_ (done_of HT_.out (by kernel_rfl)) ?_
   have hnb42 := NB202_194.out
   have hnc42 := NB194_202.out
   obtain ⟨hcz43_0, hcz43_1, hcz43_2, hfz43_0, hfz43_1, hfz43_2⟩ := b6_ BK202.out
   have p203 : 0 ≤ (x8_1 : Int) := dt_
   have q203 : x8_1 < (l1.length : Int) := dt_
   obtain ⟨ad203, e203, hx203_0, hx203_1⟩ := at_T48 HR1.out x8_1 p203 q203
   obtain rfl : ad198 = ad203 := (by injection e203)
   have hn203_0 : ad198.block ≠ gb202 := nf_ hx203_0 GW202.out
   have hn203_1 : ad198.block ≠ gb202 := nf_ hx203_0 GW202.out
   have hn203_2 : ad198.block ≠ gb202 := nf_ hx203_0 GW202.out
   replace hx203_0 := cB_ hx203_0
   replace hx203_1 := cB_ hx203_1
   replace hx203_0 := (cell_far (p := ⟨gb202, 0, none⟩) qz17 (.int .i64 t199)).trans hx203_0
   replace hx203_1 := (cell_far (p := ⟨gb202, 0, none⟩) qz17 (.int .i64 t199)).trans hx203_1
   replace hx203_0 := (cell_far (p := ⟨gb202, 1, none⟩) qz18 (.int .i64 t200)).trans hx203_0
   replace hx203_1 := (cell_far (p := ⟨gb202, 1, none⟩) qz18 (.int .i64 t200)).trans hx203_1
   replace hx203_0 := (cell_far (p := ⟨gb202, 2, none⟩) qz19 (.int .i64 t201)).trans hx203_0
   replace hx203_1 := (cell_far (p := ⟨gb202, 2, none⟩) qz19 (.int .i64 t201)).trans hx203_1
   clear hn203_0 hn203_1 hn203_2
   replace p203 := eq_true p203
   replace q203 := eq_true q203
   try go_wp2
   generalize hq_ : (((w38.setCell ⟨gb202, 0, none⟩ (.int .i64 t199)).setCell ⟨gb202, 1, none⟩ (.int .i64 t200)).setCell ⟨gb202, 2, none⟩ (.int .i64 t201)) = w44
   replace HO_6 : Aside0 (Kd.R k50 50 w44 w.heap.size (fun _ => True) u6 x6_1) := ⟨by rw [← hq_]; exact (by (with_reducible repeat (first | apply Kd.R_alloc | apply Kd.R_drewN | apply Kd.R_drew)); exact Kd.R_mono (Kd.R_far (p := ⟨gb202, 2, none⟩) (Kd.R_far (p := ⟨gb202, 1, none⟩) (Kd.R_far (p := ⟨gb202, 0, none⟩) (Kd.R_types HO_6.out BK202.out (by decide)) (fun _ hk => hk.2) (.int .i64 t199)) (fun _ hk => hk.2) (.int .i64 t200)) (fun _ hk => hk.2) (.int .i64 t201)) (fun _ hk => trivial))⟩
   replace BK194 : Aside0 (w44.heap[gb194]? = some (.cells #[.int .i64 a0_0, .int .i64 a0_1, .slice A0_2 l0_2.length c0_2] 79 (0, 0))) := ⟨by rw [← hq_]; exact (bk2_ BK194.out)⟩
   replace BK202 : Aside0 (w44.heap[gb202]? = some (.cells #[.int .i64 t199, .int .i64 t200, .int .i64 t201] 72 (0, 0))) := ⟨by rw [← hq_]; exact (by (with_reducible repeat (first | refine blk_drewN ?_ _ | refine blk_drew ?_ | refine blk_alloc ?_ _)); refine blk_put (cs := #[.int .i64 t199, .int .i64 t200, .int .i64 0]) ?_ 2 _ rfl; (with_reducible repeat (first | refine blk_drewN ?_ _ | refine blk_drew ?_ | refine blk_alloc ?_ _)); refine blk_put (cs := #[.int .i64 t199, .int .i64 0, .int .i64 0]) ?_ 1 _ rfl; (with_reducible repeat (first | refine blk_drewN ?_ _ | refine blk_drew ?_ | refine blk_alloc ?_ _)); refine blk_put (cs := #[.int .i64 0, .int .i64 0, .int .i64 0]) ?_ 0 _ rfl; exact bk_ BK202.out)⟩
   replace HB : Aside0 (Below w.heap.size w w44) := ⟨by rw [← hq_]; exact qz1⟩
   clear hq_
   replace HO_6 := aM (Kd.R_drew HO_6.out)
   replace BK194 := aM (blk_drew BK194.out)
   replace BK202 := aM (blk_drew BK202.out)
   replace HB := aM (below_drew1 HB.out)
   have p209 : 0 ≤ (x8_1 : Int) := dt_
   have q209 : x8_1 < (l1.length : Int) := dt_
   obtain ⟨ad209, e209, hx209_0, hx209_1⟩ := at_T48 HR1.out x8_1 p209 q209
   have hw209_1 := hx209_1
   have hw209_0 := hx209_0
   obtain rfl : ad198 = ad209 := (by injection e209)
   replace hx209_0 := cB_ hx209_0
   replace hx209_1 := cB_ hx209_1
   replace p209 := eq_true p209
   replace q209 := eq_true q209
   refine start_ (n := 13) (S := fun w' => w'.cell? ⟨gb194, 0, none⟩ = some (.int .i64 a0_0) ∧ w'.cell? ⟨gb194, 1, none⟩ = some (.int .i64 a0_1) ∧ w'.cell? ⟨gb194, 2, none⟩ = some (.slice A0_2 l0_2.length c0_2) ∧ w'.cell? (ad198.add ((x8_1).toNat * 2)) = some (.int .i64 ((rd_T48 l1 x8_1).f0)) ∧ w'.cell? ⟨(ad198.add ((x8_1).toNat * 2)).block, (ad198.add ((x8_1).toNat * 2)).off + 1, none⟩ = some (.int .i64 ((rd_T48 l1 x8_1).f1))) (ds := []) #[false, false, false, false, false, false, false, false, false, false, false, false, false] (by kernel_rfl) rfl rfl ⟨(blk_cell BK194.out 0).trans rfl, (blk_cell BK194.out 1).trans rfl, (blk_cell BK194.out 2).trans rfl, (cB_ hw209_0), (cB_ hw209_1)⟩ (fun hHeld => ?_); refine with_tabW spec_l6Could.tab11 spec_l6Could.bits11 (fun HT_ HW_ => ?_)
   generalize w44.drew = w45 at HO_6 BK194 BK202 HB hx209_0 hx209_1 hHeld ⊢
   refine pI_ 0 44 (bqz 13 1) ?_
   refine jI_ 1 45 ?_
   refine jI_ 3 47 ?_
   refine jI_ 4 48 ?_
   refine jI_ 5 49 ?_
   refine jI_ 6 50 ?_
   refine jI_ 8 52 ?_
   refine sI5_ 2 46 ?_
   refine sI5_ 7 51 ?_
   refine jI_ 9 53 ?_
   refine one_ (i := 10) (N := some 54) (bqz 13 2047) rfl rfl qzc (by decide) (fun K hK => ?_)
   refine value_ (w1 := ?_) (v := ?_) (by rfl) rfl ?_ ?_
   rotate_left 2
   {
   go_simp
   constructor
   {
   rfl
   }
   {
   rfl
   }
   }
   refine hK.out _ _ ⟨(blk_cell (blk_alloc BK194.out _) 0).trans rfl, (blk_cell (blk_alloc BK194.out _) 1).trans rfl, (blk_cell (blk_alloc BK194.out _) 2).trans rfl, (World.cell?_alloc_lt _ _ _ (World.block_lt_of_cell? _ _ ((cB_ hw209_0)))).trans ((cB_ hw209_0)), (World.cell?_alloc_lt _ _ _ (World.block_lt_of_cell? _ _ ((cB_ hw209_1)))).trans ((cB_ hw209_1))⟩ (fun hHeld => ?_)
   clear hK K
   refine nm_ 54 ?_
   refine one_ (i := 11) (N := some 55) (bqz 13 4095) rfl rfl qzc (by decide) (fun K hK => ?_)
   refine Kd.R_append_step k50 (w0 := w) w.heap.size (by rfl) (.tmp 44) (.tmp 54) 43 50 (.agg #[(.int .i64 0), (.int .i64 0), (.int .i64 0)]) 24 rfl Try.underlying43 info50 rfl (by decide) (by omega) u6 x6_1 (⟨a0_0, (rd_T48 l1 x8_1).f0, wrap64 (t200 - t201)⟩ : S50) [.int .i64 a0_0, .int .i64 ((rd_T48 l1 x8_1).f0), .int .i64 (wrap64 (t200 - t201))] (fun _ => True) (fun _ => False) rfl rfl ?aP (fun _ hk => hk.elim) ?aF ?aO ?aB ?aS ?aL ?_
   (case aP => exact k50_mkM _ _ _ (⟨a0_0, (rd_T48 l1 x8_1).f0, wrap64 (t200 - t201)⟩ : S50))
   (case aB => exact qz1)
   (case aF => exact (fun _ _ => trivial))
   (case aO => exact (rr_ HO_6.out))
   (case aS => exact qz46)
   (case aL => have := LMc34.out; omega)
   intro v211 w46 ho hb hg hat
   rw [← Ny210.out] at ho
   replace BK194 := aM (blk_grown (bk_ BK194.out) hg (Kd.R_ne HO_6.out BK194.out (by decide)))
   replace BK202 := aM (blk_grown (bk_ BK202.out) hg (Kd.R_ne HO_6.out BK202.out (by decide)))
   replace HB := aM (hb)
   have HO212 := aM (ho)
   clear HO_6 ho hb hg hat
   refine hK.out _ _ ⟨(blk_cell BK194.out 0).trans rfl, (blk_cell BK194.out 1).trans rfl, (blk_cell BK194.out 2).trans rfl, (cB_ hw209_0), (cB_ hw209_1)⟩ (fun hHeld => ?_)
   clear hK K
   refine nm_ 55 ?_
   refine pI_ 12 6 (bqz 13 8191) ?_
   refine done_ (done_of HT_.out (by kernel_rfl)) ?_
   try go_wp2
   go_roundg k1
   case measure => have := HK1.out; omega
   case rel => exact ⟨(y210), (wrap64 (x7_1 + (wrap64 (t200 - t201)))), (wrap64 (x8_1 + 1)), qz5, qz5, H', ⟨by have := HK1.out; omega⟩, ⟨rm_ HO212.out⟩, ⟨bk_ BK194.out⟩, ⟨qz1⟩⟩
   }
   {
   exact an_ c34 H
   }
   }
   {
   rw [if_neg c33] at H
   have c33b0 := decide_eq_false c33
   clear c33
   have H' := aM H
   clear H
   try go_wp2
   replace HO_6 := aM (Kd.R_drew HO_6.out)
   replace BK194 := aM (blk_drew BK194.out)
   replace HB := aM (below_drew1 HB.out)
   have p198 : 0 ≤ (x8_1 : Int) := dt_
   have q198 : x8_1 < (l1.length : Int) := dt_
   obtain ⟨ad198, e198, hx198_0, hx198_1⟩ := at_T48 HR1.out x8_1 p198 q198
   have hw198_1 := hx198_1
   have hw198_0 := hx198_0
   cases e198
   replace hx198_0 := cB_ hx198_0
   replace hx198_1 := cB_ hx198_1
   replace p198 := eq_true p198
   replace q198 := eq_true q198
   refine start_ (n := 9) (S := fun w' => w'.cell? ⟨gb194, 0, none⟩ = some (.int .i64 a0_0) ∧ w'.cell? ⟨gb194, 1, none⟩ = some (.int .i64 a0_1) ∧ w'.cell? ⟨gb194, 2, none⟩ = some (.slice A0_2 l0_2.length c0_2) ∧ w'.cell? (ad198.add ((x8_1).toNat * 2)) = some (.int .i64 ((rd_T48 l1 x8_1).f0)) ∧ w'.cell? ⟨(ad198.add ((x8_1).toNat * 2)).block, (ad198.add ((x8_1).toNat * 2)).off + 1, none⟩ = some (.int .i64 ((rd_T48 l1 x8_1).f1))) (ds := []) #[false, false, false, false, false, false, false, false, false] (by kernel_rfl) rfl rfl ⟨(blk_cell BK194.out 0).trans rfl, (blk_cell BK194.out 1).trans rfl, (blk_cell BK194.out 2).trans rfl, (cB_ hw198_0), (cB_ hw198_1)⟩ (fun hHeld => ?_); refine with_tabW spec_l6Could.tab6 spec_l6Could.bits6 (fun HT_ HW_ => ?_)
   generalize wr.drew = w47 at HO_6 BK194 HB hx198_0 hx198_1 hHeld ⊢
   refine pI_ 1 19 (bqz 9 2) ?_
   refine jI_ 2 20 ?_
   refine jI_ 3 21 ?_
   refine jI_ 4 22 ?_
   refine sI5_ 0 18 ?_
   refine sI5_ 5 23 ?_
   refine join_ (σ := Nat) 1 (bqz 9 255) (fun s_ => [(24, .agg #[.int .i64 t199, .int .i64 t200, .int .i64 t201]), (9, .pointer (some ⟨s_, 0, none⟩))]) (fun s_ w' => (w'.cell? ⟨gb194, 0, none⟩ = some (.int .i64 a0_0) ∧ w'.cell? ⟨gb194, 1, none⟩ = some (.int .i64 a0_1) ∧ w'.cell? ⟨gb194, 2, none⟩ = some (.slice A0_2 l0_2.length c0_2) ∧ w'.cell? (ad198.add ((x8_1).toNat * 2)) = some (.int .i64 ((rd_T48 l1 x8_1).f0)) ∧ w'.cell? ⟨(ad198.add ((x8_1).toNat * 2)).block, (ad198.add ((x8_1).toNat * 2)).off + 1, none⟩ = some (.int .i64 ((rd_T48 l1 x8_1).f1))) ∧ (Kd.R k50 50 w' w.heap.size (fun _ => True) u6 x6_1) ∧ (w'.heap[gb194]? = some (.cells #[.int .i64 a0_0, .int .i64 a0_1, .slice A0_2 l0_2.length c0_2] 79 (0, 0))) ∧ (w'.heap[s_]? = some (.cells #[.int .i64 0, .int .i64 0, .int .i64 0] 72 (0, 0))) ∧ (w.heap.size ≤ s_) ∧ (w.heap.size ≤ s_) ∧ (gb194 ≠ s_) ∧ (s_ ≠ gb194) ∧ (Below w.heap.size w w')) ?_ ?_
   rotate_left
   {
   intro hCont
   refine two_ (i := 6) (j := 7) (Ni := some 24) (Nj := some 9) (bqz 9 127) (bqz 9 191) rfl rfl rfl rfl (two_of HT_.out (by kernel_rfl)) (by decide) (by decide) (fun K hK => ?_) (fun K hK => ?_)
   {
   skip
   refine goes_ Try.func94 (by kernel_rfl) rfl #[.agg #[.int .i64 a0_0, .int .i64 a0_1, .slice A0_2 l0_2.length c0_2], .int .i64 ((rd_T48 l1 x8_1).f0)] (by rfl) rfl rfl qz4 ?_
   with_reducible refine (spec_l5Stack.calls k1 a0_0 a0_1 _ _ l0_2 ((rd_T48 l1 x8_1).f0) t199 t200 t201 _ ?side1 ?side2 A8.out).mono ?_
   (case side1 => exact qz10)
   (case side2 => exact HC0_2.out)
   rintro e w48 ⟨rfl, hb⟩
   refine ⟨_, rfl, ?_⟩
   replace HO_6 := aM (Kd.R_below (rr_ HO_6.out) hb)
   replace BK194 := bB_ BK194 hb
   replace HB := bS_ hb
   (try clear hb)
   (try clear hb2)
   (try clear hk)
   (try clear hi)
   refine hK.out _ _ ⟨(blk_cell BK194.out 0).trans rfl, (blk_cell BK194.out 1).trans rfl, (blk_cell BK194.out 2).trans rfl, (cB_ hw198_0), (cB_ hw198_1)⟩ (fun hHeld => ?_)
   clear hK K
   refine nm_ 24 ?_
   refine one_ (i := 7) (N := some 9) (bqz 9 255) rfl rfl qzc (by decide) (fun K hK => ?_)
   refine box_step ?hg (N := 9) ?hd (cs := #[.int .i64 0, .int .i64 0, .int .i64 0]) (t := 72) ?hr ?_; (case hd => rfl); (case hg => rfl); (case hr => exact qz23)
   intro gb202 hg w49 hbox hb
   replace HO_6 := aM (Kd.R_below (rr_ HO_6.out) hb)
   have BK202 := aM (hbox)
   have GW202 := aM (bz_ w hg qz1)
   have GE202 := GW202
   replace HB := bS_ hb
   obtain ⟨NB194_202, NB202_194⟩ := nb_ hg (bk_ BK194.out)
   replace BK194 := bB_ BK194 hb
   clear hb hbox hg
   refine hK.out _ _ ⟨(blk_cell BK194.out 0).trans rfl, (blk_cell BK194.out 1).trans rfl, (blk_cell BK194.out 2).trans rfl, (cB_ hw198_0), (cB_ hw198_1)⟩ (fun hHeld => ?_)
   clear hK K
   refine nm_ 9 ?_
   exact norm_ qz24 (hCont (gb202) _ ⟨hHeld, (rr_ HO_6.out), (bk_ BK194.out), (bk_ BK202.out), GW202.out, GE202.out, NB194_202.out, NB202_194.out, qz1⟩)
   }
   {
   skip
   refine box_step ?hg (N := 9) ?hd (cs := #[.int .i64 0, .int .i64 0, .int .i64 0]) (t := 72) ?hr ?_; (case hd => rfl); (case hg => rfl); (case hr => exact qz23)
   intro gb202 hg w48 hbox hb
   replace HO_6 := aM (Kd.R_below (rr_ HO_6.out) hb)
   have BK202 := aM (hbox)
   have GW202 := aM (bz_ w hg qz1)
   have GE202 := GW202
   replace HB := bS_ hb
   obtain ⟨NB194_202, NB202_194⟩ := nb_ hg (bk_ BK194.out)
   replace BK194 := bB_ BK194 hb
   clear hb hbox hg
   refine hK.out _ _ ⟨(blk_cell BK194.out 0).trans rfl, (blk_cell BK194.out 1).trans rfl, (blk_cell BK194.out 2).trans rfl, (cB_ hw198_0), (cB_ hw198_1)⟩ (fun hHeld => ?_)
   clear hK K
   refine nm_ 9 ?_
   refine one_ (i := 6) (N := some 24) (bqz 9 255) rfl rfl qzc (by decide) (fun K hK => ?_)
   refine goes_ Try.func94 (by kernel_rfl) rfl #[.agg #[.int .i64 a0_0, .int .i64 a0_1, .slice A0_2 l0_2.length c0_2], .int .i64 ((rd_T48 l1 x8_1).f0)] (by rfl) rfl rfl qz4 ?_
   with_reducible refine (spec_l5Stack.calls k1 a0_0 a0_1 _ _ l0_2 ((rd_T48 l1 x8_1).f0) t199 t200 t201 _ ?side1 ?side2 A8.out).mono ?_
   (case side1 => exact qz10)
   (case side2 => exact HC0_2.out)
   rintro e w49 ⟨rfl, hb⟩
   refine ⟨_, rfl, ?_⟩
   replace HO_6 := aM (Kd.R_below (rr_ HO_6.out) hb)
   replace BK194 := bB_ BK194 hb
   replace BK202 := bB_ BK202 hb
   replace HB := bS_ hb
   (try clear hb)
   (try clear hb2)
   (try clear hk)
   (try clear hi)
   refine hK.out _ _ ⟨(blk_cell BK194.out 0).trans rfl, (blk_cell BK194.out 1).trans rfl, (blk_cell BK194.out 2).trans rfl, (cB_ hw198_0), (cB_ hw198_1)⟩ (fun hHeld => ?_)
   clear hK K
   refine nm_ 24 ?_
   exact norm_ qz24 (hCont (gb202) _ ⟨hHeld, (rr_ HO_6.out), (bk_ BK194.out), (bk_ BK202.out), GW202.out, GE202.out, NB194_202.out, NB202_194.out, qz1⟩)
   }
   }
   rintro gb202 w50 ⟨hS_, h0_, h1_, h2_, h3_, h4_, h5_, h6_, h7_⟩
   replace HO_6 : Aside0 (Kd.R k50 50 w50 w.heap.size (fun _ => True) u6 x6_1) := ⟨h0_⟩
   replace BK194 : Aside0 (w50.heap[gb194]? = some (.cells #[.int .i64 a0_0, .int .i64 a0_1, .slice A0_2 l0_2.length c0_2] 79 (0, 0))) := ⟨h1_⟩
   have BK202 : Aside0 (w50.heap[gb202]? = some (.cells #[.int .i64 0, .int .i64 0, .int .i64 0] 72 (0, 0))) := ⟨h2_⟩
   have GW202 : Aside0 (w.heap.size ≤ gb202) := ⟨h3_⟩
   have GE202 : Aside0 (w.heap.size ≤ gb202) := ⟨h4_⟩
   have NB194_202 : Aside0 (gb194 ≠ gb202) := ⟨h5_⟩
   have NB202_194 : Aside0 (gb202 ≠ gb194) := ⟨h6_⟩
   replace HB : Aside0 (Below w.heap.size w w50) := ⟨h7_⟩
   clear h0_ h1_ h2_ h3_ h4_ h5_ h6_ h7_
   have hHeld : w50.cell? ⟨gb194, 0, none⟩ = some (.int .i64 a0_0) ∧ w50.cell? ⟨gb194, 1, none⟩ = some (.int .i64 a0_1) ∧ w50.cell? ⟨gb194, 2, none⟩ = some (.slice A0_2 l0_2.length c0_2) ∧ w50.cell? (ad198.add ((x8_1).toNat * 2)) = some (.int .i64 ((rd_T48 l1 x8_1).f0)) ∧ w50.cell? ⟨(ad198.add ((x8_1).toNat * 2)).block, (ad198.add ((x8_1).toNat * 2)).off + 1, none⟩ = some (.int .i64 ((rd_T48 l1 x8_1).f1)) := hS_
   refine norm_ (a' := ?_) ?_ ?_
   rotate_left
   {
   simp only [putAll, Act.put, List.setIfInBounds_toArray, List.set_cons_zero, List.set_cons_succ]
   rfl
   }
   refine one_ (i := 8) (N := none) (bqz 9 511) rfl rfl qzc (by decide) (fun K hK => ?_)
   have hs51 : w50.cell? ⟨gb202, 0, none⟩ = some (.int .i64 0) := (blk_cell BK202.out 0).trans rfl
   have hfs51 := blk_frozen BK202.out 0
   have hns51_0 := NB194_202.out
   have hms51_0 := NB202_194.out
   have hs52 : w50.cell? ⟨gb202, 1, none⟩ = some (.int .i64 0) := (blk_cell BK202.out 1).trans rfl
   have hfs52 := blk_frozen BK202.out 1
   have hns52_0 := NB194_202.out
   have hms52_0 := NB202_194.out
   have hs53 : w50.cell? ⟨gb202, 2, none⟩ = some (.int .i64 0) := (blk_cell BK202.out 2).trans rfl
   have hfs53 := blk_frozen BK202.out 2
   have hns53_0 := NB194_202.out
   have hms53_0 := NB202_194.out
   refine sk_ ?_
   refine hK.out _ _ ⟨((cell_far (p := ⟨gb202, _, none⟩) NB194_202.out _).trans (((cell_far (p := ⟨gb202, _, none⟩) NB194_202.out _).trans (((cell_far (p := ⟨gb202, _, none⟩) NB194_202.out _).trans (hHeld.1)))))), ((cell_far (p := ⟨gb202, _, none⟩) NB194_202.out _).trans (((cell_far (p := ⟨gb202, _, none⟩) NB194_202.out _).trans (((cell_far (p := ⟨gb202, _, none⟩) NB194_202.out _).trans (hHeld.2.1)))))), ((cell_far (p := ⟨gb202, _, none⟩) NB194_202.out _).trans (((cell_far (p := ⟨gb202, _, none⟩) NB194_202.out _).trans (((cell_far (p := ⟨gb202, _, none⟩) NB194_202.out _).trans (hHeld.2.2.1)))))), ((cell_far (p := ⟨gb202, _, none⟩) (by first | exact Nat.ne_of_lt (Nat.lt_of_lt_of_le (by have := World.block_lt_of_cell? _ _ hw198_0; first | rwa [add_block] at this | exact this) GW202.out) | (rw [add_block]; exact Nat.ne_of_lt (Nat.lt_of_lt_of_le (by have := World.block_lt_of_cell? _ _ hw198_0; first | rwa [add_block] at this | exact this) GW202.out)) | (show (Addr.add _ _).block ≠ _; rw [add_block]; exact Nat.ne_of_lt (Nat.lt_of_lt_of_le (by have := World.block_lt_of_cell? _ _ hw198_0; first | rwa [add_block] at this | exact this) GW202.out)) | (dsimp only; exact Nat.ne_of_lt (Nat.lt_of_lt_of_le (by have := World.block_lt_of_cell? _ _ hw198_0; first | rwa [add_block] at this | exact this) GW202.out))) _).trans (((cell_far (p := ⟨gb202, _, none⟩) (by first | exact Nat.ne_of_lt (Nat.lt_of_lt_of_le (by have := World.block_lt_of_cell? _ _ hw198_0; first | rwa [add_block] at this | exact this) GW202.out) | (rw [add_block]; exact Nat.ne_of_lt (Nat.lt_of_lt_of_le (by have := World.block_lt_of_cell? _ _ hw198_0; first | rwa [add_block] at this | exact this) GW202.out)) | (show (Addr.add _ _).block ≠ _; rw [add_block]; exact Nat.ne_of_lt (Nat.lt_of_lt_of_le (by have := World.block_lt_of_cell? _ _ hw198_0; first | rwa [add_block] at this | exact this) GW202.out)) | (dsimp only; exact Nat.ne_of_lt (Nat.lt_of_lt_of_le (by have := World.block_lt_of_cell? _ _ hw198_0; first | rwa [add_block] at this | exact this) GW202.out))) _).trans (((cell_far (p := ⟨gb202, _, none⟩) (by first | exact Nat.ne_of_lt (Nat.lt_of_lt_of_le (by have := World.block_lt_of_cell? _ _ hw198_0; first | rwa [add_block] at this | exact this) GW202.out) | (rw [add_block]; exact Nat.ne_of_lt (Nat.lt_of_lt_of_le (by have := World.block_lt_of_cell? _ _ hw198_0; first | rwa [add_block] at this | exact this) GW202.out)) | (show (Addr.add _ _).block ≠ _; rw [add_block]; exact Nat.ne_of_lt (Nat.lt_of_lt_of_le (by have := World.block_lt_of_cell? _ _ hw198_0; first | rwa [add_block] at this | exact this) GW202.out)) | (dsimp only; exact Nat.ne_of_lt (Nat.lt_of_lt_of_le (by have := World.block_lt_of_cell? _ _ hw198_0; first | rwa [add_block] at this | exact this) GW202.out))) _).trans (hHeld.2.2.2.1)))))), ((cell_far (p := ⟨gb202, _, none⟩) (by first | exact Nat.ne_of_lt (Nat.lt_of_lt_of_le (by have := World.block_lt_of_cell? _ _ hw198_1; first | rwa [add_block] at this | exact this) GW202.out) | (rw [add_block]; exact Nat.ne_of_lt (Nat.lt_of_lt_of_le (by have := World.block_lt_of_cell? _ _ hw198_1; first | rwa [add_block] at this | exact this) GW202.out)) | (show (Addr.add _ _).block ≠ _; rw [add_block]; exact Nat.ne_of_lt (Nat.lt_of_lt_of_le (by have := World.block_lt_of_cell? _ _ hw198_1; first | rwa [add_block] at this | exact this) GW202.out)) | (dsimp only; exact Nat.ne_of_lt (Nat.lt_of_lt_of_le (by have := World.block_lt_of_cell? _ _ hw198_1; first | rwa [add_block] at this | exact this) GW202.out))) _).trans (((cell_far (p := ⟨gb202, _, none⟩) (by first | exact Nat.ne_of_lt (Nat.lt_of_lt_of_le (by have := World.block_lt_of_cell? _ _ hw198_1; first | rwa [add_block] at this | exact this) GW202.out) | (rw [add_block]; exact Nat.ne_of_lt (Nat.lt_of_lt_of_le (by have := World.block_lt_of_cell? _ _ hw198_1; first | rwa [add_block] at this | exact this) GW202.out)) | (show (Addr.add _ _).block ≠ _; rw [add_block]; exact Nat.ne_of_lt (Nat.lt_of_lt_of_le (by have := World.block_lt_of_cell? _ _ hw198_1; first | rwa [add_block] at this | exact this) GW202.out)) | (dsimp only; exact Nat.ne_of_lt (Nat.lt_of_lt_of_le (by have := World.block_lt_of_cell? _ _ hw198_1; first | rwa [add_block] at this | exact this) GW202.out))) _).trans (((cell_far (p := ⟨gb202, _, none⟩) (by first | exact Nat.ne_of_lt (Nat.lt_of_lt_of_le (by have := World.block_lt_of_cell? _ _ hw198_1; first | rwa [add_block] at this | exact this) GW202.out) | (rw [add_block]; exact Nat.ne_of_lt (Nat.lt_of_lt_of_le (by have := World.block_lt_of_cell? _ _ hw198_1; first | rwa [add_block] at this | exact this) GW202.out)) | (show (Addr.add _ _).block ≠ _; rw [add_block]; exact Nat.ne_of_lt (Nat.lt_of_lt_of_le (by have := World.block_lt_of_cell? _ _ hw198_1; first | rwa [add_block] at this | exact this) GW202.out)) | (dsimp only; exact Nat.ne_of_lt (Nat.lt_of_lt_of_le (by have := World.block_lt_of_cell? _ _ hw198_1; first | rwa [add_block] at this | exact this) GW202.out))) _).trans (hHeld.2.2.2.2))))))⟩ (fun hHeld => ?_)
   clear hK K
   refine done_ (done_of HT_.out (by kernel_rfl)) ?_
   have hnb54 := NB202_194.out
   have hnc54 := NB194_202.out
   obtain ⟨hcz55_0, hcz55_1, hcz55_2, hfz55_0, hfz55_1, hfz55_2⟩ := b6_ BK202.out
   have p203 : 0 ≤ (x8_1 : Int) := dt_
   have q203 : x8_1 < (l1.length : Int) := dt_
   obtain ⟨ad203, e203, hx203_0, hx203_1⟩ := at_T48 HR1.out x8_1 p203 q203
   obtain rfl : ad198 = ad203 := (by injection e203)
   have hn203_0 : ad198.block ≠ gb202 := nf_ hx203_0 GW202.out
   have hn203_1 : ad198.block ≠ gb202 := nf_ hx203_0 GW202.out
   have hn203_2 : ad198.block ≠ gb202 := nf_ hx203_0 GW202.out
   replace hx203_0 := cB_ hx203_0
   replace hx203_1 := cB_ hx203_1
   replace hx203_0 := (cell_far (p := ⟨gb202, 0, none⟩) qz17 (.int .i64 t199)).trans hx203_0
   replace hx203_1 := (cell_far (p := ⟨gb202, 0, none⟩) qz17 (.int .i64 t199)).trans hx203_1
   replace hx203_0 := (cell_far (p := ⟨gb202, 1, none⟩) qz18 (.int .i64 t200)).trans hx203_0
   replace hx203_1 := (cell_far (p := ⟨gb202, 1, none⟩) qz18 (.int .i64 t200)).trans hx203_1
   replace hx203_0 := (cell_far (p := ⟨gb202, 2, none⟩) qz19 (.int .i64 t201)).trans hx203_0
   replace hx203_1 := (cell_far (p := ⟨gb202, 2, none⟩) qz19 (.int .i64 t201)).trans hx203_1
   clear hn203_0 hn203_1 hn203_2
   replace p203 := eq_true p203
   replace q203 := eq_true q203
   try go_wp2
   go_roundg k1
   case measure => have := HK1.out; omega
   case rel => exact ⟨(x6_1), (x7_1), (wrap64 (x8_1 + 1)), qz5, qz5, H', ⟨by have := HK1.out; omega⟩, ⟨by (with_reducible repeat (first | apply Kd.R_alloc | apply Kd.R_drewN | apply Kd.R_drew)); exact Kd.R_mono (Kd.R_far (p := ⟨gb202, 2, none⟩) (Kd.R_far (p := ⟨gb202, 1, none⟩) (Kd.R_far (p := ⟨gb202, 0, none⟩) (Kd.R_types HO_6.out BK202.out (by decide)) (fun _ hk => hk.2) (.int .i64 t199)) (fun _ hk => hk.2) (.int .i64 t200)) (fun _ hk => hk.2) (.int .i64 t201)) (fun _ hk => trivial)⟩, ⟨by (with_reducible repeat (first | refine blk_drewN ?_ _ | refine blk_drew ?_ | refine blk_alloc ?_ _)); refine blk_far ?_ NB194_202.out _; (with_reducible repeat (first | refine blk_drewN ?_ _ | refine blk_drew ?_ | refine blk_alloc ?_ _)); refine blk_far ?_ NB194_202.out _; (with_reducible repeat (first | refine blk_drewN ?_ _ | refine blk_drew ?_ | refine blk_alloc ?_ _)); refine blk_far ?_ NB194_202.out _; exact bk_ BK194.out⟩, ⟨qz1⟩⟩
   }
   }
   }
   {
   exact an_ c7 H
   }
   }
   {
   rw [if_neg c6] at H
   have c6b0 := decide_eq_false c6
   clear c6
   simp only [Option.some.injEq, Prod.mk.injEq] at H
   obtain ⟨rfl, rfl⟩ := H
   go_wp2
   go_ret2
   exact ⟨_, qzw, by (with_reducible repeat (first | apply Kd.R_alloc | apply Kd.R_drewN | apply Kd.R_drew)); exact HO_6.out, qz1⟩

   }
end Go.Proofs.Yteajnkondkfmgaa.PFnEach
