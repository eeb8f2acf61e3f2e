-- Made by a program of this session out of the translation. Lean checks it.
import Derived.Test.YtankmdbbgepmbaaPFnLivelyx14
import Derived.Test.YtankmdbbgepmbaaPFnLivelyx16
namespace Go.Proofs.Ytankmdbbgepmbaa.PFnLively
open Go.RowKit Go.Proofs.YtankmdbbgepmbaaW.PrintWords Go.Proofs.YtankmdbbgepmbaaW.PrintLast Go.Proofs.YtankmdbbgepmbaaW.PrintMore
attribute [local go_sem] max2_int min2_int max_two min_two max_three min_three max_four min_four   -- for this text's walks alone
set_option linter.unusedVariables false
set_option linter.unusedSimpArgs false

/-! ### spec_l1Copy: function 135 -/
def spec_l1Copy.f (a0_0 : Int) (a0_1 : Int) (l0_2 : List Int) : Option (Int × Int × List Int) := (some (([] : List Int) : List Int)).bind fun y369 => (if y369.length + l0_2.length < 17592186044416 then (some (a0_0, a0_1, (y369 ++ l0_2))) else (none))
def spec_l1Copy.T1 : Bool × List (List Nat × List Nat) := (true, [([], []), ([0], [0]), ([], []), ([2], [2]), ([], []), ([], []), ([5], [5]), ([4, 6], [4, 6]), ([1, 3, 7], [1, 3, 7]), ([8, 7, 0, 1, 2, 3, 4, 5, 6, 7, 8], [8])])
def spec_l1Copy.B1 : List Nat := [0, 1, 0, 4, 0, 0, 32, 112, 255, 511]
theorem spec_l1Copy.tab1 : rtab .any (opsOf Try.f135 1) = spec_l1Copy.T1 := by kernel_rfl
theorem spec_l1Copy.bits1 : waitsOk spec_l1Copy.T1.2 spec_l1Copy.B1 = true := by kernel_rfl
set_option maxHeartbeats 8000000 in
set_option maxRecDepth 100000 in
theorem spec_l1Copy.calls (a0_0 : Int) (a0_1 : Int) (A0_2 : Option Addr) (c0_2 : Nat) (l0_2 : List Int) (r1 : Int) (r2 : Int) (r3 : List Int) (w : World) (hr0_2 : Kd.C (Kd.int .i64) w A0_2 l0_2.length l0_2) (hc0_2 : l0_2.length ≤ c0_2) (h : spec_l1Copy.f a0_0 a0_1 l0_2 = some (r1, r2, r3)) :
  Calls Try.prog 135 #[.agg #[.int .i64 a0_0, .int .i64 a0_1, .slice A0_2 l0_2.length c0_2]] w fun e w' => ∃ v2_ : Value, e = .returned (.agg #[.int .i64 r1, .int .i64 r2, v2_]) ∧ Kd.R (Kd.int .i64) 3 w' w.heap.size (fun _ => True) v2_ r3 ∧ Below w.heap.size w w' := by
 have hu43 := Try.underlying43
 have HR0_2 := aM hr0_2
 have HC0_2 := aM hc0_2
 clear hr0_2 hc0_2
 have HB := aM (Below.refl w.heap.size w)
 unfold spec_l1Copy.f at h
 have H := h
 clear h
 obtain ⟨y369, hy369⟩ : ∃ y_ : List Int, y_ = (([] : List Int)) := ⟨_, rfl⟩
 replace H := yB_ hy369 H
 have Ny369 := aM hy369
 clear hy369
 replace H := iN_ H
 obtain ⟨c2, H⟩ := H
 have LMc2 := aM c2
 clear c2
 obtain ⟨y372, hy372⟩ : ∃ y_ : List Int, y_ = (y369 ++ l0_2) := ⟨_, rfl⟩
 replace H : (some (a0_0, a0_1, y372)) = some (r1, r2, r3) := by first | (rw [hy372]; exact H) | exact H
 have Ny372 := aM hy372
 clear hy372
 simp only [Option.some.injEq, Prod.mk.injEq] at H
 obtain ⟨rfl, rfl, rfl⟩ := H
 go_enter Try.func135, Try.ntmps135
 try go_wp2_with (first | ((with_reducible refine gate_dst (N := 1) rfl ?_); refine bx_ 1 #[.int .i64 a0_0, .int .i64 a0_1, .slice A0_2 l0_2.length c0_2] 43 ?_; intro gb367 hg w3 hbox hb; have BK367 := aM (hbox); have GW367 := aM (bz_ w hg qz1); have GE367 := GW367; replace HB := bS_ hb; clear hb hbox hg) | ((with_reducible refine gate_dst (N := 2) rfl ?_); refine bx_ 2 #[.int .i64 0, .int .i64 0, .slice none 0 0] 43 ?_; intro gb368 hg w4 hbox hb; have BK368 := aM (hbox); have GW368 := aM (bz_ w hg qz1); have GE368 := GW368; replace HB := bS_ hb; obtain ⟨NB367_368, NB368_367⟩ := nb_ hg (bk_ BK367.out); replace BK367 := bB_ BK367 hb; clear hb hbox hg))
 replace BK367 := aM (blk_drew BK367.out)
 replace BK368 := aM (blk_drew BK368.out)
 replace HB := aM (below_drew1 HB.out)
 refine start_ (n := 10) (S := fun w' => w'.cell? ⟨gb367, 0, none⟩ = some (.int .i64 a0_0) ∧ w'.cell? ⟨gb367, 1, none⟩ = some (.int .i64 a0_1) ∧ w'.cell? ⟨gb367, 2, none⟩ = some (.slice A0_2 l0_2.length c0_2)) (ds := []) #[false, false, false, false, false, false, false, false, false, false] (by kernel_rfl) rfl rfl ⟨(blk_cell BK367.out 0).trans rfl, (blk_cell BK367.out 1).trans rfl, (blk_cell BK367.out 2).trans rfl⟩ (fun hHeld => ?_); refine with_tabW spec_l1Copy.tab1 spec_l1Copy.bits1 (fun HT_ HW_ => ?_)
 generalize w4.drew = w5 at BK367 BK368 HB hHeld ⊢
 refine pI_ 0 3 (bqz 10 1) ?_
 refine jI_ 2 5 ?_
 refine jI_ 5 8 ?_
 refine sI3_ 1 4 ?_
 refine sI3_ 3 6 ?_
 refine sI3_ 6 9 ?_
 refine oI_ 4 7 (bqz 10 127) (fun K hK => ?_)
 refine Kd.R_lit_step (Kd.int .i64) _ 3 ?hg (N := 7) ?hd (xs := ([] : List Int)) (inner := []) (ok := fun _ => True) (okp := fun _ => True) ?hr ?hp (fun _ hk => hk) trivial (Below.refl _ _) (Nat.le_refl _) (by simp) ?_; (case hd => rfl); (case hg => rfl); (case hr => exact qz7); (case hp => exact (Reps.none _ _))
 intro v370 w6 ho7 hb hg_ hnew_
 clear hg_ hnew_
 (first | rw [← Ny369.out] at ho7 | (simp only [Int.reduceToNat] at ho7; rw [← Ny369.out] at ho7))
 have HO371 := aM (Kd.R_lower ho7 (below_size qz1))
 replace BK367 := bB_ BK367 hb
 replace BK368 := bB_ BK368 hb
 replace HB := bS_ hb
 clear hb ho7
 refine hK.out _ _ ⟨(blk_cell BK367.out 0).trans rfl, (blk_cell BK367.out 1).trans rfl, (blk_cell BK367.out 2).trans rfl⟩ (fun hHeld => ?_)
 clear hK K
 refine nm_ 7 ?_
 refine oI_ 7 10 (bqz 10 255) (fun K hK => ?_)
 refine Kd.R_append_rows_step (Kd.int .i64) (w0 := w) w.heap.size (by rfl) (.tmp 7) (.tmp 9) 24 3 (.int .i64 0) 8 rfl Try.underlying24 info3 rfl (by decide) (by omega) v370 y369 l0_2 _ _ _ (fun _ => True) (fun _ => False) rfl rfl ?aO ?aR (fun _ _ h => h) (fun _ h => h.elim) ?aF ?aB ?aS ?aL ?_
 (case aR => exact qz5)
 (case aB => exact qz1)
 (case aF => exact qz12)
 (case aO => exact (rr_ HO371.out))
 (case aS => exact qz19)
 (case aL => have := LMc2.out; omega)
 intro v373 w8 ho hb hg hat
 rw [← Ny372.out] at ho
 replace BK367 := aM (blk_grown (bk_ BK367.out) hg (Kd.R_ne HO371.out BK367.out (by decide)))
 replace BK368 := aM (blk_grown (bk_ BK368.out) hg (Kd.R_ne HO371.out BK368.out (by decide)))
 replace HB := aM (hb)
 have HO374 := aM (ho)
 clear HO371 ho hb hg hat
 obtain ⟨Ao9, co9, eo9⟩ := Kd.R_slice HO374.out
 (first | subst eo9 | (injection eo9 with f1_ f2_ f3_; have f4_ := f1_.symm; have f5_ := f3_.symm; clear f1_ f2_ f3_; subst f4_; subst f5_))
 refine hK.out _ _ ⟨(blk_cell BK367.out 0).trans rfl, (blk_cell BK367.out 1).trans rfl, (blk_cell BK367.out 2).trans rfl⟩ (fun hHeld => ?_)
 clear hK K
 refine nm_ 10 ?_
 refine pI_ 8 11 (bqz 10 511) ?_
 refine one_ (i := 9) (N := none) (bqz 10 1023) rfl rfl qzc (by decide) (fun K hK => ?_)
 have hs10 : w8.cell? ⟨gb368, 0, none⟩ = some (.int .i64 0) := (blk_cell BK368.out 0).trans rfl
 have hfs10 := blk_frozen BK368.out 0
 have hns10_0 := NB367_368.out
 have hms10_0 := NB368_367.out
 have hs11 : w8.cell? ⟨gb368, 1, none⟩ = some (.int .i64 0) := (blk_cell BK368.out 1).trans rfl
 have hfs11 := blk_frozen BK368.out 1
 have hns11_0 := NB367_368.out
 have hms11_0 := NB368_367.out
 have hs12 : w8.cell? ⟨gb368, 2, none⟩ = some (.slice none 0 0) := (blk_cell BK368.out 2).trans rfl
 have hfs12 := blk_frozen BK368.out 2
 have hns12_0 := NB367_368.out
 have hms12_0 := NB368_367.out
 refine sk_ ?_
 refine hK.out _ _ ⟨((cell_far (p := ⟨gb368, _, none⟩) NB367_368.out _).trans (((cell_far (p := ⟨gb368, _, none⟩) NB367_368.out _).trans (((cell_far (p := ⟨gb368, _, none⟩) NB367_368.out _).trans (hHeld.1)))))), ((cell_far (p := ⟨gb368, _, none⟩) NB367_368.out _).trans (((cell_far (p := ⟨gb368, _, none⟩) NB367_368.out _).trans (((cell_far (p := ⟨gb368, _, none⟩) NB367_368.out _).trans (hHeld.2.1)))))), ((cell_far (p := ⟨gb368, _, none⟩) NB367_368.out _).trans (((cell_far (p := ⟨gb368, _, none⟩) NB367_368.out _).trans (((cell_far (p := ⟨gb368, _, none⟩) NB367_368.out _).trans (hHeld.2.2))))))⟩ (fun hHeld => ?_)
 clear hK K
 refine done_ (done_of HT_.out (by kernel_rfl)) ?_
 try go_wp2
 refine bodyPost_ret (results_cell_row rfl _ _ gb368 43 #[.int .i64 a0_0, .int .i64 a0_1, .slice Ao9 y372.length co9] (0, 0) _ rfl (by (with_reducible repeat (first | refine blk_drewN ?_ _ | refine blk_drew ?_ | refine blk_alloc ?_ _)); refine blk_put (cs := #[.int .i64 a0_0, .int .i64 a0_1, .slice none 0 0]) ?_ 2 _ rfl; (with_reducible repeat (first | refine blk_drewN ?_ _ | refine blk_drew ?_ | refine blk_alloc ?_ _)); refine blk_put (cs := #[.int .i64 a0_0, .int .i64 0, .slice none 0 0]) ?_ 1 _ rfl; (with_reducible repeat (first | refine blk_drewN ?_ _ | refine blk_drew ?_ | refine blk_alloc ?_ _)); refine blk_put (cs := #[.int .i64 0, .int .i64 0, .slice none 0 0]) ?_ 0 _ rfl; exact bk_ BK368.out) Try.underlying43 rfl (by kernel_rfl)) rfl ?_
 exact ⟨_, qzw, by (with_reducible repeat (first | apply Kd.R_alloc | apply Kd.R_drewN | apply Kd.R_drew)); exact Kd.R_mono (Kd.R_far (p := ⟨gb368, 2, none⟩) (Kd.R_far (p := ⟨gb368, 1, none⟩) (Kd.R_far (p := ⟨gb368, 0, none⟩) (Kd.R_types HO374.out BK368.out (by decide)) (fun _ hk => hk.2) (.int .i64 a0_0)) (fun _ hk => hk.2) (.int .i64 a0_1)) (fun _ hk => hk.2) (.slice Ao9 y372.length co9)) (fun _ hk => trivial), qz1⟩
/-! ### spec_l2Reached: function 132 -/
mutual
def spec_l2Reached.j0 : Nat → Int → Int → Int → List Int → Option (Int)
 | 0, _, _, _, _ => none
 | k + 1, x1, x382000, x382001, x382002 => (spec_l2Field.f k x382000 x382001 x382002 x1 false).bind fun t383 => (spec_l2Reached.l0 k 0 t383 0)
def spec_l2Reached.l0 : Nat → Int → List Int → Int → Option (Int)
 | 0, _, _, _ => none
 | k + 1, x8, x9, x10 => if x10 < (x9.length : Int) then (if 0 ≤ x10 then (if (rd x9 x10) ≥ 0 then (spec_l2Reached.l0 k (wrap64 (x8 + 1)) x9 (wrap64 (x10 + 1))) else (spec_l2Reached.l0 k x8 x9 (wrap64 (x10 + 1)))) else (none)) else (some x8)
end
def spec_l2Reached.f (k : Nat) (a0_0 : Int) (a0_1 : Int) (l0_2 : List Int) (a1 : Int) (a2 : Int) : Option (Int) := (spec_l1Copy.f a0_0 a0_1 l0_2).bind fun bt376 => (if a2 ≥ 0 then (if 0 ≤ a2 then (if a2 < (bt376.2.2.length : Int) then (spec_l2Reached.j0 k a1 bt376.1 bt376.2.1 (bt376.2.2.set (a2 : Int).toNat 0)) else (none)) else (none)) else (spec_l2Reached.j0 k a1 bt376.1 bt376.2.1 bt376.2.2))
theorem spec_l2Reached.mono_l : ∀ k, (∀ y0 y1 y2 y3, LeO (spec_l2Reached.j0 k y0 y1 y2 y3) (spec_l2Reached.j0 (k + 1) y0 y1 y2 y3)) ∧ (∀ y0 y1 y2, LeO (spec_l2Reached.l0 k y0 y1 y2) (spec_l2Reached.l0 (k + 1) y0 y1 y2))
 | 0 => ⟨fun _ _ _ _ r h => by simp [spec_l2Reached.j0] at h, fun _ _ _ r h => by simp [spec_l2Reached.l0] at h⟩
 | k + 1 => by
  obtain ⟨ih0, ih1⟩ := spec_l2Reached.mono_l k
  refine ⟨?_, ?_⟩
  {
  intro y0 y1 y2 y3
  unfold spec_l2Reached.j0
  have j0 := @spec_l2Field.mono
  exact qL
  }
  {
  intro y0 y1 y2
  unfold spec_l2Reached.l0
  have j0 := @spec_l2Field.mono
  exact qL
  }
theorem spec_l2Reached.mono : ∀ a0 a1 a2 a3 a4 k, LeO (spec_l2Reached.f k a0 a1 a2 a3 a4) (spec_l2Reached.f (k + 1) a0 a1 a2 a3 a4) := by
 intro a0 a1 a2 a3 a4 k
 obtain ⟨ih0, ih1⟩ := spec_l2Reached.mono_l k
 unfold spec_l2Reached.f
 have j0 := @spec_l2Field.mono
 exact qL
set_option maxHeartbeats 8000000 in
set_option maxRecDepth 100000 in
theorem spec_l2Reached.calls (k : Nat) (a0_0 : Int) (a0_1 : Int) (A0_2 : Option Addr) (c0_2 : Nat) (l0_2 : List Int) (a1 : Int) (a2 : Int) (r : Int) (w : World) (hr0_2 : Kd.C (Kd.int .i64) w A0_2 l0_2.length l0_2) (hc0_2 : l0_2.length ≤ c0_2) (h : spec_l2Reached.f k a0_0 a0_1 l0_2 a1 a2 = some r) :
  Calls Try.prog 132 #[.agg #[.int .i64 a0_0, .int .i64 a0_1, .slice A0_2 l0_2.length c0_2], .int .i64 a1, .int .i64 a2] w fun e w' => e = .returned (.int .i64 r) ∧ Below w.heap.size w w' := by
 have hu43 := Try.underlying43
 have HR0_2 := aM hr0_2
 have HC0_2 := aM hc0_2
 clear hr0_2 hc0_2
 have HB := aM (Below.refl w.heap.size w)
 unfold spec_l2Reached.f at h
 have H := h
 clear h
 replace H := Option.bind_eq_some_iff.mp H
 obtain ⟨⟨t376, t377, t378⟩, A40, H⟩ := H
 try dsimp only at H
 have A4 := aM A40
 clear A40
 have HC5 := aM H
 clear H
 go_enter Try.func132, Try.ntmps132
 go_upto_if 14 with (first | ((with_reducible refine gate_dst (N := 3) rfl ?_); refine bx_ 3 #[.int .i64 a0_0, .int .i64 a0_1, .slice A0_2 l0_2.length c0_2] 43 ?_; intro gb375 hg w6 hbox hb; have BK375 := aM (hbox); have GW375 := aM (bz_ w hg qz1); have GE375 := GW375; replace HB := bS_ hb; clear hb hbox hg; obtain ⟨hcz7_0, hcz7_1, hcz7_2, hfz7_0, hfz7_1, hfz7_2⟩ := b6_ BK375.out) | ((with_reducible refine gate_callee (f := 135) rfl ?_); refine goesL_ (some 12) rfl rfl Try.func135 (by kernel_rfl) rfl #[.agg #[.int .i64 a0_0, .int .i64 a0_1, .slice A0_2 l0_2.length c0_2]] rfl qz2 ?_; (with_reducible refine (spec_l1Copy.calls a0_0 a0_1 _ _ l0_2 t376 t377 t378 _ ?_ ?_ A4.out).mono ?_); exact qz5; exact qz14; rintro e w8 ⟨v379, rfl, ho0, hb⟩; refine ⟨_, rfl, ?_⟩; have HO380 := aM (Kd.R_lower ho0 (below_size qz1)); replace BK375 := bB_ BK375 hb; replace HB := bS_ hb; (try clear hb ho0)) | ((with_reducible refine gate_dst (N := 7) rfl ?_); refine bx_ 7 #[.int .i64 0, .int .i64 0, .slice none 0 0] 43 ?_; intro gb381 hg w9 hbox hb; replace HO380 := aM (Kd.R_below (rr_ HO380.out) hb); have BK381 := aM (hbox); have GW381 := aM (bz_ w hg qz1); have GE381 := GW381; replace HB := bS_ hb; obtain ⟨NB375_381, NB381_375⟩ := nb_ hg (bk_ BK375.out); replace BK375 := bB_ BK375 hb; clear hb hbox hg; have hnb10 := NB381_375.out; have hnc10 := NB375_381.out; obtain ⟨hcz11_0, hcz11_1, hcz11_2, hfz11_0, hfz11_1, hfz11_2⟩ := b6_ BK381.out; obtain ⟨Ao12, co12, eo12⟩ := Kd.R_slice HO380.out; subst eo12))
 (try simp only [Act.put, List.setIfInBounds_toArray, List.set_cons_zero, List.set_cons_succ])
 go_cut [] (fun wc => ∃ (kq : Nat) (x382002_4 : List Int) (u382002 : Value), Aside0 (spec_l2Reached.j0 kq a1 t376 t377 x382002_4 = some r) ∧ Aside0 (kq ≤ k) ∧ Aside0 (Kd.R (Kd.int .i64) 3 wc w.heap.size (fun _ => True) u382002 x382002_4) ∧ Aside0 (wc.heap[gb375]? = some (.cells #[.int .i64 a0_0, .int .i64 a0_1, (.slice A0_2 l0_2.length c0_2)] 43 (0, 0))) ∧ Aside0 (wc.heap[gb381]? = some (.cells #[.int .i64 t376, .int .i64 t377, u382002] 43 (0, 0))) ∧ Aside0 (Below w.heap.size w wc))
 case first =>
  have H := HC5.out
  clear HC5
  replace H := iE_ H
  rcases H with ⟨c13b0, H⟩ | ⟨c13b0, H⟩
  {
  (first | rw [c13b0] | (simp only [i64_w, i32_w]; rw [c13b0]) | rw [@decide_eq_true _ _ (of_decide_eq_true c13b0)] | rw [@decide_eq_true _ _ (of_decide_eq_true c13b1)] | skip)
  replace H := iD_ H
  obtain ⟨c14b0, H⟩ := H
  replace H := iD_ H
  obtain ⟨c15b0, H⟩ := H
  obtain ⟨y382, hy382⟩ : ∃ y_ : List Int, y_ = (t378.set (a2 : Int).toNat 0) := ⟨_, rfl⟩
  replace H : (spec_l2Reached.j0 k a1 t376 t377 y382) = some r := by first | (rw [hy382]; exact H) | exact H
  have Ny382 := aM hy382
  clear hy382
  have H' := aM H
  clear H
  generalize hq_ : (((w9.setCell ⟨gb381, 0, none⟩ (.int .i64 t376)).setCell ⟨gb381, 1, none⟩ (.int .i64 t377)).setCell ⟨gb381, 2, none⟩ (.slice Ao12 t378.length co12)) = w17
  replace HO380 : Aside0 (Kd.R (Kd.int .i64) 3 w17 w.heap.size (fun _ => True) (.slice Ao12 t378.length co12) t378) := ⟨by rw [← hq_]; exact (by (with_reducible repeat (first | apply Kd.R_alloc | apply Kd.R_drewN | apply Kd.R_drew)); exact Kd.R_mono (Kd.R_far (p := ⟨gb381, 2, none⟩) (Kd.R_far (p := ⟨gb381, 1, none⟩) (Kd.R_far (p := ⟨gb381, 0, none⟩) (Kd.R_types HO380.out BK381.out (by decide)) (fun _ hk => hk.2) (.int .i64 t376)) (fun _ hk => hk.2) (.int .i64 t377)) (fun _ hk => hk.2) (.slice Ao12 t378.length co12)) (fun _ hk => trivial))⟩
  replace BK375 := bqo_ hq_ BK375
  replace BK381 : Aside0 (w17.heap[gb381]? = some (.cells #[.int .i64 t376, .int .i64 t377, .slice Ao12 t378.length co12] 43 (0, 0))) := ⟨by rw [← hq_]; exact (by (with_reducible repeat (first | refine blk_drewN ?_ _ | refine blk_drew ?_ | refine blk_alloc ?_ _)); refine blk_put (cs := #[.int .i64 t376, .int .i64 t377, .slice none 0 0]) ?_ 2 _ rfl; (with_reducible repeat (first | refine blk_drewN ?_ _ | refine blk_drew ?_ | refine blk_alloc ?_ _)); refine blk_put (cs := #[.int .i64 t376, .int .i64 0, .slice none 0 0]) ?_ 1 _ rfl; (with_reducible repeat (first | refine blk_drewN ?_ _ | refine blk_drew ?_ | refine blk_alloc ?_ _)); refine blk_put (cs := #[.int .i64 0, .int .i64 0, .slice none 0 0]) ?_ 0 _ rfl; exact bk_ BK381.out)⟩
  replace HB : Aside0 (Below w.heap.size w w17) := ⟨by rw [← hq_]; exact qz1⟩
  clear hq_
  have hnb18 := NB381_375.out
  have hnc18 := NB375_381.out
  obtain ⟨hcz19_0, hcz19_1, hcz19_2, hfz19_0, hfz19_1, hfz19_2⟩ := b6_ BK381.out
  have p16 : 0 ≤ (a2 : Int) := dt_
  have q16 : (a2 : Int) < ((t378.length : Int) : Int) := dt_
  obtain ⟨go16, co16, eo16, gb16, gl16, cl16, HG16⟩ := Kd.R_form HO380.out (by omega)
  (first | cases eo16 | (injection eo16 with ea_ en_ ec_; (first | subst ea_ | (injection ea_ with ea_; subst ea_)); subst ec_; clear en_))
  have GB16 := aM gb16
  have GG16 := aM HG16
  clear gb16 gl16 HG16
  obtain ⟨hx16_0, hf16_0⟩ := Kd.R_celln 0 HO380.out (a2 : Int) p16 q16
  replace p16 := eq_true p16
  replace q16 := eq_true q16
  obtain ⟨hy20_, hz20_⟩ := Kd.R_celln 0 HO380.out (a2 : Int) (dt_) (dt_)
  have HP20 := Kd.R_putg HO380.out (a2 : Int) 0
  go_wp2_with (first | ((with_reducible refine gate_store (t := 3) (p := 18) rfl ?_); refine store_event (t := 3) (p := 18) (v := ?vo_w21) (w1 := (w17.setCell ⟨go16, (a2 : Int).toNat, none⟩ (.int .i64 0))) ?hg ?ho ?hn ?hr ?_; (case ho => rfl); (case hg => rfl); (case hn => rfl); (case hr => exact qz7); intro w21 hw; have hg : w17.grownBy w21 (some go16) := (by rw [hw]; exact HP20.2); have hp_ : Kd.R (Kd.int .i64) 3 w21 w.heap.size (fun _ => True) (.slice (some ⟨go16, 0, none⟩) t378.length co12) y382 := (by rw [hw, Ny382.out]; exact HP20.1); clear HP20; replace BK375 := aM (blk_grown (bk_ BK375.out) hg (Kd.R_ne HO380.out BK375.out (by decide))); replace BK381 := aM (blk_grown (bk_ BK381.out) hg (Kd.R_ne HO380.out BK381.out (by decide))); replace HO380 := aM (hp_); replace HB := aM ((by rw [hw]; exact below_set (HB.out) GB16.out : Below w.heap.size w w21)); clear hg hw hp_))
  go_meet
  case rel => exact ⟨_, (y382), (.slice (some ⟨go16, 0, none⟩) t378.length co12), H', ⟨by first | omega | exact Nat.le_refl _⟩, ⟨rm_ HO380.out⟩, ⟨bk_ BK375.out⟩, ⟨bk_ BK381.out⟩, ⟨qz1⟩⟩
  }
  {
  (first | rw [c13b0] | (simp only [i64_w, i32_w]; rw [c13b0]) | rw [@decide_eq_false _ _ (of_decide_eq_false c13b0)] | rw [@decide_eq_false _ _ (of_decide_eq_false c13b1)] | skip)
  have H' := aM H
  clear H
  go_wp2
  go_meet
  case rel => exact ⟨_, (t378), (.slice Ao12 t378.length co12), H', ⟨by first | omega | exact Nat.le_refl _⟩, ⟨by (with_reducible repeat (first | apply Kd.R_alloc | apply Kd.R_drewN | apply Kd.R_drew)); exact Kd.R_mono (Kd.R_far (p := ⟨gb381, 2, none⟩) (Kd.R_far (p := ⟨gb381, 1, none⟩) (Kd.R_far (p := ⟨gb381, 0, none⟩) (Kd.R_types HO380.out BK381.out (by decide)) (fun _ hk => hk.2) (.int .i64 t376)) (fun _ hk => hk.2) (.int .i64 t377)) (fun _ hk => hk.2) (.slice Ao12 t378.length co12)) (fun _ hk => trivial)⟩, ⟨by (with_reducible repeat (first | refine blk_drewN ?_ _ | refine blk_drew ?_ | refine blk_alloc ?_ _)); refine blk_far ?_ NB375_381.out _; (with_reducible repeat (first | refine blk_drewN ?_ _ | refine blk_drew ?_ | refine blk_alloc ?_ _)); refine blk_far ?_ NB375_381.out _; (with_reducible repeat (first | refine blk_drewN ?_ _ | refine blk_drew ?_ | refine blk_alloc ?_ _)); refine blk_far ?_ NB375_381.out _; exact bk_ BK375.out⟩, ⟨by (with_reducible repeat (first | refine blk_drewN ?_ _ | refine blk_drew ?_ | refine blk_alloc ?_ _)); refine blk_put (cs := #[.int .i64 t376, .int .i64 t377, .slice none 0 0]) ?_ 2 _ rfl; (with_reducible repeat (first | refine blk_drewN ?_ _ | refine blk_drew ?_ | refine blk_alloc ?_ _)); refine blk_put (cs := #[.int .i64 t376, .int .i64 0, .slice none 0 0]) ?_ 1 _ rfl; (with_reducible repeat (first | refine blk_drewN ?_ _ | refine blk_drew ?_ | refine blk_alloc ?_ _)); refine blk_put (cs := #[.int .i64 0, .int .i64 0, .slice none 0 0]) ?_ 0 _ rfl; exact bk_ BK381.out⟩, ⟨qz1⟩⟩
  }
 case rest =>
 clear HC5
 try clear hf16
 try clear hcz11_0 hcz11_1 hcz11_2 hfz11_0 hfz11_1 hfz11_2
 try clear hcz7_0 hcz7_1 hcz7_2 hfz7_0 hfz7_1 hfz7_2
 obtain ⟨kq, x382002_4, u382002, HA, HJ4, HO_382002, BK375, BK381, HB⟩ := hcut
 cases kq with
 | zero => exact absurd HA.out (by simp [spec_l2Reached.j0])
 | succ kj4 =>
 have H := HA.out
 clear HA
 simp only [spec_l2Reached.j0] at H
 replace H := Option.bind_eq_some_iff.mp H
 obtain ⟨t383, A220, H⟩ := H
 have A22 := aM A220
 clear A220
 have H' := aM H
 clear H
 have hnb23 := NB381_375.out
 have hnc23 := NB375_381.out
 obtain ⟨hcz24_0, hcz24_1, hcz24_2, hfz24_0, hfz24_1, hfz24_2⟩ := b6_ BK381.out
 obtain ⟨Ao25, co25, eo25⟩ := Kd.R_slice HO_382002.out
 subst eo25
 go_wp2_with (first | ((with_reducible refine gate_callee (f := 101) rfl ?_); refine goesL_ (some 21) rfl rfl Try.func101 (by kernel_rfl) rfl #[.agg #[.int .i64 t376, .int .i64 t377, .slice Ao25 x382002_4.length co25], .int .i64 a1, .bool false] rfl qz2 ?_; (with_reducible refine (spec_l2Field.calls kj4 t376 t377 _ _ x382002_4 a1 false t383 _ ?side1 ?side2 A22.out).mono ?_); (case side1 => repeat (first | exact (Kd.R_reads' HO_382002.out).2.2 | (with_reducible refine Kd.C_alloc ?_ _) | (with_reducible refine Kd.C_drewN ?_ _) | (with_reducible refine Kd.C_drew ?_))); (case side2 => exact (Kd.R_reads' HO_382002.out).2.1); rintro e w26 ⟨v384, rfl, ho0, hb⟩; refine ⟨_, rfl, ?_⟩; have HO385 := aM (Kd.R_lower (Kd.R_new' ho0 (Kd.R_lt (rr_ HO_382002.out))) (below_size qz1)); replace HO_382002 := aM (Kd.R_elder' (rr_ HO_382002.out) (Kd.R_base ho0) hb); replace BK375 := bB_ BK375 hb; replace BK381 := bB_ BK381 hb; replace HB := bS_ hb; (try clear hb ho0)))
 go_loopg [8, 10] kj4 (fun kq v8 v10 w' => ∃ (x8_2 : Int) (x10_2 : Int), v8 = .int .i64 x8_2 ∧ v10 = .int .i64 x10_2 ∧ Aside0 (spec_l2Reached.l0 kq x8_2 t383 x10_2 = some r) ∧ Aside0 (kq ≤ kj4) ∧ Aside0 (Kd.R (Kd.int .i64) 3 w' w.heap.size (fun k_ => some k_ ≠ ((.slice Ao25 x382002_4.length co25) : Value).ownBlock) v384 t383) ∧ Aside0 (Kd.R (Kd.int .i64) 3 w' w.heap.size (fun k_ => some k_ ≠ (v384 : Value).ownBlock) (.slice Ao25 x382002_4.length co25) x382002_4) ∧ Aside0 (w'.heap[gb375]? = some (.cells #[.int .i64 a0_0, .int .i64 a0_1, (.slice A0_2 l0_2.length c0_2)] 43 (0, 0))) ∧ Aside0 (w'.heap[gb381]? = some (.cells #[.int .i64 t376, .int .i64 t377, (.slice Ao25 x382002_4.length co25)] 43 (0, 0))) ∧ Aside0 (Below w.heap.size w w'))
 case atStart => exact ⟨(0), (0), qz6, qz6, H', ⟨Nat.le_refl _⟩, ⟨by (with_reducible repeat (first | apply Kd.R_alloc | apply Kd.R_drewN | apply Kd.R_drew)); exact Kd.R_mono HO385.out (fun _ hk => hk.2)⟩, ⟨by (with_reducible repeat (first | apply Kd.R_alloc | apply Kd.R_drewN | apply Kd.R_drew)); exact Kd.R_mono HO_382002.out (fun _ hk => hk.2)⟩, ⟨bk_ BK375.out⟩, ⟨bk_ BK381.out⟩, ⟨qz1⟩⟩
 case round =>
 clear H'
 try clear hf16
 try clear hcz11_0 hcz11_1 hcz11_2 hfz11_0 hfz11_1 hfz11_2
 try clear hcz24_0 hcz24_1 hcz24_2 hfz24_0 hfz24_1 hfz24_2
 try clear hcz7_0 hcz7_1 hcz7_2 hfz7_0 hfz7_1 hfz7_2
 obtain ⟨x8_2, x10_2, rfl, rfl, HA, HK2, HO_9, HO_382002, BK375, BK381, HB⟩ := hrel
 cases gk with
 | zero => exact absurd HA.out (by simp [spec_l2Reached.l0])
 | succ k2 =>
 have H := HA.out
 clear HA
 simp only [spec_l2Reached.l0] at H
 replace H := iE_ H
 rcases H with ⟨c27b0, H⟩ | ⟨c27b0, H⟩
 {
 replace H := iD_ H
 obtain ⟨c28b0, H⟩ := H
 replace H := iE_ H
 rcases H with ⟨c29b0, H⟩ | ⟨c29b0, H⟩
 {
 have H' := aM H
 clear H
 obtain ⟨Ao30, co30, eo30⟩ := Kd.R_slice HO_9.out
 subst eo30
 have p386 : (0 ≤ (x10_2 : Int)) = True := et_
 have q386 : (x10_2 < (t383.length : Int)) = True := et_
 obtain ⟨ad386, e386, hx386_0⟩ := Kd.at_int (Kd.R_reads' HO_9.out).2.2 x10_2 dt_ dt_
 cases e386
 go_wp2
 go_roundg k2
 case measure => have := HJ4.out; have := HK2.out; omega
 case rel => exact ⟨(wrap64 (x8_2 + 1)), (wrap64 (x10_2 + 1)), qz6, qz6, H', ⟨by have := HJ4.out; have := HK2.out; omega⟩, ⟨rm_ HO_9.out⟩, ⟨rm_ HO_382002.out⟩, ⟨bk_ BK375.out⟩, ⟨bk_ BK381.out⟩, ⟨qz1⟩⟩
 }
 {
 have H' := aM H
 clear H
 obtain ⟨Ao31, co31, eo31⟩ := Kd.R_slice HO_9.out
 subst eo31
 have p386 : (0 ≤ (x10_2 : Int)) = True := et_
 have q386 : (x10_2 < (t383.length : Int)) = True := et_
 obtain ⟨ad386, e386, hx386_0⟩ := Kd.at_int (Kd.R_reads' HO_9.out).2.2 x10_2 dt_ dt_
 cases e386
 go_wp2
 go_roundg k2
 case measure => have := HJ4.out; have := HK2.out; omega
 case rel => exact ⟨(x8_2), (wrap64 (x10_2 + 1)), qz6, qz6, H', ⟨by have := HJ4.out; have := HK2.out; omega⟩, ⟨rm_ HO_9.out⟩, ⟨rm_ HO_382002.out⟩, ⟨bk_ BK375.out⟩, ⟨bk_ BK381.out⟩, ⟨qz1⟩⟩
 }
 }
 {
 obtain rfl := Option.some.inj H
 obtain ⟨Ao32, co32, eo32⟩ := Kd.R_slice HO_9.out
 subst eo32
 go_wp2
 go_ret
 exact ⟨qzw, qz1⟩
 }
/-! ### spec_Together: function 128 -/
def spec_Together.f (k : Nat) (a0_0 : Int) (a0_1 : Int) (l0_2 : List Int) : Option (Bool) := (spec_FloorOk.f k a0_0 a0_1 l0_2).bind fun t388 => (if t388 = true then ((spec_l2Free.f k a0_0 a0_1 l0_2).bind fun t389 => (if (t389.length : Int) > 0 then (if 0 < (t389.length : Int) then ((spec_l2Reached.f k a0_0 a0_1 l0_2 (rd t389 0) (-1)).bind fun t393 => (some (t393 == (t389.length : Int)))) else (none)) else (some false))) else (some false))
theorem spec_Together.mono : ∀ a0 a1 a2 k, LeO (spec_Together.f k a0 a1 a2) (spec_Together.f (k + 1) a0 a1 a2) := by
 intro a0 a1 a2 k
 unfold spec_Together.f
 have j0 := @spec_FloorOk.mono
 have j1 := @spec_l2Free.mono
 have j2 := @spec_l2Reached.mono
 exact qL
def spec_Together.T4 : Bool × List (List Nat × List Nat) := (true, [([], []), ([0], [0]), ([1], [1]), ([2], [2]), ([3], [3]), ([3], [3]), ([5, 3], [3, 5]), ([6, 3], [3, 6]), ([4, 7, 3, 3], [3, 4, 7]), ([3], [3]), ([9, 3], [3, 9]), ([8, 10, 3], [3, 8, 10]), ([3, 11], [3, 11]), ([12, 8, 0, 1, 2, 3, 4, 5, 6, 7, 8, 9, 10, 11, 12], [12])])
def spec_Together.B4 : List Nat := [0, 1, 3, 7, 15, 15, 47, 111, 255, 15, 527, 2047, 4095, 8191]
theorem spec_Together.tab4 : rtab .any (opsOf Try.f128 4) = spec_Together.T4 := by kernel_rfl
theorem spec_Together.bits4 : waitsOk spec_Together.T4.2 spec_Together.B4 = true := by kernel_rfl
set_option maxHeartbeats 8000000 in
set_option maxRecDepth 100000 in
theorem spec_Together.calls (k : Nat) (a0_0 : Int) (a0_1 : Int) (A0_2 : Option Addr) (c0_2 : Nat) (l0_2 : List Int) (r : Bool) (w : World) (hr0_2 : Kd.C (Kd.int .i64) w A0_2 l0_2.length l0_2) (hc0_2 : l0_2.length ≤ c0_2) (h : spec_Together.f k a0_0 a0_1 l0_2 = some r) :
  Calls Try.prog 128 #[.agg #[.int .i64 a0_0, .int .i64 a0_1, .slice A0_2 l0_2.length c0_2]] w fun e w' => e = .returned (.bool r) ∧ Below w.heap.size w w' := by
 have hu43 := Try.underlying43
 have HR0_2 := aM hr0_2
 have HC0_2 := aM hc0_2
 clear hr0_2 hc0_2
 have HB := aM (Below.refl w.heap.size w)
 unfold spec_Together.f at h
 have H := h
 clear h
 replace H := Option.bind_eq_some_iff.mp H
 obtain ⟨t388, A20, H⟩ := H
 have A2 := aM A20
 clear A20
 replace H := iB_ H
 rcases H with ⟨rfl, H⟩ | ⟨rfl, H⟩
 {
 replace H := Option.bind_eq_some_iff.mp H
 obtain ⟨t389, A40, H⟩ := H
 have A4 := aM A40
 clear A40
 replace H := iS_ H
 rcases H with ⟨c5, H⟩ | ⟨c5, H⟩
 {
 have c5b0 := decide_eq_true c5
 have c5b1 : decide (0 < t389.length) = true := decide_eq_true (by omega)
 clear c5
 replace H := iN_ H
 obtain ⟨c6, H⟩ := H
 have c6b0 := decide_eq_true c6
 have c6b1 : decide (0 < t389.length) = true := decide_eq_true (by omega)
 clear c6
 replace H := Option.bind_eq_some_iff.mp H
 obtain ⟨t393, A70, H⟩ := H
 have A7 := aM A70
 clear A70
 obtain rfl := Option.some.inj H
 go_enter Try.func128, Try.ntmps128
 try go_wp2_with (first | ((with_reducible refine gate_dst (N := 1) rfl ?_); (try (refine gate_guard (by rfl) ?_; dsimp only)); refine bx_ 1 #[.int .i64 a0_0, .int .i64 a0_1, .slice A0_2 l0_2.length c0_2] 43 ?_; intro gb387 hg w8 hbox hb; have BK387 := aM (hbox); have GW387 := aM (bz_ w hg qz1); have GE387 := GW387; replace HB := bS_ hb; clear hb hbox hg; obtain ⟨hcz9_0, hcz9_1, hcz9_2, hfz9_0, hfz9_1, hfz9_2⟩ := b6_ BK387.out) | ((with_reducible refine gate_callee (f := 60) rfl ?_); refine goesL_ (some 5) rfl rfl Try.func60 (by kernel_rfl) rfl #[.agg #[.int .i64 a0_0, .int .i64 a0_1, .slice A0_2 l0_2.length c0_2]] rfl qz2 ?_; (with_reducible refine (spec_FloorOk.calls k a0_0 a0_1 _ _ l0_2 true _ ?_ ?_ A2.out).mono ?_); exact qz5; exact qz14; rintro e w10 ⟨rfl, hb⟩; refine ⟨_, rfl, ?_⟩; replace BK387 := bB_ BK387 hb; replace HB := bS_ hb; (try clear hb); obtain ⟨hcz11_0, hcz11_1, hcz11_2, hfz11_0, hfz11_1, hfz11_2⟩ := b6_ BK387.out) | ((with_reducible refine gate_callee (f := 108) rfl ?_); refine goesL_ (some 8) rfl rfl Try.func108 (by kernel_rfl) rfl #[.agg #[.int .i64 a0_0, .int .i64 a0_1, .slice A0_2 l0_2.length c0_2]] rfl qz2 ?_; (with_reducible refine (spec_l2Free.calls k a0_0 a0_1 _ _ l0_2 t389 _ ?_ ?_ A4.out).mono ?_); exact qz5; exact qz14; rintro e w12 ⟨v390, rfl, ho0, hb⟩; refine ⟨_, rfl, ?_⟩; have HO391 := aM (Kd.R_lower ho0 (below_size qz1)); replace BK387 := bB_ BK387 hb; replace HB := bS_ hb; (try clear hb ho0)))
 replace HO391 := aM (Kd.R_drew HO391.out)
 replace BK387 := aM (blk_drew BK387.out)
 replace HB := aM (below_drew1 HB.out)
 obtain ⟨Ao14, co14, eo14⟩ := Kd.R_slice HO391.out
 (first | subst eo14 | (injection eo14 with f1_ f2_ f3_; have f4_ := f1_.symm; have f5_ := f3_.symm; clear f1_ f2_ f3_; subst f4_; subst f5_))
 have p392 : 0 ≤ (0 : Int) := (by omega)
 have q392 : 0 < (t389.length : Int) := dt_
 obtain ⟨ad392, e392, hx392_0⟩ := Kd.at_int (Kd.R_reads' HO391.out).2.2 0 p392 q392
 cases e392
 have qi392 : (0 < t389.length) = True := eq_true (by omega)
 (try rw [show ((0 : Int)).toNat = 0 from rfl] at hx392_0)
 (try rw [Addr.add_zero'] at hx392_0)
 replace p392 := eq_true p392
 replace q392 := eq_true q392
 refine start_ (n := 14) (S := fun w' => w'.cell? ⟨gb387, 0, none⟩ = some (.int .i64 a0_0) ∧ w'.cell? ⟨gb387, 1, none⟩ = some (.int .i64 a0_1) ∧ w'.cell? ⟨gb387, 2, none⟩ = some (.slice A0_2 l0_2.length c0_2) ∧ w'.cell? ad392 = some (.int .i64 (rd t389 0))) (ds := []) #[false, false, false, false, false, false, false, false, false, false, false, false, false, false] (by kernel_rfl) rfl rfl ⟨(blk_cell BK387.out 0).trans rfl, (blk_cell BK387.out 1).trans rfl, (blk_cell BK387.out 2).trans rfl, hx392_0⟩ (fun hHeld => ?_); refine with_tabW spec_Together.tab4 spec_Together.bits4 (fun HT_ HW_ => ?_)
 generalize w12.drew = w13 at HO391 BK387 HB hx392_0 hHeld ⊢
 refine pI_ 0 9 (bqz 14 1) ?_
 refine jI_ 1 10 ?_
 refine jI_ 2 11 ?_
 refine jI_ 3 12 ?_
 refine jI_ 5 14 ?_
 refine jI_ 6 15 ?_
 refine jI_ 9 18 ?_
 refine jI_ 10 19 ?_
 refine sI4_ 4 13 ?_
 refine sI4_ 7 16 ?_
 refine oI_ 8 17 (bqz 14 2047) (fun K hK => ?_)
 refine goes_ Try.func132 (by kernel_rfl) rfl #[.agg #[.int .i64 a0_0, .int .i64 a0_1, .slice A0_2 l0_2.length c0_2], .int .i64 (rd t389 0), .int .i64 (-1)] (by rfl) rfl rfl qz2 ?_
 with_reducible refine (spec_l2Reached.calls k a0_0 a0_1 _ _ l0_2 (rd t389 0) (-1) t393 _ ?side1 ?side2 A7.out).mono ?_
 (case side1 => exact qz5)
 (case side2 => exact qz14)
 rintro e w15 ⟨rfl, hb⟩
 have HS3_ := (hb.cell (World.block_lt_of_cell? _ _ (hHeld.2.2.2))).trans (hHeld.2.2.2)
 refine ⟨_, rfl, ?_⟩
 replace HO391 := aM (Kd.R_below (rr_ HO391.out) hb)
 replace BK387 := bB_ BK387 hb
 replace HB := bS_ hb
 (try clear hb)
 (try clear hb2)
 (try clear hk)
 (try clear hi)
 refine hK.out _ _ (b3A_ BK387 HS3_) (fun hHeld => ?_)
 clear hK K
 refine nm_ 17 ?_
 refine pI_ 11 20 (bqz 14 4095) ?_
 refine jI_ 12 21 ?_
 refine jI_ 13 2 ?_
 refine done_ (done_of HT_.out (by kernel_rfl)) ?_
 try go_wp2
 go_ret
 exact ⟨qzw, qz1⟩
 }
 {
 have c5b0 := decide_eq_false c5
 have c5b1 : decide (0 < t389.length) = false := decide_eq_false (by omega)
 clear c5
 obtain rfl := Option.some.inj H
 go_enter Try.func128, Try.ntmps128
 try go_wp2_with (first | ((with_reducible refine gate_dst (N := 1) rfl ?_); (try (refine gate_guard (by rfl) ?_; dsimp only)); refine bx_ 1 #[.int .i64 a0_0, .int .i64 a0_1, .slice A0_2 l0_2.length c0_2] 43 ?_; intro gb387 hg w16 hbox hb; have BK387 := aM (hbox); have GW387 := aM (bz_ w hg qz1); have GE387 := GW387; replace HB := bS_ hb; clear hb hbox hg; obtain ⟨hcz17_0, hcz17_1, hcz17_2, hfz17_0, hfz17_1, hfz17_2⟩ := b6_ BK387.out) | ((with_reducible refine gate_callee (f := 60) rfl ?_); refine goesL_ (some 5) rfl rfl Try.func60 (by kernel_rfl) rfl #[.agg #[.int .i64 a0_0, .int .i64 a0_1, .slice A0_2 l0_2.length c0_2]] rfl qz2 ?_; (with_reducible refine (spec_FloorOk.calls k a0_0 a0_1 _ _ l0_2 true _ ?_ ?_ A2.out).mono ?_); exact qz5; exact qz14; rintro e w18 ⟨rfl, hb⟩; refine ⟨_, rfl, ?_⟩; replace BK387 := bB_ BK387 hb; replace HB := bS_ hb; (try clear hb); obtain ⟨hcz19_0, hcz19_1, hcz19_2, hfz19_0, hfz19_1, hfz19_2⟩ := b6_ BK387.out) | ((with_reducible refine gate_callee (f := 108) rfl ?_); refine goesL_ (some 8) rfl rfl Try.func108 (by kernel_rfl) rfl #[.agg #[.int .i64 a0_0, .int .i64 a0_1, .slice A0_2 l0_2.length c0_2]] rfl qz2 ?_; (with_reducible refine (spec_l2Free.calls k a0_0 a0_1 _ _ l0_2 t389 _ ?_ ?_ A4.out).mono ?_); exact qz5; exact qz14; rintro e w20 ⟨v390, rfl, ho0, hb⟩; refine ⟨_, rfl, ?_⟩; have HO391 := aM (Kd.R_lower ho0 (below_size qz1)); replace BK387 := bB_ BK387 hb; replace HB := bS_ hb; (try clear hb ho0)))
 replace HO391 := aM (Kd.R_drew HO391.out)
 replace BK387 := aM (blk_drew BK387.out)
 replace HB := aM (below_drew1 HB.out)
 obtain ⟨Ao22, co22, eo22⟩ := Kd.R_slice HO391.out
 (first | subst eo22 | (injection eo22 with f1_ f2_ f3_; have f4_ := f1_.symm; have f5_ := f3_.symm; clear f1_ f2_ f3_; subst f4_; subst f5_))
 refine start_ (n := 14) (S := fun w' => True) (ds := []) #[false, false, false, false, false, false, false, false, false, false, false, false, false, false] (by kernel_rfl) rfl rfl trivial (fun hHeld => ?_); refine with_tabW spec_Together.tab4 spec_Together.bits4 (fun HT_ HW_ => ?_)
 generalize w20.drew = w21 at HO391 BK387 HB hHeld ⊢
 refine pI_ 0 9 (bqz 14 1) ?_
 refine jI_ 1 10 ?_
 refine jI_ 2 11 ?_
 refine jI_ 3 12 ?_
 refine jU_ 4 13 ?_
 refine jU_ 5 14 ?_
 refine jU_ 6 15 ?_
 refine jU_ 7 16 ?_
 refine jU_ 8 17 ?_
 refine jU_ 9 18 ?_
 refine jU_ 10 19 ?_
 refine jU_ 11 20 ?_
 refine jI_ 12 21 ?_
 refine jI_ 13 2 ?_
 refine done_ (done_of HT_.out (by kernel_rfl)) ?_
 try go_wp2
 go_ret
 exact ⟨qzw, qz1⟩
 }
 }
 {
 obtain rfl := Option.some.inj H
 go_enter Try.func128, Try.ntmps128
 go_wp2_with (first | ((with_reducible refine gate_dst (N := 1) rfl ?_); (try (refine gate_guard (by rfl) ?_; dsimp only)); refine bx_ 1 #[.int .i64 a0_0, .int .i64 a0_1, .slice A0_2 l0_2.length c0_2] 43 ?_; intro gb387 hg w23 hbox hb; have BK387 := aM (hbox); have GW387 := aM (bz_ w hg qz1); have GE387 := GW387; replace HB := bS_ hb; clear hb hbox hg; obtain ⟨hcz24_0, hcz24_1, hcz24_2, hfz24_0, hfz24_1, hfz24_2⟩ := b6_ BK387.out) | ((with_reducible refine gate_callee (f := 60) rfl ?_); refine goesL_ (some 5) rfl rfl Try.func60 (by kernel_rfl) rfl #[.agg #[.int .i64 a0_0, .int .i64 a0_1, .slice A0_2 l0_2.length c0_2]] rfl qz2 ?_; (with_reducible refine (spec_FloorOk.calls k a0_0 a0_1 _ _ l0_2 false _ ?_ ?_ A2.out).mono ?_); exact qz5; exact qz14; rintro e w25 ⟨rfl, hb⟩; refine ⟨_, rfl, ?_⟩; replace BK387 := bB_ BK387 hb; replace HB := bS_ hb; (try clear hb)))
 go_ret
 exact ⟨qzw, qz1⟩
 }
end Go.Proofs.Ytankmdbbgepmbaa.PFnLively
