-- Made by a program of this session out of the translation. Lean checks it.
import Derived.Test.YtankmdbbgepmbaaPFnChosenx13
namespace Go.Proofs.Ytankmdbbgepmbaa.PFnChosen
open Go.RowKit Go.Proofs.YtankmdbbgepmbaaW.PrintWords Go.Proofs.YtankmdbbgepmbaaW.PrintLast Go.Proofs.YtankmdbbgepmbaaW.PrintMore
attribute [local go_sem] max2_int min2_int max_two min_two max_three min_three max_four min_four   -- for this text's walks alone
set_option linter.unusedVariables false
set_option linter.unusedSimpArgs false

/-! ### spec_l1CellAny: function 72 -/
def spec_l1CellAny.f (s0_0 : List Int) (s0_1 : Int) (s0_2 : Int) (a1_0 : Int) (a1_1 : Int) (l1_2 : List Int) : Option (Int × Int × Int) := (spec_l1Below.f s0_0 s0_1 s0_2 (l1_2.length : Int)).bind fun bt470 => ((spec_l1Below.f s0_0 bt470.2.1 bt470.2.2 (l1_2.length : Int)).bind fun bt473 => ((spec_l1Below.f s0_0 bt473.2.1 bt473.2.2 (l1_2.length : Int)).bind fun bt476 => ((spec_l1Int.f s0_0 bt476.2.1 bt476.2.2 (([bt470.1, bt473.1, bt476.1, 0, (-1), (l1_2.length : Int), 9223372036854775807] : List Int))).bind fun bt482 => (some (bt482.1, bt482.2.1, bt482.2.2)))))
def spec_l1CellAny.T1 : Bool × List (List Nat × List Nat) := (true, [([], []), ([], []), ([], []), ([2], [2]), ([3], [3]), ([1, 4], [1, 4]), ([], []), ([], []), ([7], [7]), ([8], [8]), ([6, 9, 5], [6, 9]), ([], []), ([], []), ([12], [12]), ([13], [13]), ([11, 14, 10], [11, 14]), ([], []), ([16], [16]), ([17], [17]), ([5, 10, 15, 18], [5, 10, 15, 18]), ([0, 19, 15], [0, 19]), ([20, 20, 0, 1, 2, 3, 4, 5, 6, 7, 8, 9, 10, 11, 12, 13, 14, 15, 16, 17, 18, 19, 20], [20])])
def spec_l1CellAny.B1 : List Nat := [0, 0, 0, 4, 12, 30, 0, 0, 128, 384, 1022, 0, 0, 4096, 12288, 32766, 0, 65536, 196608, 524286, 1048575, 2097151]
theorem spec_l1CellAny.tab1 : rtab .any (opsOf Try.f72 1) = spec_l1CellAny.T1 := by kernel_rfl
theorem spec_l1CellAny.bits1 : waitsOk spec_l1CellAny.T1.2 spec_l1CellAny.B1 = true := by kernel_rfl
set_option maxHeartbeats 8000000 in
set_option maxRecDepth 100000 in
theorem spec_l1CellAny.calls (g : Nat) (s0_0 : List Int) (s0_1 : Int) (s0_2 : Int) (a1_0 : Int) (a1_1 : Int) (A1_2 : Option Addr) (c1_2 : Nat) (l1_2 : List Int) (r1 : Int) (r2 : Int) (r3 : Int) (w0 w : World) (hI : IsS113 w0 w g s0_0 s0_1 s0_2) (hB : Below w0.heap.size w0 w) (hr1_2 : Kd.C (Kd.int .i64) w A1_2 l1_2.length l1_2) (hc1_2 : l1_2.length ≤ c1_2) (hf1_2 : ∀ ad, A1_2 = some ad → 0 < l1_2.length → ad.block ≠ g) (h : spec_l1CellAny.f s0_0 s0_1 s0_2 a1_0 a1_1 l1_2 = some (r1, r2, r3)) :
  Calls Try.prog 72 #[.pointer (some ⟨g, 0, none⟩), .agg #[.int .i64 a1_0, .int .i64 a1_1, .slice A1_2 l1_2.length c1_2]] w fun e w' => e = .returned (.int .i64 r1) ∧ IsS113 w0 w' g s0_0 r2 r3 ∧ Below w0.heap.size w0 w' ∧ KeepBut w w' g none := by
 have hu43 := Try.underlying43
 have HR1_2 := aM hr1_2
 have HC1_2 := aM hc1_2
 clear hr1_2 hc1_2
 have HI0 := aM hI
 have HK := aM (KeepBut.refl w g none)
 have HL := aM hB.size
 clear hI
 have HW0 := aM hB.size
 have HB := aM hB
 clear hB
 have H : ((spec_l1Below.f s0_0 s0_1 s0_2 (l1_2.length : Int)).bind fun bt470 => ((spec_l1Below.f s0_0 bt470.2.1 bt470.2.2 (l1_2.length : Int)).bind fun bt473 => ((spec_l1Below.f s0_0 bt473.2.1 bt473.2.2 (l1_2.length : Int)).bind fun bt476 => ((spec_l1Int.f s0_0 bt476.2.1 bt476.2.2 (([bt470.1, bt473.1, bt476.1, 0, (-1), (l1_2.length : Int), 9223372036854775807] : List Int))).bind fun bt482 => (some (bt482.1, bt482.2.1, bt482.2.2)))))) = some (r1, r2, r3) := h
 clear h
 replace H := Option.bind_eq_some_iff.mp H
 obtain ⟨⟨t470, t471, t472⟩, A30, H⟩ := H
 replace H : ((spec_l1Below.f s0_0 t471 t472 (l1_2.length : Int)).bind fun bt473 => ((spec_l1Below.f s0_0 bt473.2.1 bt473.2.2 (l1_2.length : Int)).bind fun bt476 => ((spec_l1Int.f s0_0 bt476.2.1 bt476.2.2 (([t470, bt473.1, bt476.1, 0, (-1), (l1_2.length : Int), 9223372036854775807] : List Int))).bind fun bt482 => (some (bt482.1, bt482.2.1, bt482.2.2))))) = some (r1, r2, r3) := H
 have A3 := aM A30
 clear A30
 replace H := Option.bind_eq_some_iff.mp H
 obtain ⟨⟨t473, t474, t475⟩, A40, H⟩ := H
 replace H : ((spec_l1Below.f s0_0 t474 t475 (l1_2.length : Int)).bind fun bt476 => ((spec_l1Int.f s0_0 bt476.2.1 bt476.2.2 (([t470, t473, bt476.1, 0, (-1), (l1_2.length : Int), 9223372036854775807] : List Int))).bind fun bt482 => (some (bt482.1, bt482.2.1, bt482.2.2)))) = some (r1, r2, r3) := H
 have A4 := aM A40
 clear A40
 replace H := Option.bind_eq_some_iff.mp H
 obtain ⟨⟨t476, t477, t478⟩, A50, H⟩ := H
 replace H : ((spec_l1Int.f s0_0 t477 t478 (([t470, t473, t476, 0, (-1), (l1_2.length : Int), 9223372036854775807] : List Int))).bind fun bt482 => (some (bt482.1, bt482.2.1, bt482.2.2))) = some (r1, r2, r3) := H
 have A5 := aM A50
 clear A50
 obtain ⟨y479, hy479⟩ : ∃ y_ : List Int, y_ = (([t470, t473, t476, 0, (-1), (l1_2.length : Int), 9223372036854775807] : List Int)) := ⟨_, rfl⟩
 replace H : ((spec_l1Int.f s0_0 t477 t478 y479).bind fun bt482 => (some (bt482.1, bt482.2.1, bt482.2.2))) = some (r1, r2, r3) := by first | (rw [hy479]; with_reducible exact H) | (have H2_ := (Option.bind_some _ _).symm.trans H; rw [hy479]; with_reducible exact H2_) | (have H2_ := (Option.bind_some _ _).symm.trans H; with_reducible exact H2_) | with_reducible exact H | (rw [hy479]; exact H) | exact H
 have Ny479 := aM hy479
 clear hy479
 replace H := Option.bind_eq_some_iff.mp H
 obtain ⟨⟨t482, t483, t484⟩, A60, H⟩ := H
 replace H : (some (t482, t483, t484)) = some (r1, r2, r3) := H
 have A6 := aM A60
 clear A60
 simp only [Option.some.injEq, Prod.mk.injEq] at H
 obtain ⟨rfl, rfl, rfl⟩ := H
 go_enter Try.func72, Try.ntmps72
 try go_wp2_with (first | ((with_reducible refine gate_dst (N := 3) rfl ?_); refine bx_ 3 #[.int .i64 a1_0, .int .i64 a1_1, .slice A1_2 l1_2.length c1_2] 43 ?_; intro gb469 hg w7 hbox hb; replace HB := bS_ hb; have BK469 := aM (hbox); have GW469 := aM (kz_ w g hg qz2); have GE469 := aM ((Nat.le_trans HW0.out (by rw [hg]; exact (keep_size (w := w) (g := g) (row := none) qz2) : w.heap.size ≤ gb469) : w0.heap.size ≤ gb469)); replace HK := aM (KeepBut.trans qz2 (KeepBut.of_below hb g none) (.inl rfl)); have NB0_469 := aM ((by rw [hg]; exact Nat.ne_of_lt (IsS113.lt (show IsS113 w0 _ g s0_0 s0_1 s0_2 from qz3)) : g ≠ gb469)); have NB469_0 := aM ((by rw [hg]; exact Nat.ne_of_gt (IsS113.lt (show IsS113 w0 _ g s0_0 s0_1 s0_2 from qz3)) : gb469 ≠ g)); replace HI0 := aM (IsS113.below qz3 hb); clear hb hbox hg))
 replace BK469 := aM (blk_drew BK469.out)
 replace HI0 := aM (IsS113.drew HI0.out)
 replace HK := aM (keep_drew HK.out)
 replace HB := aM (below_drew1 HB.out)
 refine start_ (n := 22) (S := fun w' => w'.cell? ⟨gb469, 0, none⟩ = some (.int .i64 a1_0) ∧ w'.cell? ⟨gb469, 1, none⟩ = some (.int .i64 a1_1) ∧ w'.cell? ⟨gb469, 2, none⟩ = some (.slice A1_2 l1_2.length c1_2)) (ds := []) #[false, false, false, false, false, false, false, false, false, false, false, false, false, false, false, false, false, false, false, false, false, false] (by kernel_rfl) rfl rfl ⟨(blk_cell BK469.out 0).trans rfl, (blk_cell BK469.out 1).trans rfl, (blk_cell BK469.out 2).trans rfl⟩ (fun hHeld => ?_); refine with_tabW spec_l1CellAny.tab1 spec_l1CellAny.bits1 (fun HT_ HW_ => ?_)
 generalize w7.drew = w8 at BK469 HI0 HK HB hHeld ⊢
 refine pI_ 0 5 (bqz 22 1) ?_
 refine jI_ 1 6 ?_
 refine jI_ 2 7 ?_
 refine jI_ 6 11 ?_
 refine jI_ 7 12 ?_
 refine jI_ 11 16 ?_
 refine jI_ 12 17 ?_
 refine jI_ 16 21 ?_
 refine sI3_ 3 8 ?_
 refine jI_ 4 9 ?_
 refine sI3_ 8 13 ?_
 refine jI_ 9 14 ?_
 refine sI3_ 13 18 ?_
 refine jI_ 14 19 ?_
 refine sI3_ 17 22 ?_
 refine jI_ 18 23 ?_
 refine one_ (i := 5) (N := some 10) (bqz 22 490495) rfl rfl qzc (by decide) (fun K hK => ?_)
 refine goes_ Try.func73 (by kernel_rfl) rfl #[.pointer (some ⟨g, 0, none⟩), .int .i64 (l1_2.length : Int)] (by rfl) rfl rfl qz4 ?_
 with_reducible refine (spec_l1Below.calls g s0_0 s0_1 s0_2 (l1_2.length : Int) t470 t471 t472 w0 _ ?side1 ?side2 A3.out).mono ?_
 (case side1 => exact qz3)
 (case side2 => exact qz1)
 rintro e w9 ⟨rfl, hi, hb, hk⟩
 refine ⟨_, rfl, ?_⟩
 replace BK469 := aM (KeepBut.blk hk (bk_ BK469.out) NB469_0.out (by simp))
 replace HK := aM (KeepBut.trans qz2 hk (.inl rfl))
 replace HB := aM (hb)
 replace HI0 := aM (hi)
 (try clear hb)
 (try clear hb2)
 (try clear hk)
 (try clear hi)
 refine hK.out _ _ ⟨(blk_cell BK469.out 0).trans rfl, (blk_cell BK469.out 1).trans rfl, (blk_cell BK469.out 2).trans rfl⟩ (fun hHeld => ?_)
 clear hK K
 refine nm_ 10 ?_
 refine one_ (i := 10) (N := some 15) (bqz 22 491519) rfl rfl qzc (by decide) (fun K hK => ?_)
 refine goes_ Try.func73 (by kernel_rfl) rfl #[.pointer (some ⟨g, 0, none⟩), .int .i64 (l1_2.length : Int)] (by rfl) rfl rfl qz4 ?_
 with_reducible refine (spec_l1Below.calls g s0_0 t471 t472 (l1_2.length : Int) t473 t474 t475 w0 _ ?side1 ?side2 A4.out).mono ?_
 (case side1 => exact qz3)
 (case side2 => exact qz1)
 rintro e w10 ⟨rfl, hi, hb, hk⟩
 refine ⟨_, rfl, ?_⟩
 replace BK469 := aM (KeepBut.blk hk (bk_ BK469.out) NB469_0.out (by simp))
 replace HK := aM (KeepBut.trans qz2 hk (.inl rfl))
 replace HB := aM (hb)
 replace HI0 := aM (hi)
 (try clear hb)
 (try clear hb2)
 (try clear hk)
 (try clear hi)
 refine hK.out _ _ ⟨(blk_cell BK469.out 0).trans rfl, (blk_cell BK469.out 1).trans rfl, (blk_cell BK469.out 2).trans rfl⟩ (fun hHeld => ?_)
 clear hK K
 refine nm_ 15 ?_
 refine one_ (i := 15) (N := some 20) (bqz 22 524287) rfl rfl qzc (by decide) (fun K hK => ?_)
 refine goes_ Try.func73 (by kernel_rfl) rfl #[.pointer (some ⟨g, 0, none⟩), .int .i64 (l1_2.length : Int)] (by rfl) rfl rfl qz4 ?_
 with_reducible refine (spec_l1Below.calls g s0_0 t474 t475 (l1_2.length : Int) t476 t477 t478 w0 _ ?side1 ?side2 A5.out).mono ?_
 (case side1 => exact qz3)
 (case side2 => exact qz1)
 rintro e w11 ⟨rfl, hi, hb, hk⟩
 refine ⟨_, rfl, ?_⟩
 replace BK469 := aM (KeepBut.blk hk (bk_ BK469.out) NB469_0.out (by simp))
 replace HK := aM (KeepBut.trans qz2 hk (.inl rfl))
 replace HB := aM (hb)
 replace HI0 := aM (hi)
 (try clear hb)
 (try clear hb2)
 (try clear hk)
 (try clear hi)
 refine hK.out _ _ ⟨(blk_cell BK469.out 0).trans rfl, (blk_cell BK469.out 1).trans rfl, (blk_cell BK469.out 2).trans rfl⟩ (fun hHeld => ?_)
 clear hK K
 refine nm_ 20 ?_
 refine one_ (i := 19) (N := some 24) (bqz 22 1048575) rfl rfl qzc (by decide) (fun K hK => ?_)
 refine Kd.R_lit_step (Kd.int .i64) _ 3 ?hg (N := 24) ?hd (xs := ([t470, t473, t476, 0, (-1), (l1_2.length : Int), 9223372036854775807] : List Int)) (inner := [.int .i64 t470, .int .i64 t473, .int .i64 t476, .int .i64 0, .int .i64 (-1), .int .i64 (l1_2.length : Int), .int .i64 9223372036854775807]) (ok := fun _ => True) (okp := fun _ => True) ?hr ?hp (fun _ hk => hk) trivial (Below.refl _ _) (Nat.le_refl _) (by simp) ?_; (case hd => rfl); (case hg => rfl); (case hr => exact qz10); (case hp => exact (Reps.one (show Kd.M (Kd.int .i64) _ _ _ t470 [.int .i64 t470] from rfl) (Reps.one (show Kd.M (Kd.int .i64) _ _ _ t473 [.int .i64 t473] from rfl) (Reps.one (show Kd.M (Kd.int .i64) _ _ _ t476 [.int .i64 t476] from rfl) (Reps.one (show Kd.M (Kd.int .i64) _ _ _ 0 [.int .i64 0] from rfl) (Reps.one (show Kd.M (Kd.int .i64) _ _ _ (-1) [.int .i64 (-1)] from rfl) (Reps.one (show Kd.M (Kd.int .i64) _ _ _ (l1_2.length : Int) [.int .i64 (l1_2.length : Int)] from rfl) (Reps.one (show Kd.M (Kd.int .i64) _ _ _ 9223372036854775807 [.int .i64 9223372036854775807] from rfl) (Reps.none _ _)))))))))
 intro v480 w12 ho13 hb hg_ hnew_
 clear hg_ hnew_
 (first | rw [← Ny479.out] at ho13 | (simp only [Int.reduceToNat] at ho13; rw [← Ny479.out] at ho13))
 have HO481 := aM (Kd.R_lower ho13 (keep_size (w := w) (g := g) (row := none) qz2))
 replace BK469 := bB_ BK469 hb
 replace HK := aM (KeepBut.trans qz2 (KeepBut.of_below hb g none) (.inl rfl))
 replace HB := bS_ hb
 replace HI0 := aM (IsS113.below qz3 hb)
 clear hb ho13
 obtain ⟨Ao14, co14, eo14⟩ := Kd.R_slice HO481.out
 (first | subst eo14 | (injection eo14 with f1_ f2_ f3_; have f4_ := f1_.symm; have f5_ := f3_.symm; clear f1_ f2_ f3_; subst f4_; subst f5_))
 refine hK.out _ _ ⟨(blk_cell BK469.out 0).trans rfl, (blk_cell BK469.out 1).trans rfl, (blk_cell BK469.out 2).trans rfl⟩ (fun hHeld => ?_)
 clear hK K
 refine nm_ 24 ?_
 refine one_ (i := 20) (N := some 25) (bqz 22 2097151) rfl rfl qzc (by decide) (fun K hK => ?_)
 refine goes_ Try.func81 (by kernel_rfl) rfl #[.pointer (some ⟨g, 0, none⟩), .slice Ao14 y479.length co14] (by rfl) rfl rfl qz4 ?_
 with_reducible refine (spec_l1Int.calls g s0_0 t477 t478 _ _ y479 t482 t483 t484 w0 _ ?side1 ?side2 ?side3 ?side4 ?side5 A6.out).mono ?_
 (case side1 => exact qz3)
 (case side2 => exact qz1)
 (case side3 => repeat (first | exact (Kd.R_reads' HO481.out).2.2 | (with_reducible refine Kd.C_alloc ?_ _) | (with_reducible refine Kd.C_drewN ?_ _) | (with_reducible refine Kd.C_drew ?_)))
 (case side4 => exact (Kd.R_reads' HO481.out).2.1)
 (case side5 => exact far_slice (IsS113.own_ne HI0.out HO481.out (by decide)))
 rintro e w15 ⟨rfl, hi, hb, hk⟩
 refine ⟨_, rfl, ?_⟩
 replace BK469 := aM (KeepBut.blk hk (bk_ BK469.out) NB469_0.out (by simp))
 replace HO481 := aM (Kd.R_mono (Kd.R_keep (IsS113.apart (show IsS113 w0 _ g s0_0 t477 t478 from qz3) (rr_ HO481.out) (by decide)) hk (fun _ h => h.2)) (fun _ h => h.1))
 replace HK := aM (KeepBut.trans qz2 hk (.inl rfl))
 replace HB := aM (hb)
 replace HI0 := aM (hi)
 (try clear hb)
 (try clear hb2)
 (try clear hk)
 (try clear hi)
 refine hK.out _ _ ⟨(blk_cell BK469.out 0).trans rfl, (blk_cell BK469.out 1).trans rfl, (blk_cell BK469.out 2).trans rfl⟩ (fun hHeld => ?_)
 clear hK K
 refine nm_ 25 ?_
 refine pI_ 21 4 (bqz 22 4194303) ?_
 refine done_ (done_of HT_.out (by kernel_rfl)) ?_
 try go_wp2
 go_ret
 exact ⟨qzw, qz3, qz1, qz2⟩

/-! ### spec_DrawChoices: function 32 -/
def spec_DrawChoices.f (k : Nat) (l0 : List Int) : Option (Int × Int × List Int × Int × Int × Int × Bool × Int) := (spec_l1New.f k l0).bind fun bt487 => ((spec_l7DrawAny.f k bt487.1 bt487.2.1 bt487.2.2).bind fun bt491 => (if (bt491.2.2.2.1.length : Int) = 0 then ((spec_l1CellAny.f bt487.1 bt491.2.2.2.2.1 bt491.2.2.2.2.2 bt491.1 bt491.2.1 bt491.2.2.1).bind fun bt502 => (some (bt491.1, bt491.2.1, bt491.2.2.1, 0, bt502.1, (-1), false, 0))) else ((spec_l1Below.f bt487.1 bt491.2.2.2.2.1 bt491.2.2.2.2.2 (bt491.2.2.2.1.length : Int)).bind fun bt505 => (if 0 ≤ bt505.1 then (if bt505.1 < (bt491.2.2.2.1.length : Int) then (some (bt491.1, bt491.2.1, bt491.2.2.1, (rd_T37 bt491.2.2.2.1 bt505.1).f0, (rd_T37 bt491.2.2.2.1 bt505.1).f1, (rd_T37 bt491.2.2.2.1 bt505.1).f2, (rd_T37 bt491.2.2.2.1 bt505.1).f3, (rd_T37 bt491.2.2.2.1 bt505.1).f4)) else (none)) else (none)))))
theorem spec_DrawChoices.mono : ∀ a0 k, LeO (spec_DrawChoices.f k a0) (spec_DrawChoices.f (k + 1) a0) := by
 intro a0 k
 unfold spec_DrawChoices.f
 have j0 := @spec_l1New.mono
 have j1 := @spec_l7DrawAny.mono
 exact qL
def spec_DrawChoices.T5 : Bool × List (List Nat × List Nat) := (true, [([], []), ([], []), ([], []), ([], []), ([3], [3]), ([2, 4], [2, 4]), ([1, 5], [1, 5]), ([6], [6]), ([0, 5, 0], [0]), ([7, 8, 0, 1, 2, 3, 4, 5, 6, 7, 8], [7])])
def spec_DrawChoices.B5 : List Nat := [0, 0, 0, 0, 8, 28, 62, 126, 61, 511]
theorem spec_DrawChoices.tab5 : rtab .any (opsOf Try.f32 5) = spec_DrawChoices.T5 := by kernel_rfl
theorem spec_DrawChoices.bits5 : waitsOk spec_DrawChoices.T5.2 spec_DrawChoices.B5 = true := by kernel_rfl
set_option maxHeartbeats 8000000 in
set_option maxRecDepth 100000 in
theorem spec_DrawChoices.calls (k : Nat) (A0 : Option Addr) (c0 : Nat) (l0 : List Int) (r1 : Int) (r2 : Int) (r3 : List Int) (r4 : Int) (r5 : Int) (r6 : Int) (r7 : Bool) (r8 : Int) (w : World) (hr0 : Kd.C (Kd.int .u8) w A0 l0.length l0) (hc0 : l0.length ≤ c0) (h : spec_DrawChoices.f k l0 = some (r1, r2, r3, r4, r5, r6, r7, r8)) :
  Calls Try.prog 32 #[.slice A0 l0.length c0] w fun e w' => ∃ v2_ : Value, e = .returned (.tuple #[.agg #[.int .i64 r1, .int .i64 r2, v2_], .agg #[.int .i64 r4, .int .i64 r5, .int .i64 r6, .bool r7, .int .i64 r8]]) ∧ Kd.R (Kd.int .i64) 3 w' w.heap.size (fun _ => True) v2_ r3 ∧ Below w.heap.size w w' := by
 have hu43 := Try.underlying43
 have hu37 := Try.underlying37
 have HR0 := aM hr0
 have HC0 := aM hc0
 clear hr0 hc0
 have HB := aM (Below.refl w.heap.size w)
 have H : ((spec_l1New.f k l0).bind fun bt487 => ((spec_l7DrawAny.f k bt487.1 bt487.2.1 bt487.2.2).bind fun bt491 => (if (bt491.2.2.2.1.length : Int) = 0 then ((spec_l1CellAny.f bt487.1 bt491.2.2.2.2.1 bt491.2.2.2.2.2 bt491.1 bt491.2.1 bt491.2.2.1).bind fun bt502 => (some (bt491.1, bt491.2.1, bt491.2.2.1, 0, bt502.1, (-1), false, 0))) else ((spec_l1Below.f bt487.1 bt491.2.2.2.2.1 bt491.2.2.2.2.2 (bt491.2.2.2.1.length : Int)).bind fun bt505 => (if 0 ≤ bt505.1 then (if bt505.1 < (bt491.2.2.2.1.length : Int) then (some (bt491.1, bt491.2.1, bt491.2.2.1, (rd_T37 bt491.2.2.2.1 bt505.1).f0, (rd_T37 bt491.2.2.2.1 bt505.1).f1, (rd_T37 bt491.2.2.2.1 bt505.1).f2, (rd_T37 bt491.2.2.2.1 bt505.1).f3, (rd_T37 bt491.2.2.2.1 bt505.1).f4)) else (none)) else (none)))))) = some (r1, r2, r3, r4, r5, r6, r7, r8) := h
 clear h
 replace H := Option.bind_eq_some_iff.mp H
 obtain ⟨⟨t487, t488, t489⟩, A20, H⟩ := H
 replace H : ((spec_l7DrawAny.f k t487 t488 t489).bind fun bt491 => (if (bt491.2.2.2.1.length : Int) = 0 then ((spec_l1CellAny.f t487 bt491.2.2.2.2.1 bt491.2.2.2.2.2 bt491.1 bt491.2.1 bt491.2.2.1).bind fun bt502 => (some (bt491.1, bt491.2.1, bt491.2.2.1, 0, bt502.1, (-1), false, 0))) else ((spec_l1Below.f t487 bt491.2.2.2.2.1 bt491.2.2.2.2.2 (bt491.2.2.2.1.length : Int)).bind fun bt505 => (if 0 ≤ bt505.1 then (if bt505.1 < (bt491.2.2.2.1.length : Int) then (some (bt491.1, bt491.2.1, bt491.2.2.1, (rd_T37 bt491.2.2.2.1 bt505.1).f0, (rd_T37 bt491.2.2.2.1 bt505.1).f1, (rd_T37 bt491.2.2.2.1 bt505.1).f2, (rd_T37 bt491.2.2.2.1 bt505.1).f3, (rd_T37 bt491.2.2.2.1 bt505.1).f4)) else (none)) else (none))))) = some (r1, r2, r3, r4, r5, r6, r7, r8) := H
 have A2 := aM A20
 clear A20
 replace H := Option.bind_eq_some_iff.mp H
 obtain ⟨⟨t491, t492, t493, t496, t499, t500⟩, A30, H⟩ := H
 replace H : (if (t496.length : Int) = 0 then ((spec_l1CellAny.f t487 t499 t500 t491 t492 t493).bind fun bt502 => (some (t491, t492, t493, 0, bt502.1, (-1), false, 0))) else ((spec_l1Below.f t487 t499 t500 (t496.length : Int)).bind fun bt505 => (if 0 ≤ bt505.1 then (if bt505.1 < (t496.length : Int) then (some (t491, t492, t493, (rd_T37 t496 bt505.1).f0, (rd_T37 t496 bt505.1).f1, (rd_T37 t496 bt505.1).f2, (rd_T37 t496 bt505.1).f3, (rd_T37 t496 bt505.1).f4)) else (none)) else (none)))) = some (r1, r2, r3, r4, r5, r6, r7, r8) := H
 have A3 := aM A30
 clear A30
 by_cases c4 : (t496.length : Int) = 0
 {
 rw [if_pos c4] at H
 have c4b0 := beq_iff_eq.mpr c4
 have c4b1 := bne_eq_false_iff_eq.mpr c4
 clear c4
 replace H := Option.bind_eq_some_iff.mp H
 obtain ⟨⟨t502, t503, t504⟩, A50, H⟩ := H
 replace H : (some (t491, t492, t493, 0, t502, (-1), false, 0)) = some (r1, r2, r3, r4, r5, r6, r7, r8) := H
 have A5 := aM A50
 clear A50
 simp only [Option.some.injEq, Prod.mk.injEq] at H
 obtain ⟨rfl, rfl, rfl, rfl, rfl, rfl, rfl, rfl⟩ := H
 go_enter Try.func32, Try.ntmps32
 try go_wp2_with (first | ((with_reducible refine gate_dst (N := 2) rfl ?_); refine bx_ 2 #[.int .i64 0, .int .i64 0, .slice none 0 0] 43 ?_; intro gb485 hg w6 hbox hb; have BK485 := aM (hbox); have GW485 := aM (bz_ w hg qz1); have GE485 := GW485; replace HB := bS_ hb; clear hb hbox hg) | ((with_reducible refine gate_dst (N := 3) rfl ?_); refine bx_ 3 #[.int .i64 0, .int .i64 0, .int .i64 0, .bool false, .int .i64 0] 37 ?_; intro gb486 hg w7 hbox hb; have BK486 := aM (hbox); have GW486 := aM (bz_ w hg qz1); have GE486 := GW486; replace HB := bS_ hb; obtain ⟨NB485_486, NB486_485⟩ := nb_ hg (bk_ BK485.out); replace BK485 := bB_ BK485 hb; clear hb hbox hg) | ((with_reducible refine gate_callee (f := 57) rfl ?_); refine goesL_ (some 8) rfl rfl Try.func57 (by kernel_rfl) rfl #[.slice A0 l0.length c0] rfl qz4 ?_; (with_reducible refine (spec_l1New.calls k _ _ l0 t487 t488 t489 w _ ?side1 ?side2 ?side3 A2.out).mono ?_); (case side1 => exact qz1); (case side2 => exact HR0.out); (case side3 => exact HC0.out); rintro e w8 ⟨g490, rfl, hi, hb, hb2⟩; refine ⟨_, rfl, ?_⟩; replace HB := aM (hb); have HI490 := aM (hi); have NB490_485 := aM (IsS113.ne_blk hi (blk_below (bk_ BK485.out) hb2) (by decide)); have NB485_490 := aM (Ne.symm (IsS113.ne_blk hi (blk_below (bk_ BK485.out) hb2) (by decide))); replace BK485 := aM (blk_below (bk_ BK485.out) hb2); have NB490_486 := aM (IsS113.ne_blk hi (blk_below (bk_ BK486.out) hb2) (by decide)); have NB486_490 := aM (Ne.symm (IsS113.ne_blk hi (blk_below (bk_ BK486.out) hb2) (by decide))); replace BK486 := aM (blk_below (bk_ BK486.out) hb2); (try clear hb hb2 hi)) | ((with_reducible refine gate_callee (f := 58) rfl ?_); refine goesL_ (some 11) rfl rfl Try.func58 (by kernel_rfl) rfl #[.pointer (some ⟨g490, 0, none⟩)] rfl qz4 ?_; (with_reducible refine (spec_l7DrawAny.calls k g490 t487 t488 t489 t491 t492 t493 t496 t499 t500 w _ ?side1 ?side2 A3.out).mono ?_); (case side1 => exact qz9); (case side2 => exact qz1); rintro e w9 ⟨v494, v497, rfl, ho0, ho1, hi, hb, hk⟩; refine ⟨_, rfl, ?_⟩; replace BK485 := aM (KeepBut.blk hk (bk_ BK485.out) NB485_490.out (by simp)); have HO495 := aM (Kd.R_lower ho0 (below_size qz1)); have HO498 := aM (Kd.R_lower (Kd.R_newB ho1 (bk_ BK486.out)) (below_size qz1)); replace BK486 := aM (KeepBut.blk hk (bk_ BK486.out) NB486_490.out (by simp)); replace HB := aM (hb); replace HI490 := aM (hi); (try clear hb hk hi ho0 ho1)) | ((with_reducible refine gate_dst (N := 5) rfl ?_); refine bx_ 5 #[.int .i64 0, .int .i64 0, .slice none 0 0] 43 ?_; intro gb501 hg w10 hbox hb; replace HO495 := aM (Kd.R_below (rr_ HO495.out) hb); replace HO498 := aM (Kd.R_below (rr_ HO498.out) hb); have BK501 := aM (hbox); have GW501 := aM (bz_ w hg qz1); have GE501 := GW501; replace HB := bS_ hb; obtain ⟨NB485_501, NB501_485⟩ := nb_ hg (bk_ BK485.out); replace BK485 := bB_ BK485 hb; obtain ⟨NB486_501, NB501_486⟩ := nb_ hg (bk_ BK486.out); replace BK486 := bB_ BK486 hb; have NB490_501 := aM ((by rw [hg]; exact Nat.ne_of_lt (IsS113.lt (show IsS113 w _ g490 t487 t499 t500 from qz9)) : g490 ≠ gb501)); have NB501_490 := aM ((by rw [hg]; exact Nat.ne_of_gt (IsS113.lt (show IsS113 w _ g490 t487 t499 t500 from qz9)) : gb501 ≠ g490)); replace HI490 := aM (IsS113.below qz9 hb); clear hb hbox hg; have hnb11 := NB501_485.out; have hnc11 := NB485_501.out; have hnb12 := NB501_486.out; have hnc12 := NB486_501.out; have hnb13 := NB501_490.out; have hnc13 := NB490_501.out; obtain ⟨hcz14_0, hcz14_1, hcz14_2, hfz14_0, hfz14_1, hfz14_2⟩ := b6_ BK501.out; obtain ⟨Ao15, co15, eo15⟩ := Kd.R_slice HO495.out; subst eo15; obtain ⟨Ao16, co16, eo16⟩ := Kd.R_slice HO498.out; subst eo16))
 generalize hq_ : (((w10.setCell ⟨gb501, 0, none⟩ (.int .i64 t491)).setCell ⟨gb501, 1, none⟩ (.int .i64 t492)).setCell ⟨gb501, 2, none⟩ (.slice Ao15 t493.length co15)) = w17
 replace HO495 : Aside0 (Kd.R (Kd.int .i64) 3 w17 w.heap.size (fun _ => True) (.slice Ao15 t493.length co15) t493) := ⟨by rw [← hq_]; exact (by (with_reducible repeat (first | apply Kd.R_alloc | apply Kd.R_drewN | apply Kd.R_drew)); exact Kd.R_mono (Kd.R_far (p := ⟨gb501, 2, none⟩) (Kd.R_far (p := ⟨gb501, 1, none⟩) (Kd.R_far (p := ⟨gb501, 0, none⟩) (Kd.R_types HO495.out BK501.out (by decide)) (fun _ hk => hk.2) (.int .i64 t491)) (fun _ hk => hk.2) (.int .i64 t492)) (fun _ hk => hk.2) (.slice Ao15 t493.length co15)) (fun _ hk => trivial))⟩
 replace HO498 : Aside0 (Kd.R k37 37 w17 w.heap.size (fun k_ => k_ ≠ gb486) (.slice Ao16 t496.length co16) t496) := ⟨by rw [← hq_]; exact (by (with_reducible repeat (first | apply Kd.R_alloc | apply Kd.R_drewN | apply Kd.R_drew)); exact Kd.R_mono (Kd.R_far (p := ⟨gb501, 2, none⟩) (Kd.R_far (p := ⟨gb501, 1, none⟩) (Kd.R_far (p := ⟨gb501, 0, none⟩) (Kd.R_types HO498.out BK501.out (by decide)) (fun _ hk => hk.2) (.int .i64 t491)) (fun _ hk => hk.2) (.int .i64 t492)) (fun _ hk => hk.2) (.slice Ao15 t493.length co15)) (fun _ hk => hk.1.2))⟩
 replace BK485 : Aside0 (w17.heap[gb485]? = some (.cells #[.int .i64 0, .int .i64 0, .slice none 0 0] 43 (0, 0))) := ⟨by rw [← hq_]; exact (bk2_ BK485.out)⟩
 replace BK486 : Aside0 (w17.heap[gb486]? = some (.cells #[.int .i64 0, .int .i64 0, .int .i64 0, .bool false, .int .i64 0] 37 (0, 0))) := ⟨by rw [← hq_]; exact (bk2_ BK486.out)⟩
 replace BK501 : Aside0 (w17.heap[gb501]? = some (.cells #[.int .i64 t491, .int .i64 t492, .slice Ao15 t493.length co15] 43 (0, 0))) := ⟨by rw [← hq_]; exact (by (with_reducible repeat (first | refine blk_drewN ?_ _ | refine blk_drew ?_ | refine blk_alloc ?_ _)); refine blk_put (cs := #[.int .i64 t491, .int .i64 t492, .slice none 0 0]) ?_ 2 _ rfl; (with_reducible repeat (first | refine blk_drewN ?_ _ | refine blk_drew ?_ | refine blk_alloc ?_ _)); refine blk_put (cs := #[.int .i64 t491, .int .i64 0, .slice none 0 0]) ?_ 1 _ rfl; (with_reducible repeat (first | refine blk_drewN ?_ _ | refine blk_drew ?_ | refine blk_alloc ?_ _)); refine blk_put (cs := #[.int .i64 0, .int .i64 0, .slice none 0 0]) ?_ 0 _ rfl; exact bk_ BK501.out)⟩
 replace HB : Aside0 (Below w.heap.size w w17) := ⟨by rw [← hq_]; exact qz1⟩
 replace HI490 : Aside0 (IsS113 w w17 g490 t487 t499 t500) := ⟨by rw [← hq_]; exact qz9⟩
 clear hq_
 replace HO495 := aM (Kd.R_drew HO495.out)
 replace HO498 := aM (Kd.R_drew HO498.out)
 replace BK485 := aM (blk_drew BK485.out)
 replace BK486 := aM (blk_drew BK486.out)
 replace BK501 := aM (blk_drew BK501.out)
 replace HI490 := aM (IsS113.drew HI490.out)
 replace HB := aM (below_drew1 HB.out)
 refine start_ (n := 7) (S := fun w' => w'.cell? ⟨gb501, 0, none⟩ = some (.int .i64 t491) ∧ w'.cell? ⟨gb501, 1, none⟩ = some (.int .i64 t492) ∧ w'.cell? ⟨gb501, 2, none⟩ = some (.slice Ao15 t493.length co15)) (ds := []) #[false, false, false, false, false, false, false] (by kernel_rfl) rfl rfl ⟨(blk_cell BK501.out 0).trans rfl, (blk_cell BK501.out 1).trans rfl, (blk_cell BK501.out 2).trans rfl⟩ (fun hHeld => ?_)
 generalize w17.drew = w18 at HO495 HO498 BK485 BK486 BK501 HI490 HB hHeld ⊢
 refine pure_ (i := 1) (N := some 18) (v := ?_) (a' := ?_) #[false, true, false, false, false, false, false] rfl rfl (by kernel_rfl) qzd (Or.inl ⟨by rfl, ?_⟩) ?_ ?_
 rotate_left
 {
 intro w'
 go_simp
 with_reducible rfl
 }
 rotate_left
 {
 simp only [qzs]
 rfl
 }
 refine take_ (i := 0) (N := some 17) (v := ?_) (a' := ?_) #[true, true, false, false, false, false, false] rfl rfl (by kernel_rfl) qzd (Or.inl ⟨by rfl, ?_⟩) hHeld ?_ ?_
 rotate_left
 {
 rintro w' ⟨s0, s1, s2⟩
 go_simp
 with_reducible rfl
 }
 rotate_left
 {
 simp only [qzs]
 rfl
 }
 refine take_ (i := 2) (N := some 19) (v := ?_) (a' := ?_) #[true, true, true, false, false, false, false] rfl rfl (by kernel_rfl) qzd (Or.inl ⟨by rfl, ?_⟩) hHeld ?_ ?_
 rotate_left
 {
 rintro w' ⟨s0, s1, s2⟩
 go_simp
 with_reducible rfl
 }
 rotate_left
 {
 simp only [qzs]
 rfl
 }
 refine one_ (i := 3) (N := some 20) #[true, true, true, true, false, false, false] rfl rfl (by kernel_rfl) (by decide) (fun K hK => ?_)
 refine goes_ Try.func72 (by kernel_rfl) rfl #[.pointer (some ⟨g490, 0, none⟩), .agg #[.int .i64 t491, .int .i64 t492, .slice Ao15 t493.length co15]] (by rfl) rfl rfl qz4 ?_
 with_reducible refine (spec_l1CellAny.calls g490 t487 t499 t500 t491 t492 _ _ t493 t502 t503 t504 w _ ?side1 ?side2 ?side3 ?side4 ?side5 A5.out).mono ?_
 (case side1 => exact qz9)
 (case side2 => exact qz1)
 (case side3 => repeat (first | exact (Kd.R_reads' HO495.out).2.2 | (with_reducible refine Kd.C_alloc ?_ _) | (with_reducible refine Kd.C_drewN ?_ _) | (with_reducible refine Kd.C_drew ?_)))
 (case side4 => exact (Kd.R_reads' HO495.out).2.1)
 (case side5 => exact far_slice (IsS113.own_ne HI490.out HO495.out (by decide)))
 rintro e w19 ⟨rfl, hi, hb, hk⟩
 refine ⟨_, rfl, ?_⟩
 replace BK485 := aM (KeepBut.blk hk (bk_ BK485.out) NB485_490.out (by simp))
 replace BK486 := aM (KeepBut.blk hk (bk_ BK486.out) NB486_490.out (by simp))
 replace HO495 := aM (Kd.R_mono (Kd.R_keep (IsS113.apart (show IsS113 w _ g490 t487 t499 t500 from qz9) (rr_ HO495.out) (by decide)) hk (fun _ h => h.2)) (fun _ h => h.1))
 replace HO498 := aM (Kd.R_mono (Kd.R_keep (IsS113.apart (show IsS113 w _ g490 t487 t499 t500 from qz9) (rr_ HO498.out) (by decide)) hk (fun _ h => h.2)) (fun _ h => h.1))
 replace BK501 := aM (KeepBut.blk hk (bk_ BK501.out) NB501_490.out (by simp))
 replace HB := aM (hb)
 replace HI490 := aM (hi)
 (try clear hb)
 (try clear hb2)
 (try clear hk)
 (try clear hi)
 refine hK.out _ _ ⟨(blk_cell BK501.out 0).trans rfl, (blk_cell BK501.out 1).trans rfl, (blk_cell BK501.out 2).trans rfl⟩ (fun hHeld => ?_)
 clear hK K
 refine nm_ 20 ?_
 refine pure_ (i := 4) (N := some 21) (v := ?_) (a' := ?_) #[true, true, true, true, true, false, false] rfl rfl (by kernel_rfl) qzd (Or.inl ⟨by rfl, ?_⟩) ?_ ?_
 rotate_left
 {
 intro w'
 go_simp
 with_reducible rfl
 }
 rotate_left
 {
 simp only [qzs]
 rfl
 }
 refine one_ (i := 5) (N := none) #[true, true, true, true, true, true, false] rfl rfl (by kernel_rfl) (by decide) (fun K hK => ?_)
 have hs20 : w19.cell? ⟨gb485, 0, none⟩ = some (.int .i64 0) := (blk_cell BK485.out 0).trans rfl
 have hfs20 := blk_frozen BK485.out 0
 have hns20_1 := NB486_485.out
 have hns20_2 := NB501_485.out
 have hms20_1 := NB485_486.out
 have hms20_2 := NB485_501.out
 have hs21 : w19.cell? ⟨gb485, 1, none⟩ = some (.int .i64 0) := (blk_cell BK485.out 1).trans rfl
 have hfs21 := blk_frozen BK485.out 1
 have hns21_1 := NB486_485.out
 have hns21_2 := NB501_485.out
 have hms21_1 := NB485_486.out
 have hms21_2 := NB485_501.out
 have hs22 : w19.cell? ⟨gb485, 2, none⟩ = some (.slice none 0 0) := (blk_cell BK485.out 2).trans rfl
 have hfs22 := blk_frozen BK485.out 2
 have hns22_1 := NB486_485.out
 have hns22_2 := NB501_485.out
 have hms22_1 := NB485_486.out
 have hms22_2 := NB485_501.out
 refine sk_ ?_
 refine hK.out _ _ ⟨((cell_far (p := ⟨gb485, _, none⟩) NB501_485.out _).trans (((cell_far (p := ⟨gb485, _, none⟩) NB501_485.out _).trans (((cell_far (p := ⟨gb485, _, none⟩) NB501_485.out _).trans (hHeld.1)))))), ((cell_far (p := ⟨gb485, _, none⟩) NB501_485.out _).trans (((cell_far (p := ⟨gb485, _, none⟩) NB501_485.out _).trans (((cell_far (p := ⟨gb485, _, none⟩) NB501_485.out _).trans (hHeld.2.1)))))), ((cell_far (p := ⟨gb485, _, none⟩) NB501_485.out _).trans (((cell_far (p := ⟨gb485, _, none⟩) NB501_485.out _).trans (((cell_far (p := ⟨gb485, _, none⟩) NB501_485.out _).trans (hHeld.2.2))))))⟩ (fun hHeld => ?_)
 clear hK K
 refine one_ (i := 6) (N := none) #[true, true, true, true, true, true, true] rfl rfl (by kernel_rfl) (by decide) (fun K hK => ?_)
 have hs23 : w19.cell? ⟨gb486, 0, none⟩ = some (.int .i64 0) := (blk_cell BK486.out 0).trans rfl
 have hfs23 := blk_frozen BK486.out 0
 have hns23_0 := NB485_486.out
 have hns23_2 := NB501_486.out
 have hms23_0 := NB486_485.out
 have hms23_2 := NB486_501.out
 have hs24 : w19.cell? ⟨gb486, 1, none⟩ = some (.int .i64 0) := (blk_cell BK486.out 1).trans rfl
 have hfs24 := blk_frozen BK486.out 1
 have hns24_0 := NB485_486.out
 have hns24_2 := NB501_486.out
 have hms24_0 := NB486_485.out
 have hms24_2 := NB486_501.out
 have hs25 : w19.cell? ⟨gb486, 2, none⟩ = some (.int .i64 0) := (blk_cell BK486.out 2).trans rfl
 have hfs25 := blk_frozen BK486.out 2
 have hns25_0 := NB485_486.out
 have hns25_2 := NB501_486.out
 have hms25_0 := NB486_485.out
 have hms25_2 := NB486_501.out
 have hs26 : w19.cell? ⟨gb486, 3, none⟩ = some (.bool false) := (blk_cell BK486.out 3).trans rfl
 have hfs26 := blk_frozen BK486.out 3
 have hns26_0 := NB485_486.out
 have hns26_2 := NB501_486.out
 have hms26_0 := NB486_485.out
 have hms26_2 := NB486_501.out
 have hs27 : w19.cell? ⟨gb486, 4, none⟩ = some (.int .i64 0) := (blk_cell BK486.out 4).trans rfl
 have hfs27 := blk_frozen BK486.out 4
 have hns27_0 := NB485_486.out
 have hns27_2 := NB501_486.out
 have hms27_0 := NB486_485.out
 have hms27_2 := NB486_501.out
 refine sk_ ?_
 refine hK.out _ _ ⟨((cell_far (p := ⟨gb486, _, none⟩) NB501_486.out _).trans (((cell_far (p := ⟨gb486, _, none⟩) NB501_486.out _).trans (((cell_far (p := ⟨gb486, _, none⟩) NB501_486.out _).trans (((cell_far (p := ⟨gb486, _, none⟩) NB501_486.out _).trans (((cell_far (p := ⟨gb486, _, none⟩) NB501_486.out _).trans (hHeld.1)))))))))), ((cell_far (p := ⟨gb486, _, none⟩) NB501_486.out _).trans (((cell_far (p := ⟨gb486, _, none⟩) NB501_486.out _).trans (((cell_far (p := ⟨gb486, _, none⟩) NB501_486.out _).trans (((cell_far (p := ⟨gb486, _, none⟩) NB501_486.out _).trans (((cell_far (p := ⟨gb486, _, none⟩) NB501_486.out _).trans (hHeld.2.1)))))))))), ((cell_far (p := ⟨gb486, _, none⟩) NB501_486.out _).trans (((cell_far (p := ⟨gb486, _, none⟩) NB501_486.out _).trans (((cell_far (p := ⟨gb486, _, none⟩) NB501_486.out _).trans (((cell_far (p := ⟨gb486, _, none⟩) NB501_486.out _).trans (((cell_far (p := ⟨gb486, _, none⟩) NB501_486.out _).trans (hHeld.2.2))))))))))⟩ (fun hHeld => ?_)
 clear hK K
 refine done_ (by kernel_rfl) ?_
 try go_wp2
 refine bodyPost_ret (results_cc rfl _ _ gb485 gb486 43 37 #[.int .i64 t491, .int .i64 t492, .slice Ao15 t493.length co15] #[.int .i64 0, .int .i64 t502, .int .i64 (-1), .bool false, .int .i64 0] (0, 0) (0, 0) _ _ rfl (by (with_reducible repeat (first | refine blk_drewN ?_ _ | refine blk_drew ?_ | refine blk_alloc ?_ _)); refine blk_far ?_ NB485_486.out _; (with_reducible repeat (first | refine blk_drewN ?_ _ | refine blk_drew ?_ | refine blk_alloc ?_ _)); refine blk_far ?_ NB485_486.out _; (with_reducible repeat (first | refine blk_drewN ?_ _ | refine blk_drew ?_ | refine blk_alloc ?_ _)); refine blk_far ?_ NB485_486.out _; (with_reducible repeat (first | refine blk_drewN ?_ _ | refine blk_drew ?_ | refine blk_alloc ?_ _)); refine blk_far ?_ NB485_486.out _; (with_reducible repeat (first | refine blk_drewN ?_ _ | refine blk_drew ?_ | refine blk_alloc ?_ _)); refine blk_far ?_ NB485_486.out _; (with_reducible repeat (first | refine blk_drewN ?_ _ | refine blk_drew ?_ | refine blk_alloc ?_ _)); refine blk_put (cs := #[.int .i64 t491, .int .i64 t492, .slice none 0 0]) ?_ 2 _ rfl; (with_reducible repeat (first | refine blk_drewN ?_ _ | refine blk_drew ?_ | refine blk_alloc ?_ _)); refine blk_put (cs := #[.int .i64 t491, .int .i64 0, .slice none 0 0]) ?_ 1 _ rfl; (with_reducible repeat (first | refine blk_drewN ?_ _ | refine blk_drew ?_ | refine blk_alloc ?_ _)); refine blk_put (cs := #[.int .i64 0, .int .i64 0, .slice none 0 0]) ?_ 0 _ rfl; exact bk_ BK485.out) Try.underlying43 rfl (by kernel_rfl) rfl (by (with_reducible repeat (first | refine blk_drewN ?_ _ | refine blk_drew ?_ | refine blk_alloc ?_ _)); refine blk_put (cs := #[.int .i64 0, .int .i64 t502, .int .i64 (-1), .bool false, .int .i64 0]) ?_ 4 _ rfl; (with_reducible repeat (first | refine blk_drewN ?_ _ | refine blk_drew ?_ | refine blk_alloc ?_ _)); refine blk_put (cs := #[.int .i64 0, .int .i64 t502, .int .i64 (-1), .bool false, .int .i64 0]) ?_ 3 _ rfl; (with_reducible repeat (first | refine blk_drewN ?_ _ | refine blk_drew ?_ | refine blk_alloc ?_ _)); refine blk_put (cs := #[.int .i64 0, .int .i64 t502, .int .i64 0, .bool false, .int .i64 0]) ?_ 2 _ rfl; (with_reducible repeat (first | refine blk_drewN ?_ _ | refine blk_drew ?_ | refine blk_alloc ?_ _)); refine blk_put (cs := #[.int .i64 0, .int .i64 0, .int .i64 0, .bool false, .int .i64 0]) ?_ 1 _ rfl; (with_reducible repeat (first | refine blk_drewN ?_ _ | refine blk_drew ?_ | refine blk_alloc ?_ _)); refine blk_put (cs := #[.int .i64 0, .int .i64 0, .int .i64 0, .bool false, .int .i64 0]) ?_ 0 _ rfl; (with_reducible repeat (first | refine blk_drewN ?_ _ | refine blk_drew ?_ | refine blk_alloc ?_ _)); exact bk2_ BK486.out) Try.underlying37 rfl (by kernel_rfl)) rfl ?_
 exact ⟨_, qzw, by (with_reducible repeat (first | apply Kd.R_alloc | apply Kd.R_drewN | apply Kd.R_drew)); exact Kd.R_mono (Kd.R_far (p := ⟨gb486, 4, none⟩) (Kd.R_far (p := ⟨gb486, 3, none⟩) (Kd.R_far (p := ⟨gb486, 2, none⟩) (Kd.R_far (p := ⟨gb486, 1, none⟩) (Kd.R_far (p := ⟨gb486, 0, none⟩) (Kd.R_far (p := ⟨gb485, 2, none⟩) (Kd.R_far (p := ⟨gb485, 1, none⟩) (Kd.R_far (p := ⟨gb485, 0, none⟩) (Kd.R_types (Kd.R_types HO495.out BK485.out (by decide)) BK486.out (by decide)) (fun _ hk => hk.1.2) (.int .i64 t491)) (fun _ hk => hk.1.2) (.int .i64 t492)) (fun _ hk => hk.1.2) (.slice Ao15 t493.length co15)) (fun _ hk => hk.2) (.int .i64 0)) (fun _ hk => hk.2) (.int .i64 t502)) (fun _ hk => hk.2) (.int .i64 (-1))) (fun _ hk => hk.2) (.bool false)) (fun _ hk => hk.2) (.int .i64 0)) (fun _ hk => trivial), qz1⟩
 }
 {
 rw [if_neg c4] at H
 have c4b0 := beq_eq_false_iff_ne.mpr c4
 have c4b1 := bne_iff_ne.mpr c4
 have c4b2 : ¬ (t496 = []) := fun h_ => c4 (by rw [h_]; rfl)
 replace H := Option.bind_eq_some_iff.mp H
 obtain ⟨⟨t505, t506, t507⟩, A280, H⟩ := H
 replace H : (if 0 ≤ t505 then (if t505 < (t496.length : Int) then (some (t491, t492, t493, (rd_T37 t496 t505).f0, (rd_T37 t496 t505).f1, (rd_T37 t496 t505).f2, (rd_T37 t496 t505).f3, (rd_T37 t496 t505).f4)) else (none)) else (none)) = some (r1, r2, r3, r4, r5, r6, r7, r8) := H
 have A28 := aM A280
 clear A280
 by_cases c29 : 0 ≤ t505
 {
 rw [if_pos c29] at H
 have c29b0 := decide_eq_true c29
 clear c29
 by_cases c30 : t505 < (t496.length : Int)
 {
 rw [if_pos c30] at H
 have c30b0 := decide_eq_true c30
 clear c30
 simp only [Option.some.injEq, Prod.mk.injEq] at H
 obtain ⟨rfl, rfl, rfl, rfl, rfl, rfl, rfl, rfl⟩ := H
 go_enter Try.func32, Try.ntmps32
 try go_wp2_with (first | ((with_reducible refine gate_dst (N := 2) rfl ?_); refine bx_ 2 #[.int .i64 0, .int .i64 0, .slice none 0 0] 43 ?_; intro gb485 hg w31 hbox hb; have BK485 := aM (hbox); have GW485 := aM (bz_ w hg qz1); have GE485 := GW485; replace HB := bS_ hb; clear hb hbox hg) | ((with_reducible refine gate_dst (N := 3) rfl ?_); refine bx_ 3 #[.int .i64 0, .int .i64 0, .int .i64 0, .bool false, .int .i64 0] 37 ?_; intro gb486 hg w32 hbox hb; have BK486 := aM (hbox); have GW486 := aM (bz_ w hg qz1); have GE486 := GW486; replace HB := bS_ hb; obtain ⟨NB485_486, NB486_485⟩ := nb_ hg (bk_ BK485.out); replace BK485 := bB_ BK485 hb; clear hb hbox hg) | ((with_reducible refine gate_callee (f := 57) rfl ?_); refine goesL_ (some 8) rfl rfl Try.func57 (by kernel_rfl) rfl #[.slice A0 l0.length c0] rfl qz4 ?_; (with_reducible refine (spec_l1New.calls k _ _ l0 t487 t488 t489 w _ ?side1 ?side2 ?side3 A2.out).mono ?_); (case side1 => exact qz1); (case side2 => exact HR0.out); (case side3 => exact HC0.out); rintro e w33 ⟨g490, rfl, hi, hb, hb2⟩; refine ⟨_, rfl, ?_⟩; replace HB := aM (hb); have HI490 := aM (hi); have NB490_485 := aM (IsS113.ne_blk hi (blk_below (bk_ BK485.out) hb2) (by decide)); have NB485_490 := aM (Ne.symm (IsS113.ne_blk hi (blk_below (bk_ BK485.out) hb2) (by decide))); replace BK485 := aM (blk_below (bk_ BK485.out) hb2); have NB490_486 := aM (IsS113.ne_blk hi (blk_below (bk_ BK486.out) hb2) (by decide)); have NB486_490 := aM (Ne.symm (IsS113.ne_blk hi (blk_below (bk_ BK486.out) hb2) (by decide))); replace BK486 := aM (blk_below (bk_ BK486.out) hb2); (try clear hb hb2 hi)) | ((with_reducible refine gate_callee (f := 58) rfl ?_); refine goesL_ (some 11) rfl rfl Try.func58 (by kernel_rfl) rfl #[.pointer (some ⟨g490, 0, none⟩)] rfl qz4 ?_; (with_reducible refine (spec_l7DrawAny.calls k g490 t487 t488 t489 t491 t492 t493 t496 t499 t500 w _ ?side1 ?side2 A3.out).mono ?_); (case side1 => exact qz9); (case side2 => exact qz1); rintro e w34 ⟨v494, v497, rfl, ho0, ho1, hi, hb, hk⟩; refine ⟨_, rfl, ?_⟩; replace BK485 := aM (KeepBut.blk hk (bk_ BK485.out) NB485_490.out (by simp)); have HO495 := aM (Kd.R_lower ho0 (below_size qz1)); have HO498 := aM (Kd.R_lower (Kd.R_newB ho1 (bk_ BK486.out)) (below_size qz1)); replace BK486 := aM (KeepBut.blk hk (bk_ BK486.out) NB486_490.out (by simp)); replace HB := aM (hb); replace HI490 := aM (hi); (try clear hb hk hi ho0 ho1)) | ((with_reducible refine gate_dst (N := 5) rfl ?_); refine bx_ 5 #[.int .i64 0, .int .i64 0, .slice none 0 0] 43 ?_; intro gb501 hg w35 hbox hb; replace HO495 := aM (Kd.R_below (rr_ HO495.out) hb); replace HO498 := aM (Kd.R_below (rr_ HO498.out) hb); have BK501 := aM (hbox); have GW501 := aM (bz_ w hg qz1); have GE501 := GW501; replace HB := bS_ hb; obtain ⟨NB485_501, NB501_485⟩ := nb_ hg (bk_ BK485.out); replace BK485 := bB_ BK485 hb; obtain ⟨NB486_501, NB501_486⟩ := nb_ hg (bk_ BK486.out); replace BK486 := bB_ BK486 hb; have NB490_501 := aM ((by rw [hg]; exact Nat.ne_of_lt (IsS113.lt (show IsS113 w _ g490 t487 t499 t500 from qz9)) : g490 ≠ gb501)); have NB501_490 := aM ((by rw [hg]; exact Nat.ne_of_gt (IsS113.lt (show IsS113 w _ g490 t487 t499 t500 from qz9)) : gb501 ≠ g490)); replace HI490 := aM (IsS113.below qz9 hb); clear hb hbox hg; have hnb36 := NB501_485.out; have hnc36 := NB485_501.out; have hnb37 := NB501_486.out; have hnc37 := NB486_501.out; have hnb38 := NB501_490.out; have hnc38 := NB490_501.out; obtain ⟨hcz39_0, hcz39_1, hcz39_2, hfz39_0, hfz39_1, hfz39_2⟩ := b6_ BK501.out; obtain ⟨Ao40, co40, eo40⟩ := Kd.R_slice HO495.out; subst eo40; obtain ⟨Ao41, co41, eo41⟩ := Kd.R_slice HO498.out; subst eo41))
 generalize hq_ : (((w35.setCell ⟨gb501, 0, none⟩ (.int .i64 t491)).setCell ⟨gb501, 1, none⟩ (.int .i64 t492)).setCell ⟨gb501, 2, none⟩ (.slice Ao40 t493.length co40)) = w42
 replace HO495 : Aside0 (Kd.R (Kd.int .i64) 3 w42 w.heap.size (fun _ => True) (.slice Ao40 t493.length co40) t493) := ⟨by rw [← hq_]; exact (by (with_reducible repeat (first | apply Kd.R_alloc | apply Kd.R_drewN | apply Kd.R_drew)); exact Kd.R_mono (Kd.R_far (p := ⟨gb501, 2, none⟩) (Kd.R_far (p := ⟨gb501, 1, none⟩) (Kd.R_far (p := ⟨gb501, 0, none⟩) (Kd.R_types HO495.out BK501.out (by decide)) (fun _ hk => hk.2) (.int .i64 t491)) (fun _ hk => hk.2) (.int .i64 t492)) (fun _ hk => hk.2) (.slice Ao40 t493.length co40)) (fun _ hk => trivial))⟩
 replace HO498 : Aside0 (Kd.R k37 37 w42 w.heap.size (fun k_ => k_ ≠ gb486) (.slice Ao41 t496.length co41) t496) := ⟨by rw [← hq_]; exact (by (with_reducible repeat (first | apply Kd.R_alloc | apply Kd.R_drewN | apply Kd.R_drew)); exact Kd.R_mono (Kd.R_far (p := ⟨gb501, 2, none⟩) (Kd.R_far (p := ⟨gb501, 1, none⟩) (Kd.R_far (p := ⟨gb501, 0, none⟩) (Kd.R_types HO498.out BK501.out (by decide)) (fun _ hk => hk.2) (.int .i64 t491)) (fun _ hk => hk.2) (.int .i64 t492)) (fun _ hk => hk.2) (.slice Ao40 t493.length co40)) (fun _ hk => hk.1.2))⟩
 replace BK485 : Aside0 (w42.heap[gb485]? = some (.cells #[.int .i64 0, .int .i64 0, .slice none 0 0] 43 (0, 0))) := ⟨by rw [← hq_]; exact (bk2_ BK485.out)⟩
 replace BK486 : Aside0 (w42.heap[gb486]? = some (.cells #[.int .i64 0, .int .i64 0, .int .i64 0, .bool false, .int .i64 0] 37 (0, 0))) := ⟨by rw [← hq_]; exact (bk2_ BK486.out)⟩
 replace BK501 : Aside0 (w42.heap[gb501]? = some (.cells #[.int .i64 t491, .int .i64 t492, .slice Ao40 t493.length co40] 43 (0, 0))) := ⟨by rw [← hq_]; exact (by (with_reducible repeat (first | refine blk_drewN ?_ _ | refine blk_drew ?_ | refine blk_alloc ?_ _)); refine blk_put (cs := #[.int .i64 t491, .int .i64 t492, .slice none 0 0]) ?_ 2 _ rfl; (with_reducible repeat (first | refine blk_drewN ?_ _ | refine blk_drew ?_ | refine blk_alloc ?_ _)); refine blk_put (cs := #[.int .i64 t491, .int .i64 0, .slice none 0 0]) ?_ 1 _ rfl; (with_reducible repeat (first | refine blk_drewN ?_ _ | refine blk_drew ?_ | refine blk_alloc ?_ _)); refine blk_put (cs := #[.int .i64 0, .int .i64 0, .slice none 0 0]) ?_ 0 _ rfl; exact bk_ BK501.out)⟩
 replace HB : Aside0 (Below w.heap.size w w42) := ⟨by rw [← hq_]; exact qz1⟩
 replace HI490 : Aside0 (IsS113 w w42 g490 t487 t499 t500) := ⟨by rw [← hq_]; exact qz9⟩
 clear hq_
 replace HO495 := aM (Kd.R_drew HO495.out)
 replace HO498 := aM (Kd.R_drew HO498.out)
 replace BK485 := aM (blk_drew BK485.out)
 replace BK486 := aM (blk_drew BK486.out)
 replace BK501 := aM (blk_drew BK501.out)
 replace HI490 := aM (IsS113.drew HI490.out)
 replace HB := aM (below_drew1 HB.out)
 have p508 : 0 ≤ (t505 : Int) := dt_
 have q508 : t505 < (t496.length : Int) := dt_
 obtain ⟨ad508, e508, hx508_0, hx508_1, hx508_2, hx508_3, hx508_4⟩ := at_T37 (Kd.R_reads' HO498.out).2.2 t505 p508 q508
 cases e508
 replace p508 := eq_true p508
 replace q508 := eq_true q508
 refine start_ (n := 10) (S := fun w' => w'.cell? ⟨gb501, 0, none⟩ = some (.int .i64 t491) ∧ w'.cell? ⟨gb501, 1, none⟩ = some (.int .i64 t492) ∧ w'.cell? ⟨gb501, 2, none⟩ = some (.slice Ao40 t493.length co40) ∧ w'.cell? (ad508.add ((t505).toNat * 5)) = some (.int .i64 ((rd_T37 t496 t505).f0)) ∧ w'.cell? ⟨(ad508.add ((t505).toNat * 5)).block, (ad508.add ((t505).toNat * 5)).off + 1, none⟩ = some (.int .i64 ((rd_T37 t496 t505).f1)) ∧ w'.cell? ⟨(ad508.add ((t505).toNat * 5)).block, (ad508.add ((t505).toNat * 5)).off + 2, none⟩ = some (.int .i64 ((rd_T37 t496 t505).f2)) ∧ w'.cell? ⟨(ad508.add ((t505).toNat * 5)).block, (ad508.add ((t505).toNat * 5)).off + 3, none⟩ = some (.bool ((rd_T37 t496 t505).f3)) ∧ w'.cell? ⟨(ad508.add ((t505).toNat * 5)).block, (ad508.add ((t505).toNat * 5)).off + 4, none⟩ = some (.int .i64 ((rd_T37 t496 t505).f4))) (ds := []) #[false, false, false, false, false, false, false, false, false, false] (by kernel_rfl) rfl rfl ⟨(blk_cell BK501.out 0).trans rfl, (blk_cell BK501.out 1).trans rfl, (blk_cell BK501.out 2).trans rfl, hx508_0, hx508_1, hx508_2, hx508_3, hx508_4⟩ (fun hHeld => ?_); refine with_tabW spec_DrawChoices.tab5 spec_DrawChoices.bits5 (fun HT_ HW_ => ?_)
 generalize w42.drew = w43 at HO495 HO498 BK485 BK486 BK501 HI490 HB hx508_0 hx508_1 hx508_2 hx508_3 hx508_4 hHeld ⊢
 refine pI_ 1 23 (bqz 10 2) ?_
 refine jI_ 2 24 ?_
 refine jI_ 3 25 ?_
 refine jI_ 4 26 ?_
 refine sI8_ 0 22 ?_
 refine one_ (i := 5) (N := some 27) (bqz 10 63) rfl rfl qzc (by decide) (fun K hK => ?_)
 refine goes_ Try.func73 (by kernel_rfl) rfl #[.pointer (some ⟨g490, 0, none⟩), .int .i64 (t496.length : Int)] (by rfl) rfl rfl qz4 ?_
 with_reducible refine (spec_l1Below.calls g490 t487 t499 t500 (t496.length : Int) t505 t506 t507 w _ ?side1 ?side2 A28.out).mono ?_
 (case side1 => exact qz9)
 (case side2 => exact qz1)
 rintro e w44 ⟨rfl, hi, hb, hk⟩
 have HS3_ := keep_cell hk (hHeld.2.2.2.1) qz15
 have HS4_ := keep_cell hk (hHeld.2.2.2.2.1) qz15
 have HS5_ := keep_cell hk (hHeld.2.2.2.2.2.1) qz15
 have HS6_ := keep_cell hk (hHeld.2.2.2.2.2.2.1) qz15
 have HS7_ := keep_cell hk (hHeld.2.2.2.2.2.2.2) qz15
 refine ⟨_, rfl, ?_⟩
 replace BK485 := aM (KeepBut.blk hk (bk_ BK485.out) NB485_490.out (by simp))
 replace BK486 := aM (KeepBut.blk hk (bk_ BK486.out) NB486_490.out (by simp))
 replace HO495 := aM (Kd.R_mono (Kd.R_keep (IsS113.apart (show IsS113 w _ g490 t487 t499 t500 from qz9) (rr_ HO495.out) (by decide)) hk (fun _ h => h.2)) (fun _ h => h.1))
 replace HO498 := aM (Kd.R_mono (Kd.R_keep (IsS113.apart (show IsS113 w _ g490 t487 t499 t500 from qz9) (rr_ HO498.out) (by decide)) hk (fun _ h => h.2)) (fun _ h => h.1))
 replace BK501 := aM (KeepBut.blk hk (bk_ BK501.out) NB501_490.out (by simp))
 replace HB := aM (hb)
 replace HI490 := aM (hi)
 (try clear hb)
 (try clear hb2)
 (try clear hk)
 (try clear hi)
 refine hK.out _ _ ⟨(blk_cell BK501.out 0).trans rfl, (blk_cell BK501.out 1).trans rfl, (blk_cell BK501.out 2).trans rfl, HS3_, HS4_, HS5_, HS6_, HS7_⟩ (fun hHeld => ?_)
 clear hK K
 refine nm_ 27 ?_
 refine pI_ 6 28 (bqz 10 127) ?_
 refine sI8_ 7 29 ?_
 refine one_ (i := 8) (N := none) (bqz 10 511) rfl rfl qzc (by decide) (fun K hK => ?_)
 have hs45 : w44.cell? ⟨gb485, 0, none⟩ = some (.int .i64 0) := (blk_cell BK485.out 0).trans rfl
 have hfs45 := blk_frozen BK485.out 0
 have hns45_1 := NB486_485.out
 have hns45_2 := NB501_485.out
 have hms45_1 := NB485_486.out
 have hms45_2 := NB485_501.out
 have hs46 : w44.cell? ⟨gb485, 1, none⟩ = some (.int .i64 0) := (blk_cell BK485.out 1).trans rfl
 have hfs46 := blk_frozen BK485.out 1
 have hns46_1 := NB486_485.out
 have hns46_2 := NB501_485.out
 have hms46_1 := NB485_486.out
 have hms46_2 := NB485_501.out
 have hs47 : w44.cell? ⟨gb485, 2, none⟩ = some (.slice none 0 0) := (blk_cell BK485.out 2).trans rfl
 have hfs47 := blk_frozen BK485.out 2
 have hns47_1 := NB486_485.out
 have hns47_2 := NB501_485.out
 have hms47_1 := NB485_486.out
 have hms47_2 := NB485_501.out
 refine sk_ ?_
 refine hK.out _ _ ⟨((cell_far (p := ⟨gb485, _, none⟩) NB501_485.out _).trans (((cell_far (p := ⟨gb485, _, none⟩) NB501_485.out _).trans (((cell_far (p := ⟨gb485, _, none⟩) NB501_485.out _).trans (hHeld.1)))))), ((cell_far (p := ⟨gb485, _, none⟩) NB501_485.out _).trans (((cell_far (p := ⟨gb485, _, none⟩) NB501_485.out _).trans (((cell_far (p := ⟨gb485, _, none⟩) NB501_485.out _).trans (hHeld.2.1)))))), ((cell_far (p := ⟨gb485, _, none⟩) NB501_485.out _).trans (((cell_far (p := ⟨gb485, _, none⟩) NB501_485.out _).trans (((cell_far (p := ⟨gb485, _, none⟩) NB501_485.out _).trans (hHeld.2.2.1)))))), ((cell_far (p := ⟨gb485, _, none⟩) qz7 _).trans (((cell_far (p := ⟨gb485, _, none⟩) qz7 _).trans (((cell_far (p := ⟨gb485, _, none⟩) qz7 _).trans (hHeld.2.2.2.1)))))), ((cell_far (p := ⟨gb485, _, none⟩) qz7 _).trans (((cell_far (p := ⟨gb485, _, none⟩) qz7 _).trans (((cell_far (p := ⟨gb485, _, none⟩) qz7 _).trans (hHeld.2.2.2.2.1)))))), ((cell_far (p := ⟨gb485, _, none⟩) qz7 _).trans (((cell_far (p := ⟨gb485, _, none⟩) qz7 _).trans (((cell_far (p := ⟨gb485, _, none⟩) qz7 _).trans (hHeld.2.2.2.2.2.1)))))), ((cell_far (p := ⟨gb485, _, none⟩) qz7 _).trans (((cell_far (p := ⟨gb485, _, none⟩) qz7 _).trans (((cell_far (p := ⟨gb485, _, none⟩) qz7 _).trans (hHeld.2.2.2.2.2.2.1)))))), ((cell_far (p := ⟨gb485, _, none⟩) qz7 _).trans (((cell_far (p := ⟨gb485, _, none⟩) qz7 _).trans (((cell_far (p := ⟨gb485, _, none⟩) qz7 _).trans (hHeld.2.2.2.2.2.2.2))))))⟩ (fun hHeld => ?_)
 clear hK K
 refine one_ (i := 9) (N := none) (bqz 10 1023) rfl rfl qzc (by decide) (fun K hK => ?_)
 have hs48 : w44.cell? ⟨gb486, 0, none⟩ = some (.int .i64 0) := (blk_cell BK486.out 0).trans rfl
 have hfs48 := blk_frozen BK486.out 0
 have hns48_0 := NB485_486.out
 have hns48_2 := NB501_486.out
 have hms48_0 := NB486_485.out
 have hms48_2 := NB486_501.out
 have hs49 : w44.cell? ⟨gb486, 1, none⟩ = some (.int .i64 0) := (blk_cell BK486.out 1).trans rfl
 have hfs49 := blk_frozen BK486.out 1
 have hns49_0 := NB485_486.out
 have hns49_2 := NB501_486.out
 have hms49_0 := NB486_485.out
 have hms49_2 := NB486_501.out
 have hs50 : w44.cell? ⟨gb486, 2, none⟩ = some (.int .i64 0) := (blk_cell BK486.out 2).trans rfl
 have hfs50 := blk_frozen BK486.out 2
 have hns50_0 := NB485_486.out
 have hns50_2 := NB501_486.out
 have hms50_0 := NB486_485.out
 have hms50_2 := NB486_501.out
 have hs51 : w44.cell? ⟨gb486, 3, none⟩ = some (.bool false) := (blk_cell BK486.out 3).trans rfl
 have hfs51 := blk_frozen BK486.out 3
 have hns51_0 := NB485_486.out
 have hns51_2 := NB501_486.out
 have hms51_0 := NB486_485.out
 have hms51_2 := NB486_501.out
 have hs52 : w44.cell? ⟨gb486, 4, none⟩ = some (.int .i64 0) := (blk_cell BK486.out 4).trans rfl
 have hfs52 := blk_frozen BK486.out 4
 have hns52_0 := NB485_486.out
 have hns52_2 := NB501_486.out
 have hms52_0 := NB486_485.out
 have hms52_2 := NB486_501.out
 refine sk_ ?_
 refine hK.out _ _ ⟨((cell_far (p := ⟨gb486, _, none⟩) NB501_486.out _).trans (((cell_far (p := ⟨gb486, _, none⟩) NB501_486.out _).trans (((cell_far (p := ⟨gb486, _, none⟩) NB501_486.out _).trans (((cell_far (p := ⟨gb486, _, none⟩) NB501_486.out _).trans (((cell_far (p := ⟨gb486, _, none⟩) NB501_486.out _).trans (hHeld.1)))))))))), ((cell_far (p := ⟨gb486, _, none⟩) NB501_486.out _).trans (((cell_far (p := ⟨gb486, _, none⟩) NB501_486.out _).trans (((cell_far (p := ⟨gb486, _, none⟩) NB501_486.out _).trans (((cell_far (p := ⟨gb486, _, none⟩) NB501_486.out _).trans (((cell_far (p := ⟨gb486, _, none⟩) NB501_486.out _).trans (hHeld.2.1)))))))))), ((cell_far (p := ⟨gb486, _, none⟩) NB501_486.out _).trans (((cell_far (p := ⟨gb486, _, none⟩) NB501_486.out _).trans (((cell_far (p := ⟨gb486, _, none⟩) NB501_486.out _).trans (((cell_far (p := ⟨gb486, _, none⟩) NB501_486.out _).trans (((cell_far (p := ⟨gb486, _, none⟩) NB501_486.out _).trans (hHeld.2.2.1)))))))))), ((cell_far (p := ⟨gb486, _, none⟩) qz5 _).trans (((cell_far (p := ⟨gb486, _, none⟩) qz5 _).trans (((cell_far (p := ⟨gb486, _, none⟩) qz5 _).trans (((cell_far (p := ⟨gb486, _, none⟩) qz5 _).trans (((cell_far (p := ⟨gb486, _, none⟩) qz5 _).trans (hHeld.2.2.2.1)))))))))), ((cell_far (p := ⟨gb486, _, none⟩) qz5 _).trans (((cell_far (p := ⟨gb486, _, none⟩) qz5 _).trans (((cell_far (p := ⟨gb486, _, none⟩) qz5 _).trans (((cell_far (p := ⟨gb486, _, none⟩) qz5 _).trans (((cell_far (p := ⟨gb486, _, none⟩) qz5 _).trans (hHeld.2.2.2.2.1)))))))))), ((cell_far (p := ⟨gb486, _, none⟩) qz5 _).trans (((cell_far (p := ⟨gb486, _, none⟩) qz5 _).trans (((cell_far (p := ⟨gb486, _, none⟩) qz5 _).trans (((cell_far (p := ⟨gb486, _, none⟩) qz5 _).trans (((cell_far (p := ⟨gb486, _, none⟩) qz5 _).trans (hHeld.2.2.2.2.2.1)))))))))), ((cell_far (p := ⟨gb486, _, none⟩) qz5 _).trans (((cell_far (p := ⟨gb486, _, none⟩) qz5 _).trans (((cell_far (p := ⟨gb486, _, none⟩) qz5 _).trans (((cell_far (p := ⟨gb486, _, none⟩) qz5 _).trans (((cell_far (p := ⟨gb486, _, none⟩) qz5 _).trans (hHeld.2.2.2.2.2.2.1)))))))))), ((cell_far (p := ⟨gb486, _, none⟩) qz5 _).trans (((cell_far (p := ⟨gb486, _, none⟩) qz5 _).trans (((cell_far (p := ⟨gb486, _, none⟩) qz5 _).trans (((cell_far (p := ⟨gb486, _, none⟩) qz5 _).trans (((cell_far (p := ⟨gb486, _, none⟩) qz5 _).trans (hHeld.2.2.2.2.2.2.2))))))))))⟩ (fun hHeld => ?_)
 clear hK K
 refine done_ (done_of HT_.out (by kernel_rfl)) ?_
 try go_wp2
 refine bodyPost_ret (results_cc rfl _ _ gb485 gb486 43 37 #[.int .i64 t491, .int .i64 t492, .slice Ao40 t493.length co40] #[.int .i64 ((rd_T37 t496 t505).f0), .int .i64 ((rd_T37 t496 t505).f1), .int .i64 ((rd_T37 t496 t505).f2), .bool ((rd_T37 t496 t505).f3), .int .i64 ((rd_T37 t496 t505).f4)] (0, 0) (0, 0) _ _ rfl (by (with_reducible repeat (first | refine blk_drewN ?_ _ | refine blk_drew ?_ | refine blk_alloc ?_ _)); refine blk_far ?_ NB485_486.out _; (with_reducible repeat (first | refine blk_drewN ?_ _ | refine blk_drew ?_ | refine blk_alloc ?_ _)); refine blk_far ?_ NB485_486.out _; (with_reducible repeat (first | refine blk_drewN ?_ _ | refine blk_drew ?_ | refine blk_alloc ?_ _)); refine blk_far ?_ NB485_486.out _; (with_reducible repeat (first | refine blk_drewN ?_ _ | refine blk_drew ?_ | refine blk_alloc ?_ _)); refine blk_far ?_ NB485_486.out _; (with_reducible repeat (first | refine blk_drewN ?_ _ | refine blk_drew ?_ | refine blk_alloc ?_ _)); refine blk_far ?_ NB485_486.out _; (with_reducible repeat (first | refine blk_drewN ?_ _ | refine blk_drew ?_ | refine blk_alloc ?_ _)); refine blk_put (cs := #[.int .i64 t491, .int .i64 t492, .slice none 0 0]) ?_ 2 _ rfl; (with_reducible repeat (first | refine blk_drewN ?_ _ | refine blk_drew ?_ | refine blk_alloc ?_ _)); refine blk_put (cs := #[.int .i64 t491, .int .i64 0, .slice none 0 0]) ?_ 1 _ rfl; (with_reducible repeat (first | refine blk_drewN ?_ _ | refine blk_drew ?_ | refine blk_alloc ?_ _)); refine blk_put (cs := #[.int .i64 0, .int .i64 0, .slice none 0 0]) ?_ 0 _ rfl; exact bk_ BK485.out) Try.underlying43 rfl (by kernel_rfl) rfl (by (with_reducible repeat (first | refine blk_drewN ?_ _ | refine blk_drew ?_ | refine blk_alloc ?_ _)); refine blk_put (cs := #[.int .i64 ((rd_T37 t496 t505).f0), .int .i64 ((rd_T37 t496 t505).f1), .int .i64 ((rd_T37 t496 t505).f2), .bool ((rd_T37 t496 t505).f3), .int .i64 0]) ?_ 4 _ rfl; (with_reducible repeat (first | refine blk_drewN ?_ _ | refine blk_drew ?_ | refine blk_alloc ?_ _)); refine blk_put (cs := #[.int .i64 ((rd_T37 t496 t505).f0), .int .i64 ((rd_T37 t496 t505).f1), .int .i64 ((rd_T37 t496 t505).f2), .bool false, .int .i64 0]) ?_ 3 _ rfl; (with_reducible repeat (first | refine blk_drewN ?_ _ | refine blk_drew ?_ | refine blk_alloc ?_ _)); refine blk_put (cs := #[.int .i64 ((rd_T37 t496 t505).f0), .int .i64 ((rd_T37 t496 t505).f1), .int .i64 0, .bool false, .int .i64 0]) ?_ 2 _ rfl; (with_reducible repeat (first | refine blk_drewN ?_ _ | refine blk_drew ?_ | refine blk_alloc ?_ _)); refine blk_put (cs := #[.int .i64 ((rd_T37 t496 t505).f0), .int .i64 0, .int .i64 0, .bool false, .int .i64 0]) ?_ 1 _ rfl; (with_reducible repeat (first | refine blk_drewN ?_ _ | refine blk_drew ?_ | refine blk_alloc ?_ _)); refine blk_put (cs := #[.int .i64 0, .int .i64 0, .int .i64 0, .bool false, .int .i64 0]) ?_ 0 _ rfl; (with_reducible repeat (first | refine blk_drewN ?_ _ | refine blk_drew ?_ | refine blk_alloc ?_ _)); exact bk2_ BK486.out) Try.underlying37 rfl (by kernel_rfl)) rfl ?_
 exact ⟨_, qzw, by (with_reducible repeat (first | apply Kd.R_alloc | apply Kd.R_drewN | apply Kd.R_drew)); exact Kd.R_mono (Kd.R_far (p := ⟨gb486, 4, none⟩) (Kd.R_far (p := ⟨gb486, 3, none⟩) (Kd.R_far (p := ⟨gb486, 2, none⟩) (Kd.R_far (p := ⟨gb486, 1, none⟩) (Kd.R_far (p := ⟨gb486, 0, none⟩) (Kd.R_far (p := ⟨gb485, 2, none⟩) (Kd.R_far (p := ⟨gb485, 1, none⟩) (Kd.R_far (p := ⟨gb485, 0, none⟩) (Kd.R_types (Kd.R_types HO495.out BK485.out (by decide)) BK486.out (by decide)) (fun _ hk => hk.1.2) (.int .i64 t491)) (fun _ hk => hk.1.2) (.int .i64 t492)) (fun _ hk => hk.1.2) (.slice Ao40 t493.length co40)) (fun _ hk => hk.2) (.int .i64 ((rd_T37 t496 t505).f0))) (fun _ hk => hk.2) (.int .i64 ((rd_T37 t496 t505).f1))) (fun _ hk => hk.2) (.int .i64 ((rd_T37 t496 t505).f2))) (fun _ hk => hk.2) (.bool ((rd_T37 t496 t505).f3))) (fun _ hk => hk.2) (.int .i64 ((rd_T37 t496 t505).f4))) (fun _ hk => trivial), qz1⟩
 }
 {
 exact an_ c30 H
 }
 }
 {
 exact an_ c29 H

 }
 }
end Go.Proofs.Ytankmdbbgepmbaa.PFnChosen
