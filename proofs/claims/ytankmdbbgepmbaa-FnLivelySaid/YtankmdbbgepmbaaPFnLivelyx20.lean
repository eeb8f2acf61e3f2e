-- Made by a program of this session out of the translation. Lean checks it.
import Derived.Test.YtankmdbbgepmbaaPFnLivelyx1
import Derived.Test.YtankmdbbgepmbaaPFnLivelyx5
import Derived.Test.YtankmdbbgepmbaaPFnLivelyx11
import Derived.Test.YtankmdbbgepmbaaPFnLivelyx19
namespace Go.Proofs.Ytankmdbbgepmbaa.PFnLively
open Go.RowKit Go.Proofs.YtankmdbbgepmbaaW.PrintWords Go.Proofs.YtankmdbbgepmbaaW.PrintLast Go.Proofs.YtankmdbbgepmbaaW.PrintMore
attribute [local go_sem] max2_int min2_int max_two min_two max_three min_three max_four min_four   -- for this text's walks alone
set_option linter.unusedVariables false
set_option linter.unusedSimpArgs false

/-! ### spec_DrawLively: function 50 -/
def spec_DrawLively.l0 : Nat → List (S37) → Int → Int → Int → List Int → Option (Int × Int × List Int × (List (S37)))
 | 0, _, _, _, _, _ => none
 | k + 1, x6, x7, x461000, x461001, x461002 => if x7 < (x6.length : Int) then (if 0 ≤ x7 then ((some (x6.set (x7 : Int).toNat (⟨(rd_T37 x6 x7).f0, (rd_T37 x6 x7).f1, (rd_T37 x6 x7).f2, false, (rd_T37 x6 x7).f4⟩ : S37) : List (S37))).bind fun y472 => (spec_DrawLively.l0 k (y472.set (x7 : Int).toNat (⟨(rd_T37 y472 x7).f0, (rd_T37 y472 x7).f1, (rd_T37 y472 x7).f2, (rd_T37 y472 x7).f3, 0⟩ : S37)) (wrap64 (x7 + 1)) x461000 x461001 x461002)) else (none)) else (some (x461000, x461001, x461002, x6))
def spec_DrawLively.f (k : Nat) (l0 : List Int) : Option (Int × Int × List Int × (List (S37))) := (spec_l1New.f k l0).bind fun bt449 => ((spec_l3Sound.f k bt449.1 bt449.2.1 bt449.2.2).bind fun bt453 => ((spec_l1Int.f bt449.1 bt453.2.2.2.1 bt453.2.2.2.2 (([3, 8, 20] : List Int))).bind fun bt464 => ((spec_l7Crew.f k bt449.1 bt464.2.1 bt464.2.2 bt453.1 bt453.2.1 bt453.2.2.1 bt464.1).bind fun bt467 => (spec_DrawLively.l0 k bt467.1 0 bt453.1 bt453.2.1 bt453.2.2.1))))
theorem spec_DrawLively.mono_l : ∀ k, (∀ y0 y1 y2 y3 y4, LeO (spec_DrawLively.l0 k y0 y1 y2 y3 y4) (spec_DrawLively.l0 (k + 1) y0 y1 y2 y3 y4))
 | 0 => fun _ _ _ _ _ r h => by simp [spec_DrawLively.l0] at h
 | k + 1 => by
  have ih0 := spec_DrawLively.mono_l k
  {
  intro y0 y1 y2 y3 y4
  unfold spec_DrawLively.l0
  have j0 := @spec_l1New.mono
  have j1 := @spec_l3Sound.mono
  have j2 := @spec_l7Crew.mono
  exact qL
  }
theorem spec_DrawLively.mono : ∀ a0 k, LeO (spec_DrawLively.f k a0) (spec_DrawLively.f (k + 1) a0) := by
 intro a0 k
 have ih0 := spec_DrawLively.mono_l k
 unfold spec_DrawLively.f
 have j0 := @spec_l1New.mono
 have j1 := @spec_l3Sound.mono
 have j2 := @spec_l7Crew.mono
 exact qL
set_option maxHeartbeats 8000000 in
set_option maxRecDepth 100000 in
theorem spec_DrawLively.calls (k : Nat) (A0 : Option Addr) (c0 : Nat) (l0 : List Int) (r1 : Int) (r2 : Int) (r3 : List Int) (r4 : List (S37)) (w : World) (hr0 : Kd.C (Kd.int .u8) w A0 l0.length l0) (hc0 : l0.length ≤ c0) (h : spec_DrawLively.f k l0 = some (r1, r2, r3, r4)) :
  Calls Try.prog 50 #[.slice A0 l0.length c0] w fun e w' => ∃ v2_ v3_ : Value, e = .returned (.tuple #[.agg #[.int .i64 r1, .int .i64 r2, v2_], v3_]) ∧ Kd.R (Kd.int .i64) 3 w' w.heap.size (fun _ => True) v2_ r3 ∧ Kd.R k37 37 w' w.heap.size (fun _ => True) v3_ r4 ∧ Below w.heap.size w w' := by
 have hu43 := Try.underlying43
 have HR0 := aM hr0
 have HC0 := aM hc0
 clear hr0 hc0
 have HB := aM (Below.refl w.heap.size w)
 unfold spec_DrawLively.f at h
 have H := h
 clear h
 replace H := Option.bind_eq_some_iff.mp H
 obtain ⟨⟨t449, t450, t451⟩, A20, H⟩ := H
 try dsimp only at H
 have A2 := aM A20
 clear A20
 replace H := Option.bind_eq_some_iff.mp H
 obtain ⟨⟨t453, t454, t455, t458, t459⟩, A30, H⟩ := H
 try dsimp only at H
 have A3 := aM A30
 clear A30
 obtain ⟨y461, hy461⟩ : ∃ y_ : List Int, y_ = (([3, 8, 20] : List Int)) := ⟨_, rfl⟩
 replace H : ((spec_l1Int.f t449 t458 t459 y461).bind fun bt464 => ((spec_l7Crew.f k t449 bt464.2.1 bt464.2.2 t453 t454 t455 bt464.1).bind fun bt467 => (spec_DrawLively.l0 k bt467.1 0 t453 t454 t455))) = some (r1, r2, r3, r4) := by first | (rw [hy461]; exact H) | exact H
 have Ny461 := aM hy461
 clear hy461
 replace H := Option.bind_eq_some_iff.mp H
 obtain ⟨⟨t464, t465, t466⟩, A40, H⟩ := H
 try dsimp only at H
 have A4 := aM A40
 clear A40
 replace H := Option.bind_eq_some_iff.mp H
 obtain ⟨⟨t467, t470, t471⟩, A50, H⟩ := H
 try dsimp only at H
 have A5 := aM A50
 clear A50
 have H' := aM H
 clear H
 go_enter Try.func50, Try.ntmps50
 try go_wp2_with (first | ((with_reducible refine gate_dst (N := 2) rfl ?_); refine bx_ 2 #[.int .i64 0, .int .i64 0, .slice none 0 0] 43 ?_; intro gb448 hg w6 hbox hb; have BK448 := aM (hbox); have GW448 := aM (bz_ w hg qz1); have GE448 := GW448; replace HB := bS_ hb; clear hb hbox hg) | ((with_reducible refine gate_callee (f := 57) rfl ?_); refine goesL_ (some 9) rfl rfl Try.func57 (by kernel_rfl) rfl #[.slice A0 l0.length c0] rfl qz2 ?_; (with_reducible refine (spec_l1New.calls k _ _ l0 t449 t450 t451 w _ ?_ ?_ ?_ A2.out).mono ?_); exact qz1; exact HR0.out; exact HC0.out; rintro e w7 ⟨g452, rfl, hi, hb, hb2⟩; refine ⟨_, rfl, ?_⟩; replace HB := aM (hb); have HI452 := aM (hi); have NB452_448 := aM (IsS113.ne_blk hi (blk_below (bk_ BK448.out) hb2) (by decide)); have NB448_452 := aM (Ne.symm (IsS113.ne_blk hi (blk_below (bk_ BK448.out) hb2) (by decide))); replace BK448 := aM (blk_below (bk_ BK448.out) hb2); (try clear hb hb2 hi)) | ((with_reducible refine gate_callee (f := 89) rfl ?_); refine goesL_ (some 11) rfl rfl Try.func89 (by kernel_rfl) rfl #[.pointer (some ⟨g452, 0, none⟩)] rfl qz2 ?_; (with_reducible refine (spec_l3Sound.calls k g452 t449 t450 t451 t453 t454 t455 t458 t459 w _ ?_ ?_ A3.out).mono ?_); exact qz9; exact qz1; rintro e w8 ⟨v456, rfl, ho0, hi, hb, hk⟩; refine ⟨_, rfl, ?_⟩; replace BK448 := aM (KeepBut.blk hk (bk_ BK448.out) NB448_452.out (by simp)); have HO457 := aM (Kd.R_lower ho0 (below_size qz1)); replace HB := aM (hb); replace HI452 := aM (hi); (try clear hb hk hi ho0)) | ((with_reducible refine gate_dst (N := 5) rfl ?_); refine bx_ 5 #[.int .i64 0, .int .i64 0, .slice none 0 0] 43 ?_; intro gb460 hg w9 hbox hb; replace HO457 := aM (Kd.R_below (rr_ HO457.out) hb); have BK460 := aM (hbox); have GW460 := aM (bz_ w hg qz1); have GE460 := GW460; replace HB := bS_ hb; obtain ⟨NB448_460, NB460_448⟩ := nb_ hg (bk_ BK448.out); replace BK448 := bB_ BK448 hb; have NB452_460 := aM ((by rw [hg]; exact Nat.ne_of_lt (IsS113.lt (show IsS113 w _ g452 t449 t458 t459 from qz9)) : g452 ≠ gb460)); have NB460_452 := aM ((by rw [hg]; exact Nat.ne_of_gt (IsS113.lt (show IsS113 w _ g452 t449 t458 t459 from qz9)) : gb460 ≠ g452)); replace HI452 := aM (IsS113.below qz9 hb); clear hb hbox hg; have hnb10 := NB460_448.out; have hnc10 := NB448_460.out; have hnb11 := NB460_452.out; have hnc11 := NB452_460.out; obtain ⟨hcz12_0, hcz12_1, hcz12_2, hfz12_0, hfz12_1, hfz12_2⟩ := b6_ BK460.out; obtain ⟨Ao13, co13, eo13⟩ := Kd.R_slice HO457.out; subst eo13))
 generalize hq_ : (((w9.setCell ⟨gb460, 0, none⟩ (.int .i64 t453)).setCell ⟨gb460, 1, none⟩ (.int .i64 t454)).setCell ⟨gb460, 2, none⟩ (.slice Ao13 t455.length co13)) = w14
 replace HO457 : Aside0 (Kd.R (Kd.int .i64) 3 w14 w.heap.size (fun _ => True) (.slice Ao13 t455.length co13) t455) := ⟨by rw [← hq_]; exact (by (with_reducible repeat (first | apply Kd.R_alloc | apply Kd.R_drewN | apply Kd.R_drew)); exact Kd.R_mono (Kd.R_far (p := ⟨gb460, 2, none⟩) (Kd.R_far (p := ⟨gb460, 1, none⟩) (Kd.R_far (p := ⟨gb460, 0, none⟩) (Kd.R_types HO457.out BK460.out (by decide)) (fun _ hk => hk.2) (.int .i64 t453)) (fun _ hk => hk.2) (.int .i64 t454)) (fun _ hk => hk.2) (.slice Ao13 t455.length co13)) (fun _ hk => trivial))⟩
 replace BK448 := bqo_ hq_ BK448
 replace BK460 : Aside0 (w14.heap[gb460]? = some (.cells #[.int .i64 t453, .int .i64 t454, .slice Ao13 t455.length co13] 43 (0, 0))) := ⟨by rw [← hq_]; exact (by (with_reducible repeat (first | refine blk_drewN ?_ _ | refine blk_drew ?_ | refine blk_alloc ?_ _)); refine blk_put (cs := #[.int .i64 t453, .int .i64 t454, .slice none 0 0]) ?_ 2 _ rfl; (with_reducible repeat (first | refine blk_drewN ?_ _ | refine blk_drew ?_ | refine blk_alloc ?_ _)); refine blk_put (cs := #[.int .i64 t453, .int .i64 0, .slice none 0 0]) ?_ 1 _ rfl; (with_reducible repeat (first | refine blk_drewN ?_ _ | refine blk_drew ?_ | refine blk_alloc ?_ _)); refine blk_put (cs := #[.int .i64 0, .int .i64 0, .slice none 0 0]) ?_ 0 _ rfl; exact bk_ BK460.out)⟩
 replace HB : Aside0 (Below w.heap.size w w14) := ⟨by rw [← hq_]; exact qz1⟩
 replace HI452 : Aside0 (IsS113 w w14 g452 t449 t458 t459) := ⟨by rw [← hq_]; exact qz9⟩
 clear hq_
 replace HO457 := aM (Kd.R_drew HO457.out)
 replace BK448 := aM (blk_drew BK448.out)
 replace BK460 := aM (blk_drew BK460.out)
 replace HI452 := aM (IsS113.drew HI452.out)
 replace HB := aM (below_drew1 HB.out)
 refine start_ (n := 7) (S := fun w' => w'.cell? ⟨gb460, 0, none⟩ = some (.int .i64 t453) ∧ w'.cell? ⟨gb460, 1, none⟩ = some (.int .i64 t454) ∧ w'.cell? ⟨gb460, 2, none⟩ = some (.slice Ao13 t455.length co13)) (ds := []) #[false, false, false, false, false, false, false] (by kernel_rfl) rfl rfl ⟨(blk_cell BK460.out 0).trans rfl, (blk_cell BK460.out 1).trans rfl, (blk_cell BK460.out 2).trans rfl⟩ (fun hHeld => ?_)
 generalize w14.drew = w15 at HO457 BK448 BK460 HI452 HB hHeld ⊢
 refine pure_ (i := 0) (N := some 12) (v := ?_) (a' := ?_) #[true, false, false, false, false, false, false] rfl rfl (by kernel_rfl) qzd (Or.inl ⟨by rfl, ?_⟩) ?_ ?_
 rotate_left
 {
 intro w'
 go_simp
 with_reducible rfl
 }
 rotate_left
 {
 simp only [qzs]
 rfl
 }
 refine pure_ (i := 2) (N := some 14) (v := ?_) (a' := ?_) #[true, false, true, false, false, false, false] rfl rfl (by kernel_rfl) qzd (Or.inl ⟨by rfl, ?_⟩) ?_ ?_
 rotate_left
 {
 intro w'
 go_simp
 with_reducible rfl
 }
 rotate_left
 {
 simp only [qzs]
 rfl
 }
 refine take_ (i := 1) (N := some 13) (v := ?_) (a' := ?_) #[true, true, true, false, false, false, false] rfl rfl (by kernel_rfl) qzd (Or.inl ⟨by rfl, ?_⟩) hHeld ?_ ?_
 rotate_left
 {
 rintro w' ⟨s0, s1, s2⟩
 go_simp
 with_reducible rfl
 }
 rotate_left
 {
 simp only [qzs]
 rfl
 }
 refine one_ (i := 3) (N := some 15) #[true, true, true, true, false, false, false] rfl rfl (by kernel_rfl) (by decide) (fun K hK => ?_)
 refine Kd.R_lit_step (Kd.int .i64) _ 3 ?hg (N := 15) ?hd (xs := ([3, 8, 20] : List Int)) (inner := [.int .i64 3, .int .i64 8, .int .i64 20]) (ok := fun _ => True) (okp := fun _ => True) ?hr ?hp (fun _ hk => hk) trivial (Below.refl _ _) (Nat.le_refl _) (by simp) ?_; (case hd => rfl); (case hg => rfl); (case hr => exact qz7); (case hp => exact (Reps.one (show Kd.M (Kd.int .i64) _ _ _ 3 [.int .i64 3] from rfl) (Reps.one (show Kd.M (Kd.int .i64) _ _ _ 8 [.int .i64 8] from rfl) (Reps.one (show Kd.M (Kd.int .i64) _ _ _ 20 [.int .i64 20] from rfl) (Reps.none _ _)))))
 intro v462 w16 ho17 hb hg_ hnew_
 clear hg_ hnew_
 (first | rw [← Ny461.out] at ho17 | (simp only [Int.reduceToNat] at ho17; rw [← Ny461.out] at ho17))
 have HO463 := aM (Kd.R_lower (Kd.R_new' ho17 (Kd.R_lt (rr_ HO457.out))) (below_size qz1))
 replace HO457 := aM (Kd.R_elder' (rr_ HO457.out) (Kd.R_base ho17) hb)
 replace BK448 := bB_ BK448 hb
 replace BK460 := bB_ BK460 hb
 replace HB := bS_ hb
 replace HI452 := aM (IsS113.below qz9 hb)
 clear hb ho17
 obtain ⟨Ao18, co18, eo18⟩ := Kd.R_slice HO463.out
 (first | subst eo18 | (injection eo18 with f1_ f2_ f3_; have f4_ := f1_.symm; have f5_ := f3_.symm; clear f1_ f2_ f3_; subst f4_; subst f5_))
 refine hK.out _ _ ⟨(blk_cell BK460.out 0).trans rfl, (blk_cell BK460.out 1).trans rfl, (blk_cell BK460.out 2).trans rfl⟩ (fun hHeld => ?_)
 clear hK K
 refine nm_ 15 ?_
 refine one_ (i := 4) (N := some 16) #[true, true, true, true, true, false, false] rfl rfl (by kernel_rfl) (by decide) (fun K hK => ?_)
 refine goes_ Try.func81 (by kernel_rfl) rfl #[.pointer (some ⟨g452, 0, none⟩), .slice Ao18 y461.length co18] (by rfl) rfl rfl qz2 ?_
 with_reducible refine (spec_l1Int.calls g452 t449 t458 t459 _ _ y461 t464 t465 t466 w _ ?side1 ?side2 ?side3 ?side4 ?side5 A4.out).mono ?_
 (case side1 => exact qz9)
 (case side2 => exact qz1)
 (case side3 => repeat (first | exact (Kd.R_reads' HO463.out).2.2 | (with_reducible refine Kd.C_alloc ?_ _) | (with_reducible refine Kd.C_drewN ?_ _) | (with_reducible refine Kd.C_drew ?_)))
 (case side4 => exact (Kd.R_reads' HO463.out).2.1)
 (case side5 => exact far_slice (IsS113.own_ne HI452.out HO463.out (by decide)))
 rintro e w19 ⟨rfl, hi, hb, hk⟩
 refine ⟨_, rfl, ?_⟩
 replace BK448 := aM (KeepBut.blk hk (bk_ BK448.out) NB448_452.out (by simp))
 replace HO457 := aM (Kd.R_mono (Kd.R_keep (IsS113.apart (show IsS113 w _ g452 t449 t458 t459 from qz9) (rr_ HO457.out) (by decide)) hk (fun _ h => h.2)) (fun _ h => h.1))
 replace BK460 := aM (KeepBut.blk hk (bk_ BK460.out) NB460_452.out (by simp))
 replace HO463 := aM (Kd.R_mono (Kd.R_keep (IsS113.apart (show IsS113 w _ g452 t449 t458 t459 from qz9) (rr_ HO463.out) (by decide)) hk (fun _ h => h.2)) (fun _ h => h.1))
 replace HB := aM (hb)
 replace HI452 := aM (hi)
 (try clear hb)
 (try clear hb2)
 (try clear hk)
 (try clear hi)
 refine hK.out _ _ ⟨(blk_cell BK460.out 0).trans rfl, (blk_cell BK460.out 1).trans rfl, (blk_cell BK460.out 2).trans rfl⟩ (fun hHeld => ?_)
 clear hK K
 refine nm_ 16 ?_
 refine one_ (i := 5) (N := some 17) #[true, true, true, true, true, true, false] rfl rfl (by kernel_rfl) (by decide) (fun K hK => ?_)
 refine goes_ Try.func85 (by kernel_rfl) rfl #[.pointer (some ⟨g452, 0, none⟩), .agg #[.int .i64 t453, .int .i64 t454, .slice Ao13 t455.length co13], .int .i64 t464] (by rfl) rfl rfl qz2 ?_
 with_reducible refine (spec_l7Crew.calls k g452 t449 t465 t466 t453 t454 _ _ t455 t464 t467 t470 t471 w _ ?side1 ?side2 ?side3 ?side4 ?side5 A5.out).mono ?_
 (case side1 => exact qz9)
 (case side2 => exact qz1)
 (case side3 => repeat (first | exact (Kd.R_reads' HO457.out).2.2 | (with_reducible refine Kd.C_alloc ?_ _) | (with_reducible refine Kd.C_drewN ?_ _) | (with_reducible refine Kd.C_drew ?_)))
 (case side4 => exact (Kd.R_reads' HO457.out).2.1)
 (case side5 => exact far_slice (IsS113.own_ne HI452.out HO457.out (by decide)))
 rintro e w20 ⟨v468, rfl, ho0, hi, hb, hk⟩
 refine ⟨_, rfl, ?_⟩
 replace BK448 := aM (KeepBut.blk hk (bk_ BK448.out) NB448_452.out (by simp))
 replace HO457 := aM (Kd.R_mono (Kd.R_keep (IsS113.apart (show IsS113 w _ g452 t449 t465 t466 from qz9) (rr_ HO457.out) (by decide)) hk (fun _ h => h.2)) (fun _ h => h.1))
 replace BK460 := aM (KeepBut.blk hk (bk_ BK460.out) NB460_452.out (by simp))
 replace HO463 := aM (Kd.R_mono (Kd.R_keep (IsS113.apart (show IsS113 w _ g452 t449 t465 t466 from qz9) (rr_ HO463.out) (by decide)) hk (fun _ h => h.2)) (fun _ h => h.1))
 have HO469 := aM (Kd.R_lower ho0 (below_size qz1))
 replace HB := aM (hb)
 replace HI452 := aM (hi)
 (try clear hb)
 (try clear hb2)
 (try clear hk)
 (try clear hi)
 (try clear ho0)
 refine hK.out _ _ ⟨(blk_cell BK460.out 0).trans rfl, (blk_cell BK460.out 1).trans rfl, (blk_cell BK460.out 2).trans rfl⟩ (fun hHeld => ?_)
 clear hK K
 refine nm_ 17 ?_
 refine pure_ (i := 6) (N := some 6) (v := ?_) (a' := ?_) #[true, true, true, true, true, true, true] rfl rfl (by kernel_rfl) qzd (Or.inl ⟨by rfl, ?_⟩) ?_ ?_
 rotate_left
 {
 intro w'
 go_simp
 with_reducible rfl
 }
 rotate_left
 {
 simp only [qzs]
 rfl
 }
 refine done_ (by kernel_rfl) ?_
 try go_wp2
 go_loopg [7] k (fun kq v7 w' => ∃ (x6_1 : List (S37)) (x7_1 : Int), v7 = .int .i64 x7_1 ∧ Aside0 (spec_DrawLively.l0 kq x6_1 x7_1 t453 t454 t455 = some (r1, r2, r3, r4)) ∧ Aside0 (kq ≤ k) ∧ Aside0 (Kd.R k37 37 w' w.heap.size (fun _ => True) v468 x6_1) ∧ Aside0 (Kd.R (Kd.int .i64) 3 w' w.heap.size (fun _ => True) (.slice Ao13 t455.length co13) t455) ∧ Aside0 (w'.heap[gb448]? = some (.cells #[.int .i64 0, .int .i64 0, (.slice none 0 0)] 43 (0, 0))) ∧ Aside0 (w'.heap[gb460]? = some (.cells #[.int .i64 t453, .int .i64 t454, (.slice Ao13 t455.length co13)] 43 (0, 0))) ∧ Aside0 (Below w.heap.size w w'))
 case atStart => exact ⟨(t467), (0), qz6, H', ⟨Nat.le_refl _⟩, ⟨rr_ HO469.out⟩, ⟨by (with_reducible repeat (first | apply Kd.R_alloc | apply Kd.R_drewN | apply Kd.R_drew)); exact Kd.R_mono HO457.out (fun _ hk => trivial)⟩, ⟨bk_ BK448.out⟩, ⟨bk_ BK460.out⟩, ⟨qz1⟩⟩
 case round =>
 clear H'
 try clear hcz12_0 hcz12_1 hcz12_2 hfz12_0 hfz12_1 hfz12_2
 obtain ⟨x6_1, x7_1, rfl, HA, HK1, HO_6, HO_461002, BK448, BK460, HB⟩ := hrel
 cases gk with
 | zero => exact absurd HA.out (by simp [spec_DrawLively.l0])
 | succ k1 =>
 have H := HA.out
 clear HA
 simp only [spec_DrawLively.l0] at H
 replace H := iE_ H
 rcases H with ⟨c21b0, H⟩ | ⟨c21b0, H⟩
 {
 replace H := iD_ H
 obtain ⟨c22b0, H⟩ := H
 obtain ⟨y472, hy472⟩ : ∃ y_ : List (S37), y_ = (x6_1.set (x7_1 : Int).toNat (⟨(rd_T37 x6_1 x7_1).f0, (rd_T37 x6_1 x7_1).f1, (rd_T37 x6_1 x7_1).f2, false, (rd_T37 x6_1 x7_1).f4⟩ : S37)) := ⟨_, rfl⟩
 replace H := yB_ hy472 H
 have Ny472 := aM hy472
 clear hy472
 obtain ⟨y473, hy473⟩ : ∃ y_ : List (S37), y_ = (y472.set (x7_1 : Int).toNat (⟨(rd_T37 y472 x7_1).f0, (rd_T37 y472 x7_1).f1, (rd_T37 y472 x7_1).f2, (rd_T37 y472 x7_1).f3, 0⟩ : S37)) := ⟨_, rfl⟩
 replace H : (spec_DrawLively.l0 k1 y473 (wrap64 (x7_1 + 1)) t453 t454 t455) = some (r1, r2, r3, r4) := by first | (rw [hy473]; exact H) | exact H
 have Ny473 := aM hy473
 clear hy473
 have H' := aM H
 clear H
 obtain ⟨Ao25, co25, eo25⟩ := Kd.R_slice HO_6.out
 subst eo25
 have p23 : 0 ≤ (x7_1 : Int) := dt_
 have q23 : (x7_1 : Int) < ((x6_1.length : Int) : Int) := dt_
 obtain ⟨go23, co23, eo23, gb23, gl23, cl23, HG23⟩ := Kd.R_form HO_6.out (by omega)
 (first | cases eo23 | (injection eo23 with ea_ en_ ec_; (first | subst ea_ | (injection ea_ with ea_; subst ea_)); subst ec_; clear en_))
 have GB23 := aM gb23
 have GG23 := aM HG23
 clear gb23 gl23 HG23
 obtain ⟨ce23, hcl23, hM23, hcc23, hfr23⟩ := Kd.R_elem HO_6.out z37 (x7_1 : Int) p23 q23
 obtain rfl := k37_openM hM23
 have hx23_0 : wr.cell? ⟨go23, (x7_1 : Int).toNat * 5, none⟩ = some (.int .i64 ((rd_T37 x6_1 x7_1).f0)) := hcc23 0 _ rfl
 have hx23_1 : wr.cell? ⟨go23, (x7_1 : Int).toNat * 5 + 1, none⟩ = some (.int .i64 ((rd_T37 x6_1 x7_1).f1)) := hcc23 1 _ rfl
 have hx23_2 : wr.cell? ⟨go23, (x7_1 : Int).toNat * 5 + 2, none⟩ = some (.int .i64 ((rd_T37 x6_1 x7_1).f2)) := hcc23 2 _ rfl
 have hx23_3 : wr.cell? ⟨go23, (x7_1 : Int).toNat * 5 + 3, none⟩ = some (.bool ((rd_T37 x6_1 x7_1).f3)) := hcc23 3 _ rfl
 have hx23_4 : wr.cell? ⟨go23, (x7_1 : Int).toNat * 5 + 4, none⟩ = some (.int .i64 ((rd_T37 x6_1 x7_1).f4)) := hcc23 4 _ rfl
 have hf23_0 : wr.frozen? ⟨go23, (x7_1 : Int).toNat * 5, none⟩ = false := hfr23 0
 have hf23_1 : wr.frozen? ⟨go23, (x7_1 : Int).toNat * 5 + 1, none⟩ = false := hfr23 1
 have hf23_2 : wr.frozen? ⟨go23, (x7_1 : Int).toNat * 5 + 2, none⟩ = false := hfr23 2
 have hf23_3 : wr.frozen? ⟨go23, (x7_1 : Int).toNat * 5 + 3, none⟩ = false := hfr23 3
 have hf23_4 : wr.frozen? ⟨go23, (x7_1 : Int).toNat * 5 + 4, none⟩ = false := hfr23 4
 clear hcl23 hcc23 hfr23; (try clear hM23)
 replace p23 := eq_true p23
 replace q23 := eq_true q23
 have HX26 := aM (show Kd.R k37 37 wr w.heap.size (fun _ => True) (.slice (some ⟨go23, 0, none⟩) x6_1.length co25) x6_1 from (rr_ HO_6.out))
 obtain ⟨ce26, hcl26, hM26, hcc26, hfr26⟩ := Kd.R_elem HX26.out z37 (x7_1 : Int) (dt_) (by have h_ : (x7_1 : Int) < ((x6_1.length : Int) : Int) := dt_; first | exact h_ | (have e_ := (Kd.R_reads' HO_6.out).1; omega) | simpa using h_)
 obtain rfl := k37_openM hM26
 have HP26 := Kd.R_seg HX26.out (x7_1 : Int) (dt_) (by have h_ : (x7_1 : Int) < ((x6_1.length : Int) : Int) := dt_; first | exact h_ | (have e_ := (Kd.R_reads' HO_6.out).1; omega) | simpa using h_) (seg := [.bool false]) (j := 3) hcl26 hcc26 (show 4 ≤ 5 from by decide) (x' := (⟨(rd_T37 x6_1 x7_1).f0, (rd_T37 x6_1 x7_1).f1, (rd_T37 x6_1 x7_1).f2, false, (rd_T37 x6_1 x7_1).f4⟩ : S37)) (k37_mkM _ _ _ (⟨(rd_T37 x6_1 x7_1).f0, (rd_T37 x6_1 x7_1).f1, (rd_T37 x6_1 x7_1).f2, false, (rd_T37 x6_1 x7_1).f4⟩ : S37) ) (fun _ hk => hk)
 have hx26_3 := hcc26 3 _ rfl
 (try simp only [show (k37).sz = 5 from rfl, Nat.mul_one, Nat.add_zero] at hx26_3)
 have hf26_3 := hfr26 3
 (try simp only [show (k37).sz = 5 from rfl, Nat.mul_one, Nat.add_zero] at hf26_3)
 clear hcl26 hcc26 hfr26; (try clear hM26)
 go_wp2_with (first | ((with_reducible refine gate_store (t := 4) (p := 27) rfl ?_); refine store_event (t := 4) (p := 27) (v := ?vo_w27) (w1 := (wr.setCell ⟨go23, (x7_1 : Int).toNat * 5 + 3, none⟩ (.bool false))) ?hg ?ho ?hn ?hr ?_; (case ho => rfl); (case hg => rfl); (case hn => rfl); (case hr => exact qz7); intro w27 hw; have hg : wr.grownBy w27 (some go23) := (by rw [hw]; exact HP26.2); have hp_ : Kd.R k37 37 w27 w.heap.size (fun _ => True) (.slice (some ⟨go23, 0, none⟩) x6_1.length co25) y472 := (by rw [hw, Ny472.out]; exact HP26.1); clear HP26; replace HO_461002 := aM (Kd.R_over' (v := (.slice (some ⟨go23, 0, none⟩) x6_1.length co25)) (rr_ HO_461002.out) (Kd.R_typed HO_6.out) (by decide) hg); replace BK448 := aM (blk_grown (bk_ BK448.out) hg (Kd.R_ne HO_6.out BK448.out (by decide))); replace BK460 := aM (blk_grown (bk_ BK460.out) hg (Kd.R_ne HO_6.out BK460.out (by decide))); replace HO_6 := aM (hp_); replace HB := aM ((by rw [hw]; exact below_set (HB.out) GB23.out : Below w.heap.size w w27)); clear hg hw hp_; have p24 : 0 ≤ (x7_1 : Int) := dt_; have q24 : (x7_1 : Int) < ((x6_1.length : Int) : Int) := dt_; obtain ⟨ce24, hcl24, hM24, hcc24, hfr24⟩ := Kd.R_elem HO_6.out z37 (x7_1 : Int) p24 q24; obtain rfl := k37_openM hM24; have hx24_0 : w27.cell? ⟨go23, (x7_1 : Int).toNat * 5, none⟩ = some (.int .i64 ((rd_T37 y472 x7_1).f0)) := hcc24 0 _ rfl; have hx24_1 : w27.cell? ⟨go23, (x7_1 : Int).toNat * 5 + 1, none⟩ = some (.int .i64 ((rd_T37 y472 x7_1).f1)) := hcc24 1 _ rfl; have hx24_2 : w27.cell? ⟨go23, (x7_1 : Int).toNat * 5 + 2, none⟩ = some (.int .i64 ((rd_T37 y472 x7_1).f2)) := hcc24 2 _ rfl; have hx24_3 : w27.cell? ⟨go23, (x7_1 : Int).toNat * 5 + 3, none⟩ = some (.bool ((rd_T37 y472 x7_1).f3)) := hcc24 3 _ rfl; have hx24_4 : w27.cell? ⟨go23, (x7_1 : Int).toNat * 5 + 4, none⟩ = some (.int .i64 ((rd_T37 y472 x7_1).f4)) := hcc24 4 _ rfl; have hf24_0 : w27.frozen? ⟨go23, (x7_1 : Int).toNat * 5, none⟩ = false := hfr24 0; have hf24_1 : w27.frozen? ⟨go23, (x7_1 : Int).toNat * 5 + 1, none⟩ = false := hfr24 1; have hf24_2 : w27.frozen? ⟨go23, (x7_1 : Int).toNat * 5 + 2, none⟩ = false := hfr24 2; have hf24_3 : w27.frozen? ⟨go23, (x7_1 : Int).toNat * 5 + 3, none⟩ = false := hfr24 3; have hf24_4 : w27.frozen? ⟨go23, (x7_1 : Int).toNat * 5 + 4, none⟩ = false := hfr24 4; clear hcl24 hcc24 hfr24; (try clear hM24); replace p24 := eq_true p24; replace q24 := eq_true q24; have HX28 := aM (show Kd.R k37 37 w27 w.heap.size (fun _ => True) (.slice (some ⟨go23, 0, none⟩) x6_1.length co25) y472 from (rr_ HO_6.out)); obtain ⟨ce28, hcl28, hM28, hcc28, hfr28⟩ := Kd.R_elem HX28.out z37 (x7_1 : Int) (dt_) (by have h_ : (x7_1 : Int) < ((x6_1.length : Int) : Int) := dt_; first | exact h_ | (have e_ := (Kd.R_reads' HO_6.out).1; omega) | simpa using h_); obtain rfl := k37_openM hM28; have HP28 := Kd.R_seg HX28.out (x7_1 : Int) (dt_) (by have h_ : (x7_1 : Int) < ((x6_1.length : Int) : Int) := dt_; first | exact h_ | (have e_ := (Kd.R_reads' HO_6.out).1; omega) | simpa using h_) (seg := [.int .i64 0]) (j := 4) hcl28 hcc28 (show 5 ≤ 5 from by decide) (x' := (⟨(rd_T37 y472 x7_1).f0, (rd_T37 y472 x7_1).f1, (rd_T37 y472 x7_1).f2, (rd_T37 y472 x7_1).f3, 0⟩ : S37)) (k37_mkM _ _ _ (⟨(rd_T37 y472 x7_1).f0, (rd_T37 y472 x7_1).f1, (rd_T37 y472 x7_1).f2, (rd_T37 y472 x7_1).f3, 0⟩ : S37) ) (fun _ hk => hk); have hx28_4 := hcc28 4 _ rfl; (try simp only [show (k37).sz = 5 from rfl, Nat.mul_one, Nat.add_zero] at hx28_4); have hf28_4 := hfr28 4; (try simp only [show (k37).sz = 5 from rfl, Nat.mul_one, Nat.add_zero] at hf28_4); clear hcl28 hcc28 hfr28; (try clear hM28)) | ((with_reducible refine gate_store (t := 3) (p := 31) rfl ?_); refine store_event (t := 3) (p := 31) (v := ?vo_w29) (w1 := (w27.setCell ⟨go23, (x7_1 : Int).toNat * 5 + 4, none⟩ (.int .i64 0))) ?hg ?ho ?hn ?hr ?_; (case ho => rfl); (case hg => rfl); (case hn => rfl); (case hr => exact qz7); intro w29 hw; have hg : w27.grownBy w29 (some go23) := (by rw [hw]; exact HP28.2); have hp_ : Kd.R k37 37 w29 w.heap.size (fun _ => True) (.slice (some ⟨go23, 0, none⟩) x6_1.length co25) y473 := (by rw [hw, Ny473.out]; exact HP28.1); clear HP28; replace HO_461002 := aM (Kd.R_over' (v := (.slice (some ⟨go23, 0, none⟩) x6_1.length co25)) (rr_ HO_461002.out) (Kd.R_typed HO_6.out) (by decide) hg); replace BK448 := aM (blk_grown (bk_ BK448.out) hg (Kd.R_ne HO_6.out BK448.out (by decide))); replace BK460 := aM (blk_grown (bk_ BK460.out) hg (Kd.R_ne HO_6.out BK460.out (by decide))); replace HO_6 := aM (hp_); replace HB := aM ((by rw [hw]; exact below_set (HB.out) GB23.out : Below w.heap.size w w29)); clear hg hw hp_))
 go_roundg k1
 case measure => have := HK1.out; omega
 case rel => exact ⟨(y473), (wrap64 (x7_1 + 1)), qz6, H', ⟨by have := HK1.out; omega⟩, ⟨rm_ HO_6.out⟩, ⟨rm_ HO_461002.out⟩, ⟨bk_ BK448.out⟩, ⟨bk_ BK460.out⟩, ⟨qz1⟩⟩
 }
 {
 simp only [Option.some.injEq, Prod.mk.injEq] at H
 obtain ⟨rfl, rfl, rfl, rfl⟩ := H
 obtain ⟨Ao30, co30, eo30⟩ := Kd.R_slice HO_6.out
 subst eo30
 have hnb31 := NB460_448.out
 have hnc31 := NB448_460.out
 obtain ⟨hcz32_0, hcz32_1, hcz32_2, hfz32_0, hfz32_1, hfz32_2⟩ := b6_ BK460.out
 obtain ⟨hcz33_0, hcz33_1, hcz33_2, hfz33_0, hfz33_1, hfz33_2⟩ := b6_ BK448.out
 go_wp2
 refine bodyPost_ret (results_ct rfl _ _ gb448 43 #[.int .i64 t453, .int .i64 t454, .slice Ao13 t455.length co13] (0, 0) _ rfl (by (with_reducible repeat (first | refine blk_drewN ?_ _ | refine blk_drew ?_ | refine blk_alloc ?_ _)); refine blk_put (cs := #[.int .i64 t453, .int .i64 t454, .slice none 0 0]) ?_ 2 _ rfl; (with_reducible repeat (first | refine blk_drewN ?_ _ | refine blk_drew ?_ | refine blk_alloc ?_ _)); refine blk_put (cs := #[.int .i64 t453, .int .i64 0, .slice none 0 0]) ?_ 1 _ rfl; (with_reducible repeat (first | refine blk_drewN ?_ _ | refine blk_drew ?_ | refine blk_alloc ?_ _)); refine blk_put (cs := #[.int .i64 0, .int .i64 0, .slice none 0 0]) ?_ 0 _ rfl; exact bk_ BK448.out) Try.underlying43 rfl (by kernel_rfl)) rfl ?_
 exact ⟨_, _, qzw, by (with_reducible repeat (first | apply Kd.R_alloc | apply Kd.R_drewN | apply Kd.R_drew)); exact Kd.R_mono (Kd.R_far (p := ⟨gb448, 2, none⟩) (Kd.R_far (p := ⟨gb448, 1, none⟩) (Kd.R_far (p := ⟨gb448, 0, none⟩) (Kd.R_types HO_461002.out BK448.out (by decide)) (fun _ hk => hk.2) (.int .i64 t453)) (fun _ hk => hk.2) (.int .i64 t454)) (fun _ hk => hk.2) (.slice Ao13 t455.length co13)) (fun _ hk => trivial), by (with_reducible repeat (first | apply Kd.R_alloc | apply Kd.R_drewN | apply Kd.R_drew)); exact Kd.R_mono (Kd.R_far (p := ⟨gb448, 2, none⟩) (Kd.R_far (p := ⟨gb448, 1, none⟩) (Kd.R_far (p := ⟨gb448, 0, none⟩) (Kd.R_types HO_6.out BK448.out (by decide)) (fun _ hk => hk.2) (.int .i64 t453)) (fun _ hk => hk.2) (.int .i64 t454)) (fun _ hk => hk.2) (.slice Ao13 t455.length co13)) (fun _ hk => trivial), qz1⟩
 }
/-! ### impl_open: function 91 -/
def impl_open.l0 : Nat → Int → Int → List Int → Int → Int → Option (Int × Int)
 | 0, _, _, _, _, _ => none
 | k + 1, x4, x5, x9, x10, x11 => if x11 < x10 then (if 0 ≤ x11 then (if x11 < (x9.length : Int) then (if (rd x9 x11) = 0 then (impl_open.l0 k x4 x5 x9 x10 (wrap64 (x11 + 1))) else (if x4 = 0 then (impl_open.l0 k (wrap64 (x4 + 1)) x11 x9 x10 (wrap64 (x11 + 1))) else (impl_open.l0 k (wrap64 (x4 + 1)) x5 x9 x10 (wrap64 (x11 + 1))))) else (none)) else (none)) else (some (x4, x5))
def impl_open.f (k : Nat) (a0_0 : Int) (a0_1 : Int) (l0_2 : List Int) : Option (Int × Int) := impl_open.l0 k 0 (-1) l0_2 (l0_2.length : Int) 0
theorem impl_open.mono_l : ∀ k, (∀ y0 y1 y2 y3 y4, LeO (impl_open.l0 k y0 y1 y2 y3 y4) (impl_open.l0 (k + 1) y0 y1 y2 y3 y4))
 | 0 => fun _ _ _ _ _ r h => by simp [impl_open.l0] at h
 | k + 1 => by
  have ih0 := impl_open.mono_l k
  {
  intro y0 y1 y2 y3 y4
  unfold impl_open.l0
  exact qL
  }
theorem impl_open.mono : ∀ a0 a1 a2 k, LeO (impl_open.f k a0 a1 a2) (impl_open.f (k + 1) a0 a1 a2) := by
 intro a0 a1 a2 k
 have ih0 := impl_open.mono_l k
 unfold impl_open.f
 exact qL
set_option maxHeartbeats 8000000 in
set_option maxRecDepth 100000 in
theorem impl_open.calls (k : Nat) (a0_0 : Int) (a0_1 : Int) (A0_2 : Option Addr) (c0_2 : Nat) (l0_2 : List Int) (r1 : Int) (r2 : Int) (w : World) (hr0_2 : Kd.C (Kd.int .i64) w A0_2 l0_2.length l0_2) (hc0_2 : l0_2.length ≤ c0_2) (h : impl_open.f k a0_0 a0_1 l0_2 = some (r1, r2)) :
  Calls Try.prog 91 #[.agg #[.int .i64 a0_0, .int .i64 a0_1, .slice A0_2 l0_2.length c0_2]] w fun e w' => e = .returned (.tuple #[.int .i64 r1, .int .i64 r2]) ∧ Below w.heap.size w w' := by
 have hu43 := Try.underlying43
 have HR0_2 := aM hr0_2
 have HC0_2 := aM hc0_2
 clear hr0_2 hc0_2
 have HB := aM (Below.refl w.heap.size w)
 unfold impl_open.f at h
 have H := h
 clear h
 have H' := aM H
 clear H
 go_enter Try.func91, Try.ntmps91
 go_wp2_with (first | ((with_reducible refine gate_dst (N := 1) rfl ?_); refine bx_ 1 #[.int .i64 a0_0, .int .i64 a0_1, .slice A0_2 l0_2.length c0_2] 43 ?_; intro gb474 hg w2 hbox hb; have BK474 := aM (hbox); have GW474 := aM (bz_ w hg qz1); have GE474 := GW474; replace HB := bS_ hb; clear hb hbox hg; obtain ⟨hcz3_0, hcz3_1, hcz3_2, hfz3_0, hfz3_1, hfz3_2⟩ := b6_ BK474.out))
 go_loopg [4, 5, 11] k (fun kq v4 v5 v11 w' => ∃ (x4_1 : Int) (x5_1 : Int) (x11_1 : Int), v4 = .int .i64 x4_1 ∧ v5 = .int .i64 x5_1 ∧ v11 = .int .i64 x11_1 ∧ Aside0 (impl_open.l0 kq x4_1 x5_1 l0_2 (l0_2.length : Int) x11_1 = some (r1, r2)) ∧ Aside0 (kq ≤ k) ∧ Aside0 (w'.heap[gb474]? = some (.cells #[.int .i64 a0_0, .int .i64 a0_1, (.slice A0_2 l0_2.length c0_2)] 43 (0, 0))) ∧ Aside0 (Below w.heap.size w w'))
 case atStart => exact ⟨(0), ((-1)), (0), qz6, qz6, qz6, H', ⟨Nat.le_refl _⟩, ⟨bk_ BK474.out⟩, ⟨qz1⟩⟩
 case round =>
 clear H'
 try clear hcz3_0 hcz3_1 hcz3_2 hfz3_0 hfz3_1 hfz3_2
 obtain ⟨x4_1, x5_1, x11_1, rfl, rfl, rfl, HA, HK1, BK474, HB⟩ := hrel
 cases gk with
 | zero => exact absurd HA.out (by simp [impl_open.l0])
 | succ k1 =>
 have H := HA.out
 clear HA
 simp only [impl_open.l0] at H
 replace H := iE_ H
 rcases H with ⟨c4b0, H⟩ | ⟨c4b0, H⟩
 {
 replace H := iD_ H
 obtain ⟨c5b0, H⟩ := H
 replace H := iD_ H
 obtain ⟨c6b0, H⟩ := H
 replace H := iQ_ H
 rcases H with ⟨c7b0, c7b1, H⟩ | ⟨c7, c7b0, c7b1, H⟩
 {
 have H' := aM H
 clear H
 have p475 : (0 ≤ (x11_1 : Int)) = True := et_
 have q475 : (x11_1 < (l0_2.length : Int)) = True := et_
 obtain ⟨ad475, e475, hx475_0⟩ := Kd.at_int HR0_2.out x11_1 dt_ dt_
 cases e475
 replace hx475_0 := cB_ hx475_0
 go_wp2
 go_roundg k1
 case measure => have := HK1.out; omega
 case rel => exact ⟨(x4_1), (x5_1), (wrap64 (x11_1 + 1)), qz6, qz6, qz6, H', ⟨by have := HK1.out; omega⟩, ⟨bk_ BK474.out⟩, ⟨qz1⟩⟩
 }
 {
 replace H := iQ_ H
 rcases H with ⟨c8b0, c8b1, H⟩ | ⟨c8, c8b0, c8b1, H⟩
 {
 have H' := aM H
 clear H
 have p475 : (0 ≤ (x11_1 : Int)) = True := et_
 have q475 : (x11_1 < (l0_2.length : Int)) = True := et_
 obtain ⟨ad475, e475, hx475_0⟩ := Kd.at_int HR0_2.out x11_1 dt_ dt_
 cases e475
 replace hx475_0 := cB_ hx475_0
 go_wp2
 go_roundg k1
 case measure => have := HK1.out; omega
 case rel => exact ⟨(wrap64 (x4_1 + 1)), (x11_1), (wrap64 (x11_1 + 1)), qz6, qz6, qz6, H', ⟨by have := HK1.out; omega⟩, ⟨bk_ BK474.out⟩, ⟨qz1⟩⟩
 }
 {
 have H' := aM H
 clear H
 have p475 : (0 ≤ (x11_1 : Int)) = True := et_
 have q475 : (x11_1 < (l0_2.length : Int)) = True := et_
 obtain ⟨ad475, e475, hx475_0⟩ := Kd.at_int HR0_2.out x11_1 dt_ dt_
 cases e475
 replace hx475_0 := cB_ hx475_0
 go_wp2
 go_roundg k1
 case measure => have := HK1.out; omega
 case rel => exact ⟨(wrap64 (x4_1 + 1)), (x5_1), (wrap64 (x11_1 + 1)), qz6, qz6, qz6, H', ⟨by have := HK1.out; omega⟩, ⟨bk_ BK474.out⟩, ⟨qz1⟩⟩
 }
 }
 }
 {
 simp only [Option.some.injEq, Prod.mk.injEq] at H
 obtain ⟨rfl, rfl⟩ := H
 go_wp2
 go_ret2
 exact ⟨qzw, qz1⟩
 }
/-! ### impl_reach: function 110 -/
def impl_reach.l0 : Nat → Int → List Int → Int → Int → Option (Int)
 | 0, _, _, _, _ => none
 | k + 1, x5, x10, x11, x12 => if x12 < x11 then (if 0 ≤ x12 then (if x12 < (x10.length : Int) then (if (rd x10 x12) ≥ 0 then (impl_reach.l0 k (wrap64 (x5 + 1)) x10 x11 (wrap64 (x12 + 1))) else (impl_reach.l0 k x5 x10 x11 (wrap64 (x12 + 1)))) else (none)) else (none)) else (some x5)
def impl_reach.f (k : Nat) (a0_0 : Int) (a0_1 : Int) (l0_2 : List Int) (a1 : Int) : Option (Int) := (impl_field.f k a0_0 a0_1 l0_2 a1 false).bind fun t477 => (impl_reach.l0 k 0 t477 (t477.length : Int) 0)
theorem impl_reach.mono_l : ∀ k, (∀ y0 y1 y2 y3, LeO (impl_reach.l0 k y0 y1 y2 y3) (impl_reach.l0 (k + 1) y0 y1 y2 y3))
 | 0 => fun _ _ _ _ r h => by simp [impl_reach.l0] at h
 | k + 1 => by
  have ih0 := impl_reach.mono_l k
  {
  intro y0 y1 y2 y3
  unfold impl_reach.l0
  have j0 := @impl_field.mono
  exact qL
  }
theorem impl_reach.mono : ∀ a0 a1 a2 a3 k, LeO (impl_reach.f k a0 a1 a2 a3) (impl_reach.f (k + 1) a0 a1 a2 a3) := by
 intro a0 a1 a2 a3 k
 have ih0 := impl_reach.mono_l k
 unfold impl_reach.f
 have j0 := @impl_field.mono
 exact qL
set_option maxHeartbeats 8000000 in
set_option maxRecDepth 100000 in
theorem impl_reach.calls (k : Nat) (a0_0 : Int) (a0_1 : Int) (A0_2 : Option Addr) (c0_2 : Nat) (l0_2 : List Int) (a1 : Int) (r : Int) (w : World) (hr0_2 : Kd.C (Kd.int .i64) w A0_2 l0_2.length l0_2) (hc0_2 : l0_2.length ≤ c0_2) (h : impl_reach.f k a0_0 a0_1 l0_2 a1 = some r) :
  Calls Try.prog 110 #[.agg #[.int .i64 a0_0, .int .i64 a0_1, .slice A0_2 l0_2.length c0_2], .int .i64 a1] w fun e w' => e = .returned (.int .i64 r) ∧ Below w.heap.size w w' := by
 have hu43 := Try.underlying43
 have HR0_2 := aM hr0_2
 have HC0_2 := aM hc0_2
 clear hr0_2 hc0_2
 have HB := aM (Below.refl w.heap.size w)
 unfold impl_reach.f at h
 have H := h
 clear h
 replace H := Option.bind_eq_some_iff.mp H
 obtain ⟨t477, A30, H⟩ := H
 have A3 := aM A30
 clear A30
 have H' := aM H
 clear H
 go_enter Try.func110, Try.ntmps110
 go_wp2_with (first | ((with_reducible refine gate_dst (N := 2) rfl ?_); refine bx_ 2 #[.int .i64 a0_0, .int .i64 a0_1, .slice A0_2 l0_2.length c0_2] 43 ?_; intro gb476 hg w4 hbox hb; have BK476 := aM (hbox); have GW476 := aM (bz_ w hg qz1); have GE476 := GW476; replace HB := bS_ hb; clear hb hbox hg; obtain ⟨hcz5_0, hcz5_1, hcz5_2, hfz5_0, hfz5_1, hfz5_2⟩ := b6_ BK476.out) | ((with_reducible refine gate_callee (f := 69) rfl ?_); refine goesL_ (some 10) rfl rfl Try.func69 (by kernel_rfl) rfl #[.agg #[.int .i64 a0_0, .int .i64 a0_1, .slice A0_2 l0_2.length c0_2], .int .i64 a1, .bool false] rfl qz2 ?_; (with_reducible refine (impl_field.calls k a0_0 a0_1 _ _ l0_2 a1 false t477 _ ?_ ?_ A3.out).mono ?_); exact qz5; exact qz14; rintro e w6 ⟨v478, rfl, ho0, hb⟩; refine ⟨_, rfl, ?_⟩; have HO479 := aM (Kd.R_lower ho0 (below_size qz1)); replace BK476 := bB_ BK476 hb; replace HB := bS_ hb; (try clear hb ho0); obtain ⟨Ao7, co7, eo7⟩ := Kd.R_slice HO479.out; subst eo7))
 go_loopg [5, 12] k (fun kq v5 v12 w' => ∃ (x5_1 : Int) (x12_1 : Int), v5 = .int .i64 x5_1 ∧ v12 = .int .i64 x12_1 ∧ Aside0 (impl_reach.l0 kq x5_1 t477 (t477.length : Int) x12_1 = some r) ∧ Aside0 (kq ≤ k) ∧ Aside0 (Kd.R (Kd.int .i64) 3 w' w.heap.size (fun _ => True) (.slice Ao7 t477.length co7) t477) ∧ Aside0 (w'.heap[gb476]? = some (.cells #[.int .i64 a0_0, .int .i64 a0_1, (.slice A0_2 l0_2.length c0_2)] 43 (0, 0))) ∧ Aside0 (Below w.heap.size w w'))
 case atStart => exact ⟨(0), (0), qz6, qz6, H', ⟨Nat.le_refl _⟩, ⟨rr_ HO479.out⟩, ⟨bk_ BK476.out⟩, ⟨qz1⟩⟩
 case round =>
 clear H'
 try clear hcz5_0 hcz5_1 hcz5_2 hfz5_0 hfz5_1 hfz5_2
 obtain ⟨x5_1, x12_1, rfl, rfl, HA, HK1, HO_10, BK476, HB⟩ := hrel
 cases gk with
 | zero => exact absurd HA.out (by simp [impl_reach.l0])
 | succ k1 =>
 have H := HA.out
 clear HA
 simp only [impl_reach.l0] at H
 replace H := iE_ H
 rcases H with ⟨c8b0, H⟩ | ⟨c8b0, H⟩
 {
 replace H := iD_ H
 obtain ⟨c9b0, H⟩ := H
 replace H := iD_ H
 obtain ⟨c10b0, H⟩ := H
 replace H := iE_ H
 rcases H with ⟨c11b0, H⟩ | ⟨c11b0, H⟩
 {
 have H' := aM H
 clear H
 have p480 : (0 ≤ (x12_1 : Int)) = True := et_
 have q480 : (x12_1 < (t477.length : Int)) = True := et_
 obtain ⟨ad480, e480, hx480_0⟩ := Kd.at_int (Kd.R_reads' HO_10.out).2.2 x12_1 dt_ dt_
 cases e480
 go_wp2
 go_roundg k1
 case measure => have := HK1.out; omega
 case rel => exact ⟨(wrap64 (x5_1 + 1)), (wrap64 (x12_1 + 1)), qz6, qz6, H', ⟨by have := HK1.out; omega⟩, ⟨rm_ HO_10.out⟩, ⟨bk_ BK476.out⟩, ⟨qz1⟩⟩
 }
 {
 have H' := aM H
 clear H
 have p480 : (0 ≤ (x12_1 : Int)) = True := et_
 have q480 : (x12_1 < (t477.length : Int)) = True := et_
 obtain ⟨ad480, e480, hx480_0⟩ := Kd.at_int (Kd.R_reads' HO_10.out).2.2 x12_1 dt_ dt_
 cases e480
 go_wp2
 go_roundg k1
 case measure => have := HK1.out; omega
 case rel => exact ⟨(x5_1), (wrap64 (x12_1 + 1)), qz6, qz6, H', ⟨by have := HK1.out; omega⟩, ⟨rm_ HO_10.out⟩, ⟨bk_ BK476.out⟩, ⟨qz1⟩⟩
 }
 }
 {
 obtain rfl := Option.some.inj H
 go_wp2
 go_ret
 exact ⟨qzw, qz1⟩
 }
/-! ### impl_Together: function 90 -/
def impl_Together.f (k : Nat) (a0_0 : Int) (a0_1 : Int) (l0_2 : List Int) : Option (Bool) := (impl_FloorOk.f k a0_0 a0_1 l0_2).bind fun t482 => (if t482 = true then ((impl_open.f k a0_0 a0_1 l0_2).bind fun bt483 => (if bt483.1 > 0 then ((impl_reach.f k a0_0 a0_1 l0_2 bt483.2).bind fun t485 => (some (t485 == bt483.1))) else (some false))) else (some false))
theorem impl_Together.mono : ∀ a0 a1 a2 k, LeO (impl_Together.f k a0 a1 a2) (impl_Together.f (k + 1) a0 a1 a2) := by
 intro a0 a1 a2 k
 unfold impl_Together.f
 have j0 := @impl_FloorOk.mono
 have j1 := @impl_open.mono
 have j2 := @impl_reach.mono
 exact qL
set_option maxHeartbeats 8000000 in
set_option maxRecDepth 100000 in
theorem impl_Together.calls (k : Nat) (a0_0 : Int) (a0_1 : Int) (A0_2 : Option Addr) (c0_2 : Nat) (l0_2 : List Int) (r : Bool) (w : World) (hr0_2 : Kd.C (Kd.int .i64) w A0_2 l0_2.length l0_2) (hc0_2 : l0_2.length ≤ c0_2) (h : impl_Together.f k a0_0 a0_1 l0_2 = some r) :
  Calls Try.prog 90 #[.agg #[.int .i64 a0_0, .int .i64 a0_1, .slice A0_2 l0_2.length c0_2]] w fun e w' => e = .returned (.bool r) ∧ Below w.heap.size w w' := by
 have hu43 := Try.underlying43
 have HR0_2 := aM hr0_2
 have HC0_2 := aM hc0_2
 clear hr0_2 hc0_2
 have HB := aM (Below.refl w.heap.size w)
 unfold impl_Together.f at h
 have H := h
 clear h
 replace H := Option.bind_eq_some_iff.mp H
 obtain ⟨t482, A20, H⟩ := H
 have A2 := aM A20
 clear A20
 replace H := iB_ H
 rcases H with ⟨rfl, H⟩ | ⟨rfl, H⟩
 {
 replace H := Option.bind_eq_some_iff.mp H
 obtain ⟨⟨t483, t484⟩, A40, H⟩ := H
 try dsimp only at H
 have A4 := aM A40
 clear A40
 replace H := iE_ H
 rcases H with ⟨c5b0, H⟩ | ⟨c5b0, H⟩
 {
 replace H := Option.bind_eq_some_iff.mp H
 obtain ⟨t485, A60, H⟩ := H
 have A6 := aM A60
 clear A60
 obtain rfl := Option.some.inj H
 go_enter Try.func90, Try.ntmps90
 go_wp2_with (first | ((with_reducible refine gate_dst (N := 1) rfl ?_); refine bx_ 1 #[.int .i64 a0_0, .int .i64 a0_1, .slice A0_2 l0_2.length c0_2] 43 ?_; intro gb481 hg w7 hbox hb; have BK481 := aM (hbox); have GW481 := aM (bz_ w hg qz1); have GE481 := GW481; replace HB := bS_ hb; clear hb hbox hg; obtain ⟨hcz8_0, hcz8_1, hcz8_2, hfz8_0, hfz8_1, hfz8_2⟩ := b6_ BK481.out) | ((with_reducible refine gate_callee (f := 64) rfl ?_); refine goesL_ (some 6) rfl rfl Try.func64 (by kernel_rfl) rfl #[.agg #[.int .i64 a0_0, .int .i64 a0_1, .slice A0_2 l0_2.length c0_2]] rfl qz2 ?_; (with_reducible refine (impl_FloorOk.calls k a0_0 a0_1 _ _ l0_2 true _ ?_ ?_ A2.out).mono ?_); exact qz5; exact qz14; rintro e w9 ⟨rfl, hb⟩; refine ⟨_, rfl, ?_⟩; replace BK481 := bB_ BK481 hb; replace HB := bS_ hb; (try clear hb); obtain ⟨hcz10_0, hcz10_1, hcz10_2, hfz10_0, hfz10_1, hfz10_2⟩ := b6_ BK481.out) | ((with_reducible refine gate_callee (f := 91) rfl ?_); refine goesL_ (some 10) rfl rfl Try.func91 (by kernel_rfl) rfl #[.agg #[.int .i64 a0_0, .int .i64 a0_1, .slice A0_2 l0_2.length c0_2]] rfl qz2 ?_; (with_reducible refine (impl_open.calls k a0_0 a0_1 _ _ l0_2 t483 t484 _ ?_ ?_ A4.out).mono ?_); exact qz5; exact qz14; rintro e w11 ⟨rfl, hb⟩; refine ⟨_, rfl, ?_⟩; replace BK481 := bB_ BK481 hb; replace HB := bS_ hb; (try clear hb); obtain ⟨hcz12_0, hcz12_1, hcz12_2, hfz12_0, hfz12_1, hfz12_2⟩ := b6_ BK481.out) | (go_at_call 110; (with_reducible refine (impl_reach.calls k a0_0 a0_1 _ _ l0_2 t484 t485 _ ?_ ?_ A6.out).mono ?_); exact qz5; exact qz14; rintro e w13 ⟨rfl, hb⟩; replace BK481 := bB_ BK481 hb; replace HB := bS_ hb; (try clear hb)))
 go_ret
 exact ⟨qzw, qz1⟩
 }
 {
 obtain rfl := Option.some.inj H
 go_enter Try.func90, Try.ntmps90
 go_wp2_with (first | ((with_reducible refine gate_dst (N := 1) rfl ?_); refine bx_ 1 #[.int .i64 a0_0, .int .i64 a0_1, .slice A0_2 l0_2.length c0_2] 43 ?_; intro gb481 hg w14 hbox hb; have BK481 := aM (hbox); have GW481 := aM (bz_ w hg qz1); have GE481 := GW481; replace HB := bS_ hb; clear hb hbox hg; obtain ⟨hcz15_0, hcz15_1, hcz15_2, hfz15_0, hfz15_1, hfz15_2⟩ := b6_ BK481.out) | ((with_reducible refine gate_callee (f := 64) rfl ?_); refine goesL_ (some 6) rfl rfl Try.func64 (by kernel_rfl) rfl #[.agg #[.int .i64 a0_0, .int .i64 a0_1, .slice A0_2 l0_2.length c0_2]] rfl qz2 ?_; (with_reducible refine (impl_FloorOk.calls k a0_0 a0_1 _ _ l0_2 true _ ?_ ?_ A2.out).mono ?_); exact qz5; exact qz14; rintro e w16 ⟨rfl, hb⟩; refine ⟨_, rfl, ?_⟩; replace BK481 := bB_ BK481 hb; replace HB := bS_ hb; (try clear hb); obtain ⟨hcz17_0, hcz17_1, hcz17_2, hfz17_0, hfz17_1, hfz17_2⟩ := b6_ BK481.out) | ((with_reducible refine gate_callee (f := 91) rfl ?_); refine goesL_ (some 10) rfl rfl Try.func91 (by kernel_rfl) rfl #[.agg #[.int .i64 a0_0, .int .i64 a0_1, .slice A0_2 l0_2.length c0_2]] rfl qz2 ?_; (with_reducible refine (impl_open.calls k a0_0 a0_1 _ _ l0_2 t483 t484 _ ?_ ?_ A4.out).mono ?_); exact qz5; exact qz14; rintro e w18 ⟨rfl, hb⟩; refine ⟨_, rfl, ?_⟩; replace BK481 := bB_ BK481 hb; replace HB := bS_ hb; (try clear hb)))
 go_ret
 exact ⟨qzw, qz1⟩
 }
 }
 {
 obtain rfl := Option.some.inj H
 go_enter Try.func90, Try.ntmps90
 go_wp2_with (first | ((with_reducible refine gate_dst (N := 1) rfl ?_); refine bx_ 1 #[.int .i64 a0_0, .int .i64 a0_1, .slice A0_2 l0_2.length c0_2] 43 ?_; intro gb481 hg w19 hbox hb; have BK481 := aM (hbox); have GW481 := aM (bz_ w hg qz1); have GE481 := GW481; replace HB := bS_ hb; clear hb hbox hg; obtain ⟨hcz20_0, hcz20_1, hcz20_2, hfz20_0, hfz20_1, hfz20_2⟩ := b6_ BK481.out) | ((with_reducible refine gate_callee (f := 64) rfl ?_); refine goesL_ (some 6) rfl rfl Try.func64 (by kernel_rfl) rfl #[.agg #[.int .i64 a0_0, .int .i64 a0_1, .slice A0_2 l0_2.length c0_2]] rfl qz2 ?_; (with_reducible refine (impl_FloorOk.calls k a0_0 a0_1 _ _ l0_2 false _ ?_ ?_ A2.out).mono ?_); exact qz5; exact qz14; rintro e w21 ⟨rfl, hb⟩; refine ⟨_, rfl, ?_⟩; replace BK481 := bB_ BK481 hb; replace HB := bS_ hb; (try clear hb)))
 go_ret
 exact ⟨qzw, qz1⟩
 }
/-! ### impl_copyInts: function 133 -/
def impl_copyInts.f (l0 : List Int) : Option (List Int) := if ([] : List Int).length + l0.length < 17592186044416 then (some (([] : List Int) ++ l0)) else (none)
set_option maxHeartbeats 8000000 in
set_option maxRecDepth 100000 in
theorem impl_copyInts.calls (A0 : Option Addr) (c0 : Nat) (l0 : List Int) (r : List Int) (w : World) (hr0 : Kd.C (Kd.int .i64) w A0 l0.length l0) (hc0 : l0.length ≤ c0) (h : impl_copyInts.f l0 = some r) :
  Calls Try.prog 133 #[.slice A0 l0.length c0] w fun e w' => ∃ v0_ : Value, e = .returned (v0_) ∧ Kd.R (Kd.int .i64) 3 w' w.heap.size (fun _ => True) v0_ r ∧ Below w.heap.size w w' := by
 have HR0 := aM hr0
 have HC0 := aM hc0
 clear hr0 hc0
 have HB := aM (Below.refl w.heap.size w)
 unfold impl_copyInts.f at h
 have H := h
 clear h
 replace H := iN_ H
 obtain ⟨c2, H⟩ := H
 have LMc2 := aM c2
 clear c2
 obtain ⟨y486, hy486⟩ : ∃ y_ : List Int, y_ = (([] : List Int) ++ l0) := ⟨_, rfl⟩
 replace H : (some y486) = some r := by first | (rw [hy486]; exact H) | exact H
 have Ny486 := aM hy486
 clear hy486
 obtain rfl := Option.some.inj H
 go_enter Try.func133, Try.ntmps133
 go_wp2_with (first | ((with_reducible refine gate_builtin (b := .append) (xs := #[.const (.slice none 0 0), .tmp 3]) rfl ?_); at_builtin; refine Kd.R_append_rows (Kd.int .i64) (w0 := w) w.heap.size rfl (.const (.slice none 0 0)) (.tmp 3) 24 3 (.int .i64 0) 8 rfl Try.underlying24 info3 rfl (by decide) (by omega) (.slice none 0 0) ([] : List Int) l0 _ _ _ (fun _ => True) (fun _ => False) rfl rfl ?aO ?aR (fun _ _ h => h) (fun _ h => h.elim) ?aF ?aB ?aS ?aL ?_; (case aR => exact qz11); (case aB => exact qz1); (case aF => exact qz12); (case aO => exact ((Kd.R_nil _ _ _ _ (fun _ => True)))); (case aS => exact qz19); (case aL => have := LMc2.out; omega); intro v487 w3 ho hb hg hat; rw [← Ny486.out] at ho; replace HB := aM (hb); have HO488 := aM (ho); clear ho hb hg hat))
 go_ret
 exact ⟨_, qzw, by (with_reducible repeat (first | apply Kd.R_alloc | apply Kd.R_drewN | apply Kd.R_drew)); exact HO488.out, qz1⟩
end Go.Proofs.Ytankmdbbgepmbaa.PFnLively
