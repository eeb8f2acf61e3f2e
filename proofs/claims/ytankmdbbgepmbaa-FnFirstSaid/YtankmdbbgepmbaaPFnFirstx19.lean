-- Made by a program of this session out of the translation. Lean checks it.
import Derived.Test.YtankmdbbgepmbaaPFnFirstx3
import Derived.Test.YtankmdbbgepmbaaPFnFirstx10
import Derived.Test.YtankmdbbgepmbaaPFnFirstx18
namespace Go.Proofs.Ytankmdbbgepmbaa.PFnFirst
open Go.RowKit Go.Proofs.YtankmdbbgepmbaaW.PrintWords Go.Proofs.YtankmdbbgepmbaaW.PrintLast Go.Proofs.YtankmdbbgepmbaaW.PrintMore
attribute [local go_sem] max2_int min2_int max_two min_two max_three min_three max_four min_four   -- for this text's walks alone
set_option linter.unusedVariables false
set_option linter.unusedSimpArgs false

/-! ### spec_DrawLively: function 50 -/
def spec_DrawLively.l0 : Nat → List (S37) → Int → Int → Int → List Int → Option (Int × Int × List Int × (List (S37)))
 | 0, _, _, _, _, _ => none
 | k + 1, x6, x7, x462000, x462001, x462002 => if x7 < (x6.length : Int) then (if 0 ≤ x7 then ((some (x6.set (x7 : Int).toNat (⟨(rd_T37 x6 x7).f0, (rd_T37 x6 x7).f1, (rd_T37 x6 x7).f2, false, (rd_T37 x6 x7).f4⟩ : S37) : List (S37))).bind fun y473 => (spec_DrawLively.l0 k (y473.set (x7 : Int).toNat (⟨(rd_T37 y473 x7).f0, (rd_T37 y473 x7).f1, (rd_T37 y473 x7).f2, (rd_T37 y473 x7).f3, 0⟩ : S37)) (wrap64 (x7 + 1)) x462000 x462001 x462002)) else (none)) else (some (x462000, x462001, x462002, x6))
def spec_DrawLively.f (k : Nat) (l0 : List Int) : Option (Int × Int × List Int × (List (S37))) := (spec_l1New.f k l0).bind fun bt450 => ((spec_l3Sound.f k bt450.1 bt450.2.1 bt450.2.2).bind fun bt454 => ((spec_l1Int.f bt450.1 bt454.2.2.2.1 bt454.2.2.2.2 (([3, 8, 20] : List Int))).bind fun bt465 => ((spec_l7Crew.f k bt450.1 bt465.2.1 bt465.2.2 bt454.1 bt454.2.1 bt454.2.2.1 bt465.1).bind fun bt468 => (spec_DrawLively.l0 k bt468.1 0 bt454.1 bt454.2.1 bt454.2.2.1))))
theorem spec_DrawLively.mono_l : ∀ k, (∀ y0 y1 y2 y3 y4, LeO (spec_DrawLively.l0 k y0 y1 y2 y3 y4) (spec_DrawLively.l0 (k + 1) y0 y1 y2 y3 y4))
 | 0 => fun _ _ _ _ _ r h => by simp [spec_DrawLively.l0] at h
 | k + 1 => by
  have ih0 := spec_DrawLively.mono_l k
  {
  intro y0 y1 y2 y3 y4
  unfold spec_DrawLively.l0
  have j0 := @spec_l1New.mono
  have j1 := @spec_l3Sound.mono
  have j2 := @spec_l7Crew.mono
  exact qL
  }
theorem spec_DrawLively.mono : ∀ a0 k, LeO (spec_DrawLively.f k a0) (spec_DrawLively.f (k + 1) a0) := by
 intro a0 k
 have ih0 := spec_DrawLively.mono_l k
 unfold spec_DrawLively.f
 have j0 := @spec_l1New.mono
 have j1 := @spec_l3Sound.mono
 have j2 := @spec_l7Crew.mono
 exact qL
set_option maxHeartbeats 8000000 in
set_option maxRecDepth 100000 in
theorem spec_DrawLively.calls (k : Nat) (A0 : Option Addr) (c0 : Nat) (l0 : List Int) (r1 : Int) (r2 : Int) (r3 : List Int) (r4 : List (S37)) (w : World) (hr0 : Kd.C (Kd.int .u8) w A0 l0.length l0) (hc0 : l0.length ≤ c0) (h : spec_DrawLively.f k l0 = some (r1, r2, r3, r4)) :
  Calls Try.prog 50 #[.slice A0 l0.length c0] w fun e w' => ∃ v2_ v3_ : Value, e = .returned (.tuple #[.agg #[.int .i64 r1, .int .i64 r2, v2_], v3_]) ∧ Kd.R (Kd.int .i64) 3 w' w.heap.size (fun _ => True) v2_ r3 ∧ Kd.R k37 37 w' w.heap.size (fun _ => True) v3_ r4 ∧ Below w.heap.size w w' := by
 have hu43 := Try.underlying43
 have HR0 := aM hr0
 have HC0 := aM hc0
 clear hr0 hc0
 have HB := aM (Below.refl w.heap.size w)
 unfold spec_DrawLively.f at h
 have H := h
 clear h
 replace H := Option.bind_eq_some_iff.mp H
 obtain ⟨⟨t450, t451, t452⟩, A20, H⟩ := H
 try dsimp only at H
 have A2 := aM A20
 clear A20
 replace H := Option.bind_eq_some_iff.mp H
 obtain ⟨⟨t454, t455, t456, t459, t460⟩, A30, H⟩ := H
 try dsimp only at H
 have A3 := aM A30
 clear A30
 obtain ⟨y462, hy462⟩ : ∃ y_ : List Int, y_ = (([3, 8, 20] : List Int)) := ⟨_, rfl⟩
 replace H : ((spec_l1Int.f t450 t459 t460 y462).bind fun bt465 => ((spec_l7Crew.f k t450 bt465.2.1 bt465.2.2 t454 t455 t456 bt465.1).bind fun bt468 => (spec_DrawLively.l0 k bt468.1 0 t454 t455 t456))) = some (r1, r2, r3, r4) := by first | (rw [hy462]; exact H) | exact H
 have Ny462 := aM hy462
 clear hy462
 replace H := Option.bind_eq_some_iff.mp H
 obtain ⟨⟨t465, t466, t467⟩, A40, H⟩ := H
 try dsimp only at H
 have A4 := aM A40
 clear A40
 replace H := Option.bind_eq_some_iff.mp H
 obtain ⟨⟨t468, t471, t472⟩, A50, H⟩ := H
 try dsimp only at H
 have A5 := aM A50
 clear A50
 have H' := aM H
 clear H
 go_enter Try.func50, Try.ntmps50
 try go_wp2_with (first | ((with_reducible refine gate_dst (N := 2) rfl ?_); refine bx_ 2 #[.int .i64 0, .int .i64 0, .slice none 0 0] 43 ?_; intro gb449 hg w6 hbox hb; have BK449 := aM (hbox); have GW449 := aM (bz_ w hg qz1); have GE449 := GW449; replace HB := bS_ hb; clear hb hbox hg) | ((with_reducible refine gate_callee (f := 57) rfl ?_); refine goesL_ (some 9) rfl rfl Try.func57 (by kernel_rfl) rfl #[.slice A0 l0.length c0] rfl qz2 ?_; (with_reducible refine (spec_l1New.calls k _ _ l0 t450 t451 t452 w _ ?_ ?_ ?_ A2.out).mono ?_); exact qz1; exact HR0.out; exact HC0.out; rintro e w7 ⟨g453, rfl, hi, hb, hb2⟩; refine ⟨_, rfl, ?_⟩; replace HB := aM (hb); have HI453 := aM (hi); have NB453_449 := aM (IsS113.ne_blk hi (blk_below (bk_ BK449.out) hb2) (by decide)); have NB449_453 := aM (Ne.symm (IsS113.ne_blk hi (blk_below (bk_ BK449.out) hb2) (by decide))); replace BK449 := aM (blk_below (bk_ BK449.out) hb2); (try clear hb hb2 hi)) | ((with_reducible refine gate_callee (f := 89) rfl ?_); refine goesL_ (some 11) rfl rfl Try.func89 (by kernel_rfl) rfl #[.pointer (some ⟨g453, 0, none⟩)] rfl qz2 ?_; (with_reducible refine (spec_l3Sound.calls k g453 t450 t451 t452 t454 t455 t456 t459 t460 w _ ?_ ?_ A3.out).mono ?_); exact qz9; exact qz1; rintro e w8 ⟨v457, rfl, ho0, hi, hb, hk⟩; refine ⟨_, rfl, ?_⟩; replace BK449 := aM (KeepBut.blk hk (bk_ BK449.out) NB449_453.out (by simp)); have HO458 := aM (Kd.R_lower ho0 (below_size qz1)); replace HB := aM (hb); replace HI453 := aM (hi); (try clear hb hk hi ho0)) | ((with_reducible refine gate_dst (N := 5) rfl ?_); refine bx_ 5 #[.int .i64 0, .int .i64 0, .slice none 0 0] 43 ?_; intro gb461 hg w9 hbox hb; replace HO458 := aM (Kd.R_below (rr_ HO458.out) hb); have BK461 := aM (hbox); have GW461 := aM (bz_ w hg qz1); have GE461 := GW461; replace HB := bS_ hb; obtain ⟨NB449_461, NB461_449⟩ := nb_ hg (bk_ BK449.out); replace BK449 := bB_ BK449 hb; have NB453_461 := aM ((by rw [hg]; exact Nat.ne_of_lt (IsS113.lt (show IsS113 w _ g453 t450 t459 t460 from qz9)) : g453 ≠ gb461)); have NB461_453 := aM ((by rw [hg]; exact Nat.ne_of_gt (IsS113.lt (show IsS113 w _ g453 t450 t459 t460 from qz9)) : gb461 ≠ g453)); replace HI453 := aM (IsS113.below qz9 hb); clear hb hbox hg; have hnb10 := NB461_449.out; have hnc10 := NB449_461.out; have hnb11 := NB461_453.out; have hnc11 := NB453_461.out; obtain ⟨hcz12_0, hcz12_1, hcz12_2, hfz12_0, hfz12_1, hfz12_2⟩ := b6_ BK461.out; obtain ⟨Ao13, co13, eo13⟩ := Kd.R_slice HO458.out; subst eo13))
 generalize hq_ : (((w9.setCell ⟨gb461, 0, none⟩ (.int .i64 t454)).setCell ⟨gb461, 1, none⟩ (.int .i64 t455)).setCell ⟨gb461, 2, none⟩ (.slice Ao13 t456.length co13)) = w14
 replace HO458 : Aside0 (Kd.R (Kd.int .i64) 3 w14 w.heap.size (fun _ => True) (.slice Ao13 t456.length co13) t456) := ⟨by rw [← hq_]; exact (by (with_reducible repeat (first | apply Kd.R_alloc | apply Kd.R_drewN | apply Kd.R_drew)); exact Kd.R_mono (Kd.R_far (p := ⟨gb461, 2, none⟩) (Kd.R_far (p := ⟨gb461, 1, none⟩) (Kd.R_far (p := ⟨gb461, 0, none⟩) (Kd.R_types HO458.out BK461.out (by decide)) (fun _ hk => hk.2) (.int .i64 t454)) (fun _ hk => hk.2) (.int .i64 t455)) (fun _ hk => hk.2) (.slice Ao13 t456.length co13)) (fun _ hk => trivial))⟩
 replace BK449 := bqo_ hq_ BK449
 replace BK461 : Aside0 (w14.heap[gb461]? = some (.cells #[.int .i64 t454, .int .i64 t455, .slice Ao13 t456.length co13] 43 (0, 0))) := ⟨by rw [← hq_]; exact (by (with_reducible repeat (first | refine blk_drewN ?_ _ | refine blk_drew ?_ | refine blk_alloc ?_ _)); refine blk_put (cs := #[.int .i64 t454, .int .i64 t455, .slice none 0 0]) ?_ 2 _ rfl; (with_reducible repeat (first | refine blk_drewN ?_ _ | refine blk_drew ?_ | refine blk_alloc ?_ _)); refine blk_put (cs := #[.int .i64 t454, .int .i64 0, .slice none 0 0]) ?_ 1 _ rfl; (with_reducible repeat (first | refine blk_drewN ?_ _ | refine blk_drew ?_ | refine blk_alloc ?_ _)); refine blk_put (cs := #[.int .i64 0, .int .i64 0, .slice none 0 0]) ?_ 0 _ rfl; exact bk_ BK461.out)⟩
 replace HB : Aside0 (Below w.heap.size w w14) := ⟨by rw [← hq_]; exact qz1⟩
 replace HI453 : Aside0 (IsS113 w w14 g453 t450 t459 t460) := ⟨by rw [← hq_]; exact qz9⟩
 clear hq_
 replace HO458 := aM (Kd.R_drew HO458.out)
 replace BK449 := aM (blk_drew BK449.out)
 replace BK461 := aM (blk_drew BK461.out)
 replace HI453 := aM (IsS113.drew HI453.out)
 replace HB := aM (below_drew1 HB.out)
 refine start_ (n := 7) (S := fun w' => w'.cell? ⟨gb461, 0, none⟩ = some (.int .i64 t454) ∧ w'.cell? ⟨gb461, 1, none⟩ = some (.int .i64 t455) ∧ w'.cell? ⟨gb461, 2, none⟩ = some (.slice Ao13 t456.length co13)) (ds := []) #[false, false, false, false, false, false, false] (by kernel_rfl) rfl rfl ⟨(blk_cell BK461.out 0).trans rfl, (blk_cell BK461.out 1).trans rfl, (blk_cell BK461.out 2).trans rfl⟩ (fun hHeld => ?_)
 generalize w14.drew = w15 at HO458 BK449 BK461 HI453 HB hHeld ⊢
 refine pure_ (i := 0) (N := some 12) (v := ?_) (a' := ?_) #[true, false, false, false, false, false, false] rfl rfl (by kernel_rfl) qzd (Or.inl ⟨by rfl, ?_⟩) ?_ ?_
 rotate_left
 {
 intro w'
 go_simp
 with_reducible rfl
 }
 rotate_left
 {
 simp only [qzs]
 rfl
 }
 refine pure_ (i := 2) (N := some 14) (v := ?_) (a' := ?_) #[true, false, true, false, false, false, false] rfl rfl (by kernel_rfl) qzd (Or.inl ⟨by rfl, ?_⟩) ?_ ?_
 rotate_left
 {
 intro w'
 go_simp
 with_reducible rfl
 }
 rotate_left
 {
 simp only [qzs]
 rfl
 }
 refine take_ (i := 1) (N := some 13) (v := ?_) (a' := ?_) #[true, true, true, false, false, false, false] rfl rfl (by kernel_rfl) qzd (Or.inl ⟨by rfl, ?_⟩) hHeld ?_ ?_
 rotate_left
 {
 rintro w' ⟨s0, s1, s2⟩
 go_simp
 with_reducible rfl
 }
 rotate_left
 {
 simp only [qzs]
 rfl
 }
 refine one_ (i := 3) (N := some 15) #[true, true, true, true, false, false, false] rfl rfl (by kernel_rfl) (by decide) (fun K hK => ?_)
 refine Kd.R_lit_step (Kd.int .i64) _ 3 ?hg (N := 15) ?hd (xs := ([3, 8, 20] : List Int)) (inner := [.int .i64 3, .int .i64 8, .int .i64 20]) (ok := fun _ => True) (okp := fun _ => True) ?hr ?hp (fun _ hk => hk) trivial (Below.refl _ _) (Nat.le_refl _) (by simp) ?_; (case hd => rfl); (case hg => rfl); (case hr => exact qz7); (case hp => exact (Reps.one (show Kd.M (Kd.int .i64) _ _ _ 3 [.int .i64 3] from rfl) (Reps.one (show Kd.M (Kd.int .i64) _ _ _ 8 [.int .i64 8] from rfl) (Reps.one (show Kd.M (Kd.int .i64) _ _ _ 20 [.int .i64 20] from rfl) (Reps.none _ _)))))
 intro v463 w16 ho17 hb hg_ hnew_
 clear hg_ hnew_
 (first | rw [← Ny462.out] at ho17 | (simp only [Int.reduceToNat] at ho17; rw [← Ny462.out] at ho17))
 have HO464 := aM (Kd.R_lower (Kd.R_new' ho17 (Kd.R_lt (rr_ HO458.out))) (below_size qz1))
 replace HO458 := aM (Kd.R_elder' (rr_ HO458.out) (Kd.R_base ho17) hb)
 replace BK449 := bB_ BK449 hb
 replace BK461 := bB_ BK461 hb
 replace HB := bS_ hb
 replace HI453 := aM (IsS113.below qz9 hb)
 clear hb ho17
 obtain ⟨Ao18, co18, eo18⟩ := Kd.R_slice HO464.out
 (first | subst eo18 | (injection eo18 with f1_ f2_ f3_; have f4_ := f1_.symm; have f5_ := f3_.symm; clear f1_ f2_ f3_; subst f4_; subst f5_))
 refine hK.out _ _ ⟨(blk_cell BK461.out 0).trans rfl, (blk_cell BK461.out 1).trans rfl, (blk_cell BK461.out 2).trans rfl⟩ (fun hHeld => ?_)
 clear hK K
 refine nm_ 15 ?_
 refine one_ (i := 4) (N := some 16) #[true, true, true, true, true, false, false] rfl rfl (by kernel_rfl) (by decide) (fun K hK => ?_)
 refine goes_ Try.func81 (by kernel_rfl) rfl #[.pointer (some ⟨g453, 0, none⟩), .slice Ao18 y462.length co18] (by rfl) rfl rfl qz2 ?_
 with_reducible refine (spec_l1Int.calls g453 t450 t459 t460 _ _ y462 t465 t466 t467 w _ ?side1 ?side2 ?side3 ?side4 ?side5 A4.out).mono ?_
 (case side1 => exact qz9)
 (case side2 => exact qz1)
 (case side3 => repeat (first | exact (Kd.R_reads' HO464.out).2.2 | (with_reducible refine Kd.C_alloc ?_ _) | (with_reducible refine Kd.C_drewN ?_ _) | (with_reducible refine Kd.C_drew ?_)))
 (case side4 => exact (Kd.R_reads' HO464.out).2.1)
 (case side5 => exact far_slice (IsS113.own_ne HI453.out HO464.out (by decide)))
 rintro e w19 ⟨rfl, hi, hb, hk⟩
 refine ⟨_, rfl, ?_⟩
 replace BK449 := aM (KeepBut.blk hk (bk_ BK449.out) NB449_453.out (by simp))
 replace HO458 := aM (Kd.R_mono (Kd.R_keep (IsS113.apart (show IsS113 w _ g453 t450 t459 t460 from qz9) (rr_ HO458.out) (by decide)) hk (fun _ h => h.2)) (fun _ h => h.1))
 replace BK461 := aM (KeepBut.blk hk (bk_ BK461.out) NB461_453.out (by simp))
 replace HO464 := aM (Kd.R_mono (Kd.R_keep (IsS113.apart (show IsS113 w _ g453 t450 t459 t460 from qz9) (rr_ HO464.out) (by decide)) hk (fun _ h => h.2)) (fun _ h => h.1))
 replace HB := aM (hb)
 replace HI453 := aM (hi)
 (try clear hb)
 (try clear hb2)
 (try clear hk)
 (try clear hi)
 refine hK.out _ _ ⟨(blk_cell BK461.out 0).trans rfl, (blk_cell BK461.out 1).trans rfl, (blk_cell BK461.out 2).trans rfl⟩ (fun hHeld => ?_)
 clear hK K
 refine nm_ 16 ?_
 refine one_ (i := 5) (N := some 17) #[true, true, true, true, true, true, false] rfl rfl (by kernel_rfl) (by decide) (fun K hK => ?_)
 refine goes_ Try.func85 (by kernel_rfl) rfl #[.pointer (some ⟨g453, 0, none⟩), .agg #[.int .i64 t454, .int .i64 t455, .slice Ao13 t456.length co13], .int .i64 t465] (by rfl) rfl rfl qz2 ?_
 with_reducible refine (spec_l7Crew.calls k g453 t450 t466 t467 t454 t455 _ _ t456 t465 t468 t471 t472 w _ ?side1 ?side2 ?side3 ?side4 ?side5 A5.out).mono ?_
 (case side1 => exact qz9)
 (case side2 => exact qz1)
 (case side3 => repeat (first | exact (Kd.R_reads' HO458.out).2.2 | (with_reducible refine Kd.C_alloc ?_ _) | (with_reducible refine Kd.C_drewN ?_ _) | (with_reducible refine Kd.C_drew ?_)))
 (case side4 => exact (Kd.R_reads' HO458.out).2.1)
 (case side5 => exact far_slice (IsS113.own_ne HI453.out HO458.out (by decide)))
 rintro e w20 ⟨v469, rfl, ho0, hi, hb, hk⟩
 refine ⟨_, rfl, ?_⟩
 replace BK449 := aM (KeepBut.blk hk (bk_ BK449.out) NB449_453.out (by simp))
 replace HO458 := aM (Kd.R_mono (Kd.R_keep (IsS113.apart (show IsS113 w _ g453 t450 t466 t467 from qz9) (rr_ HO458.out) (by decide)) hk (fun _ h => h.2)) (fun _ h => h.1))
 replace BK461 := aM (KeepBut.blk hk (bk_ BK461.out) NB461_453.out (by simp))
 replace HO464 := aM (Kd.R_mono (Kd.R_keep (IsS113.apart (show IsS113 w _ g453 t450 t466 t467 from qz9) (rr_ HO464.out) (by decide)) hk (fun _ h => h.2)) (fun _ h => h.1))
 have HO470 := aM (Kd.R_lower ho0 (below_size qz1))
 replace HB := aM (hb)
 replace HI453 := aM (hi)
 (try clear hb)
 (try clear hb2)
 (try clear hk)
 (try clear hi)
 (try clear ho0)
 refine hK.out _ _ ⟨(blk_cell BK461.out 0).trans rfl, (blk_cell BK461.out 1).trans rfl, (blk_cell BK461.out 2).trans rfl⟩ (fun hHeld => ?_)
 clear hK K
 refine nm_ 17 ?_
 refine pure_ (i := 6) (N := some 6) (v := ?_) (a' := ?_) #[true, true, true, true, true, true, true] rfl rfl (by kernel_rfl) qzd (Or.inl ⟨by rfl, ?_⟩) ?_ ?_
 rotate_left
 {
 intro w'
 go_simp
 with_reducible rfl
 }
 rotate_left
 {
 simp only [qzs]
 rfl
 }
 refine done_ (by kernel_rfl) ?_
 try go_wp2
 go_loopg [7] k (fun kq v7 w' => ∃ (x6_1 : List (S37)) (x7_1 : Int), v7 = .int .i64 x7_1 ∧ Aside0 (spec_DrawLively.l0 kq x6_1 x7_1 t454 t455 t456 = some (r1, r2, r3, r4)) ∧ Aside0 (kq ≤ k) ∧ Aside0 (Kd.R k37 37 w' w.heap.size (fun _ => True) v469 x6_1) ∧ Aside0 (Kd.R (Kd.int .i64) 3 w' w.heap.size (fun _ => True) (.slice Ao13 t456.length co13) t456) ∧ Aside0 (w'.heap[gb449]? = some (.cells #[.int .i64 0, .int .i64 0, (.slice none 0 0)] 43 (0, 0))) ∧ Aside0 (w'.heap[gb461]? = some (.cells #[.int .i64 t454, .int .i64 t455, (.slice Ao13 t456.length co13)] 43 (0, 0))) ∧ Aside0 (Below w.heap.size w w'))
 case atStart => exact ⟨(t468), (0), qz6, H', ⟨Nat.le_refl _⟩, ⟨rr_ HO470.out⟩, ⟨by (with_reducible repeat (first | apply Kd.R_alloc | apply Kd.R_drewN | apply Kd.R_drew)); exact Kd.R_mono HO458.out (fun _ hk => trivial)⟩, ⟨bk_ BK449.out⟩, ⟨bk_ BK461.out⟩, ⟨qz1⟩⟩
 case round =>
 clear H'
 try clear hcz12_0 hcz12_1 hcz12_2 hfz12_0 hfz12_1 hfz12_2
 obtain ⟨x6_1, x7_1, rfl, HA, HK1, HO_6, HO_462002, BK449, BK461, HB⟩ := hrel
 cases gk with
 | zero => exact absurd HA.out (by simp [spec_DrawLively.l0])
 | succ k1 =>
 have H := HA.out
 clear HA
 simp only [spec_DrawLively.l0] at H
 replace H := iE_ H
 rcases H with ⟨c21b0, H⟩ | ⟨c21b0, H⟩
 {
 replace H := iD_ H
 obtain ⟨c22b0, H⟩ := H
 obtain ⟨y473, hy473⟩ : ∃ y_ : List (S37), y_ = (x6_1.set (x7_1 : Int).toNat (⟨(rd_T37 x6_1 x7_1).f0, (rd_T37 x6_1 x7_1).f1, (rd_T37 x6_1 x7_1).f2, false, (rd_T37 x6_1 x7_1).f4⟩ : S37)) := ⟨_, rfl⟩
 replace H := yB_ hy473 H
 have Ny473 := aM hy473
 clear hy473
 obtain ⟨y474, hy474⟩ : ∃ y_ : List (S37), y_ = (y473.set (x7_1 : Int).toNat (⟨(rd_T37 y473 x7_1).f0, (rd_T37 y473 x7_1).f1, (rd_T37 y473 x7_1).f2, (rd_T37 y473 x7_1).f3, 0⟩ : S37)) := ⟨_, rfl⟩
 replace H : (spec_DrawLively.l0 k1 y474 (wrap64 (x7_1 + 1)) t454 t455 t456) = some (r1, r2, r3, r4) := by first | (rw [hy474]; exact H) | exact H
 have Ny474 := aM hy474
 clear hy474
 have H' := aM H
 clear H
 obtain ⟨Ao25, co25, eo25⟩ := Kd.R_slice HO_6.out
 subst eo25
 have p23 : 0 ≤ (x7_1 : Int) := dt_
 have q23 : (x7_1 : Int) < ((x6_1.length : Int) : Int) := dt_
 obtain ⟨go23, co23, eo23, gb23, gl23, cl23, HG23⟩ := Kd.R_form HO_6.out (by omega)
 (first | cases eo23 | (injection eo23 with ea_ en_ ec_; (first | subst ea_ | (injection ea_ with ea_; subst ea_)); subst ec_; clear en_))
 have GB23 := aM gb23
 have GG23 := aM HG23
 clear gb23 gl23 HG23
 obtain ⟨ce23, hcl23, hM23, hcc23, hfr23⟩ := Kd.R_elem HO_6.out z37 (x7_1 : Int) p23 q23
 obtain rfl := k37_openM hM23
 have hx23_0 : wr.cell? ⟨go23, (x7_1 : Int).toNat * 5, none⟩ = some (.int .i64 ((rd_T37 x6_1 x7_1).f0)) := hcc23 0 _ rfl
 have hx23_1 : wr.cell? ⟨go23, (x7_1 : Int).toNat * 5 + 1, none⟩ = some (.int .i64 ((rd_T37 x6_1 x7_1).f1)) := hcc23 1 _ rfl
 have hx23_2 : wr.cell? ⟨go23, (x7_1 : Int).toNat * 5 + 2, none⟩ = some (.int .i64 ((rd_T37 x6_1 x7_1).f2)) := hcc23 2 _ rfl
 have hx23_3 : wr.cell? ⟨go23, (x7_1 : Int).toNat * 5 + 3, none⟩ = some (.bool ((rd_T37 x6_1 x7_1).f3)) := hcc23 3 _ rfl
 have hx23_4 : wr.cell? ⟨go23, (x7_1 : Int).toNat * 5 + 4, none⟩ = some (.int .i64 ((rd_T37 x6_1 x7_1).f4)) := hcc23 4 _ rfl
 have hf23_0 : wr.frozen? ⟨go23, (x7_1 : Int).toNat * 5, none⟩ = false := hfr23 0
 have hf23_1 : wr.frozen? ⟨go23, (x7_1 : Int).toNat * 5 + 1, none⟩ = false := hfr23 1
 have hf23_2 : wr.frozen? ⟨go23, (x7_1 : Int).toNat * 5 + 2, none⟩ = false := hfr23 2
 have hf23_3 : wr.frozen? ⟨go23, (x7_1 : Int).toNat * 5 + 3, none⟩ = false := hfr23 3
 have hf23_4 : wr.frozen? ⟨go23, (x7_1 : Int).toNat * 5 + 4, none⟩ = false := hfr23 4
 clear hcl23 hcc23 hfr23; (try clear hM23)
 replace p23 := eq_true p23
 replace q23 := eq_true q23
 have HX26 := aM (show Kd.R k37 37 wr w.heap.size (fun _ => True) (.slice (some ⟨go23, 0, none⟩) x6_1.length co25) x6_1 from (rr_ HO_6.out))
 obtain ⟨ce26, hcl26, hM26, hcc26, hfr26⟩ := Kd.R_elem HX26.out z37 (x7_1 : Int) (dt_) (by have h_ : (x7_1 : Int) < ((x6_1.length : Int) : Int) := dt_; first | exact h_ | (have e_ := (Kd.R_reads' HO_6.out).1; omega) | simpa using h_)
 obtain rfl := k37_openM hM26
 have HP26 := Kd.R_seg HX26.out (x7_1 : Int) (dt_) (by have h_ : (x7_1 : Int) < ((x6_1.length : Int) : Int) := dt_; first | exact h_ | (have e_ := (Kd.R_reads' HO_6.out).1; omega) | simpa using h_) (seg := [.bool false]) (j := 3) hcl26 hcc26 (show 4 ≤ 5 from by decide) (x' := (⟨(rd_T37 x6_1 x7_1).f0, (rd_T37 x6_1 x7_1).f1, (rd_T37 x6_1 x7_1).f2, false, (rd_T37 x6_1 x7_1).f4⟩ : S37)) (k37_mkM _ _ _ (⟨(rd_T37 x6_1 x7_1).f0, (rd_T37 x6_1 x7_1).f1, (rd_T37 x6_1 x7_1).f2, false, (rd_T37 x6_1 x7_1).f4⟩ : S37) ) (fun _ hk => hk)
 have hx26_3 := hcc26 3 _ rfl
 (try simp only [show (k37).sz = 5 from rfl, Nat.mul_one, Nat.add_zero] at hx26_3)
 have hf26_3 := hfr26 3
 (try simp only [show (k37).sz = 5 from rfl, Nat.mul_one, Nat.add_zero] at hf26_3)
 clear hcl26 hcc26 hfr26; (try clear hM26)
 go_wp2_with (first | ((with_reducible refine gate_store (t := 4) (p := 27) rfl ?_); refine store_event (t := 4) (p := 27) (v := ?vo_w27) (w1 := (wr.setCell ⟨go23, (x7_1 : Int).toNat * 5 + 3, none⟩ (.bool false))) ?hg ?ho ?hn ?hr ?_; (case ho => rfl); (case hg => rfl); (case hn => rfl); (case hr => exact qz7); intro w27 hw; have hg : wr.grownBy w27 (some go23) := (by rw [hw]; exact HP26.2); have hp_ : Kd.R k37 37 w27 w.heap.size (fun _ => True) (.slice (some ⟨go23, 0, none⟩) x6_1.length co25) y473 := (by rw [hw, Ny473.out]; exact HP26.1); clear HP26; replace HO_462002 := aM (Kd.R_over' (v := (.slice (some ⟨go23, 0, none⟩) x6_1.length co25)) (rr_ HO_462002.out) (Kd.R_typed HO_6.out) (by decide) hg); replace BK449 := aM (blk_grown (bk_ BK449.out) hg (Kd.R_ne HO_6.out BK449.out (by decide))); replace BK461 := aM (blk_grown (bk_ BK461.out) hg (Kd.R_ne HO_6.out BK461.out (by decide))); replace HO_6 := aM (hp_); replace HB := aM ((by rw [hw]; exact below_set (HB.out) GB23.out : Below w.heap.size w w27)); clear hg hw hp_; have p24 : 0 ≤ (x7_1 : Int) := dt_; have q24 : (x7_1 : Int) < ((x6_1.length : Int) : Int) := dt_; obtain ⟨ce24, hcl24, hM24, hcc24, hfr24⟩ := Kd.R_elem HO_6.out z37 (x7_1 : Int) p24 q24; obtain rfl := k37_openM hM24; have hx24_0 : w27.cell? ⟨go23, (x7_1 : Int).toNat * 5, none⟩ = some (.int .i64 ((rd_T37 y473 x7_1).f0)) := hcc24 0 _ rfl; have hx24_1 : w27.cell? ⟨go23, (x7_1 : Int).toNat * 5 + 1, none⟩ = some (.int .i64 ((rd_T37 y473 x7_1).f1)) := hcc24 1 _ rfl; have hx24_2 : w27.cell? ⟨go23, (x7_1 : Int).toNat * 5 + 2, none⟩ = some (.int .i64 ((rd_T37 y473 x7_1).f2)) := hcc24 2 _ rfl; have hx24_3 : w27.cell? ⟨go23, (x7_1 : Int).toNat * 5 + 3, none⟩ = some (.bool ((rd_T37 y473 x7_1).f3)) := hcc24 3 _ rfl; have hx24_4 : w27.cell? ⟨go23, (x7_1 : Int).toNat * 5 + 4, none⟩ = some (.int .i64 ((rd_T37 y473 x7_1).f4)) := hcc24 4 _ rfl; have hf24_0 : w27.frozen? ⟨go23, (x7_1 : Int).toNat * 5, none⟩ = false := hfr24 0; have hf24_1 : w27.frozen? ⟨go23, (x7_1 : Int).toNat * 5 + 1, none⟩ = false := hfr24 1; have hf24_2 : w27.frozen? ⟨go23, (x7_1 : Int).toNat * 5 + 2, none⟩ = false := hfr24 2; have hf24_3 : w27.frozen? ⟨go23, (x7_1 : Int).toNat * 5 + 3, none⟩ = false := hfr24 3; have hf24_4 : w27.frozen? ⟨go23, (x7_1 : Int).toNat * 5 + 4, none⟩ = false := hfr24 4; clear hcl24 hcc24 hfr24; (try clear hM24); replace p24 := eq_true p24; replace q24 := eq_true q24; have HX28 := aM (show Kd.R k37 37 w27 w.heap.size (fun _ => True) (.slice (some ⟨go23, 0, none⟩) x6_1.length co25) y473 from (rr_ HO_6.out)); obtain ⟨ce28, hcl28, hM28, hcc28, hfr28⟩ := Kd.R_elem HX28.out z37 (x7_1 : Int) (dt_) (by have h_ : (x7_1 : Int) < ((x6_1.length : Int) : Int) := dt_; first | exact h_ | (have e_ := (Kd.R_reads' HO_6.out).1; omega) | simpa using h_); obtain rfl := k37_openM hM28; have HP28 := Kd.R_seg HX28.out (x7_1 : Int) (dt_) (by have h_ : (x7_1 : Int) < ((x6_1.length : Int) : Int) := dt_; first | exact h_ | (have e_ := (Kd.R_reads' HO_6.out).1; omega) | simpa using h_) (seg := [.int .i64 0]) (j := 4) hcl28 hcc28 (show 5 ≤ 5 from by decide) (x' := (⟨(rd_T37 y473 x7_1).f0, (rd_T37 y473 x7_1).f1, (rd_T37 y473 x7_1).f2, (rd_T37 y473 x7_1).f3, 0⟩ : S37)) (k37_mkM _ _ _ (⟨(rd_T37 y473 x7_1).f0, (rd_T37 y473 x7_1).f1, (rd_T37 y473 x7_1).f2, (rd_T37 y473 x7_1).f3, 0⟩ : S37) ) (fun _ hk => hk); have hx28_4 := hcc28 4 _ rfl; (try simp only [show (k37).sz = 5 from rfl, Nat.mul_one, Nat.add_zero] at hx28_4); have hf28_4 := hfr28 4; (try simp only [show (k37).sz = 5 from rfl, Nat.mul_one, Nat.add_zero] at hf28_4); clear hcl28 hcc28 hfr28; (try clear hM28)) | ((with_reducible refine gate_store (t := 3) (p := 31) rfl ?_); refine store_event (t := 3) (p := 31) (v := ?vo_w29) (w1 := (w27.setCell ⟨go23, (x7_1 : Int).toNat * 5 + 4, none⟩ (.int .i64 0))) ?hg ?ho ?hn ?hr ?_; (case ho => rfl); (case hg => rfl); (case hn => rfl); (case hr => exact qz7); intro w29 hw; have hg : w27.grownBy w29 (some go23) := (by rw [hw]; exact HP28.2); have hp_ : Kd.R k37 37 w29 w.heap.size (fun _ => True) (.slice (some ⟨go23, 0, none⟩) x6_1.length co25) y474 := (by rw [hw, Ny474.out]; exact HP28.1); clear HP28; replace HO_462002 := aM (Kd.R_over' (v := (.slice (some ⟨go23, 0, none⟩) x6_1.length co25)) (rr_ HO_462002.out) (Kd.R_typed HO_6.out) (by decide) hg); replace BK449 := aM (blk_grown (bk_ BK449.out) hg (Kd.R_ne HO_6.out BK449.out (by decide))); replace BK461 := aM (blk_grown (bk_ BK461.out) hg (Kd.R_ne HO_6.out BK461.out (by decide))); replace HO_6 := aM (hp_); replace HB := aM ((by rw [hw]; exact below_set (HB.out) GB23.out : Below w.heap.size w w29)); clear hg hw hp_))
 go_roundg k1
 case measure => have := HK1.out; omega
 case rel => exact ⟨(y474), (wrap64 (x7_1 + 1)), qz6, H', ⟨by have := HK1.out; omega⟩, ⟨rm_ HO_6.out⟩, ⟨rm_ HO_462002.out⟩, ⟨bk_ BK449.out⟩, ⟨bk_ BK461.out⟩, ⟨qz1⟩⟩
 }
 {
 simp only [Option.some.injEq, Prod.mk.injEq] at H
 obtain ⟨rfl, rfl, rfl, rfl⟩ := H
 obtain ⟨Ao30, co30, eo30⟩ := Kd.R_slice HO_6.out
 subst eo30
 have hnb31 := NB461_449.out
 have hnc31 := NB449_461.out
 obtain ⟨hcz32_0, hcz32_1, hcz32_2, hfz32_0, hfz32_1, hfz32_2⟩ := b6_ BK461.out
 obtain ⟨hcz33_0, hcz33_1, hcz33_2, hfz33_0, hfz33_1, hfz33_2⟩ := b6_ BK449.out
 go_wp2
 refine bodyPost_ret (results_ct rfl _ _ gb449 43 #[.int .i64 t454, .int .i64 t455, .slice Ao13 t456.length co13] (0, 0) _ rfl (by (with_reducible repeat (first | refine blk_drewN ?_ _ | refine blk_drew ?_ | refine blk_alloc ?_ _)); refine blk_put (cs := #[.int .i64 t454, .int .i64 t455, .slice none 0 0]) ?_ 2 _ rfl; (with_reducible repeat (first | refine blk_drewN ?_ _ | refine blk_drew ?_ | refine blk_alloc ?_ _)); refine blk_put (cs := #[.int .i64 t454, .int .i64 0, .slice none 0 0]) ?_ 1 _ rfl; (with_reducible repeat (first | refine blk_drewN ?_ _ | refine blk_drew ?_ | refine blk_alloc ?_ _)); refine blk_put (cs := #[.int .i64 0, .int .i64 0, .slice none 0 0]) ?_ 0 _ rfl; exact bk_ BK449.out) Try.underlying43 rfl (by kernel_rfl)) rfl ?_
 exact ⟨_, _, qzw, by (with_reducible repeat (first | apply Kd.R_alloc | apply Kd.R_drewN | apply Kd.R_drew)); exact Kd.R_mono (Kd.R_far (p := ⟨gb449, 2, none⟩) (Kd.R_far (p := ⟨gb449, 1, none⟩) (Kd.R_far (p := ⟨gb449, 0, none⟩) (Kd.R_types HO_462002.out BK449.out (by decide)) (fun _ hk => hk.2) (.int .i64 t454)) (fun _ hk => hk.2) (.int .i64 t455)) (fun _ hk => hk.2) (.slice Ao13 t456.length co13)) (fun _ hk => trivial), by (with_reducible repeat (first | apply Kd.R_alloc | apply Kd.R_drewN | apply Kd.R_drew)); exact Kd.R_mono (Kd.R_far (p := ⟨gb449, 2, none⟩) (Kd.R_far (p := ⟨gb449, 1, none⟩) (Kd.R_far (p := ⟨gb449, 0, none⟩) (Kd.R_types HO_6.out BK449.out (by decide)) (fun _ hk => hk.2) (.int .i64 t454)) (fun _ hk => hk.2) (.int .i64 t455)) (fun _ hk => hk.2) (.slice Ao13 t456.length co13)) (fun _ hk => trivial), qz1⟩
 }
/-! ### impl_open: function 91 -/
def impl_open.l0 : Nat → Int → Int → List Int → Int → Int → Option (Int × Int)
 | 0, _, _, _, _, _ => none
 | k + 1, x4, x5, x9, x10, x11 => if x11 < x10 then (if 0 ≤ x11 then (if x11 < (x9.length : Int) then (if (rd x9 x11) = 0 then (impl_open.l0 k x4 x5 x9 x10 (wrap64 (x11 + 1))) else (if x4 = 0 then (impl_open.l0 k (wrap64 (x4 + 1)) x11 x9 x10 (wrap64 (x11 + 1))) else (impl_open.l0 k (wrap64 (x4 + 1)) x5 x9 x10 (wrap64 (x11 + 1))))) else (none)) else (none)) else (some (x4, x5))
def impl_open.f (k : Nat) (a0_0 : Int) (a0_1 : Int) (l0_2 : List Int) : Option (Int × Int) := impl_open.l0 k 0 (-1) l0_2 (l0_2.length : Int) 0
theorem impl_open.mono_l : ∀ k, (∀ y0 y1 y2 y3 y4, LeO (impl_open.l0 k y0 y1 y2 y3 y4) (impl_open.l0 (k + 1) y0 y1 y2 y3 y4))
 | 0 => fun _ _ _ _ _ r h => by simp [impl_open.l0] at h
 | k + 1 => by
  have ih0 := impl_open.mono_l k
  {
  intro y0 y1 y2 y3 y4
  unfold impl_open.l0
  exact qL
  }
theorem impl_open.mono : ∀ a0 a1 a2 k, LeO (impl_open.f k a0 a1 a2) (impl_open.f (k + 1) a0 a1 a2) := by
 intro a0 a1 a2 k
 have ih0 := impl_open.mono_l k
 unfold impl_open.f
 exact qL
set_option maxHeartbeats 8000000 in
set_option maxRecDepth 100000 in
theorem impl_open.calls (k : Nat) (a0_0 : Int) (a0_1 : Int) (A0_2 : Option Addr) (c0_2 : Nat) (l0_2 : List Int) (r1 : Int) (r2 : Int) (w : World) (hr0_2 : Kd.C (Kd.int .i64) w A0_2 l0_2.length l0_2) (hc0_2 : l0_2.length ≤ c0_2) (h : impl_open.f k a0_0 a0_1 l0_2 = some (r1, r2)) :
  Calls Try.prog 91 #[.agg #[.int .i64 a0_0, .int .i64 a0_1, .slice A0_2 l0_2.length c0_2]] w fun e w' => e = .returned (.tuple #[.int .i64 r1, .int .i64 r2]) ∧ Below w.heap.size w w' := by
 have hu43 := Try.underlying43
 have HR0_2 := aM hr0_2
 have HC0_2 := aM hc0_2
 clear hr0_2 hc0_2
 have HB := aM (Below.refl w.heap.size w)
 unfold impl_open.f at h
 have H := h
 clear h
 have H' := aM H
 clear H
 go_enter Try.func91, Try.ntmps91
 go_wp2_with (first | ((with_reducible refine gate_dst (N := 1) rfl ?_); refine bx_ 1 #[.int .i64 a0_0, .int .i64 a0_1, .slice A0_2 l0_2.length c0_2] 43 ?_; intro gb475 hg w2 hbox hb; have BK475 := aM (hbox); have GW475 := aM (bz_ w hg qz1); have GE475 := GW475; replace HB := bS_ hb; clear hb hbox hg; obtain ⟨hcz3_0, hcz3_1, hcz3_2, hfz3_0, hfz3_1, hfz3_2⟩ := b6_ BK475.out))
 go_loopg [4, 5, 11] k (fun kq v4 v5 v11 w' => ∃ (x4_1 : Int) (x5_1 : Int) (x11_1 : Int), v4 = .int .i64 x4_1 ∧ v5 = .int .i64 x5_1 ∧ v11 = .int .i64 x11_1 ∧ Aside0 (impl_open.l0 kq x4_1 x5_1 l0_2 (l0_2.length : Int) x11_1 = some (r1, r2)) ∧ Aside0 (kq ≤ k) ∧ Aside0 (w'.heap[gb475]? = some (.cells #[.int .i64 a0_0, .int .i64 a0_1, (.slice A0_2 l0_2.length c0_2)] 43 (0, 0))) ∧ Aside0 (Below w.heap.size w w'))
 case atStart => exact ⟨(0), ((-1)), (0), qz6, qz6, qz6, H', ⟨Nat.le_refl _⟩, ⟨bk_ BK475.out⟩, ⟨qz1⟩⟩
 case round =>
 clear H'
 try clear hcz3_0 hcz3_1 hcz3_2 hfz3_0 hfz3_1 hfz3_2
 obtain ⟨x4_1, x5_1, x11_1, rfl, rfl, rfl, HA, HK1, BK475, HB⟩ := hrel
 cases gk with
 | zero => exact absurd HA.out (by simp [impl_open.l0])
 | succ k1 =>
 have H := HA.out
 clear HA
 simp only [impl_open.l0] at H
 replace H := iE_ H
 rcases H with ⟨c4b0, H⟩ | ⟨c4b0, H⟩
 {
 replace H := iD_ H
 obtain ⟨c5b0, H⟩ := H
 replace H := iD_ H
 obtain ⟨c6b0, H⟩ := H
 replace H := iQ_ H
 rcases H with ⟨c7b0, c7b1, H⟩ | ⟨c7, c7b0, c7b1, H⟩
 {
 have H' := aM H
 clear H
 have p476 : (0 ≤ (x11_1 : Int)) = True := et_
 have q476 : (x11_1 < (l0_2.length : Int)) = True := et_
 obtain ⟨ad476, e476, hx476_0⟩ := Kd.at_int HR0_2.out x11_1 dt_ dt_
 cases e476
 replace hx476_0 := cB_ hx476_0
 go_wp2
 go_roundg k1
 case measure => have := HK1.out; omega
 case rel => exact ⟨(x4_1), (x5_1), (wrap64 (x11_1 + 1)), qz6, qz6, qz6, H', ⟨by have := HK1.out; omega⟩, ⟨bk_ BK475.out⟩, ⟨qz1⟩⟩
 }
 {
 replace H := iQ_ H
 rcases H with ⟨c8b0, c8b1, H⟩ | ⟨c8, c8b0, c8b1, H⟩
 {
 have H' := aM H
 clear H
 have p476 : (0 ≤ (x11_1 : Int)) = True := et_
 have q476 : (x11_1 < (l0_2.length : Int)) = True := et_
 obtain ⟨ad476, e476, hx476_0⟩ := Kd.at_int HR0_2.out x11_1 dt_ dt_
 cases e476
 replace hx476_0 := cB_ hx476_0
 go_wp2
 go_roundg k1
 case measure => have := HK1.out; omega
 case rel => exact ⟨(wrap64 (x4_1 + 1)), (x11_1), (wrap64 (x11_1 + 1)), qz6, qz6, qz6, H', ⟨by have := HK1.out; omega⟩, ⟨bk_ BK475.out⟩, ⟨qz1⟩⟩
 }
 {
 have H' := aM H
 clear H
 have p476 : (0 ≤ (x11_1 : Int)) = True := et_
 have q476 : (x11_1 < (l0_2.length : Int)) = True := et_
 obtain ⟨ad476, e476, hx476_0⟩ := Kd.at_int HR0_2.out x11_1 dt_ dt_
 cases e476
 replace hx476_0 := cB_ hx476_0
 go_wp2
 go_roundg k1
 case measure => have := HK1.out; omega
 case rel => exact ⟨(wrap64 (x4_1 + 1)), (x5_1), (wrap64 (x11_1 + 1)), qz6, qz6, qz6, H', ⟨by have := HK1.out; omega⟩, ⟨bk_ BK475.out⟩, ⟨qz1⟩⟩
 }
 }
 }
 {
 simp only [Option.some.injEq, Prod.mk.injEq] at H
 obtain ⟨rfl, rfl⟩ := H
 go_wp2
 go_ret2
 exact ⟨qzw, qz1⟩
 }
/-! ### impl_reach: function 110 -/
def impl_reach.l0 : Nat → Int → List Int → Int → Int → Option (Int)
 | 0, _, _, _, _ => none
 | k + 1, x5, x10, x11, x12 => if x12 < x11 then (if 0 ≤ x12 then (if x12 < (x10.length : Int) then (if (rd x10 x12) ≥ 0 then (impl_reach.l0 k (wrap64 (x5 + 1)) x10 x11 (wrap64 (x12 + 1))) else (impl_reach.l0 k x5 x10 x11 (wrap64 (x12 + 1)))) else (none)) else (none)) else (some x5)
def impl_reach.f (k : Nat) (a0_0 : Int) (a0_1 : Int) (l0_2 : List Int) (a1 : Int) : Option (Int) := (impl_field.f k a0_0 a0_1 l0_2 a1 false).bind fun t478 => (impl_reach.l0 k 0 t478 (t478.length : Int) 0)
theorem impl_reach.mono_l : ∀ k, (∀ y0 y1 y2 y3, LeO (impl_reach.l0 k y0 y1 y2 y3) (impl_reach.l0 (k + 1) y0 y1 y2 y3))
 | 0 => fun _ _ _ _ r h => by simp [impl_reach.l0] at h
 | k + 1 => by
  have ih0 := impl_reach.mono_l k
  {
  intro y0 y1 y2 y3
  unfold impl_reach.l0
  have j0 := @impl_field.mono
  exact qL
  }
theorem impl_reach.mono : ∀ a0 a1 a2 a3 k, LeO (impl_reach.f k a0 a1 a2 a3) (impl_reach.f (k + 1) a0 a1 a2 a3) := by
 intro a0 a1 a2 a3 k
 have ih0 := impl_reach.mono_l k
 unfold impl_reach.f
 have j0 := @impl_field.mono
 exact qL
set_option maxHeartbeats 8000000 in
set_option maxRecDepth 100000 in
theorem impl_reach.calls (k : Nat) (a0_0 : Int) (a0_1 : Int) (A0_2 : Option Addr) (c0_2 : Nat) (l0_2 : List Int) (a1 : Int) (r : Int) (w : World) (hr0_2 : Kd.C (Kd.int .i64) w A0_2 l0_2.length l0_2) (hc0_2 : l0_2.length ≤ c0_2) (h : impl_reach.f k a0_0 a0_1 l0_2 a1 = some r) :
  Calls Try.prog 110 #[.agg #[.int .i64 a0_0, .int .i64 a0_1, .slice A0_2 l0_2.length c0_2], .int .i64 a1] w fun e w' => e = .returned (.int .i64 r) ∧ Below w.heap.size w w' := by
 have hu43 := Try.underlying43
 have HR0_2 := aM hr0_2
 have HC0_2 := aM hc0_2
 clear hr0_2 hc0_2
 have HB := aM (Below.refl w.heap.size w)
 unfold impl_reach.f at h
 have H := h
 clear h
 replace H := Option.bind_eq_some_iff.mp H
 obtain ⟨t478, A30, H⟩ := H
 have A3 := aM A30
 clear A30
 have H' := aM H
 clear H
 go_enter Try.func110, Try.ntmps110
 go_wp2_with (first | ((with_reducible refine gate_dst (N := 2) rfl ?_); refine bx_ 2 #[.int .i64 a0_0, .int .i64 a0_1, .slice A0_2 l0_2.length c0_2] 43 ?_; intro gb477 hg w4 hbox hb; have BK477 := aM (hbox); have GW477 := aM (bz_ w hg qz1); have GE477 := GW477; replace HB := bS_ hb; clear hb hbox hg; obtain ⟨hcz5_0, hcz5_1, hcz5_2, hfz5_0, hfz5_1, hfz5_2⟩ := b6_ BK477.out) | ((with_reducible refine gate_callee (f := 69) rfl ?_); refine goesL_ (some 10) rfl rfl Try.func69 (by kernel_rfl) rfl #[.agg #[.int .i64 a0_0, .int .i64 a0_1, .slice A0_2 l0_2.length c0_2], .int .i64 a1, .bool false] rfl qz2 ?_; (with_reducible refine (impl_field.calls k a0_0 a0_1 _ _ l0_2 a1 false t478 _ ?_ ?_ A3.out).mono ?_); exact qz5; exact qz16; rintro e w6 ⟨v479, rfl, ho0, hb⟩; refine ⟨_, rfl, ?_⟩; have HO480 := aM (Kd.R_lower ho0 (below_size qz1)); replace BK477 := bB_ BK477 hb; replace HB := bS_ hb; (try clear hb ho0); obtain ⟨Ao7, co7, eo7⟩ := Kd.R_slice HO480.out; subst eo7))
 go_loopg [5, 12] k (fun kq v5 v12 w' => ∃ (x5_1 : Int) (x12_1 : Int), v5 = .int .i64 x5_1 ∧ v12 = .int .i64 x12_1 ∧ Aside0 (impl_reach.l0 kq x5_1 t478 (t478.length : Int) x12_1 = some r) ∧ Aside0 (kq ≤ k) ∧ Aside0 (Kd.R (Kd.int .i64) 3 w' w.heap.size (fun _ => True) (.slice Ao7 t478.length co7) t478) ∧ Aside0 (w'.heap[gb477]? = some (.cells #[.int .i64 a0_0, .int .i64 a0_1, (.slice A0_2 l0_2.length c0_2)] 43 (0, 0))) ∧ Aside0 (Below w.heap.size w w'))
 case atStart => exact ⟨(0), (0), qz6, qz6, H', ⟨Nat.le_refl _⟩, ⟨rr_ HO480.out⟩, ⟨bk_ BK477.out⟩, ⟨qz1⟩⟩
 case round =>
 clear H'
 try clear hcz5_0 hcz5_1 hcz5_2 hfz5_0 hfz5_1 hfz5_2
 obtain ⟨x5_1, x12_1, rfl, rfl, HA, HK1, HO_10, BK477, HB⟩ := hrel
 cases gk with
 | zero => exact absurd HA.out (by simp [impl_reach.l0])
 | succ k1 =>
 have H := HA.out
 clear HA
 simp only [impl_reach.l0] at H
 replace H := iE_ H
 rcases H with ⟨c8b0, H⟩ | ⟨c8b0, H⟩
 {
 replace H := iD_ H
 obtain ⟨c9b0, H⟩ := H
 replace H := iD_ H
 obtain ⟨c10b0, H⟩ := H
 replace H := iE_ H
 rcases H with ⟨c11b0, H⟩ | ⟨c11b0, H⟩
 {
 have H' := aM H
 clear H
 have p481 : (0 ≤ (x12_1 : Int)) = True := et_
 have q481 : (x12_1 < (t478.length : Int)) = True := et_
 obtain ⟨ad481, e481, hx481_0⟩ := Kd.at_int (Kd.R_reads' HO_10.out).2.2 x12_1 dt_ dt_
 cases e481
 go_wp2
 go_roundg k1
 case measure => have := HK1.out; omega
 case rel => exact ⟨(wrap64 (x5_1 + 1)), (wrap64 (x12_1 + 1)), qz6, qz6, H', ⟨by have := HK1.out; omega⟩, ⟨rm_ HO_10.out⟩, ⟨bk_ BK477.out⟩, ⟨qz1⟩⟩
 }
 {
 have H' := aM H
 clear H
 have p481 : (0 ≤ (x12_1 : Int)) = True := et_
 have q481 : (x12_1 < (t478.length : Int)) = True := et_
 obtain ⟨ad481, e481, hx481_0⟩ := Kd.at_int (Kd.R_reads' HO_10.out).2.2 x12_1 dt_ dt_
 cases e481
 go_wp2
 go_roundg k1
 case measure => have := HK1.out; omega
 case rel => exact ⟨(x5_1), (wrap64 (x12_1 + 1)), qz6, qz6, H', ⟨by have := HK1.out; omega⟩, ⟨rm_ HO_10.out⟩, ⟨bk_ BK477.out⟩, ⟨qz1⟩⟩
 }
 }
 {
 obtain rfl := Option.some.inj H
 go_wp2
 go_ret
 exact ⟨qzw, qz1⟩
 }
/-! ### impl_Together: function 90 -/
def impl_Together.f (k : Nat) (a0_0 : Int) (a0_1 : Int) (l0_2 : List Int) : Option (Bool) := (impl_FloorOk.f k a0_0 a0_1 l0_2).bind fun t483 => (if t483 = true then ((impl_open.f k a0_0 a0_1 l0_2).bind fun bt484 => (if bt484.1 > 0 then ((impl_reach.f k a0_0 a0_1 l0_2 bt484.2).bind fun t486 => (some (t486 == bt484.1))) else (some false))) else (some false))
theorem impl_Together.mono : ∀ a0 a1 a2 k, LeO (impl_Together.f k a0 a1 a2) (impl_Together.f (k + 1) a0 a1 a2) := by
 intro a0 a1 a2 k
 unfold impl_Together.f
 have j0 := @impl_FloorOk.mono
 have j1 := @impl_open.mono
 have j2 := @impl_reach.mono
 exact qL
set_option maxHeartbeats 8000000 in
set_option maxRecDepth 100000 in
theorem impl_Together.calls (k : Nat) (a0_0 : Int) (a0_1 : Int) (A0_2 : Option Addr) (c0_2 : Nat) (l0_2 : List Int) (r : Bool) (w : World) (hr0_2 : Kd.C (Kd.int .i64) w A0_2 l0_2.length l0_2) (hc0_2 : l0_2.length ≤ c0_2) (h : impl_Together.f k a0_0 a0_1 l0_2 = some r) :
  Calls Try.prog 90 #[.agg #[.int .i64 a0_0, .int .i64 a0_1, .slice A0_2 l0_2.length c0_2]] w fun e w' => e = .returned (.bool r) ∧ Below w.heap.size w w' := by
 have hu43 := Try.underlying43
 have HR0_2 := aM hr0_2
 have HC0_2 := aM hc0_2
 clear hr0_2 hc0_2
 have HB := aM (Below.refl w.heap.size w)
 unfold impl_Together.f at h
 have H := h
 clear h
 replace H := Option.bind_eq_some_iff.mp H
 obtain ⟨t483, A20, H⟩ := H
 have A2 := aM A20
 clear A20
 replace H := iB_ H
 rcases H with ⟨rfl, H⟩ | ⟨rfl, H⟩
 {
 replace H := Option.bind_eq_some_iff.mp H
 obtain ⟨⟨t484, t485⟩, A40, H⟩ := H
 try dsimp only at H
 have A4 := aM A40
 clear A40
 replace H := iE_ H
 rcases H with ⟨c5b0, H⟩ | ⟨c5b0, H⟩
 {
 replace H := Option.bind_eq_some_iff.mp H
 obtain ⟨t486, A60, H⟩ := H
 have A6 := aM A60
 clear A60
 obtain rfl := Option.some.inj H
 go_enter Try.func90, Try.ntmps90
 go_wp2_with (first | ((with_reducible refine gate_dst (N := 1) rfl ?_); refine bx_ 1 #[.int .i64 a0_0, .int .i64 a0_1, .slice A0_2 l0_2.length c0_2] 43 ?_; intro gb482 hg w7 hbox hb; have BK482 := aM (hbox); have GW482 := aM (bz_ w hg qz1); have GE482 := GW482; replace HB := bS_ hb; clear hb hbox hg; obtain ⟨hcz8_0, hcz8_1, hcz8_2, hfz8_0, hfz8_1, hfz8_2⟩ := b6_ BK482.out) | ((with_reducible refine gate_callee (f := 64) rfl ?_); refine goesL_ (some 6) rfl rfl Try.func64 (by kernel_rfl) rfl #[.agg #[.int .i64 a0_0, .int .i64 a0_1, .slice A0_2 l0_2.length c0_2]] rfl qz2 ?_; (with_reducible refine (impl_FloorOk.calls k a0_0 a0_1 _ _ l0_2 true _ ?_ ?_ A2.out).mono ?_); exact qz5; exact qz16; rintro e w9 ⟨rfl, hb⟩; refine ⟨_, rfl, ?_⟩; replace BK482 := bB_ BK482 hb; replace HB := bS_ hb; (try clear hb); obtain ⟨hcz10_0, hcz10_1, hcz10_2, hfz10_0, hfz10_1, hfz10_2⟩ := b6_ BK482.out) | ((with_reducible refine gate_callee (f := 91) rfl ?_); refine goesL_ (some 10) rfl rfl Try.func91 (by kernel_rfl) rfl #[.agg #[.int .i64 a0_0, .int .i64 a0_1, .slice A0_2 l0_2.length c0_2]] rfl qz2 ?_; (with_reducible refine (impl_open.calls k a0_0 a0_1 _ _ l0_2 t484 t485 _ ?_ ?_ A4.out).mono ?_); exact qz5; exact qz16; rintro e w11 ⟨rfl, hb⟩; refine ⟨_, rfl, ?_⟩; replace BK482 := bB_ BK482 hb; replace HB := bS_ hb; (try clear hb); obtain ⟨hcz12_0, hcz12_1, hcz12_2, hfz12_0, hfz12_1, hfz12_2⟩ := b6_ BK482.out) | (go_at_call 110; (with_reducible refine (impl_reach.calls k a0_0 a0_1 _ _ l0_2 t485 t486 _ ?_ ?_ A6.out).mono ?_); exact qz5; exact qz16; rintro e w13 ⟨rfl, hb⟩; replace BK482 := bB_ BK482 hb; replace HB := bS_ hb; (try clear hb)))
 go_ret
 exact ⟨qzw, qz1⟩
 }
 {
 obtain rfl := Option.some.inj H
 go_enter Try.func90, Try.ntmps90
 go_wp2_with (first | ((with_reducible refine gate_dst (N := 1) rfl ?_); refine bx_ 1 #[.int .i64 a0_0, .int .i64 a0_1, .slice A0_2 l0_2.length c0_2] 43 ?_; intro gb482 hg w14 hbox hb; have BK482 := aM (hbox); have GW482 := aM (bz_ w hg qz1); have GE482 := GW482; replace HB := bS_ hb; clear hb hbox hg; obtain ⟨hcz15_0, hcz15_1, hcz15_2, hfz15_0, hfz15_1, hfz15_2⟩ := b6_ BK482.out) | ((with_reducible refine gate_callee (f := 64) rfl ?_); refine goesL_ (some 6) rfl rfl Try.func64 (by kernel_rfl) rfl #[.agg #[.int .i64 a0_0, .int .i64 a0_1, .slice A0_2 l0_2.length c0_2]] rfl qz2 ?_; (with_reducible refine (impl_FloorOk.calls k a0_0 a0_1 _ _ l0_2 true _ ?_ ?_ A2.out).mono ?_); exact qz5; exact qz16; rintro e w16 ⟨rfl, hb⟩; refine ⟨_, rfl, ?_⟩; replace BK482 := bB_ BK482 hb; replace HB := bS_ hb; (try clear hb); obtain ⟨hcz17_0, hcz17_1, hcz17_2, hfz17_0, hfz17_1, hfz17_2⟩ := b6_ BK482.out) | ((with_reducible refine gate_callee (f := 91) rfl ?_); refine goesL_ (some 10) rfl rfl Try.func91 (by kernel_rfl) rfl #[.agg #[.int .i64 a0_0, .int .i64 a0_1, .slice A0_2 l0_2.length c0_2]] rfl qz2 ?_; (with_reducible refine (impl_open.calls k a0_0 a0_1 _ _ l0_2 t484 t485 _ ?_ ?_ A4.out).mono ?_); exact qz5; exact qz16; rintro e w18 ⟨rfl, hb⟩; refine ⟨_, rfl, ?_⟩; replace BK482 := bB_ BK482 hb; replace HB := bS_ hb; (try clear hb)))
 go_ret
 exact ⟨qzw, qz1⟩
 }
 }
 {
 obtain rfl := Option.some.inj H
 go_enter Try.func90, Try.ntmps90
 go_wp2_with (first | ((with_reducible refine gate_dst (N := 1) rfl ?_); refine bx_ 1 #[.int .i64 a0_0, .int .i64 a0_1, .slice A0_2 l0_2.length c0_2] 43 ?_; intro gb482 hg w19 hbox hb; have BK482 := aM (hbox); have GW482 := aM (bz_ w hg qz1); have GE482 := GW482; replace HB := bS_ hb; clear hb hbox hg; obtain ⟨hcz20_0, hcz20_1, hcz20_2, hfz20_0, hfz20_1, hfz20_2⟩ := b6_ BK482.out) | ((with_reducible refine gate_callee (f := 64) rfl ?_); refine goesL_ (some 6) rfl rfl Try.func64 (by kernel_rfl) rfl #[.agg #[.int .i64 a0_0, .int .i64 a0_1, .slice A0_2 l0_2.length c0_2]] rfl qz2 ?_; (with_reducible refine (impl_FloorOk.calls k a0_0 a0_1 _ _ l0_2 false _ ?_ ?_ A2.out).mono ?_); exact qz5; exact qz16; rintro e w21 ⟨rfl, hb⟩; refine ⟨_, rfl, ?_⟩; replace BK482 := bB_ BK482 hb; replace HB := bS_ hb; (try clear hb)))
 go_ret
 exact ⟨qzw, qz1⟩
 }
/-! ### impl_copyInts: function 133 -/
def impl_copyInts.f (l0 : List Int) : Option (List Int) := if ([] : List Int).length + l0.length < 17592186044416 then (some (([] : List Int) ++ l0)) else (none)
set_option maxHeartbeats 8000000 in
set_option maxRecDepth 100000 in
theorem impl_copyInts.calls (A0 : Option Addr) (c0 : Nat) (l0 : List Int) (r : List Int) (w : World) (hr0 : Kd.C (Kd.int .i64) w A0 l0.length l0) (hc0 : l0.length ≤ c0) (h : impl_copyInts.f l0 = some r) :
  Calls Try.prog 133 #[.slice A0 l0.length c0] w fun e w' => ∃ v0_ : Value, e = .returned (v0_) ∧ Kd.R (Kd.int .i64) 3 w' w.heap.size (fun _ => True) v0_ r ∧ Below w.heap.size w w' := by
 have HR0 := aM hr0
 have HC0 := aM hc0
 clear hr0 hc0
 have HB := aM (Below.refl w.heap.size w)
 unfold impl_copyInts.f at h
 have H := h
 clear h
 replace H := iN_ H
 obtain ⟨c2, H⟩ := H
 have LMc2 := aM c2
 clear c2
 obtain ⟨y487, hy487⟩ : ∃ y_ : List Int, y_ = (([] : List Int) ++ l0) := ⟨_, rfl⟩
 replace H : (some y487) = some r := by first | (rw [hy487]; exact H) | exact H
 have Ny487 := aM hy487
 clear hy487
 obtain rfl := Option.some.inj H
 go_enter Try.func133, Try.ntmps133
 go_wp2_with (first | ((with_reducible refine gate_builtin (b := .append) (xs := #[.const (.slice none 0 0), .tmp 3]) rfl ?_); at_builtin; refine Kd.R_append_rows (Kd.int .i64) (w0 := w) w.heap.size rfl (.const (.slice none 0 0)) (.tmp 3) 24 3 (.int .i64 0) 8 rfl Try.underlying24 info3 rfl (by decide) (by omega) (.slice none 0 0) ([] : List Int) l0 _ _ _ (fun _ => True) (fun _ => False) rfl rfl ?aO ?aR (fun _ _ h => h) (fun _ h => h.elim) ?aF ?aB ?aS ?aL ?_; (case aR => exact qz12); (case aB => exact qz1); (case aF => exact qz14); (case aO => exact ((Kd.R_nil _ _ _ _ (fun _ => True)))); (case aS => exact qz26); (case aL => have := LMc2.out; omega); intro v488 w3 ho hb hg hat; rw [← Ny487.out] at ho; replace HB := aM (hb); have HO489 := aM (ho); clear ho hb hg hat))
 go_ret
 exact ⟨_, qzw, by (with_reducible repeat (first | apply Kd.R_alloc | apply Kd.R_drewN | apply Kd.R_drew)); exact HO489.out, qz1⟩
end Go.Proofs.Ytankmdbbgepmbaa.PFnFirst
