-- Made by a program of this session out of the translation. Lean checks it.
import Derived.Test.YtankmdbbgepmbaaPFnStepx17
import Derived.Test.YtankmdbbgepmbaaPFnStepx21
namespace Go.Proofs.Ytankmdbbgepmbaa.PFnStep
open Go.RowKit Go.Proofs.YtankmdbbgepmbaaW.PrintWords Go.Proofs.YtankmdbbgepmbaaW.PrintLast Go.Proofs.YtankmdbbgepmbaaW.PrintMore
attribute [local go_sem] max2_int min2_int max_two min_two max_three min_three max_four min_four   -- for this text's walks alone
set_option linter.unusedVariables false
set_option linter.unusedSimpArgs false

/-! ### spec_DrawCrew: function 43 -/
def spec_DrawCrew.f (k : Nat) (l0 : List Int) : Option (Int × Int × List Int × (List (S37))) := (spec_l1New.f k l0).bind fun bt469 => ((spec_l1Floor.f k bt469.1 bt469.2.1 bt469.2.2).bind fun bt473 => ((spec_l1Int.f bt469.1 bt473.2.2.2.1 bt473.2.2.2.2 (([4, 9, 20] : List Int))).bind fun bt484 => ((spec_l7Crew.f k bt469.1 bt484.2.1 bt484.2.2 bt473.1 bt473.2.1 bt473.2.2.1 bt484.1).bind fun bt487 => (some (bt473.1, bt473.2.1, bt473.2.2.1, bt487.1)))))
theorem spec_DrawCrew.mono : ∀ a0 k, LeO (spec_DrawCrew.f k a0) (spec_DrawCrew.f (k + 1) a0) := by
 intro a0 k
 unfold spec_DrawCrew.f
 have j0 := @spec_l1Floor.mono
 have j1 := @spec_l1New.mono
 have j2 := @spec_l7Crew.mono
 exact qL
def spec_DrawCrew.T3 : Bool × List (List Nat × List Nat) := (true, [([], []), ([], []), ([], []), ([], []), ([], []), ([3, 4], [3, 4]), ([1, 2, 5, 5], [1, 2, 5]), ([0, 6, 0], [0]), ([6, 7, 0, 1, 2, 3, 4, 5, 6, 7], [6])])
def spec_DrawCrew.B3 : List Nat := [0, 0, 0, 0, 0, 24, 62, 127, 255]
theorem spec_DrawCrew.tab3 : rtab .any (opsOf Try.f43 3) = spec_DrawCrew.T3 := by kernel_rfl
theorem spec_DrawCrew.bits3 : waitsOk spec_DrawCrew.T3.2 spec_DrawCrew.B3 = true := by kernel_rfl
set_option maxHeartbeats 8000000 in
set_option maxRecDepth 100000 in
theorem spec_DrawCrew.calls (k : Nat) (A0 : Option Addr) (c0 : Nat) (l0 : List Int) (r1 : Int) (r2 : Int) (r3 : List Int) (r4 : List (S37)) (w : World) (hr0 : Kd.C (Kd.int .u8) w A0 l0.length l0) (hc0 : l0.length ≤ c0) (h : spec_DrawCrew.f k l0 = some (r1, r2, r3, r4)) :
  Calls Try.prog 43 #[.slice A0 l0.length c0] w fun e w' => ∃ v2_ v3_ : Value, e = .returned (.tuple #[.agg #[.int .i64 r1, .int .i64 r2, v2_], v3_]) ∧ Kd.R (Kd.int .i64) 3 w' w.heap.size (fun _ => True) v2_ r3 ∧ Kd.R k37 37 w' w.heap.size (fun _ => True) v3_ r4 ∧ Below w.heap.size w w' := by
 have hu43 := Try.underlying43
 have HR0 := aM hr0
 have HC0 := aM hc0
 clear hr0 hc0
 have HB := aM (Below.refl w.heap.size w)
 unfold spec_DrawCrew.f at h
 have H := h
 clear h
 replace H := Option.bind_eq_some_iff.mp H
 obtain ⟨⟨t469, t470, t471⟩, A20, H⟩ := H
 try dsimp only at H
 have A2 := aM A20
 clear A20
 replace H := Option.bind_eq_some_iff.mp H
 obtain ⟨⟨t473, t474, t475, t478, t479⟩, A30, H⟩ := H
 try dsimp only at H
 have A3 := aM A30
 clear A30
 obtain ⟨y481, hy481⟩ : ∃ y_ : List Int, y_ = (([4, 9, 20] : List Int)) := ⟨_, rfl⟩
 replace H : ((spec_l1Int.f t469 t478 t479 y481).bind fun bt484 => ((spec_l7Crew.f k t469 bt484.2.1 bt484.2.2 t473 t474 t475 bt484.1).bind fun bt487 => (some (t473, t474, t475, bt487.1)))) = some (r1, r2, r3, r4) := by first | (rw [hy481]; exact H) | exact H
 have Ny481 := aM hy481
 clear hy481
 replace H := Option.bind_eq_some_iff.mp H
 obtain ⟨⟨t484, t485, t486⟩, A40, H⟩ := H
 try dsimp only at H
 have A4 := aM A40
 clear A40
 replace H := Option.bind_eq_some_iff.mp H
 obtain ⟨⟨t487, t490, t491⟩, A50, H⟩ := H
 try dsimp only at H
 have A5 := aM A50
 clear A50
 simp only [Option.some.injEq, Prod.mk.injEq] at H
 obtain ⟨rfl, rfl, rfl, rfl⟩ := H
 go_enter Try.func43, Try.ntmps43
 try go_wp2_with (first | ((with_reducible refine gate_dst (N := 2) rfl ?_); refine bx_ 2 #[.int .i64 0, .int .i64 0, .slice none 0 0] 43 ?_; intro gb468 hg w6 hbox hb; have BK468 := aM (hbox); have GW468 := aM (bz_ w hg qz1); have GE468 := GW468; replace HB := bS_ hb; clear hb hbox hg) | ((with_reducible refine gate_callee (f := 57) rfl ?_); refine goesL_ (some 7) rfl rfl Try.func57 (by kernel_rfl) rfl #[.slice A0 l0.length c0] rfl qz2 ?_; (with_reducible refine (spec_l1New.calls k _ _ l0 t469 t470 t471 w _ ?_ ?_ ?_ A2.out).mono ?_); exact qz1; exact HR0.out; exact HC0.out; rintro e w7 ⟨g472, rfl, hi, hb, hb2⟩; refine ⟨_, rfl, ?_⟩; replace HB := aM (hb); have HI472 := aM (hi); have NB472_468 := aM (IsS113.ne_blk hi (blk_below (bk_ BK468.out) hb2) (by decide)); have NB468_472 := aM (Ne.symm (IsS113.ne_blk hi (blk_below (bk_ BK468.out) hb2) (by decide))); replace BK468 := aM (blk_below (bk_ BK468.out) hb2); (try clear hb hb2 hi)) | ((with_reducible refine gate_callee (f := 84) rfl ?_); refine goesL_ (some 9) rfl rfl Try.func84 (by kernel_rfl) rfl #[.pointer (some ⟨g472, 0, none⟩)] rfl qz2 ?_; (with_reducible refine (spec_l1Floor.calls k g472 t469 t470 t471 t473 t474 t475 t478 t479 w _ ?_ ?_ A3.out).mono ?_); exact qz11; exact qz1; rintro e w8 ⟨v476, rfl, ho0, hi, hb, hk⟩; refine ⟨_, rfl, ?_⟩; replace BK468 := aM (KeepBut.blk hk (bk_ BK468.out) NB468_472.out (by simp)); have HO477 := aM (Kd.R_lower ho0 (below_size qz1)); replace HB := aM (hb); replace HI472 := aM (hi); (try clear hb hk hi ho0)) | ((with_reducible refine gate_dst (N := 5) rfl ?_); refine bx_ 5 #[.int .i64 0, .int .i64 0, .slice none 0 0] 43 ?_; intro gb480 hg w9 hbox hb; replace HO477 := aM (Kd.R_below (rr_ HO477.out) hb); have BK480 := aM (hbox); have GW480 := aM (bz_ w hg qz1); have GE480 := GW480; replace HB := bS_ hb; obtain ⟨NB468_480, NB480_468⟩ := nb_ hg (bk_ BK468.out); replace BK468 := bB_ BK468 hb; have NB472_480 := aM ((by rw [hg]; exact Nat.ne_of_lt (IsS113.lt (show IsS113 w _ g472 t469 t478 t479 from qz11)) : g472 ≠ gb480)); have NB480_472 := aM ((by rw [hg]; exact Nat.ne_of_gt (IsS113.lt (show IsS113 w _ g472 t469 t478 t479 from qz11)) : gb480 ≠ g472)); replace HI472 := aM (IsS113.below qz11 hb); clear hb hbox hg; have hnb10 := NB480_468.out; have hnc10 := NB468_480.out; have hnb11 := NB480_472.out; have hnc11 := NB472_480.out; obtain ⟨hcz12_0, hcz12_1, hcz12_2, hfz12_0, hfz12_1, hfz12_2⟩ := b6_ BK480.out; obtain ⟨Ao13, co13, eo13⟩ := Kd.R_slice HO477.out; subst eo13))
 generalize hq_ : (((w9.setCell ⟨gb480, 0, none⟩ (.int .i64 t473)).setCell ⟨gb480, 1, none⟩ (.int .i64 t474)).setCell ⟨gb480, 2, none⟩ (.slice Ao13 t475.length co13)) = w14
 replace HO477 : Aside0 (Kd.R (Kd.int .i64) 3 w14 w.heap.size (fun _ => True) (.slice Ao13 t475.length co13) t475) := ⟨by rw [← hq_]; exact (by (with_reducible repeat (first | apply Kd.R_alloc | apply Kd.R_drewN | apply Kd.R_drew)); exact Kd.R_mono (Kd.R_far (p := ⟨gb480, 2, none⟩) (Kd.R_far (p := ⟨gb480, 1, none⟩) (Kd.R_far (p := ⟨gb480, 0, none⟩) (Kd.R_types HO477.out BK480.out (by decide)) (fun _ hk => hk.2) (.int .i64 t473)) (fun _ hk => hk.2) (.int .i64 t474)) (fun _ hk => hk.2) (.slice Ao13 t475.length co13)) (fun _ hk => trivial))⟩
 replace BK468 := bqo_ hq_ BK468
 replace BK480 : Aside0 (w14.heap[gb480]? = some (.cells #[.int .i64 t473, .int .i64 t474, .slice Ao13 t475.length co13] 43 (0, 0))) := ⟨by rw [← hq_]; exact (by (with_reducible repeat (first | refine blk_drewN ?_ _ | refine blk_drew ?_ | refine blk_alloc ?_ _)); refine blk_put (cs := #[.int .i64 t473, .int .i64 t474, .slice none 0 0]) ?_ 2 _ rfl; (with_reducible repeat (first | refine blk_drewN ?_ _ | refine blk_drew ?_ | refine blk_alloc ?_ _)); refine blk_put (cs := #[.int .i64 t473, .int .i64 0, .slice none 0 0]) ?_ 1 _ rfl; (with_reducible repeat (first | refine blk_drewN ?_ _ | refine blk_drew ?_ | refine blk_alloc ?_ _)); refine blk_put (cs := #[.int .i64 0, .int .i64 0, .slice none 0 0]) ?_ 0 _ rfl; exact bk_ BK480.out)⟩
 replace HB : Aside0 (Below w.heap.size w w14) := ⟨by rw [← hq_]; exact qz1⟩
 replace HI472 : Aside0 (IsS113 w w14 g472 t469 t478 t479) := ⟨by rw [← hq_]; exact qz11⟩
 clear hq_
 replace HO477 := aM (Kd.R_drew HO477.out)
 replace BK468 := aM (blk_drew BK468.out)
 replace BK480 := aM (blk_drew BK480.out)
 replace HI472 := aM (IsS113.drew HI472.out)
 replace HB := aM (below_drew1 HB.out)
 refine start_ (n := 9) (S := fun w' => w'.cell? ⟨gb480, 0, none⟩ = some (.int .i64 t473) ∧ w'.cell? ⟨gb480, 1, none⟩ = some (.int .i64 t474) ∧ w'.cell? ⟨gb480, 2, none⟩ = some (.slice Ao13 t475.length co13)) (ds := []) #[false, false, false, false, false, false, false, false, false] (by kernel_rfl) rfl rfl ⟨(blk_cell BK480.out 0).trans rfl, (blk_cell BK480.out 1).trans rfl, (blk_cell BK480.out 2).trans rfl⟩ (fun hHeld => ?_); refine with_tabW spec_DrawCrew.tab3 spec_DrawCrew.bits3 (fun HT_ HW_ => ?_)
 generalize w14.drew = w15 at HO477 BK468 BK480 HI472 HB hHeld ⊢
 refine pI_ 1 11 (bqz 9 2) ?_
 refine jI_ 3 13 ?_
 refine sI3_ 0 10 ?_
 refine sI3_ 2 12 ?_
 refine oI_ 4 14 (bqz 9 31) (fun K hK => ?_)
 refine Kd.R_lit_step (Kd.int .i64) _ 3 ?hg (N := 14) ?hd (xs := ([4, 9, 20] : List Int)) (inner := [.int .i64 4, .int .i64 9, .int .i64 20]) (ok := fun _ => True) (okp := fun _ => True) ?hr ?hp (fun _ hk => hk) trivial (Below.refl _ _) (Nat.le_refl _) (by simp) ?_; (case hd => rfl); (case hg => rfl); (case hr => exact qz8); (case hp => exact (Reps.one (show Kd.M (Kd.int .i64) _ _ _ 4 [.int .i64 4] from rfl) (Reps.one (show Kd.M (Kd.int .i64) _ _ _ 9 [.int .i64 9] from rfl) (Reps.one (show Kd.M (Kd.int .i64) _ _ _ 20 [.int .i64 20] from rfl) (Reps.none _ _)))))
 intro v482 w16 ho17 hb hg_ hnew_
 clear hg_ hnew_
 (first | rw [← Ny481.out] at ho17 | (simp only [Int.reduceToNat] at ho17; rw [← Ny481.out] at ho17))
 have HO483 := aM (Kd.R_lower (Kd.R_new' ho17 (Kd.R_lt (rr_ HO477.out))) (below_size qz1))
 replace HO477 := aM (Kd.R_elder' (rr_ HO477.out) (Kd.R_base ho17) hb)
 replace BK468 := bB_ BK468 hb
 replace BK480 := bB_ BK480 hb
 replace HB := bS_ hb
 replace HI472 := aM (IsS113.below qz11 hb)
 clear hb ho17
 obtain ⟨Ao18, co18, eo18⟩ := Kd.R_slice HO483.out
 (first | subst eo18 | (injection eo18 with f1_ f2_ f3_; have f4_ := f1_.symm; have f5_ := f3_.symm; clear f1_ f2_ f3_; subst f4_; subst f5_))
 refine hK.out _ _ ⟨(blk_cell BK480.out 0).trans rfl, (blk_cell BK480.out 1).trans rfl, (blk_cell BK480.out 2).trans rfl⟩ (fun hHeld => ?_)
 clear hK K
 refine nm_ 14 ?_
 refine oI_ 5 15 (bqz 9 63) (fun K hK => ?_)
 refine goes_ Try.func81 (by kernel_rfl) rfl #[.pointer (some ⟨g472, 0, none⟩), .slice Ao18 y481.length co18] (by rfl) rfl rfl qz2 ?_
 with_reducible refine (spec_l1Int.calls g472 t469 t478 t479 _ _ y481 t484 t485 t486 w _ ?side1 ?side2 ?side3 ?side4 ?side5 A4.out).mono ?_
 (case side1 => exact qz11)
 (case side2 => exact qz1)
 (case side3 => repeat (first | exact (Kd.R_reads' HO483.out).2.2 | (with_reducible refine Kd.C_alloc ?_ _) | (with_reducible refine Kd.C_drewN ?_ _) | (with_reducible refine Kd.C_drew ?_)))
 (case side4 => exact (Kd.R_reads' HO483.out).2.1)
 (case side5 => exact far_slice (IsS113.own_ne HI472.out HO483.out (by decide)))
 rintro e w19 ⟨rfl, hi, hb, hk⟩
 refine ⟨_, rfl, ?_⟩
 replace BK468 := aM (KeepBut.blk hk (bk_ BK468.out) NB468_472.out (by simp))
 replace HO477 := aM (Kd.R_mono (Kd.R_keep (IsS113.apart (show IsS113 w _ g472 t469 t478 t479 from qz11) (rr_ HO477.out) (by decide)) hk (fun _ h => h.2)) (fun _ h => h.1))
 replace BK480 := aM (KeepBut.blk hk (bk_ BK480.out) NB480_472.out (by simp))
 replace HO483 := aM (Kd.R_mono (Kd.R_keep (IsS113.apart (show IsS113 w _ g472 t469 t478 t479 from qz11) (rr_ HO483.out) (by decide)) hk (fun _ h => h.2)) (fun _ h => h.1))
 replace HB := aM (hb)
 replace HI472 := aM (hi)
 (try clear hb)
 (try clear hb2)
 (try clear hk)
 (try clear hi)
 refine hK.out _ _ ⟨(blk_cell BK480.out 0).trans rfl, (blk_cell BK480.out 1).trans rfl, (blk_cell BK480.out 2).trans rfl⟩ (fun hHeld => ?_)
 clear hK K
 refine nm_ 15 ?_
 refine oI_ 6 16 (bqz 9 127) (fun K hK => ?_)
 refine goes_ Try.func85 (by kernel_rfl) rfl #[.pointer (some ⟨g472, 0, none⟩), .agg #[.int .i64 t473, .int .i64 t474, .slice Ao13 t475.length co13], .int .i64 t484] (by rfl) rfl rfl qz2 ?_
 with_reducible refine (spec_l7Crew.calls k g472 t469 t485 t486 t473 t474 _ _ t475 t484 t487 t490 t491 w _ ?side1 ?side2 ?side3 ?side4 ?side5 A5.out).mono ?_
 (case side1 => exact qz11)
 (case side2 => exact qz1)
 (case side3 => repeat (first | exact (Kd.R_reads' HO477.out).2.2 | (with_reducible refine Kd.C_alloc ?_ _) | (with_reducible refine Kd.C_drewN ?_ _) | (with_reducible refine Kd.C_drew ?_)))
 (case side4 => exact (Kd.R_reads' HO477.out).2.1)
 (case side5 => exact far_slice (IsS113.own_ne HI472.out HO477.out (by decide)))
 rintro e w20 ⟨v488, rfl, ho0, hi, hb, hk⟩
 refine ⟨_, rfl, ?_⟩
 replace BK468 := aM (KeepBut.blk hk (bk_ BK468.out) NB468_472.out (by simp))
 replace HO477 := aM (Kd.R_mono (Kd.R_keep (IsS113.apart (show IsS113 w _ g472 t469 t485 t486 from qz11) (rr_ HO477.out) (by decide)) hk (fun _ h => h.2)) (fun _ h => h.1))
 replace BK480 := aM (KeepBut.blk hk (bk_ BK480.out) NB480_472.out (by simp))
 replace HO483 := aM (Kd.R_mono (Kd.R_keep (IsS113.apart (show IsS113 w _ g472 t469 t485 t486 from qz11) (rr_ HO483.out) (by decide)) hk (fun _ h => h.2)) (fun _ h => h.1))
 have HO489 := aM (Kd.R_lower ho0 (below_size qz1))
 replace HB := aM (hb)
 replace HI472 := aM (hi)
 (try clear hb)
 (try clear hb2)
 (try clear hk)
 (try clear hi)
 (try clear ho0)
 refine hK.out _ _ ⟨(blk_cell BK480.out 0).trans rfl, (blk_cell BK480.out 1).trans rfl, (blk_cell BK480.out 2).trans rfl⟩ (fun hHeld => ?_)
 clear hK K
 refine nm_ 16 ?_
 refine one_ (i := 7) (N := none) (bqz 9 255) rfl rfl qzc (by decide) (fun K hK => ?_)
 have hs21 : w20.cell? ⟨gb468, 0, none⟩ = some (.int .i64 0) := (blk_cell BK468.out 0).trans rfl
 have hfs21 := blk_frozen BK468.out 0
 have hns21_1 := NB480_468.out
 have hms21_1 := NB468_480.out
 have hs22 : w20.cell? ⟨gb468, 1, none⟩ = some (.int .i64 0) := (blk_cell BK468.out 1).trans rfl
 have hfs22 := blk_frozen BK468.out 1
 have hns22_1 := NB480_468.out
 have hms22_1 := NB468_480.out
 have hs23 : w20.cell? ⟨gb468, 2, none⟩ = some (.slice none 0 0) := (blk_cell BK468.out 2).trans rfl
 have hfs23 := blk_frozen BK468.out 2
 have hns23_1 := NB480_468.out
 have hms23_1 := NB468_480.out
 refine sk_ ?_
 refine hK.out _ _ ⟨((cell_far (p := ⟨gb468, _, none⟩) NB480_468.out _).trans (((cell_far (p := ⟨gb468, _, none⟩) NB480_468.out _).trans (((cell_far (p := ⟨gb468, _, none⟩) NB480_468.out _).trans (hHeld.1)))))), ((cell_far (p := ⟨gb468, _, none⟩) NB480_468.out _).trans (((cell_far (p := ⟨gb468, _, none⟩) NB480_468.out _).trans (((cell_far (p := ⟨gb468, _, none⟩) NB480_468.out _).trans (hHeld.2.1)))))), ((cell_far (p := ⟨gb468, _, none⟩) NB480_468.out _).trans (((cell_far (p := ⟨gb468, _, none⟩) NB480_468.out _).trans (((cell_far (p := ⟨gb468, _, none⟩) NB480_468.out _).trans (hHeld.2.2))))))⟩ (fun hHeld => ?_)
 clear hK K
 refine jI_ 8 3 ?_
 refine done_ (done_of HT_.out (by kernel_rfl)) ?_
 try go_wp2
 refine bodyPost_ret (results_ct rfl _ _ gb468 43 #[.int .i64 t473, .int .i64 t474, .slice Ao13 t475.length co13] (0, 0) _ rfl (by (with_reducible repeat (first | refine blk_drewN ?_ _ | refine blk_drew ?_ | refine blk_alloc ?_ _)); refine blk_put (cs := #[.int .i64 t473, .int .i64 t474, .slice none 0 0]) ?_ 2 _ rfl; (with_reducible repeat (first | refine blk_drewN ?_ _ | refine blk_drew ?_ | refine blk_alloc ?_ _)); refine blk_put (cs := #[.int .i64 t473, .int .i64 0, .slice none 0 0]) ?_ 1 _ rfl; (with_reducible repeat (first | refine blk_drewN ?_ _ | refine blk_drew ?_ | refine blk_alloc ?_ _)); refine blk_put (cs := #[.int .i64 0, .int .i64 0, .slice none 0 0]) ?_ 0 _ rfl; exact bk_ BK468.out) Try.underlying43 rfl (by kernel_rfl)) rfl ?_
 exact ⟨_, _, qzw, by (with_reducible repeat (first | apply Kd.R_alloc | apply Kd.R_drewN | apply Kd.R_drew)); exact Kd.R_mono (Kd.R_far (p := ⟨gb468, 2, none⟩) (Kd.R_far (p := ⟨gb468, 1, none⟩) (Kd.R_far (p := ⟨gb468, 0, none⟩) (Kd.R_types HO477.out BK468.out (by decide)) (fun _ hk => hk.2) (.int .i64 t473)) (fun _ hk => hk.2) (.int .i64 t474)) (fun _ hk => hk.2) (.slice Ao13 t475.length co13)) (fun _ hk => trivial), by (with_reducible repeat (first | apply Kd.R_alloc | apply Kd.R_drewN | apply Kd.R_drew)); exact Kd.R_mono (Kd.R_far (p := ⟨gb468, 2, none⟩) (Kd.R_far (p := ⟨gb468, 1, none⟩) (Kd.R_far (p := ⟨gb468, 0, none⟩) (Kd.R_types HO489.out BK468.out (by decide)) (fun _ hk => hk.2) (.int .i64 t473)) (fun _ hk => hk.2) (.int .i64 t474)) (fun _ hk => hk.2) (.slice Ao13 t475.length co13)) (fun _ hk => trivial), qz1⟩

/-! ### impl_copyCrew: function 86 -/
def impl_copyCrew.f (l0 : List (S37)) : Option ((List (S37))) := if ([] : List (S37)).length + l0.length < 3518437208883 then (some (([] : List (S37)) ++ l0)) else (none)
set_option maxHeartbeats 8000000 in
set_option maxRecDepth 100000 in
theorem impl_copyCrew.calls (A0 : Option Addr) (c0 : Nat) (l0 : List (S37)) (r : List (S37)) (w : World) (hr0 : Kd.C k37 w A0 l0.length l0) (hc0 : l0.length ≤ c0) (h : impl_copyCrew.f l0 = some r) :
  Calls Try.prog 86 #[.slice A0 l0.length c0] w fun e w' => ∃ v0_ : Value, e = .returned (v0_) ∧ Kd.R k37 37 w' w.heap.size (fun _ => True) v0_ r ∧ Below w.heap.size w w' := by
 have HR0 := aM hr0
 have HC0 := aM hc0
 clear hr0 hc0
 have HB := aM (Below.refl w.heap.size w)
 unfold impl_copyCrew.f at h
 have H := h
 clear h
 replace H := iN_ H
 obtain ⟨c2, H⟩ := H
 have LMc2 := aM c2
 clear c2
 obtain ⟨y492, hy492⟩ : ∃ y_ : List (S37), y_ = (([] : List (S37)) ++ l0) := ⟨_, rfl⟩
 replace H : (some y492) = some r := by first | (rw [hy492]; exact H) | exact H
 have Ny492 := aM hy492
 clear hy492
 obtain rfl := Option.some.inj H
 go_enter Try.func86, Try.ntmps86
 go_wp2_with (first | ((with_reducible refine gate_builtin (b := .append) (xs := #[.const (.slice none 0 0), .tmp 3]) rfl ?_); at_builtin; refine Kd.R_append_rows k37 (w0 := w) w.heap.size rfl (.const (.slice none 0 0)) (.tmp 3) 26 37 (.agg #[(.int .i64 0), (.int .i64 0), (.int .i64 0), (.bool false), (.int .i64 0)]) 40 rfl Try.underlying26 info37 rfl (by decide) (by omega) (.slice none 0 0) ([] : List (S37)) l0 _ _ _ (fun _ => True) (fun _ => False) rfl rfl ?aO ?aR (fun _ _ h => h) (fun _ h => h.elim) ?aF ?aB ?aS ?aL ?_; (case aR => exact qz14); (case aB => exact qz1); (case aF => exact qz21); (case aO => exact ((Kd.R_nil _ _ _ _ (fun _ => True)))); (case aS => exact qz33); (case aL => have := LMc2.out; omega); intro v493 w3 ho hb hg hat; rw [← Ny492.out] at ho; replace HB := aM (hb); have HO494 := aM (ho); clear ho hb hg hat))
 go_ret
 exact ⟨_, qzw, by (with_reducible repeat (first | apply Kd.R_alloc | apply Kd.R_drewN | apply Kd.R_drew)); exact HO494.out, qz1⟩
/-! ### impl_rests: function 87 -/
def impl_rests.f (a0_0 : Int) (a0_1 : Int) (a0_2 : Int) (a0_3 : Bool) (a0_4 : Int) : Option (Bool) := if a0_2 = (-1) then (some true) else (some (a0_1 == a0_2))
set_option maxHeartbeats 8000000 in
set_option maxRecDepth 100000 in
theorem impl_rests.calls (a0_0 : Int) (a0_1 : Int) (a0_2 : Int) (a0_3 : Bool) (a0_4 : Int) (r : Bool) (w : World) (h : impl_rests.f a0_0 a0_1 a0_2 a0_3 a0_4 = some r) :
  Calls Try.prog 87 #[.agg #[.int .i64 a0_0, .int .i64 a0_1, .int .i64 a0_2, .bool a0_3, .int .i64 a0_4]] w fun e w' => e = .returned (.bool r) ∧ Below w.heap.size w w' := by
 have hu37 := Try.underlying37
 have HB := aM (Below.refl w.heap.size w)
 unfold impl_rests.f at h
 have H := h
 clear h
 replace H := iQ_ H
 rcases H with ⟨c2b0, c2b1, H⟩ | ⟨c2, c2b0, c2b1, H⟩
 {
 obtain rfl := Option.some.inj H
 go_enter Try.func87, Try.ntmps87
 go_wp2_with (first | ((with_reducible refine gate_dst (N := 1) rfl ?_); refine bx_ 1 #[.int .i64 a0_0, .int .i64 a0_1, .int .i64 a0_2, .bool a0_3, .int .i64 a0_4] 37 ?_; intro gb495 hg w3 hbox hb; have BK495 := aM (hbox); have GW495 := aM (bz_ w hg qz1); have GE495 := GW495; replace HB := bS_ hb; clear hb hbox hg; obtain ⟨hcz4_0, hcz4_1, hcz4_2, hcz4_3, hcz4_4, hfz4_0, hfz4_1, hfz4_2, hfz4_3, hfz4_4⟩ := b10_ BK495.out))
 go_ret
 exact ⟨qzw, qz1⟩
 }
 {
 obtain rfl := Option.some.inj H
 go_enter Try.func87, Try.ntmps87
 go_wp2_with (first | ((with_reducible refine gate_dst (N := 1) rfl ?_); refine bx_ 1 #[.int .i64 a0_0, .int .i64 a0_1, .int .i64 a0_2, .bool a0_3, .int .i64 a0_4] 37 ?_; intro gb495 hg w5 hbox hb; have BK495 := aM (hbox); have GW495 := aM (bz_ w hg qz1); have GE495 := GW495; replace HB := bS_ hb; clear hb hbox hg; obtain ⟨hcz6_0, hcz6_1, hcz6_2, hcz6_3, hcz6_4, hfz6_0, hfz6_1, hfz6_2, hfz6_3, hfz6_4⟩ := b10_ BK495.out))
 go_ret
 exact ⟨qzw, qz1⟩
 }
/-! ### impl_Advance: function 44 -/
theorem min_if37 (x : Int) : (if 1000000 < x then 1000000 else x) = min x 1000000 := by split <;> omega
theorem k37_at {W : World} {base g n cap : Nat} {ok : Nat → Prop} {xs : List S37} (h : Kd.R k37 37 W base ok (.slice (some ⟨g, 0, none⟩) n cap) xs) (i : Int) (h0 : 0 ≤ i) (h1 : i < n) : W.cell? ⟨g, i.toNat * 5, none⟩ = some (.int .i64 (rd_T37 xs i).f0) ∧ W.cell? ⟨g, i.toNat * 5 + 1, none⟩ = some (.int .i64 (rd_T37 xs i).f1) ∧ W.cell? ⟨g, i.toNat * 5 + 2, none⟩ = some (.int .i64 (rd_T37 xs i).f2) ∧ W.cell? ⟨g, i.toNat * 5 + 3, none⟩ = some (.bool (rd_T37 xs i).f3) ∧ W.cell? ⟨g, i.toNat * 5 + 4, none⟩ = some (.int .i64 (rd_T37 xs i).f4) ∧ W.frozen? ⟨g, i.toNat * 5 + 1, none⟩ = false ∧ W.frozen? ⟨g, i.toNat * 5 + 4, none⟩ = false := by
 obtain ⟨c, hcl, hM, hcc, hfr⟩ := Kd.R_elem h z37 i h0 h1
 obtain rfl := k37_openM hM
 exact ⟨hcc 0 _ rfl, hcc 1 _ rfl, hcc 2 _ rfl, hcc 3 _ rfl, hcc 4 _ rfl, hfr 1, hfr 4⟩
theorem k37_f1 {W : World} {base g n cap : Nat} {ok : Nat → Prop} {xs : List S37} (h : Kd.R k37 37 W base ok (.slice (some ⟨g, 0, none⟩) n cap) xs) (i : Int) (h0 : 0 ≤ i) (h1 : i < n) (v : Int) : Kd.R k37 37 (W.setCell ⟨g, i.toNat * 5 + 1, none⟩ (.int .i64 v)) base ok (.slice (some ⟨g, 0, none⟩) n cap) (xs.set i.toNat { rd_T37 xs i with f1 := v }) := by
 obtain ⟨c, hcl, hM, hcc, hfr⟩ := Kd.R_elem h z37 i h0 h1
 obtain rfl := k37_openM hM
 exact (Kd.R_seg h i h0 h1 (seg := [.int .i64 v]) (j := 1) (x' := { rd_T37 xs i with f1 := v }) (okp := fun k => ok k ∧ k ≠ g) hcl hcc (by show 1 + 1 ≤ 5; decide) (k37_mkM W base _ { rd_T37 xs i with f1 := v }) (fun _ h => h)).1
theorem k37_f1s {W : World} {base g n cap : Nat} {ok : Nat → Prop} {xs : List S37} {y : S37} {i : Int} (h : Kd.R k37 37 W base ok (.slice (some ⟨g, 0, none⟩) n cap) (xs.set i.toNat y)) (h0 : 0 ≤ i) (h1 : i < n) (v : Int) : Kd.R k37 37 (W.setCell ⟨g, i.toNat * 5 + 1, none⟩ (.int .i64 v)) base ok (.slice (some ⟨g, 0, none⟩) n cap) (xs.set i.toNat { y with f1 := v }) := by
 have h2 := k37_f1 h i h0 h1 v
 have hn := (Kd.R_reads' h).1
 rw [List.length_set] at hn
 have e : rd_T37 (xs.set i.toNat y) i = y := by unfold rd_T37; rw [List.getD_eq_getElem?_getD, List.getElem?_set_self (by omega)]; rfl
 rw [e, List.set_set] at h2
 exact h2
theorem k37_f4 {W : World} {base g n cap : Nat} {ok : Nat → Prop} {xs : List S37} (h : Kd.R k37 37 W base ok (.slice (some ⟨g, 0, none⟩) n cap) xs) (i : Int) (h0 : 0 ≤ i) (h1 : i < n) (v : Int) : Kd.R k37 37 (W.setCell ⟨g, i.toNat * 5 + 4, none⟩ (.int .i64 v)) base ok (.slice (some ⟨g, 0, none⟩) n cap) (xs.set i.toNat { rd_T37 xs i with f4 := v }) := by
 obtain ⟨c, hcl, hM, hcc, hfr⟩ := Kd.R_elem h z37 i h0 h1
 obtain rfl := k37_openM hM
 exact (Kd.R_seg h i h0 h1 (seg := [.int .i64 v]) (j := 4) (x' := { rd_T37 xs i with f4 := v }) (okp := fun k => ok k ∧ k ≠ g) hcl hcc (by show 4 + 1 ≤ 5; decide) (k37_mkM W base _ { rd_T37 xs i with f4 := v }) (fun _ h => h)).1
theorem k37_f4s {W : World} {base g n cap : Nat} {ok : Nat → Prop} {xs : List S37} {y : S37} {i : Int} (h : Kd.R k37 37 W base ok (.slice (some ⟨g, 0, none⟩) n cap) (xs.set i.toNat y)) (h0 : 0 ≤ i) (h1 : i < n) (v : Int) : Kd.R k37 37 (W.setCell ⟨g, i.toNat * 5 + 4, none⟩ (.int .i64 v)) base ok (.slice (some ⟨g, 0, none⟩) n cap) (xs.set i.toNat { y with f4 := v }) := by
 have h2 := k37_f4 h i h0 h1 v
 have hn := (Kd.R_reads' h).1
 rw [List.length_set] at hn
 have e : rd_T37 (xs.set i.toNat y) i = y := by unfold rd_T37; rw [List.getD_eq_getElem?_getD, List.getElem?_set_self (by omega)]; rfl
 rw [e, List.set_set] at h2
 exact h2
theorem rd_set37 {xs : List S37} {i : Int} {y : S37} (h : i.toNat < xs.length) : rd_T37 (xs.set i.toNat y) i = y := by unfold rd_T37; rw [List.getD_eq_getElem?_getD, List.getElem?_set_self h]; rfl
def impl_Advance.one (r : S37) (v : Int) : S37 := if r.f2 = -1 ∨ v = r.f2 then ⟨r.f0, v, r.f2, r.f3, 0⟩ else ⟨r.f0, v, r.f2, r.f3, min (wrap64 (r.f4 + 1)) 1000000⟩
def impl_Advance.l0 : Nat → List S37 → List Int → Int → Option (List S37)
 | 0, _, _, _ => none
 | k + 1, out, nx, i => if i < (nx.length : Int) then (if 0 ≤ i then (if i < (out.length : Int) then impl_Advance.l0 k (out.set i.toNat (impl_Advance.one (rd_T37 out i) (rd nx i))) nx (wrap64 (i + 1)) else none) else none) else some out
def impl_Advance.f (k : Nat) (W H : Int) (cs : List Int) (crew : List S37) : Option (List S37) :=
 (impl_copyCrew.f crew).bind fun out => (impl_CrewOk.f k W H cs crew).bind fun b => if b = true then ((impl_Step.f k W H cs crew).bind fun nx => if nx.length ≤ 20 then impl_Advance.l0 k out nx 0 else none) else some out
theorem impl_Advance.mono_l : ∀ k, (∀ y0 y1 y2, LeO (impl_Advance.l0 k y0 y1 y2) (impl_Advance.l0 (k + 1) y0 y1 y2))
 | 0 => fun _ _ _ r h => by simp [impl_Advance.l0] at h
 | k + 1 => by
  have ih0 := impl_Advance.mono_l k
  intro y0 y1 y2
  unfold impl_Advance.l0
  exact qL
theorem impl_Advance.mono : ∀ a0 a1 a2 a3 k, LeO (impl_Advance.f k a0 a1 a2 a3) (impl_Advance.f (k + 1) a0 a1 a2 a3) := by
 intro a0 a1 a2 a3 k
 unfold impl_Advance.f
 repeat' first
  | (with_reducible first | exact impl_Advance.mono_l k _ _ _ | exact impl_CrewOk.mono _ _ _ _ _ | exact impl_Step.mono _ _ _ _ _ | exact LeO.refl _ | exact LeO.none _ | refine LeO.ite ?_ ?_ | refine LeO.bind ?_ (fun _ => ?_))
set_option maxHeartbeats 16000000 in
set_option maxRecDepth 100000 in
theorem impl_Advance.callsN (k : Nat) (a0_0 a0_1 : Int) (A0_2 : Option Addr) (c0_2 : Nat) (l0_2 : List Int) (A1 : Option Addr) (c1 : Nat) (l1 r : List S37) (w : World) (hr0_2 : Kd.C (Kd.int .i64) w A0_2 l0_2.length l0_2) (hc0_2 : l0_2.length ≤ c0_2) (hr1 : Kd.C k37 w A1 l1.length l1) (hc1 : l1.length ≤ c1) (ho : impl_copyCrew.f l1 = some r) (hk : impl_CrewOk.f k a0_0 a0_1 l0_2 l1 = some false) :
  Calls Try.prog 44 #[.agg #[.int .i64 a0_0, .int .i64 a0_1, .slice A0_2 l0_2.length c0_2], .slice A1 l1.length c1] w fun e w' => ∃ v0_ : Value, e = .returned v0_ ∧ Kd.R k37 37 w' w.heap.size (fun _ => True) v0_ r ∧ Below w.heap.size w w' := by
 have HO := aM ho
 have HK := aM hk
 clear ho hk
 have hu43 := Try.underlying43
 have hu37 := Try.underlying37
 have hu26 := Try.underlying26
 have hu24 := Try.underlying24
 have HF := aM hr0_2
 have HCF := aM hc0_2
 have HR := aM hr1
 have HCR := aM hc1
 clear hr0_2 hc0_2 hr1 hc1
 have HB := aM (Below.refl w.heap.size w)
 go_enter Try.func44, Try.ntmps44
 go_wp2_with (first
  | ((with_reducible refine gate_dst (N := 2) rfl ?_); refine box_event rfl (N := 2) rfl (cs := #[.int .i64 a0_0, .int .i64 a0_1, .slice A0_2 l0_2.length c0_2]) (t := 43) ?hr ?_; (case hr => exact qz8); intro b2 hg w1 hbx hb; have BK2 := aM hbx; replace HB := aM (below_step HB.out hb); clear hb hbx hg; have z0 := c3_0 BK2.out; have z1 := c3_1 BK2.out; have z2 := c3_2 BK2.out)
  | (go_at_call 86; (with_reducible refine (impl_copyCrew.calls _ _ l1 r _ (Kd.C_below HR.out HB.out) HCR.out HO.out).mono ?_); rintro e w2 ⟨vo, rfl, ho, hb⟩; have HOU := aM (Kd.R_lower ho (below_size HB.out)); obtain ⟨Ao, co, rfl⟩ := Kd.R_slice ho; replace BK2 := aM (blk_below BK2.out hb); replace HB := aM (below_step HB.out hb); clear hb ho; replace z0 := c3_0 BK2.out; replace z1 := c3_1 BK2.out; replace z2 := c3_2 BK2.out)
  | (go_at_call 45; (with_reducible refine (impl_CrewOk.calls k a0_0 a0_1 _ _ l0_2 _ _ l1 false _ (Kd.C_below HF.out HB.out) HCF.out (Kd.C_below HR.out HB.out) HCR.out HK.out).mono ?_); rintro e w3 ⟨rfl, hb⟩; replace BK2 := aM (blk_below BK2.out hb); replace HOU := aM (Kd.R_below HOU.out hb); replace HB := aM (below_step HB.out hb); clear hb; replace z0 := c3_0 BK2.out; replace z1 := c3_1 BK2.out; replace z2 := c3_2 BK2.out))
 go_ret
 exact ⟨_, rfl, HOU.out, HB.out⟩
set_option maxHeartbeats 16000000 in
set_option maxRecDepth 100000 in
theorem impl_Advance.callsM (k : Nat) (a0_0 a0_1 : Int) (A0_2 : Option Addr) (c0_2 : Nat) (l0_2 : List Int) (A1 : Option Addr) (c1 : Nat) (l1 r : List S37) (w : World) (hr0_2 : Kd.C (Kd.int .i64) w A0_2 l0_2.length l0_2) (hc0_2 : l0_2.length ≤ c0_2) (hr1 : Kd.C k37 w A1 l1.length l1) (hc1 : l1.length ≤ c1) (out : List S37) (ho : impl_copyCrew.f l1 = some out) (hk : impl_CrewOk.f k a0_0 a0_1 l0_2 l1 = some true) (nx : List Int) (hs : impl_Step.f k a0_0 a0_1 l0_2 l1 = some nx) (h20 : nx.length ≤ 20) (h : impl_Advance.l0 k out nx 0 = some r) :
  Calls Try.prog 44 #[.agg #[.int .i64 a0_0, .int .i64 a0_1, .slice A0_2 l0_2.length c0_2], .slice A1 l1.length c1] w fun e w' => ∃ v0_ : Value, e = .returned v0_ ∧ Kd.R k37 37 w' w.heap.size (fun _ => True) v0_ r ∧ Below w.heap.size w w' := by
 have HS := aM hs
 have H20 := aM h20
 have H' := aM h
 clear hs h20 h
 have HO := aM ho
 have HK := aM hk
 clear ho hk
 have hu43 := Try.underlying43
 have hu37 := Try.underlying37
 have hu26 := Try.underlying26
 have hu24 := Try.underlying24
 have HF := aM hr0_2
 have HCF := aM hc0_2
 have HR := aM hr1
 have HCR := aM hc1
 clear hr0_2 hc0_2 hr1 hc1
 have HB := aM (Below.refl w.heap.size w)
 go_enter Try.func44, Try.ntmps44
 go_wp2_with (first
  | ((with_reducible refine gate_dst (N := 2) rfl ?_); refine box_event rfl (N := 2) rfl (cs := #[.int .i64 a0_0, .int .i64 a0_1, .slice A0_2 l0_2.length c0_2]) (t := 43) ?hr ?_; (case hr => exact qz8); intro b2 hg w1 hbx hb; have BK2 := aM hbx; replace HB := aM (below_step HB.out hb); clear hb hbx hg; have z0 := c3_0 BK2.out; have z1 := c3_1 BK2.out; have z2 := c3_2 BK2.out)
  | (go_at_call 86; (with_reducible refine (impl_copyCrew.calls _ _ l1 out _ (Kd.C_below HR.out HB.out) HCR.out HO.out).mono ?_); rintro e w2 ⟨vo, rfl, ho, hb⟩; have HOU := aM (Kd.R_lower ho (below_size HB.out)); obtain ⟨Ao, co, rfl⟩ := Kd.R_slice ho; replace BK2 := aM (blk_below BK2.out hb); replace HB := aM (below_step HB.out hb); clear hb ho; replace z0 := c3_0 BK2.out; replace z1 := c3_1 BK2.out; replace z2 := c3_2 BK2.out)
  | (go_at_call 45; (with_reducible refine (impl_CrewOk.calls k a0_0 a0_1 _ _ l0_2 _ _ l1 true _ (Kd.C_below HF.out HB.out) HCF.out (Kd.C_below HR.out HB.out) HCR.out HK.out).mono ?_); rintro e w3 ⟨rfl, hb⟩; replace BK2 := aM (blk_below BK2.out hb); replace HOU := aM (Kd.R_below HOU.out hb); replace HB := aM (below_step HB.out hb); clear hb; replace z0 := c3_0 BK2.out; replace z1 := c3_1 BK2.out; replace z2 := c3_2 BK2.out)
  | (go_at_call 42; (with_reducible refine (impl_Step.calls k a0_0 a0_1 _ _ l0_2 _ _ l1 nx _ (Kd.C_below HF.out HB.out) HCF.out (Kd.C_below HR.out HB.out) HCR.out HS.out).mono ?_); rintro e w4 ⟨vn, rfl, hn, hb⟩; have HN := aM (Kd.R_lower hn (below_size HB.out)); obtain ⟨An, cn, rfl⟩ := Kd.R_slice hn; replace HOU := aM (Kd.R_below HOU.out hb); replace HB := aM (below_step HB.out hb); clear hb hn z0 z1 z2))
 obtain ⟨n, hn⟩ : ∃ n : Nat, n = out.length := ⟨_, rfl⟩
 rw [← hn] at HOU ⊢
 clear hn
 go_loopg [20] k (fun kq v20 wl => ∃ (xs : List S37) (i : Int), v20 = .int .i64 i ∧ Aside0 (impl_Advance.l0 kq xs nx i = some r) ∧ Aside0 (kq ≤ k) ∧ Aside0 (Kd.R k37 37 wl w.heap.size (fun _ => True) (.slice Ao n co) xs) ∧ Aside0 (Kd.R (Kd.int .i64) 3 wl w.heap.size (fun _ => True) (.slice An nx.length cn) nx) ∧ Aside0 (Below w.heap.size w wl))
 case atStart => exact ⟨out, 0, rfl, H', ⟨Nat.le_refl _⟩, HOU, HN, HB⟩
 case round =>
 clear H' HOU HN HB BK2
 obtain ⟨xs, i, rfl, HA, HKQ, HX, HN, HB⟩ := hrel
 cases gk with
 | zero => exact absurd HA.out (by simp [impl_Advance.l0])
 | succ k1 =>
 have H_ := HA.out
 clear HA
 simp only [impl_Advance.l0] at H_
 by_cases e1 : i < (nx.length : Int)
 case neg =>
  rw [if_neg e1] at H_
  obtain rfl := Option.some.inj H_
  have d1 : decide (i < (nx.length : Int)) = false := decide_eq_false e1
  go_wp2
  go_ret
  exact ⟨_, rfl, HX.out, HB.out⟩
 rw [if_pos e1] at H_
 have d1 : decide (i < (nx.length : Int)) = true := decide_eq_true e1
 by_cases e2 : 0 ≤ i
 case neg => rw [if_neg e2] at H_; cases H_
 rw [if_pos e2] at H_
 by_cases e3_ : i < (xs.length : Int)
 case neg => rw [if_neg e3_] at H_; cases H_
 rw [if_pos e3_] at H_
 have ew : wrap64 (i + 1) = i + 1 := by have := H20.out; unfold wrap64; omega
 rw [ew] at H_
 clear ew
 have i20 : i < 20 := by have := H20.out; omega
 have hnx := (Kd.R_reads' HX.out).1
 obtain ⟨g, cap, eg, hgb, _, gc, hgc⟩ := Kd.R_form HX.out (by omega)
 injection eg with ea_ en_ ec_
 subst ea_
 subst ec_
 have e3 : i < (n : Int) := by omega
 have EL := aM (show i.toNat < xs.length by omega)
 have GB := aM hgb
 have GC := aM hgc
 clear en_ hnx e3_ hgb hgc
 obtain ⟨adn, en, xn⟩ := Kd.at_int (Kd.R_reads' HN.out).2.2 i e2 e1
 subst en
 obtain ⟨v, hv⟩ : ∃ v : Int, v = rd nx i := ⟨_, rfl⟩
 rw [← hv] at xn H_
 clear hv
 obtain ⟨x0, x1, x2, x3, x4, f1, f4⟩ := k37_at HX.out i e2 e3
 clear x0 x2 x3 x4 f4
 go_upto_region 9 with (fail)
 have HX1 := aM (k37_f1 HX.out i e2 e3 v)
 have HN1 := aM (Kd.R_set HN.out GC.out (by decide) (i.toNat * 5 + 1) (.int .i64 v))
 have GC1 := aM (blk_set GC.out (i.toNat * 5 + 1) (.int .i64 v))
 have HB1 := aM (below_set (g := g) (j := i.toNat * 5 + 1) (v := .int .i64 v) HB.out GB.out)
 generalize wr.setCell ⟨g, i.toNat * 5 + 1, none⟩ (.int .i64 v) = w5 at HX1 HN1 GC1 HB1 ⊢
 clear HX HN GC HB x1 f1 xn
 obtain ⟨y, hy⟩ : ∃ y : S37, y = { rd_T37 xs i with f1 := v } := ⟨_, rfl⟩
 rw [← hy] at HX1
 have YY := aM hy
 clear hy
 have X1 := k37_at HX1.out i e2 e3
 rw [rd_set37 EL.out] at X1
 obtain ⟨x0, x1, x2, x3, x4, f1, f4⟩ := X1
 clear x0 x1 x2 x3 f1
 go_upto_region 10 with (fail)
 obtain ⟨m, hm⟩ : ∃ m : Int, m = min (wrap64 (y.f4 + 1)) 1000000 := ⟨_, rfl⟩
 (try rw [min_if37 (wrap64 (y.f4 + 1))])
 rw [← hm]
 have HX2 := aM (k37_f4s HX1.out e2 e3 m)
 have HN2 := aM (Kd.R_set HN1.out GC1.out (by decide) (i.toNat * 5 + 4) (.int .i64 m))
 have GC2 := aM (blk_set GC1.out (i.toNat * 5 + 4) (.int .i64 m))
 have HB2 := aM (below_set (g := g) (j := i.toNat * 5 + 4) (v := .int .i64 m) HB1.out GB.out)
 generalize w5.setCell ⟨g, i.toNat * 5 + 4, none⟩ (.int .i64 m) = w6 at HX2 HN2 GC2 HB2 ⊢
 clear HX1 HN1 GC1 HB1 x4 f4
 obtain ⟨z, hz⟩ : ∃ z : S37, z = { y with f4 := m } := ⟨_, rfl⟩
 rw [← hz] at HX2
 have X2 := k37_at HX2.out i e2 e3
 rw [rd_set37 EL.out] at X2
 obtain ⟨x0, x1, x2, x3, x4, f1, f4⟩ := X2
 clear f1
 have ZZ := aM (show z = { rd_T37 xs i with f1 := v, f4 := min (wrap64 ((rd_T37 xs i).f4 + 1)) 1000000 } by rw [hz, hm, YY.out])
 clear hz hm YY
 by_cases e5 : (rd_T37 xs i).f2 = -1 ∨ v = (rd_T37 xs i).f2
 {
 have HRS := aM (show impl_rests.f z.f0 z.f1 z.f2 z.f3 z.f4 = some true by
  rw [ZZ.out]
  unfold impl_rests.f
  split
  next => rfl
  next e6 => simp [e5.resolve_left e6])
 have ON := aM (show impl_Advance.one (rd_T37 xs i) v = { z with f4 := 0 } by rw [ZZ.out]; unfold impl_Advance.one; rw [if_pos e5])
 have H' := aM H_
 clear H_ e5
 go_wp2_with (go_at_call 87; (with_reducible refine (impl_rests.calls _ _ _ _ _ true _ HRS.out).mono ?_); rintro e w7 ⟨rfl, hb⟩; replace HX2 := aM (Kd.R_below HX2.out hb); replace HN2 := aM (Kd.R_below HN2.out hb); replace GC2 := aM (blk_below GC2.out hb); replace HB2 := aM (below_step HB2.out hb); clear hb x0 x1 x2 x3 x4 f4; have X3 := k37_at HX2.out i e2 e3; rw [rd_set37 EL.out] at X3; obtain ⟨x0, x1, x2, x3, x4, f1, f4⟩ := X3; clear x0 x1 x2 x3 f1)
 go_roundg k1
 case measure => have := HKQ.out; omega
 case rel => exact ⟨_, i + 1, rfl, ⟨by rw [ON.out] at H'; exact H'.out⟩, ⟨by have := HKQ.out; omega⟩, ⟨k37_f4s HX2.out e2 e3 0⟩, ⟨Kd.R_set HN2.out GC2.out (by decide) _ _⟩, ⟨below_set HB2.out GB.out⟩⟩
 }
 {
 have HRS := aM (show impl_rests.f z.f0 z.f1 z.f2 z.f3 z.f4 = some false by
  rw [ZZ.out]
  unfold impl_rests.f
  rw [if_neg (fun h => e5 (Or.inl h))]
  simp only [Option.some.injEq, beq_eq_false_iff_ne, ne_eq]
  exact fun h => e5 (Or.inr h))
 have ON := aM (show impl_Advance.one (rd_T37 xs i) v = z by rw [ZZ.out]; unfold impl_Advance.one; rw [if_neg e5])
 have H' := aM H_
 clear H_ e5
 go_wp2_with (go_at_call 87; (with_reducible refine (impl_rests.calls _ _ _ _ _ false _ HRS.out).mono ?_); rintro e w7 ⟨rfl, hb⟩; replace HX2 := aM (Kd.R_below HX2.out hb); replace HN2 := aM (Kd.R_below HN2.out hb); replace HB2 := aM (below_step HB2.out hb); clear hb x0 x1 x2 x3 x4 f4)
 go_roundg k1
 case measure => have := HKQ.out; omega
 case rel => exact ⟨_, i + 1, rfl, ⟨by rw [ON.out] at H'; exact H'.out⟩, ⟨by have := HKQ.out; omega⟩, HX2, HN2, HB2⟩
 }
theorem impl_Advance.calls (k : Nat) (a0_0 a0_1 : Int) (A0_2 : Option Addr) (c0_2 : Nat) (l0_2 : List Int) (A1 : Option Addr) (c1 : Nat) (l1 r : List S37) (w : World) (hr0_2 : Kd.C (Kd.int .i64) w A0_2 l0_2.length l0_2) (hc0_2 : l0_2.length ≤ c0_2) (hr1 : Kd.C k37 w A1 l1.length l1) (hc1 : l1.length ≤ c1) (h : impl_Advance.f k a0_0 a0_1 l0_2 l1 = some r) :
  Calls Try.prog 44 #[.agg #[.int .i64 a0_0, .int .i64 a0_1, .slice A0_2 l0_2.length c0_2], .slice A1 l1.length c1] w fun e w' => ∃ v0_ : Value, e = .returned v0_ ∧ Kd.R k37 37 w' w.heap.size (fun _ => True) v0_ r ∧ Below w.heap.size w w' := by
 unfold impl_Advance.f at h
 obtain ⟨out, ho, h⟩ := Option.bind_eq_some_iff.mp h
 obtain ⟨b, hk, h⟩ := Option.bind_eq_some_iff.mp h
 cases b with
 | false =>
  rw [if_neg (by decide)] at h
  obtain rfl := Option.some.inj h
  exact impl_Advance.callsN k a0_0 a0_1 A0_2 c0_2 l0_2 A1 c1 l1 _ w hr0_2 hc0_2 hr1 hc1 ho hk
 | true =>
  rw [if_pos rfl] at h
  obtain ⟨nx, hs, h⟩ := Option.bind_eq_some_iff.mp h
  by_cases h20 : nx.length ≤ 20
  {
  rw [if_pos h20] at h
  exact impl_Advance.callsM k a0_0 a0_1 A0_2 c0_2 l0_2 A1 c1 l1 r w hr0_2 hc0_2 hr1 hc1 out ho hk nx hs h20 h
  }
  {
  rw [if_neg h20] at h; cases h
  }
end Go.Proofs.Ytankmdbbgepmbaa.PFnStep
