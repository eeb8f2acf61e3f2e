-- Made by a program of this session out of the translation. Lean checks it.
import Derived.Test.YtankmdbbgepmbaaPFnDrivenx5
namespace Go.Proofs.Ytankmdbbgepmbaa.PFnDriven
open Go.RowKit Go.Proofs.YtankmdbbgepmbaaW.PrintWords Go.Proofs.YtankmdbbgepmbaaW.PrintLast Go.Proofs.YtankmdbbgepmbaaW.PrintMore
attribute [local go_sem] max2_int min2_int max_two min_two max_three min_three max_four min_four   -- for this text's walks alone
set_option linter.unusedVariables false
set_option linter.unusedSimpArgs false

/-! ### spec_DrawCrew: function 43 -/
def spec_DrawCrew.f (k : Nat) (l0 : List Int) : Option (Int × Int × List Int × (List (S37))) := (spec_l1New.f k l0).bind fun bt195 => ((spec_l1Floor.f k bt195.1 bt195.2.1 bt195.2.2).bind fun bt199 => ((spec_l1Int.f bt195.1 bt199.2.2.2.1 bt199.2.2.2.2 (([4, 9, 20] : List Int))).bind fun bt210 => ((spec_l7Crew.f k bt195.1 bt210.2.1 bt210.2.2 bt199.1 bt199.2.1 bt199.2.2.1 bt210.1).bind fun bt213 => (some (bt199.1, bt199.2.1, bt199.2.2.1, bt213.1)))))
theorem spec_DrawCrew.mono : ∀ a0 k, LeO (spec_DrawCrew.f k a0) (spec_DrawCrew.f (k + 1) a0) := by
 intro a0 k
 unfold spec_DrawCrew.f
 have j0 := @spec_l1Floor.mono
 have j1 := @spec_l1New.mono
 have j2 := @spec_l7Crew.mono
 exact qL
def spec_DrawCrew.T3 : Bool × List (List Nat × List Nat) := (true, [([], []), ([], []), ([], []), ([], []), ([], []), ([3, 4], [3, 4]), ([1, 2, 5, 5], [1, 2, 5]), ([0, 6, 0], [0]), ([6, 7, 0, 1, 2, 3, 4, 5, 6, 7], [6])])
def spec_DrawCrew.B3 : List Nat := [0, 0, 0, 0, 0, 24, 62, 127, 255]
theorem spec_DrawCrew.tab3 : rtab .any (opsOf Try.f43 3) = spec_DrawCrew.T3 := by kernel_rfl
theorem spec_DrawCrew.bits3 : waitsOk spec_DrawCrew.T3.2 spec_DrawCrew.B3 = true := by kernel_rfl
set_option maxHeartbeats 8000000 in
set_option maxRecDepth 100000 in
theorem spec_DrawCrew.calls (k : Nat) (A0 : Option Addr) (c0 : Nat) (l0 : List Int) (r1 : Int) (r2 : Int) (r3 : List Int) (r4 : List (S37)) (w : World) (hr0 : Kd.C (Kd.int .u8) w A0 l0.length l0) (hc0 : l0.length ≤ c0) (h : spec_DrawCrew.f k l0 = some (r1, r2, r3, r4)) :
  Calls Try.prog 43 #[.slice A0 l0.length c0] w fun e w' => ∃ v2_ v3_ : Value, e = .returned (.tuple #[.agg #[.int .i64 r1, .int .i64 r2, v2_], v3_]) ∧ Kd.R (Kd.int .i64) 3 w' w.heap.size (fun _ => True) v2_ r3 ∧ Kd.R k37 37 w' w.heap.size (fun _ => True) v3_ r4 ∧ Below w.heap.size w w' := by
 have hu43 := Try.underlying43
 have HR0 := aM hr0
 have HC0 := aM hc0
 clear hr0 hc0
 have HB := aM (Below.refl w.heap.size w)
 unfold spec_DrawCrew.f at h
 have H := h
 clear h
 replace H := Option.bind_eq_some_iff.mp H
 obtain ⟨⟨t195, t196, t197⟩, A20, H⟩ := H
 try dsimp only at H
 have A2 := aM A20
 clear A20
 replace H := Option.bind_eq_some_iff.mp H
 obtain ⟨⟨t199, t200, t201, t204, t205⟩, A30, H⟩ := H
 try dsimp only at H
 have A3 := aM A30
 clear A30
 obtain ⟨y207, hy207⟩ : ∃ y_ : List Int, y_ = (([4, 9, 20] : List Int)) := ⟨_, rfl⟩
 replace H : ((spec_l1Int.f t195 t204 t205 y207).bind fun bt210 => ((spec_l7Crew.f k t195 bt210.2.1 bt210.2.2 t199 t200 t201 bt210.1).bind fun bt213 => (some (t199, t200, t201, bt213.1)))) = some (r1, r2, r3, r4) := by first | (rw [hy207]; exact H) | exact H
 have Ny207 := aM hy207
 clear hy207
 replace H := Option.bind_eq_some_iff.mp H
 obtain ⟨⟨t210, t211, t212⟩, A40, H⟩ := H
 try dsimp only at H
 have A4 := aM A40
 clear A40
 replace H := Option.bind_eq_some_iff.mp H
 obtain ⟨⟨t213, t216, t217⟩, A50, H⟩ := H
 try dsimp only at H
 have A5 := aM A50
 clear A50
 simp only [Option.some.injEq, Prod.mk.injEq] at H
 obtain ⟨rfl, rfl, rfl, rfl⟩ := H
 go_enter Try.func43, Try.ntmps43
 try go_wp2_with (first | ((with_reducible refine gate_dst (N := 2) rfl ?_); refine bx_ 2 #[.int .i64 0, .int .i64 0, .slice none 0 0] 43 ?_; intro gb194 hg w6 hbox hb; have BK194 := aM (hbox); have GW194 := aM (bz_ w hg qz1); have GE194 := GW194; replace HB := bS_ hb; clear hb hbox hg) | ((with_reducible refine gate_callee (f := 57) rfl ?_); refine goesL_ (some 7) rfl rfl Try.func57 (by kernel_rfl) rfl #[.slice A0 l0.length c0] rfl qz3 ?_; (with_reducible refine (spec_l1New.calls k _ _ l0 t195 t196 t197 w _ ?_ ?_ ?_ A2.out).mono ?_); exact qz1; exact HR0.out; exact HC0.out; rintro e w7 ⟨g198, rfl, hi, hb, hb2⟩; refine ⟨_, rfl, ?_⟩; replace HB := aM (hb); have HI198 := aM (hi); have NB198_194 := aM (IsS113.ne_blk hi (blk_below (bk_ BK194.out) hb2) (by decide)); have NB194_198 := aM (Ne.symm (IsS113.ne_blk hi (blk_below (bk_ BK194.out) hb2) (by decide))); replace BK194 := aM (blk_below (bk_ BK194.out) hb2); (try clear hb hb2 hi)) | ((with_reducible refine gate_callee (f := 84) rfl ?_); refine goesL_ (some 9) rfl rfl Try.func84 (by kernel_rfl) rfl #[.pointer (some ⟨g198, 0, none⟩)] rfl qz3 ?_; (with_reducible refine (spec_l1Floor.calls k g198 t195 t196 t197 t199 t200 t201 t204 t205 w _ ?_ ?_ A3.out).mono ?_); exact qz9; exact qz1; rintro e w8 ⟨v202, rfl, ho0, hi, hb, hk⟩; refine ⟨_, rfl, ?_⟩; replace BK194 := aM (KeepBut.blk hk (bk_ BK194.out) NB194_198.out (by simp)); have HO203 := aM (Kd.R_lower ho0 (below_size qz1)); replace HB := aM (hb); replace HI198 := aM (hi); (try clear hb hk hi ho0)) | ((with_reducible refine gate_dst (N := 5) rfl ?_); refine bx_ 5 #[.int .i64 0, .int .i64 0, .slice none 0 0] 43 ?_; intro gb206 hg w9 hbox hb; replace HO203 := aM (Kd.R_below (rr_ HO203.out) hb); have BK206 := aM (hbox); have GW206 := aM (bz_ w hg qz1); have GE206 := GW206; replace HB := bS_ hb; obtain ⟨NB194_206, NB206_194⟩ := nb_ hg (bk_ BK194.out); replace BK194 := bB_ BK194 hb; have NB198_206 := aM ((by rw [hg]; exact Nat.ne_of_lt (IsS113.lt (show IsS113 w _ g198 t195 t204 t205 from qz9)) : g198 ≠ gb206)); have NB206_198 := aM ((by rw [hg]; exact Nat.ne_of_gt (IsS113.lt (show IsS113 w _ g198 t195 t204 t205 from qz9)) : gb206 ≠ g198)); replace HI198 := aM (IsS113.below qz9 hb); clear hb hbox hg; have hnb10 := NB206_194.out; have hnc10 := NB194_206.out; have hnb11 := NB206_198.out; have hnc11 := NB198_206.out; obtain ⟨hcz12_0, hcz12_1, hcz12_2, hfz12_0, hfz12_1, hfz12_2⟩ := b6_ BK206.out; obtain ⟨Ao13, co13, eo13⟩ := Kd.R_slice HO203.out; subst eo13))
 generalize hq_ : (((w9.setCell ⟨gb206, 0, none⟩ (.int .i64 t199)).setCell ⟨gb206, 1, none⟩ (.int .i64 t200)).setCell ⟨gb206, 2, none⟩ (.slice Ao13 t201.length co13)) = w14
 replace HO203 : Aside0 (Kd.R (Kd.int .i64) 3 w14 w.heap.size (fun _ => True) (.slice Ao13 t201.length co13) t201) := ⟨by rw [← hq_]; exact (by (with_reducible repeat (first | apply Kd.R_alloc | apply Kd.R_drewN | apply Kd.R_drew)); exact Kd.R_mono (Kd.R_far (p := ⟨gb206, 2, none⟩) (Kd.R_far (p := ⟨gb206, 1, none⟩) (Kd.R_far (p := ⟨gb206, 0, none⟩) (Kd.R_types HO203.out BK206.out (by decide)) (fun _ hk => hk.2) (.int .i64 t199)) (fun _ hk => hk.2) (.int .i64 t200)) (fun _ hk => hk.2) (.slice Ao13 t201.length co13)) (fun _ hk => trivial))⟩
 replace BK194 := bqo_ hq_ BK194
 replace BK206 : Aside0 (w14.heap[gb206]? = some (.cells #[.int .i64 t199, .int .i64 t200, .slice Ao13 t201.length co13] 43 (0, 0))) := ⟨by rw [← hq_]; exact (by (with_reducible repeat (first | refine blk_drewN ?_ _ | refine blk_drew ?_ | refine blk_alloc ?_ _)); refine blk_put (cs := #[.int .i64 t199, .int .i64 t200, .slice none 0 0]) ?_ 2 _ rfl; (with_reducible repeat (first | refine blk_drewN ?_ _ | refine blk_drew ?_ | refine blk_alloc ?_ _)); refine blk_put (cs := #[.int .i64 t199, .int .i64 0, .slice none 0 0]) ?_ 1 _ rfl; (with_reducible repeat (first | refine blk_drewN ?_ _ | refine blk_drew ?_ | refine blk_alloc ?_ _)); refine blk_put (cs := #[.int .i64 0, .int .i64 0, .slice none 0 0]) ?_ 0 _ rfl; exact bk_ BK206.out)⟩
 replace HB : Aside0 (Below w.heap.size w w14) := ⟨by rw [← hq_]; exact qz1⟩
 replace HI198 : Aside0 (IsS113 w w14 g198 t195 t204 t205) := ⟨by rw [← hq_]; exact qz9⟩
 clear hq_
 replace HO203 := aM (Kd.R_drew HO203.out)
 replace BK194 := aM (blk_drew BK194.out)
 replace BK206 := aM (blk_drew BK206.out)
 replace HI198 := aM (IsS113.drew HI198.out)
 replace HB := aM (below_drew1 HB.out)
 refine start_ (n := 9) (S := fun w' => w'.cell? ⟨gb206, 0, none⟩ = some (.int .i64 t199) ∧ w'.cell? ⟨gb206, 1, none⟩ = some (.int .i64 t200) ∧ w'.cell? ⟨gb206, 2, none⟩ = some (.slice Ao13 t201.length co13)) (ds := []) #[false, false, false, false, false, false, false, false, false] (by kernel_rfl) rfl rfl ⟨(blk_cell BK206.out 0).trans rfl, (blk_cell BK206.out 1).trans rfl, (blk_cell BK206.out 2).trans rfl⟩ (fun hHeld => ?_); refine with_tabW spec_DrawCrew.tab3 spec_DrawCrew.bits3 (fun HT_ HW_ => ?_)
 generalize w14.drew = w15 at HO203 BK194 BK206 HI198 HB hHeld ⊢
 refine pI_ 1 11 (bqz 9 2) ?_
 refine jI_ 3 13 ?_
 refine sI3_ 0 10 ?_
 refine sI3_ 2 12 ?_
 refine oI_ 4 14 (bqz 9 31) (fun K hK => ?_)
 refine Kd.R_lit_step (Kd.int .i64) _ 3 ?hg (N := 14) ?hd (xs := ([4, 9, 20] : List Int)) (inner := [.int .i64 4, .int .i64 9, .int .i64 20]) (ok := fun _ => True) (okp := fun _ => True) ?hr ?hp (fun _ hk => hk) trivial (Below.refl _ _) (Nat.le_refl _) (by simp) ?_; (case hd => rfl); (case hg => rfl); (case hr => exact qz7); (case hp => exact (Reps.one (show Kd.M (Kd.int .i64) _ _ _ 4 [.int .i64 4] from rfl) (Reps.one (show Kd.M (Kd.int .i64) _ _ _ 9 [.int .i64 9] from rfl) (Reps.one (show Kd.M (Kd.int .i64) _ _ _ 20 [.int .i64 20] from rfl) (Reps.none _ _)))))
 intro v208 w16 ho17 hb hg_ hnew_
 clear hg_ hnew_
 (first | rw [← Ny207.out] at ho17 | (simp only [Int.reduceToNat] at ho17; rw [← Ny207.out] at ho17))
 have HO209 := aM (Kd.R_lower (Kd.R_new' ho17 (Kd.R_lt (rr_ HO203.out))) (below_size qz1))
 replace HO203 := aM (Kd.R_elder' (rr_ HO203.out) (Kd.R_base ho17) hb)
 replace BK194 := bB_ BK194 hb
 replace BK206 := bB_ BK206 hb
 replace HB := bS_ hb
 replace HI198 := aM (IsS113.below qz9 hb)
 clear hb ho17
 obtain ⟨Ao18, co18, eo18⟩ := Kd.R_slice HO209.out
 (first | subst eo18 | (injection eo18 with f1_ f2_ f3_; have f4_ := f1_.symm; have f5_ := f3_.symm; clear f1_ f2_ f3_; subst f4_; subst f5_))
 refine hK.out _ _ ⟨(blk_cell BK206.out 0).trans rfl, (blk_cell BK206.out 1).trans rfl, (blk_cell BK206.out 2).trans rfl⟩ (fun hHeld => ?_)
 clear hK K
 refine nm_ 14 ?_
 refine oI_ 5 15 (bqz 9 63) (fun K hK => ?_)
 refine goes_ Try.func81 (by kernel_rfl) rfl #[.pointer (some ⟨g198, 0, none⟩), .slice Ao18 y207.length co18] (by rfl) rfl rfl qz3 ?_
 with_reducible refine (spec_l1Int.calls g198 t195 t204 t205 _ _ y207 t210 t211 t212 w _ ?side1 ?side2 ?side3 ?side4 ?side5 A4.out).mono ?_
 (case side1 => exact qz9)
 (case side2 => exact qz1)
 (case side3 => repeat (first | exact (Kd.R_reads' HO209.out).2.2 | (with_reducible refine Kd.C_alloc ?_ _) | (with_reducible refine Kd.C_drewN ?_ _) | (with_reducible refine Kd.C_drew ?_)))
 (case side4 => exact (Kd.R_reads' HO209.out).2.1)
 (case side5 => exact far_slice (IsS113.own_ne HI198.out HO209.out (by decide)))
 rintro e w19 ⟨rfl, hi, hb, hk⟩
 refine ⟨_, rfl, ?_⟩
 replace BK194 := aM (KeepBut.blk hk (bk_ BK194.out) NB194_198.out (by simp))
 replace HO203 := aM (Kd.R_mono (Kd.R_keep (IsS113.apart (show IsS113 w _ g198 t195 t204 t205 from qz9) (rr_ HO203.out) (by decide)) hk (fun _ h => h.2)) (fun _ h => h.1))
 replace BK206 := aM (KeepBut.blk hk (bk_ BK206.out) NB206_198.out (by simp))
 replace HO209 := aM (Kd.R_mono (Kd.R_keep (IsS113.apart (show IsS113 w _ g198 t195 t204 t205 from qz9) (rr_ HO209.out) (by decide)) hk (fun _ h => h.2)) (fun _ h => h.1))
 replace HB := aM (hb)
 replace HI198 := aM (hi)
 (try clear hb)
 (try clear hb2)
 (try clear hk)
 (try clear hi)
 refine hK.out _ _ ⟨(blk_cell BK206.out 0).trans rfl, (blk_cell BK206.out 1).trans rfl, (blk_cell BK206.out 2).trans rfl⟩ (fun hHeld => ?_)
 clear hK K
 refine nm_ 15 ?_
 refine oI_ 6 16 (bqz 9 127) (fun K hK => ?_)
 refine goes_ Try.func85 (by kernel_rfl) rfl #[.pointer (some ⟨g198, 0, none⟩), .agg #[.int .i64 t199, .int .i64 t200, .slice Ao13 t201.length co13], .int .i64 t210] (by rfl) rfl rfl qz3 ?_
 with_reducible refine (spec_l7Crew.calls k g198 t195 t211 t212 t199 t200 _ _ t201 t210 t213 t216 t217 w _ ?side1 ?side2 ?side3 ?side4 ?side5 A5.out).mono ?_
 (case side1 => exact qz9)
 (case side2 => exact qz1)
 (case side3 => repeat (first | exact (Kd.R_reads' HO203.out).2.2 | (with_reducible refine Kd.C_alloc ?_ _) | (with_reducible refine Kd.C_drewN ?_ _) | (with_reducible refine Kd.C_drew ?_)))
 (case side4 => exact (Kd.R_reads' HO203.out).2.1)
 (case side5 => exact far_slice (IsS113.own_ne HI198.out HO203.out (by decide)))
 rintro e w20 ⟨v214, rfl, ho0, hi, hb, hk⟩
 refine ⟨_, rfl, ?_⟩
 replace BK194 := aM (KeepBut.blk hk (bk_ BK194.out) NB194_198.out (by simp))
 replace HO203 := aM (Kd.R_mono (Kd.R_keep (IsS113.apart (show IsS113 w _ g198 t195 t211 t212 from qz9) (rr_ HO203.out) (by decide)) hk (fun _ h => h.2)) (fun _ h => h.1))
 replace BK206 := aM (KeepBut.blk hk (bk_ BK206.out) NB206_198.out (by simp))
 replace HO209 := aM (Kd.R_mono (Kd.R_keep (IsS113.apart (show IsS113 w _ g198 t195 t211 t212 from qz9) (rr_ HO209.out) (by decide)) hk (fun _ h => h.2)) (fun _ h => h.1))
 have HO215 := aM (Kd.R_lower ho0 (below_size qz1))
 replace HB := aM (hb)
 replace HI198 := aM (hi)
 (try clear hb)
 (try clear hb2)
 (try clear hk)
 (try clear hi)
 (try clear ho0)
 refine hK.out _ _ ⟨(blk_cell BK206.out 0).trans rfl, (blk_cell BK206.out 1).trans rfl, (blk_cell BK206.out 2).trans rfl⟩ (fun hHeld => ?_)
 clear hK K
 refine nm_ 16 ?_
 refine one_ (i := 7) (N := none) (bqz 9 255) rfl rfl qzc (by decide) (fun K hK => ?_)
 have hs21 : w20.cell? ⟨gb194, 0, none⟩ = some (.int .i64 0) := (blk_cell BK194.out 0).trans rfl
 have hfs21 := blk_frozen BK194.out 0
 have hns21_1 := NB206_194.out
 have hms21_1 := NB194_206.out
 have hs22 : w20.cell? ⟨gb194, 1, none⟩ = some (.int .i64 0) := (blk_cell BK194.out 1).trans rfl
 have hfs22 := blk_frozen BK194.out 1
 have hns22_1 := NB206_194.out
 have hms22_1 := NB194_206.out
 have hs23 : w20.cell? ⟨gb194, 2, none⟩ = some (.slice none 0 0) := (blk_cell BK194.out 2).trans rfl
 have hfs23 := blk_frozen BK194.out 2
 have hns23_1 := NB206_194.out
 have hms23_1 := NB194_206.out
 refine sk_ ?_
 refine hK.out _ _ ⟨((cell_far (p := ⟨gb194, _, none⟩) NB206_194.out _).trans (((cell_far (p := ⟨gb194, _, none⟩) NB206_194.out _).trans (((cell_far (p := ⟨gb194, _, none⟩) NB206_194.out _).trans (hHeld.1)))))), ((cell_far (p := ⟨gb194, _, none⟩) NB206_194.out _).trans (((cell_far (p := ⟨gb194, _, none⟩) NB206_194.out _).trans (((cell_far (p := ⟨gb194, _, none⟩) NB206_194.out _).trans (hHeld.2.1)))))), ((cell_far (p := ⟨gb194, _, none⟩) NB206_194.out _).trans (((cell_far (p := ⟨gb194, _, none⟩) NB206_194.out _).trans (((cell_far (p := ⟨gb194, _, none⟩) NB206_194.out _).trans (hHeld.2.2))))))⟩ (fun hHeld => ?_)
 clear hK K
 refine jI_ 8 3 ?_
 refine done_ (done_of HT_.out (by kernel_rfl)) ?_
 try go_wp2
 refine bodyPost_ret (results_ct rfl _ _ gb194 43 #[.int .i64 t199, .int .i64 t200, .slice Ao13 t201.length co13] (0, 0) _ rfl (by (with_reducible repeat (first | refine blk_drewN ?_ _ | refine blk_drew ?_ | refine blk_alloc ?_ _)); refine blk_put (cs := #[.int .i64 t199, .int .i64 t200, .slice none 0 0]) ?_ 2 _ rfl; (with_reducible repeat (first | refine blk_drewN ?_ _ | refine blk_drew ?_ | refine blk_alloc ?_ _)); refine blk_put (cs := #[.int .i64 t199, .int .i64 0, .slice none 0 0]) ?_ 1 _ rfl; (with_reducible repeat (first | refine blk_drewN ?_ _ | refine blk_drew ?_ | refine blk_alloc ?_ _)); refine blk_put (cs := #[.int .i64 0, .int .i64 0, .slice none 0 0]) ?_ 0 _ rfl; exact bk_ BK194.out) Try.underlying43 rfl (by kernel_rfl)) rfl ?_
 exact ⟨_, _, qzw, by (with_reducible repeat (first | apply Kd.R_alloc | apply Kd.R_drewN | apply Kd.R_drew)); exact Kd.R_mono (Kd.R_far (p := ⟨gb194, 2, none⟩) (Kd.R_far (p := ⟨gb194, 1, none⟩) (Kd.R_far (p := ⟨gb194, 0, none⟩) (Kd.R_types HO203.out BK194.out (by decide)) (fun _ hk => hk.2) (.int .i64 t199)) (fun _ hk => hk.2) (.int .i64 t200)) (fun _ hk => hk.2) (.slice Ao13 t201.length co13)) (fun _ hk => trivial), by (with_reducible repeat (first | apply Kd.R_alloc | apply Kd.R_drewN | apply Kd.R_drew)); exact Kd.R_mono (Kd.R_far (p := ⟨gb194, 2, none⟩) (Kd.R_far (p := ⟨gb194, 1, none⟩) (Kd.R_far (p := ⟨gb194, 0, none⟩) (Kd.R_types HO215.out BK194.out (by decide)) (fun _ hk => hk.2) (.int .i64 t199)) (fun _ hk => hk.2) (.int .i64 t200)) (fun _ hk => hk.2) (.slice Ao13 t201.length co13)) (fun _ hk => trivial), qz1⟩

/-! ### laws_at: function 46 -/
def laws_at.f (l0 : List Int) (a1 : Int) : Option (Int) := if a1 < (l0.length : Int) then (if 0 ≤ a1 then (some (wrap64 (rd l0 a1))) else (none)) else (some (Int.tmod (wrap64 ((wrap64 (a1 * 31)) + (wrap64 ((l0.length : Int) * 7)))) 256))
set_option maxHeartbeats 8000000 in
set_option maxRecDepth 100000 in
theorem laws_at.calls (A0 : Option Addr) (c0 : Nat) (l0 : List Int) (a1 : Int) (r : Int) (w : World) (hr0 : Kd.C (Kd.int .u8) w A0 l0.length l0) (hc0 : l0.length ≤ c0) (h : laws_at.f l0 a1 = some r) :
  Calls Try.prog 46 #[.slice A0 l0.length c0, .int .i64 a1] w fun e w' => e = .returned (.int .i64 r) ∧ Drawn0 w w' := by
 have HR0 := aM hr0
 have HC0 := aM hc0
 clear hr0 hc0
 unfold laws_at.f at h
 have H := h
 clear h
 replace H := iE_ H
 rcases H with ⟨c3b0, H⟩ | ⟨c3b0, H⟩
 {
 replace H := iD_ H
 obtain ⟨c4b0, H⟩ := H
 obtain rfl := Option.some.inj H
 have p218 : (0 ≤ (a1 : Int)) = True := et_
 have q218 : (a1 < (l0.length : Int)) = True := et_
 obtain ⟨ad218, e218, hx218_0⟩ := Kd.at_int HR0.out a1 dt_ dt_
 cases e218
 go_enter Try.func46, Try.ntmps46
 go_wp2
 go_ret
 exact ⟨by first | rfl | (simp; done) | (simp [*]; done), by repeat (first | exact Drawn0.refl _ | apply Drawn0.step)⟩
 }
 {
 obtain rfl := Option.some.inj H
 go_enter Try.func46, Try.ntmps46
 go_wp2
 go_ret
 exact ⟨by first | rfl | (simp; done) | (simp [*]; done), by repeat (first | exact Drawn0.refl _ | apply Drawn0.step)⟩
 }
-- NOT PRINTED: function 93 (reflectlite_ValueOf)

-- NOT PRINTED: function 94 (reflectlite_Swapper)

-- NOT PRINTED: function 121 (sort_insertionSort_func)

-- NOT PRINTED: function 134 (sort_swapRange_func)

-- NOT PRINTED: function 131 (sort_rotate_func)

-- NOT PRINTED: function 122 (sort_symMerge_func)

-- NOT PRINTED: function 95 (sort_stable_func)

-- NOT PRINTED: function 96 (reflectlite_Value_Len)

-- NOT PRINTED: function 54 (sort_SliceStable)

/-! ### impl_Turns: function 17 -/
def impl_TurnsL.T1 : Bool × List (List Nat × List Nat) := (true, [([], []), ([], []), ([], []), ([1, 2], [1, 2]), ([3], [3]), ([0, 4], [0, 4]), ([5], [5]), ([], []), ([], []), ([], []), ([8, 9], [8, 9]), ([10], [10]), ([7, 11], [7, 11]), ([12], [12]), ([], []), ([], []), ([14, 6, 0, 1, 2, 3, 4, 5, 6, 14, 15], [6, 14]), ([15, 13, 16, 0, 1, 2, 3, 4, 5, 6, 7, 8, 9, 10, 11, 12, 13, 14, 15, 16], [13, 15])])
def impl_TurnsL.B1 : List Nat := [0, 0, 0, 6, 14, 31, 63, 0, 0, 0, 768, 1792, 3968, 8064, 0, 0, 49279, 131071]
theorem impl_TurnsL.tab1 : rtab .any (opsOf Try.f55 1) = impl_TurnsL.T1 := by kernel_rfl
theorem impl_TurnsL.bits1 : waitsOk impl_TurnsL.T1.2 impl_TurnsL.B1 = true := by kernel_rfl
def turnsLt (l : List S37) (a b : Int) : Bool := decide ((rd_T37 l a).f4 > (rd_T37 l b).f4) || (decide ((rd_T37 l a).f4 = (rd_T37 l b).f4) && decide ((rd_T37 l a).f0 < (rd_T37 l b).f0))
set_option maxHeartbeats 8000000 in
set_option maxRecDepth 100000 in
theorem impl_TurnsL.calls (A0 : Option Addr) (c0 : Nat) (l0 : List S37) (W : World) (hr0 : Kd.C k37 W A0 l0.length l0) (b1 b2 g n c : Nat) (ia ib : Nat) (x y : Int) (hb1 : W.cell? ⟨b1, 0, none⟩ = some (.slice A0 l0.length c0)) (hb2 : W.cell? ⟨b2, 0, none⟩ = some (.slice (some ⟨g, 0, none⟩) n c))
  (hi : ia < n) (hj : ib < n) (hx : W.cell? ⟨g, ia, none⟩ = some (.int .i64 x)) (hy : W.cell? ⟨g, ib, none⟩ = some (.int .i64 y)) (hx0 : 0 ≤ x) (hx1 : x < (l0.length : Int)) (hy0 : 0 ≤ y) (hy1 : y < (l0.length : Int)) :
  Calls Try.prog 55 #[.int .i64 ia, .int .i64 ib, .pointer (some ⟨b1, 0, none⟩), .pointer (some ⟨b2, 0, none⟩)] W fun e w' => e = .returned (.bool (turnsLt l0 x y)) ∧ Below W.heap.size W w' := by
 have hu37 := Try.underlying37
 have hu24 := Try.underlying24
 have hu26 := Try.underlying26
 obtain ⟨adx, ex, x0, x1, x2, x3, x4⟩ := at_T37 hr0 x hx0 hx1
 obtain ⟨ady, ey, y0, y1, y2, y3, y4⟩ := at_T37 hr0 y hy0 hy1
 subst ex
 cases ey
 have hn0 : 0 < n := by omega
 have Hb1 := aM hb1
 have Hb2 := aM hb2
 have Hx := aM hx
 have Hy := aM hy
 have X0 := aM x0
 have Y0 := aM y0
 have X1 := aM x1
 have Y1 := aM y1
 have X2 := aM x2
 have Y2 := aM y2
 have X3 := aM x3
 have Y3 := aM y3
 have X4 := aM x4
 have Y4 := aM y4
 go_enter Try.func55, Try.ntmps55
 go_wp2
 refine start_ (n := 18) (S := fun w' => w'.cell? ⟨b1, 0, none⟩ = some (.slice (some adx) l0.length c0) ∧ w'.cell? ⟨b2, 0, none⟩ = some (.slice (some ⟨g, 0, none⟩) n c) ∧ w'.cell? ⟨g, ia, none⟩ = some (.int .i64 x) ∧ w'.cell? ⟨g, ib, none⟩ = some (.int .i64 y) ∧ w'.cell? (adx.add (x.toNat * 5)) = some (.int .i64 (rd_T37 l0 x).f0) ∧ w'.cell? ⟨(adx.add (x.toNat * 5)).block, (adx.add (x.toNat * 5)).off + 1, none⟩ = some (.int .i64 (rd_T37 l0 x).f1) ∧ w'.cell? ⟨(adx.add (x.toNat * 5)).block, (adx.add (x.toNat * 5)).off + 2, none⟩ = some (.int .i64 (rd_T37 l0 x).f2) ∧ w'.cell? ⟨(adx.add (x.toNat * 5)).block, (adx.add (x.toNat * 5)).off + 3, none⟩ = some (.bool (rd_T37 l0 x).f3) ∧ w'.cell? ⟨(adx.add (x.toNat * 5)).block, (adx.add (x.toNat * 5)).off + 4, none⟩ = some (.int .i64 (rd_T37 l0 x).f4) ∧ w'.cell? (adx.add (y.toNat * 5)) = some (.int .i64 (rd_T37 l0 y).f0) ∧ w'.cell? ⟨(adx.add (y.toNat * 5)).block, (adx.add (y.toNat * 5)).off + 1, none⟩ = some (.int .i64 (rd_T37 l0 y).f1) ∧ w'.cell? ⟨(adx.add (y.toNat * 5)).block, (adx.add (y.toNat * 5)).off + 2, none⟩ = some (.int .i64 (rd_T37 l0 y).f2) ∧ w'.cell? ⟨(adx.add (y.toNat * 5)).block, (adx.add (y.toNat * 5)).off + 3, none⟩ = some (.bool (rd_T37 l0 y).f3) ∧ w'.cell? ⟨(adx.add (y.toNat * 5)).block, (adx.add (y.toNat * 5)).off + 4, none⟩ = some (.int .i64 (rd_T37 l0 y).f4)) (ds := [17]) #[false, false, false, false, false, false, false, false, false, false, false, false, false, false, false, false, false, false] (by kernel_rfl) rfl rfl ⟨hb1, hb2, hx, hy, x0, x1, x2, x3, x4, y0, y1, y2, y3, y4⟩ (fun hHeld => ?_); refine with_tabW impl_TurnsL.tab1 impl_TurnsL.bits1 (fun HT_ HW_ => ?_)
 refine pI_ 2 11 (bqz 18 4) ?_
 refine jI_ 9 18 ?_
 refine sI14_ 0 9 ?_
 refine sI14_ 1 10 ?_
 refine jI_ 3 12 ?_
 refine sI14_ 4 13 ?_
 refine jI_ 5 14 ?_
 refine sI14_ 6 15 ?_
 refine sI14_ 7 16 ?_
 refine sI14_ 8 17 ?_
 refine jI_ 10 19 ?_
 refine sI14_ 11 20 ?_
 refine jI_ 12 21 ?_
 refine sI14_ 13 22 ?_
 have HB0 : Below W.heap.size W W.drew := below_drew (Below.refl _ _)
 refine two_ (i := 14) (j := 15) (Ni := some 7) (Nj := some 8) (bqz 18 32767) (bqz 18 49151) rfl rfl rfl rfl (two_of HT_.out (by kernel_rfl)) (by decide) (by decide) (fun K hK => ?_) (fun K hK => ?_)
 {
 have L0 : W.heap.size ≤ W.drew.heap.size := Nat.le_refl _
 refine box_step (by rfl) (N := 7) rfl (cs := #[.int .i64 0, .int .i64 0, .int .i64 0, .bool false, .int .i64 0]) (t := 37) ?hr ?_; (case hr => exact qz7); intro gx hgx w1 Bgx hb; have HB1 := below_step HB0 hb; clear hb
 refine hK.out _ _ ⟨pw_cell_below HB1 Hb1.out, pw_cell_below HB1 Hb2.out, pw_cell_below HB1 Hx.out, pw_cell_below HB1 Hy.out, pw_cell_below HB1 X0.out, pw_cell_below HB1 X1.out, pw_cell_below HB1 X2.out, pw_cell_below HB1 X3.out, pw_cell_below HB1 X4.out, pw_cell_below HB1 Y0.out, pw_cell_below HB1 Y1.out, pw_cell_below HB1 Y2.out, pw_cell_below HB1 Y3.out, pw_cell_below HB1 Y4.out⟩ (fun hHeld => ?_)
 clear hK K
 refine nm_ 7 ?_
 have Ggx := Nat.le_trans L0 (Nat.le_of_eq hgx.symm)
 refine oI_ 15 8 (bqz 18 65535) (fun K hK => ?_)
 have L1 := below_size HB1
 have bl_ := blk_lt Bgx
 refine box_step (by rfl) (N := 8) rfl (cs := #[.int .i64 0, .int .i64 0, .int .i64 0, .bool false, .int .i64 0]) (t := 37) ?hr ?_; (case hr => exact qz7); intro gy hgy w2 Bgy hb; have HB2 := below_step HB1 hb; replace Bgx := blk_below Bgx hb; clear hb
 refine hK.out _ _ ⟨pw_cell_below HB2 Hb1.out, pw_cell_below HB2 Hb2.out, pw_cell_below HB2 Hx.out, pw_cell_below HB2 Hy.out, pw_cell_below HB2 X0.out, pw_cell_below HB2 X1.out, pw_cell_below HB2 X2.out, pw_cell_below HB2 X3.out, pw_cell_below HB2 X4.out, pw_cell_below HB2 Y0.out, pw_cell_below HB2 Y1.out, pw_cell_below HB2 Y2.out, pw_cell_below HB2 Y3.out, pw_cell_below HB2 Y4.out⟩ (fun hHeld => ?_)
 clear hK K
 refine nm_ 8 ?_
 have Ggy := Nat.le_trans L1 (Nat.le_of_eq hgy.symm)
 have NE : gx ≠ gy := by omega
 have NE' : gy ≠ gx := by omega
 clear hgx hgy L0 L1 bl_ HB0 HB1
 have Fgx := fun k => blk_frozen Bgx k
 have gx0 := c5_0 Bgx
 have gfx0 := blk_frozen Bgx 0
 have gx1 := c5_1 Bgx
 have gfx1 := blk_frozen Bgx 1
 have gx2 := c5_2 Bgx
 have gfx2 := blk_frozen Bgx 2
 have gx3 := c5_3 Bgx
 have gfx3 := blk_frozen Bgx 3
 have gx4 := c5_4 Bgx
 have gfx4 := blk_frozen Bgx 4
 have Fgy := fun k => blk_frozen Bgy k
 have gy0 := c5_0 Bgy
 have gfy0 := blk_frozen Bgy 0
 have gy1 := c5_1 Bgy
 have gfy1 := blk_frozen Bgy 1
 have gy2 := c5_2 Bgy
 have gfy2 := blk_frozen Bgy 2
 have gy3 := c5_3 Bgy
 have gfy3 := blk_frozen Bgy 3
 have gy4 := c5_4 Bgy
 have gfy4 := blk_frozen Bgy 4
 refine one_ (i := 16) (N := none) (bqz 18 131071) rfl rfl qzc (by decide) (fun K hK => ?_)
 refine sk_ ?_
 have HB3 := below_put5 HB2 Ggx (.int .i64 (rd_T37 l0 x).f0) (.int .i64 (rd_T37 l0 x).f1) (.int .i64 (rd_T37 l0 x).f2) (.bool (rd_T37 l0 x).f3) (.int .i64 (rd_T37 l0 x).f4)
 have BX := blk_put5 Bgx (.int .i64 (rd_T37 l0 x).f0) (.int .i64 (rd_T37 l0 x).f1) (.int .i64 (rd_T37 l0 x).f2) (.bool (rd_T37 l0 x).f3) (.int .i64 (rd_T37 l0 x).f4)
 have BY := blk_far5 Bgy NE' (.int .i64 (rd_T37 l0 x).f0) (.int .i64 (rd_T37 l0 x).f1) (.int .i64 (rd_T37 l0 x).f2) (.bool (rd_T37 l0 x).f3) (.int .i64 (rd_T37 l0 x).f4)
 generalize (((((w2.setCell ⟨gx, 0, none⟩ (.int .i64 (rd_T37 l0 x).f0)).setCell ⟨gx, 1, none⟩ (.int .i64 (rd_T37 l0 x).f1)).setCell ⟨gx, 2, none⟩ (.int .i64 (rd_T37 l0 x).f2)).setCell ⟨gx, 3, none⟩ (.bool (rd_T37 l0 x).f3)).setCell ⟨gx, 4, none⟩ (.int .i64 (rd_T37 l0 x).f4)) = w3 at HB3 BX BY ⊢
 clear Bgx Bgy HB2 Fgx Fgy gx0 gfx0 gx1 gfx1 gx2 gfx2 gx3 gfx3 gx4 gfx4 gy0 gfy0 gy1 gfy1 gy2 gfy2 gy3 gfy3 gy4 gfy4
 refine hK.out _ _ ⟨pw_cell_below HB3 Hb1.out, pw_cell_below HB3 Hb2.out, pw_cell_below HB3 Hx.out, pw_cell_below HB3 Hy.out, pw_cell_below HB3 X0.out, pw_cell_below HB3 X1.out, pw_cell_below HB3 X2.out, pw_cell_below HB3 X3.out, pw_cell_below HB3 X4.out, pw_cell_below HB3 Y0.out, pw_cell_below HB3 Y1.out, pw_cell_below HB3 Y2.out, pw_cell_below HB3 Y3.out, pw_cell_below HB3 Y4.out⟩ (fun hHeld => ?_)
 clear hK K
 have gy0 := c5_0 BY
 have gfy0 := blk_frozen BY 0
 have gy1 := c5_1 BY
 have gfy1 := blk_frozen BY 1
 have gy2 := c5_2 BY
 have gfy2 := blk_frozen BY 2
 have gy3 := c5_3 BY
 have gfy3 := blk_frozen BY 3
 have gy4 := c5_4 BY
 have gfy4 := blk_frozen BY 4
 refine last_ (i := 17) (N := none) (bqz 18 262143) rfl rfl qzc (by decide) (fun K hK => ?_)
 refine sk_ ?_
 refine hK.out _ _ ?_
 clear hK K
 have HB4 := below_put5 HB3 Ggy (.int .i64 (rd_T37 l0 y).f0) (.int .i64 (rd_T37 l0 y).f1) (.int .i64 (rd_T37 l0 y).f2) (.bool (rd_T37 l0 y).f3) (.int .i64 (rd_T37 l0 y).f4)
 have CX := blk_far5 BX NE (.int .i64 (rd_T37 l0 y).f0) (.int .i64 (rd_T37 l0 y).f1) (.int .i64 (rd_T37 l0 y).f2) (.bool (rd_T37 l0 y).f3) (.int .i64 (rd_T37 l0 y).f4)
 have CY := blk_put5 BY (.int .i64 (rd_T37 l0 y).f0) (.int .i64 (rd_T37 l0 y).f1) (.int .i64 (rd_T37 l0 y).f2) (.bool (rd_T37 l0 y).f3) (.int .i64 (rd_T37 l0 y).f4)
 generalize (((((w3.setCell ⟨gy, 0, none⟩ (.int .i64 (rd_T37 l0 y).f0)).setCell ⟨gy, 1, none⟩ (.int .i64 (rd_T37 l0 y).f1)).setCell ⟨gy, 2, none⟩ (.int .i64 (rd_T37 l0 y).f2)).setCell ⟨gy, 3, none⟩ (.bool (rd_T37 l0 y).f3)).setCell ⟨gy, 4, none⟩ (.int .i64 (rd_T37 l0 y).f4)) = w4 at HB4 CX CY ⊢
 clear BX BY HB3 hHeld gy0 gfy0 gy1 gfy1 gy2 gfy2 gy3 gfy3 gy4 gfy4
 refine done_ (done_of HT_.out (by kernel_rfl)) ?_
 have gx0 := c5_0 CX
 have gx4 := c5_4 CX
 have gy0 := c5_0 CY
 have gy4 := c5_4 CY
 by_cases c1 : (rd_T37 l0 x).f4 > (rd_T37 l0 y).f4
 {
 have d1 : decide ((rd_T37 l0 x).f4 > (rd_T37 l0 y).f4) = true := decide_eq_true c1
 have R1 : turnsLt l0 x y = true := by unfold turnsLt; rw [d1]; rfl
 have HR := aM R1; clear R1 c1
 go_wp2
 go_ret
 exact ⟨by rw [HR.out]; rfl, HB4⟩
 }
 {
 have d1 : decide ((rd_T37 l0 x).f4 > (rd_T37 l0 y).f4) = false := decide_eq_false c1
 by_cases c2 : (rd_T37 l0 x).f4 = (rd_T37 l0 y).f4
 {
 have d2 : ((rd_T37 l0 x).f4 == (rd_T37 l0 y).f4) = true := by simpa using c2
 have R1 : turnsLt l0 x y = decide ((rd_T37 l0 x).f0 < (rd_T37 l0 y).f0) := by unfold turnsLt; rw [d1, decide_eq_true c2]; simp
 have HR := aM R1; clear R1 c1 c2
 go_wp2
 go_ret
 exact ⟨by rw [HR.out]; rfl, HB4⟩
 }
 {
 have d2 : ((rd_T37 l0 x).f4 == (rd_T37 l0 y).f4) = false := by simpa using c2
 have R1 : turnsLt l0 x y = false := by unfold turnsLt; rw [d1, decide_eq_false c2]; simp
 have HR := aM R1; clear R1 c1 c2
 go_wp2
 go_ret
 exact ⟨by rw [HR.out]; rfl, HB4⟩
 }
 }
 }
 {
 have L0 : W.heap.size ≤ W.drew.heap.size := Nat.le_refl _
 refine box_step (by rfl) (N := 8) rfl (cs := #[.int .i64 0, .int .i64 0, .int .i64 0, .bool false, .int .i64 0]) (t := 37) ?hr ?_; (case hr => exact qz7); intro gy hgy w1 Bgy hb; have HB1 := below_step HB0 hb; clear hb
 refine hK.out _ _ ⟨pw_cell_below HB1 Hb1.out, pw_cell_below HB1 Hb2.out, pw_cell_below HB1 Hx.out, pw_cell_below HB1 Hy.out, pw_cell_below HB1 X0.out, pw_cell_below HB1 X1.out, pw_cell_below HB1 X2.out, pw_cell_below HB1 X3.out, pw_cell_below HB1 X4.out, pw_cell_below HB1 Y0.out, pw_cell_below HB1 Y1.out, pw_cell_below HB1 Y2.out, pw_cell_below HB1 Y3.out, pw_cell_below HB1 Y4.out⟩ (fun hHeld => ?_)
 clear hK K
 refine nm_ 8 ?_
 have Ggy := Nat.le_trans L0 (Nat.le_of_eq hgy.symm)
 refine oI_ 14 7 (bqz 18 65535) (fun K hK => ?_)
 have L1 := below_size HB1
 have bl_ := blk_lt Bgy
 refine box_step (by rfl) (N := 7) rfl (cs := #[.int .i64 0, .int .i64 0, .int .i64 0, .bool false, .int .i64 0]) (t := 37) ?hr ?_; (case hr => exact qz7); intro gx hgx w2 Bgx hb; have HB2 := below_step HB1 hb; replace Bgy := blk_below Bgy hb; clear hb
 refine hK.out _ _ ⟨pw_cell_below HB2 Hb1.out, pw_cell_below HB2 Hb2.out, pw_cell_below HB2 Hx.out, pw_cell_below HB2 Hy.out, pw_cell_below HB2 X0.out, pw_cell_below HB2 X1.out, pw_cell_below HB2 X2.out, pw_cell_below HB2 X3.out, pw_cell_below HB2 X4.out, pw_cell_below HB2 Y0.out, pw_cell_below HB2 Y1.out, pw_cell_below HB2 Y2.out, pw_cell_below HB2 Y3.out, pw_cell_below HB2 Y4.out⟩ (fun hHeld => ?_)
 clear hK K
 refine nm_ 7 ?_
 have Ggx := Nat.le_trans L1 (Nat.le_of_eq hgx.symm)
 have NE : gx ≠ gy := by omega
 have NE' : gy ≠ gx := by omega
 clear hgx hgy L0 L1 bl_ HB0 HB1
 have Fgx := fun k => blk_frozen Bgx k
 have gx0 := c5_0 Bgx
 have gfx0 := blk_frozen Bgx 0
 have gx1 := c5_1 Bgx
 have gfx1 := blk_frozen Bgx 1
 have gx2 := c5_2 Bgx
 have gfx2 := blk_frozen Bgx 2
 have gx3 := c5_3 Bgx
 have gfx3 := blk_frozen Bgx 3
 have gx4 := c5_4 Bgx
 have gfx4 := blk_frozen Bgx 4
 have Fgy := fun k => blk_frozen Bgy k
 have gy0 := c5_0 Bgy
 have gfy0 := blk_frozen Bgy 0
 have gy1 := c5_1 Bgy
 have gfy1 := blk_frozen Bgy 1
 have gy2 := c5_2 Bgy
 have gfy2 := blk_frozen Bgy 2
 have gy3 := c5_3 Bgy
 have gfy3 := blk_frozen Bgy 3
 have gy4 := c5_4 Bgy
 have gfy4 := blk_frozen Bgy 4
 refine one_ (i := 16) (N := none) (bqz 18 131071) rfl rfl qzc (by decide) (fun K hK => ?_)
 refine sk_ ?_
 have HB3 := below_put5 HB2 Ggx (.int .i64 (rd_T37 l0 x).f0) (.int .i64 (rd_T37 l0 x).f1) (.int .i64 (rd_T37 l0 x).f2) (.bool (rd_T37 l0 x).f3) (.int .i64 (rd_T37 l0 x).f4)
 have BX := blk_put5 Bgx (.int .i64 (rd_T37 l0 x).f0) (.int .i64 (rd_T37 l0 x).f1) (.int .i64 (rd_T37 l0 x).f2) (.bool (rd_T37 l0 x).f3) (.int .i64 (rd_T37 l0 x).f4)
 have BY := blk_far5 Bgy NE' (.int .i64 (rd_T37 l0 x).f0) (.int .i64 (rd_T37 l0 x).f1) (.int .i64 (rd_T37 l0 x).f2) (.bool (rd_T37 l0 x).f3) (.int .i64 (rd_T37 l0 x).f4)
 generalize (((((w2.setCell ⟨gx, 0, none⟩ (.int .i64 (rd_T37 l0 x).f0)).setCell ⟨gx, 1, none⟩ (.int .i64 (rd_T37 l0 x).f1)).setCell ⟨gx, 2, none⟩ (.int .i64 (rd_T37 l0 x).f2)).setCell ⟨gx, 3, none⟩ (.bool (rd_T37 l0 x).f3)).setCell ⟨gx, 4, none⟩ (.int .i64 (rd_T37 l0 x).f4)) = w3 at HB3 BX BY ⊢
 clear Bgx Bgy HB2 Fgx Fgy gx0 gfx0 gx1 gfx1 gx2 gfx2 gx3 gfx3 gx4 gfx4 gy0 gfy0 gy1 gfy1 gy2 gfy2 gy3 gfy3 gy4 gfy4
 refine hK.out _ _ ⟨pw_cell_below HB3 Hb1.out, pw_cell_below HB3 Hb2.out, pw_cell_below HB3 Hx.out, pw_cell_below HB3 Hy.out, pw_cell_below HB3 X0.out, pw_cell_below HB3 X1.out, pw_cell_below HB3 X2.out, pw_cell_below HB3 X3.out, pw_cell_below HB3 X4.out, pw_cell_below HB3 Y0.out, pw_cell_below HB3 Y1.out, pw_cell_below HB3 Y2.out, pw_cell_below HB3 Y3.out, pw_cell_below HB3 Y4.out⟩ (fun hHeld => ?_)
 clear hK K
 have gy0 := c5_0 BY
 have gfy0 := blk_frozen BY 0
 have gy1 := c5_1 BY
 have gfy1 := blk_frozen BY 1
 have gy2 := c5_2 BY
 have gfy2 := blk_frozen BY 2
 have gy3 := c5_3 BY
 have gfy3 := blk_frozen BY 3
 have gy4 := c5_4 BY
 have gfy4 := blk_frozen BY 4
 refine last_ (i := 17) (N := none) (bqz 18 262143) rfl rfl qzc (by decide) (fun K hK => ?_)
 refine sk_ ?_
 refine hK.out _ _ ?_
 clear hK K
 have HB4 := below_put5 HB3 Ggy (.int .i64 (rd_T37 l0 y).f0) (.int .i64 (rd_T37 l0 y).f1) (.int .i64 (rd_T37 l0 y).f2) (.bool (rd_T37 l0 y).f3) (.int .i64 (rd_T37 l0 y).f4)
 have CX := blk_far5 BX NE (.int .i64 (rd_T37 l0 y).f0) (.int .i64 (rd_T37 l0 y).f1) (.int .i64 (rd_T37 l0 y).f2) (.bool (rd_T37 l0 y).f3) (.int .i64 (rd_T37 l0 y).f4)
 have CY := blk_put5 BY (.int .i64 (rd_T37 l0 y).f0) (.int .i64 (rd_T37 l0 y).f1) (.int .i64 (rd_T37 l0 y).f2) (.bool (rd_T37 l0 y).f3) (.int .i64 (rd_T37 l0 y).f4)
 generalize (((((w3.setCell ⟨gy, 0, none⟩ (.int .i64 (rd_T37 l0 y).f0)).setCell ⟨gy, 1, none⟩ (.int .i64 (rd_T37 l0 y).f1)).setCell ⟨gy, 2, none⟩ (.int .i64 (rd_T37 l0 y).f2)).setCell ⟨gy, 3, none⟩ (.bool (rd_T37 l0 y).f3)).setCell ⟨gy, 4, none⟩ (.int .i64 (rd_T37 l0 y).f4)) = w4 at HB4 CX CY ⊢
 clear BX BY HB3 hHeld gy0 gfy0 gy1 gfy1 gy2 gfy2 gy3 gfy3 gy4 gfy4
 refine done_ (done_of HT_.out (by kernel_rfl)) ?_
 have gx0 := c5_0 CX
 have gx4 := c5_4 CX
 have gy0 := c5_0 CY
 have gy4 := c5_4 CY
 by_cases c1 : (rd_T37 l0 x).f4 > (rd_T37 l0 y).f4
 {
 have d1 : decide ((rd_T37 l0 x).f4 > (rd_T37 l0 y).f4) = true := decide_eq_true c1
 have R1 : turnsLt l0 x y = true := by unfold turnsLt; rw [d1]; rfl
 have HR := aM R1; clear R1 c1
 go_wp2
 go_ret
 exact ⟨by rw [HR.out]; rfl, HB4⟩
 }
 {
 have d1 : decide ((rd_T37 l0 x).f4 > (rd_T37 l0 y).f4) = false := decide_eq_false c1
 by_cases c2 : (rd_T37 l0 x).f4 = (rd_T37 l0 y).f4
 {
 have d2 : ((rd_T37 l0 x).f4 == (rd_T37 l0 y).f4) = true := by simpa using c2
 have R1 : turnsLt l0 x y = decide ((rd_T37 l0 x).f0 < (rd_T37 l0 y).f0) := by unfold turnsLt; rw [d1, decide_eq_true c2]; simp
 have HR := aM R1; clear R1 c1 c2
 go_wp2
 go_ret
 exact ⟨by rw [HR.out]; rfl, HB4⟩
 }
 {
 have d2 : ((rd_T37 l0 x).f4 == (rd_T37 l0 y).f4) = false := by simpa using c2
 have R1 : turnsLt l0 x y = false := by unfold turnsLt; rw [d1, decide_eq_false c2]; simp
 have HR := aM R1; clear R1 c1 c2
 go_wp2
 go_ret
 exact ⟨by rw [HR.out]; rfl, HB4⟩
 }
 }
 }
def impl_Turns.T5 : Bool × List (List Nat × List Nat) := (true, [([], []), ([], []), ([1], [1]), ([0, 2], [0, 2]), ([3, 3, 0, 1, 2, 3], [3])])
def impl_Turns.B5 : List Nat := [0, 0, 2, 7, 15]
theorem impl_Turns.tab5 : rtab .any (opsOf Try.f17 5) = impl_Turns.T5 := by kernel_rfl
theorem impl_Turns.bits5 : waitsOk impl_Turns.T5.2 impl_Turns.B5 = true := by kernel_rfl
def impl_Turns.T7 : Bool × List (List Nat × List Nat) := (true, [([], []), ([0], [0]), ([], []), ([1, 2], [1, 2])])
def impl_Turns.B7 : List Nat := [0, 1, 0, 7]
theorem impl_Turns.tab7 : rtab .any (opsOf Try.f17 7) = impl_Turns.T7 := by kernel_rfl
theorem impl_Turns.bits7 : waitsOk impl_Turns.T7.2 impl_Turns.B7 = true := by kernel_rfl
def upto (n : Nat) : List Int := (List.range n).map (fun i : Nat => (i : Int))
theorem upto_succ (n : Nat) : upto (n + 1) = upto n ++ [(n : Int)] := by simp [upto, List.range_succ]
theorem upto_length (n : Nat) : (upto n).length = n := by simp [upto]
theorem upto_mem {n : Nat} {x : Int} (h : x ∈ upto n) : 0 ≤ x ∧ x < (n : Int) := by
 obtain ⟨i, hi, rfl⟩ := List.mem_map.1 h
 have := List.mem_range.1 hi
 omega
def impl_Turns.f (l0 : List S37) : Option (List Int) := if l0.length ≤ 20 then some (sortL (turnsLt l0) (upto l0.length)) else none
set_option maxHeartbeats 8000000 in
set_option maxRecDepth 100000 in
theorem impl_Turns.calls (A0 : Option Addr) (c0 : Nat) (l0 : List S37) (r : List Int) (w : World) (hr0 : Kd.C k37 w A0 l0.length l0) (hc0 : l0.length ≤ c0) (h : impl_Turns.f l0 = some r) :
  Calls Try.prog 17 #[.slice A0 l0.length c0] w fun e w' => ∃ v0_ : Value, e = .returned v0_ ∧ Kd.R (Kd.int .i64) 3 w' w.heap.size (fun _ => True) v0_ r ∧ Below w.heap.size w w' := by
 have hu24 := Try.underlying24
 have hu26 := Try.underlying26
 have hl20 : l0.length ≤ 20 := by
  unfold impl_Turns.f at h
  split at h
  {
  assumption
  }
  {
  cases h
  }
 have hr : r = sortL (turnsLt l0) (upto l0.length) := by unfold impl_Turns.f at h; rw [if_pos hl20] at h; exact (Option.some.inj h).symm
 have HRR := aM hr
 have HR0 := aM hr0
 have HC0 := aM hc0
 have HL := aM hl20
 clear hr hr0 hc0 hl20 h
 have HB := aM (Below.refl w.heap.size w)
 go_enter Try.func17, Try.ntmps17
 go_wp2_with (first
  | ((with_reducible refine gate_dst (N := 1) rfl ?_); refine box_event rfl (N := 1) rfl (cs := #[.slice A0 l0.length c0]) (t := 26) ?hr ?_; (case hr => exact qz7); intro b1 hg w1 hbx hb; have BK1 := aM hbx; have GB1 := aM (Nat.le_of_eq hg.symm : w.heap.size ≤ b1); replace HB := aM (below_step HB.out hb); have hbl := blk_lt hbx; have hc1 : w1.cell? ⟨b1, 0, none⟩ = some (.slice A0 l0.length c0) := (blk_cell hbx 0).trans rfl; clear hb hbx hg)
  | ((with_reducible refine gate_dst (N := 3) rfl ?_); refine box_event rfl (N := 3) rfl (cs := #[.slice none 0 0]) (t := 24) ?hr ?_; (case hr => exact qz7); intro b2 hg w2 hbx hb; have BK2 := aM hbx; have NE := aM (show b1 ≠ b2 from by omega); have GB2 := aM (Nat.le_trans (below_size HB.out) (Nat.le_of_eq hg.symm) : w.heap.size ≤ b2); replace HB := aM (below_step HB.out hb); replace BK1 := aM (blk_below BK1.out hb); replace hc1 : w2.cell? ⟨b1, 0, none⟩ = some (.slice A0 l0.length c0) := (blk_cell BK1.out 0).trans rfl; clear hb hbx hg hbl))
 go_loopw [7] (fun v7 w' => ∃ (i : Nat) (v : Value), v7 = .int .i64 i ∧ i ≤ l0.length ∧ Aside0 (w'.heap[b2]? = some (.cells #[v] 24 (0, 0))) ∧ Aside0 (Kd.R (Kd.int .i64) 3 w' w.heap.size (fun k => k ≠ b1 ∧ k ≠ b2) v (upto i)) ∧ Aside0 (w'.heap[b1]? = some (.cells #[.slice A0 l0.length c0] 26 (0, 0))) ∧ Aside0 (Below w.heap.size w w')) (fun v7 _ => l0.length - (intOf v7).toNat)
 case atStart => exact ⟨0, _, rfl, Nat.zero_le _, BK2, ⟨Kd.R_nil _ _ _ _ _⟩, BK1, HB⟩
 case round =>
 clear HB BK1 BK2 hc1
 obtain ⟨i, v, rfl, hi, BK2, HO, BK1, HB⟩ := hrel
 obtain ⟨A2, c2, rfl⟩ := Kd.R_slice HO.out
 have hl1 := blk_lt BK1.out
 have hl2 := blk_lt BK2.out
 have HLT := aM (And.intro hl1 hl2)
 have HI := aM hi
 clear hl1 hl2 hi
 have hn2 := upto_length i
 have HN2 := aM hn2
 clear hn2
 by_cases hlt : i < l0.length
 {
 have LMi : (upto i).length + 1 ≤ 100 := by have := HN2.out; have := HL.out; omega
 have hd : decide ((i : Int) < (l0.length : Int)) = true := decide_eq_true (by omega)
 have h20 : (i : Int) < 20 := by have := HL.out; omega
 have hc2 : wr.cell? ⟨b2, 0, none⟩ = some (.slice A2 (upto i).length c2) := (blk_cell BK2.out 0).trans rfl
 have LM := aM LMi
 clear LMi
 go_wp2_with (first
  | ((with_reducible refine gate_builtin (b := .append) (xs := #[.tmp 10, .tmp 12]) rfl ?_); at_builtin; refine Kd.R_append (Kd.int .i64) (w0 := w) w.heap.size rfl (.tmp 10) (.tmp 12) 24 3 (.int .i64 0) 8 rfl Try.underlying24 info3 rfl (by decide) (by omega) (.slice A2 (upto i).length c2) (upto i) (i : Int) [.int .i64 (i : Int)] (fun k => k ≠ b1 ∧ k ≠ b2) (fun _ => False) rfl rfl ?aP (fun _ hk => hk.elim) ?aF ?aO ?aB ?aS ?aL ?_; (case aP => exact rfl); (case aB => exact HB.out); (case aF => exact (fun k hk => ⟨by have := HLT.out.1; omega, by have := HLT.out.2; omega⟩)); (case aO => exact HO.out); (case aS => exact below_size HB.out); (case aL => have := LM.out; omega); intro v1 w3 ho hb hg hat; obtain ⟨A3, c3, rfl⟩ := Kd.R_slice ho; replace HB := aM hb; replace BK1 := aM (blk_grown BK1.out hg (fun e => (HO.out.1 b1 e.symm).1 rfl)); replace BK2 := aM (blk_grown BK2.out hg (fun e => (HO.out.1 b2 e.symm).2 rfl)); have HO3 := aM ho; clear HO ho hb hg hat hc2; have hf2 := blk_frozen BK2.out 0; have hc2 : w3.cell? ⟨b2, 0, none⟩ = some (.slice A2 (upto i).length c2) := (blk_cell BK2.out 0).trans rfl))
 go_roundw
 case rel => 
  have e_ : (upto i ++ [(i : Int)]).length = (upto i).length + 1 := by simp
  have h3 := HO3.out
  rw [e_] at h3
  refine ⟨i + 1, _, by go_num, by omega, ⟨blk_put BK2.out 0 _ rfl⟩, ⟨?_⟩, ⟨blk_far BK1.out NE.out _⟩, ⟨below_set HB.out GB2.out⟩⟩
  rw [upto_succ]
  exact Kd.R_far h3 (p := ⟨b2, 0, none⟩) (fun k hk => hk.2) _
 case measure => simp [intOf]; omega
 }
 {
 obtain rfl : i = l0.length := by have := HI.out; omega
 have hd : decide ((l0.length : Int) < (l0.length : Int)) = false := decide_eq_false (by omega)
 have hc2 : wr.cell? ⟨b2, 0, none⟩ = some (.slice A2 (upto l0.length).length c2) := (blk_cell BK2.out 0).trans rfl
 have hmi : ∀ (W : World), (Instr.makeInterface 24 (.slice A2 (upto l0.length).length c2)).run Try.prog W = .ok (.iface 24 (.slice A2 (upto l0.length).length c2)) W := fun _ => by kernel_rfl
 have hmf : ∀ (fn : Fn) (first cap : Array Value) (w : World), (Instr.makeFunc fn first cap).run Try.prog w = .ok (.func fn first cap) w := fun _ _ _ _ => rfl
 have hS := sort_few (fun x => 0 ≤ x ∧ x < (l0.length : Int)) (turnsLt l0) 55 #[.pointer (some ⟨b1, 0, none⟩), .pointer (some ⟨b2, 0, none⟩)] (enters_of Try.func55 (by kernel_rfl) rfl) A2 (upto l0.length).length c2 (upto l0.length) w.heap.size _ (by have := HN2.out; have := HL.out; omega) wr HO.out (fun x hx => upto_mem hx)
  (fun blk e W dk hl hs i j hi hj => by
   subst e
   have hb := HO.out.1 blk rfl
   have e1 := hl.gr.block b1 HLT.out.1 (by intro e; injection e with e; exact hb.1 e.symm)
   have e2 := hl.gr.block b2 HLT.out.2 (by intro e; injection e with e; exact hb.2 e.symm)
   have hi' : i < dk.size := by rw [hs]; exact hi
   have hj' : j < dk.size := by rw [hs]; exact hj
   have hx := (hl.ho i hi').1
   have hy := (hl.ho j hj').1
   rw [Nat.zero_add] at hx hy
   exact impl_TurnsL.calls A0 c0 l0 W (Kd.C_below HR0.out (pw_below_grown HB.out _ (below_size HB.out) hl.gr (Kd.R_base HO.out))) b1 b2 blk _ c2 i j dk[i]! dk[j]! ((blk_cell (e1.trans BK1.out) 0).trans rfl) ((blk_cell (e2.trans BK2.out) 0).trans rfl) hi hj hx hy (hl.al i hi').1 (hl.al i hi').2 (hl.al j hj').1 (hl.al j hj').2)
 have HS := aM hS
 clear hS
 go_wp2_with (go_at_call 54; refine HS.out.mono ?_; rintro e w3 ⟨rfl, hR, hG⟩; have HR3 := aM hR; have BK3 := aM (blk_grown BK2.out hG (fun e => (HO.out.1 b2 e.symm).2 rfl)); have HB3 := aM (pw_below_grown HB.out _ (below_size HB.out) hG (Kd.R_base HO.out)); clear hR hG hc2; have hc3 : w3.cell? ⟨b2, 0, none⟩ = some (.slice A2 (upto l0.length).length c2) := (blk_cell BK3.out 0).trans rfl)
 go_ret
 refine ⟨_, rfl, ?_, ?_⟩
 {
 rw [HRR.out]; exact Kd.R_mono HR3.out (fun _ _ => trivial)
 }
 {
 exact HB3.out
 }
 }
/-! ### impl_in: function 88 -/
def impl_in.f (a0 : Int) (a1 : Int) (a2 : Int) : Option (Bool) := if a0 ≥ a1 then (some (decide (a0 ≤ a2))) else (some false)
set_option maxHeartbeats 8000000 in
set_option maxRecDepth 100000 in
theorem impl_in.calls (a0 : Int) (a1 : Int) (a2 : Int) (r : Bool) (w : World) (h : impl_in.f a0 a1 a2 = some r) :
  Calls Try.prog 88 #[.int .i64 a0, .int .i64 a1, .int .i64 a2] w fun e w' => e = .returned (.bool r) ∧ Drawn0 w w' := by
 unfold impl_in.f at h
 have H := h
 clear h
 replace H := iE_ H
 rcases H with ⟨c4b0, H⟩ | ⟨c4b0, H⟩
 {
 obtain rfl := Option.some.inj H
 go_enter Try.func88, Try.ntmps88
 go_wp2
 go_ret
 exact ⟨by first | rfl | (simp; done) | (simp [*]; done), by repeat (first | exact Drawn0.refl _ | apply Drawn0.step)⟩
 }
 {
 obtain rfl := Option.some.inj H
 go_enter Try.func88, Try.ntmps88
 go_wp2
 go_ret
 exact ⟨by first | rfl | (simp; done) | (simp [*]; done), by repeat (first | exact Drawn0.refl _ | apply Drawn0.step)⟩
 }
end Go.Proofs.Ytankmdbbgepmbaa.PFnDriven
