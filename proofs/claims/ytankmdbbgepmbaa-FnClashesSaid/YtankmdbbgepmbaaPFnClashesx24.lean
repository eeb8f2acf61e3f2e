-- Made by a program of this session out of the translation. Lean checks it.
import Derived.Test.YtankmdbbgepmbaaPFnClashesx22
import Derived.Test.YtankmdbbgepmbaaPFnClashesx15
namespace Go.Proofs.Ytankmdbbgepmbaa.PFnClashes
open Go.RowKit Go.Proofs.YtankmdbbgepmbaaW.PrintWords Go.Proofs.YtankmdbbgepmbaaW.PrintLast Go.Proofs.YtankmdbbgepmbaaW.PrintMore
set_option linter.unusedVariables false
set_option linter.unusedSimpArgs false
set_option maxHeartbeats 16000000
set_option maxRecDepth 100000

/-! ### spec_DrawClash: function 40 -/
mutual
def spec_DrawClash.j0 : Nat → List (S37) → List Int → Bool → List Int → Int → Int → Int → Int → List Int → Option (Int × Int × List Int × (List (S37)) × List Int)
 | 0, _, _, _, _, _, _, _, _, _ => none
 | k + 1, x7, x8, x26, x571000, x571001, x571002, x582000, x582001, x582002 => if x26 = true then ((spec_l1Below.f x571000 x571001 x571002 (x8.length : Int)).bind fun bt588 => (if 0 < (x7.length : Int) then (if 0 ≤ bt588.1 then (if bt588.1 < (x7.length : Int) then ((spec_l1Below.f x571000 bt588.2.1 bt588.2.2 (x582002.length : Int)).bind fun bt593 => ((spec_l1Int.f x571000 bt593.2.1 bt593.2.2 (([(rd_T37 x7 0).f1, (rd_T37 x7 bt588.1).f1, bt593.1, (-1)] : List Int))).bind fun bt599 => (if bt588.1 < (x8.length : Int) then (spec_DrawClash.j1 k x7 (x8.set (bt588.1 : Int).toNat bt599.1) x571000 bt599.2.1 bt599.2.2 x582000 x582001 x582002) else (none)))) else (none)) else (none)) else (none))) else (spec_DrawClash.j1 k x7 x8 x571000 x571001 x571002 x582000 x582001 x582002)
def spec_DrawClash.j1 : Nat → List (S37) → List Int → List Int → Int → Int → Int → Int → List Int → Option (Int × Int × List Int × (List (S37)) × List Int)
 | 0, _, _, _, _, _, _, _, _ => none
 | k + 1, x7, x8, x571000, x571001, x571002, x582000, x582001, x582002 => if (x8.length : Int) > 1 then ((spec_l1Once.f x571000 x571001 x571002 4).bind fun bt603 => (spec_DrawClash.j2 k x7 x8 bt603.1 x571000 bt603.2.1 bt603.2.2 x582000 x582001 x582002)) else (spec_DrawClash.j2 k x7 x8 false x571000 x571001 x571002 x582000 x582001 x582002)
def spec_DrawClash.j2 : Nat → List (S37) → List Int → Bool → List Int → Int → Int → Int → Int → List Int → Option (Int × Int × List Int × (List (S37)) × List Int)
 | 0, _, _, _, _, _, _, _, _, _ => none
 | k + 1, x7, x8, x57, x571000, x571001, x571002, x582000, x582001, x582002 => if x57 = true then (if 1 < (x7.length : Int) then (if 0 < (x8.length : Int) then (if 0 < (x7.length : Int) then (if 1 < (x8.length : Int) then ((some ((x8.set (0 : Int).toNat ((rd_T37 x7 1).f1)).set (1 : Int).toNat ((rd_T37 x7 0).f1) : List Int)).bind fun y609 => ((spec_l1Once.f x571000 x571001 x571002 12).bind fun bt610 => (if bt610.1 = true then (if y609.length < 17592186044416 then (some (x582000, x582001, x582002, x7, (y609 ++ [0]))) else (none)) else (some (x582000, x582001, x582002, x7, y609))))) else (none)) else (none)) else (none)) else (none)) else ((spec_l1Once.f x571000 x571001 x571002 12).bind fun bt616 => (if bt616.1 = true then (if x8.length < 17592186044416 then (some (x582000, x582001, x582002, x7, (x8 ++ [0]))) else (none)) else (some (x582000, x582001, x582002, x7, x8))))
end
def spec_DrawClash.f (k : Nat) (l0 : List Int) : Option (Int × Int × List Int × (List (S37)) × List Int) := (spec_l1New.f k l0).bind fun bt567 => ((spec_l7DrawAny.f k bt567.1 bt567.2.1 bt567.2.2).bind fun bt571 => ((spec_Step.f k bt571.1 bt571.2.1 bt571.2.2.1 bt571.2.2.2.1).bind fun t582 => (if (t582.length : Int) > 0 then ((spec_l1Once.f bt567.1 bt571.2.2.2.2.1 bt571.2.2.2.2.2 2).bind fun bt585 => (spec_DrawClash.j0 k bt571.2.2.2.1 t582 bt585.1 bt567.1 bt585.2.1 bt585.2.2 bt571.1 bt571.2.1 bt571.2.2.1)) else (spec_DrawClash.j0 k bt571.2.2.2.1 t582 false bt567.1 bt571.2.2.2.2.1 bt571.2.2.2.2.2 bt571.1 bt571.2.1 bt571.2.2.1))))
theorem spec_DrawClash.mono_l : ∀ k, (∀ y0 y1 y2 y3 y4 y5 y6 y7 y8, LeO (spec_DrawClash.j0 k y0 y1 y2 y3 y4 y5 y6 y7 y8) (spec_DrawClash.j0 (k + 1) y0 y1 y2 y3 y4 y5 y6 y7 y8)) ∧ (∀ y0 y1 y2 y3 y4 y5 y6 y7, LeO (spec_DrawClash.j1 k y0 y1 y2 y3 y4 y5 y6 y7) (spec_DrawClash.j1 (k + 1) y0 y1 y2 y3 y4 y5 y6 y7)) ∧ (∀ y0 y1 y2 y3 y4 y5 y6 y7 y8, LeO (spec_DrawClash.j2 k y0 y1 y2 y3 y4 y5 y6 y7 y8) (spec_DrawClash.j2 (k + 1) y0 y1 y2 y3 y4 y5 y6 y7 y8))
 | 0 => ⟨fun _ _ _ _ _ _ _ _ _ r h => by simp [spec_DrawClash.j0] at h, fun _ _ _ _ _ _ _ _ r h => by simp [spec_DrawClash.j1] at h, fun _ _ _ _ _ _ _ _ _ r h => by simp [spec_DrawClash.j2] at h⟩
 | k + 1 => by
  obtain ⟨ih0, ih1, ih2⟩ := spec_DrawClash.mono_l k
  refine ⟨?_, ?_, ?_⟩
  {
  intro y0 y1 y2 y3 y4 y5 y6 y7 y8
  unfold spec_DrawClash.j0
  have j0 := @spec_Step.mono
  have j1 := @spec_l1New.mono
  have j2 := @spec_l7DrawAny.mono
  exact qL
  }
  {
  intro y0 y1 y2 y3 y4 y5 y6 y7
  unfold spec_DrawClash.j1
  have j0 := @spec_Step.mono
  have j1 := @spec_l1New.mono
  have j2 := @spec_l7DrawAny.mono
  exact qL
  }
  {
  intro y0 y1 y2 y3 y4 y5 y6 y7 y8
  unfold spec_DrawClash.j2
  have j0 := @spec_Step.mono
  have j1 := @spec_l1New.mono
  have j2 := @spec_l7DrawAny.mono
  exact qL
  }
theorem spec_DrawClash.mono : ∀ a0 k, LeO (spec_DrawClash.f k a0) (spec_DrawClash.f (k + 1) a0) := by
 intro a0 k
 obtain ⟨ih0, ih1, ih2⟩ := spec_DrawClash.mono_l k
 unfold spec_DrawClash.f
 have j0 := @spec_Step.mono
 have j1 := @spec_l1New.mono
 have j2 := @spec_l7DrawAny.mono
 exact qL
def spec_DrawClash.T6 : Bool × List (List Nat × List Nat) := (true, [([], []), ([], []), ([], []), ([], []), ([3], [3]), ([4], [4]), ([5], [5]), ([], []), ([], []), ([7, 8], [7, 8]), ([9], [9]), ([10], [10]), ([], []), ([], []), ([13], [13]), ([14], [14]), ([12, 15], [12, 15]), ([6, 11, 16], [6, 11, 16]), ([2, 17, 16], [2, 17]), ([0, 1, 0, 1, 2, 3, 4, 5, 6, 7, 8, 9, 10, 11, 12, 13, 14, 15, 16, 17, 18], [0, 1]), ([19, 18, 18, 0, 1, 2, 3, 4, 5, 6, 7, 8, 9, 10, 11, 12, 13, 14, 15, 16, 17, 18], [18, 19])])
def spec_DrawClash.B6 : List Nat := [0, 0, 0, 0, 8, 24, 56, 0, 0, 384, 896, 1920, 0, 0, 8192, 24576, 61440, 131064, 262140, 524287, 1048575]
theorem spec_DrawClash.tab6 : rtab .any (opsOf Try.f40 6) = spec_DrawClash.T6 := by kernel_rfl
theorem spec_DrawClash.bits6 : waitsOk spec_DrawClash.T6.2 spec_DrawClash.B6 = true := by kernel_rfl
theorem spec_DrawClash.calls (k : Nat) (A0 : Option Addr) (c0 : Nat) (l0 : List Int) (r1 : Int) (r2 : Int) (r3 : List Int) (r4 : List (S37)) (r5 : List Int) (w : World) (hr0 : Kd.C (Kd.int .u8) w A0 l0.length l0) (hc0 : l0.length ≤ c0) (h : spec_DrawClash.f k l0 = some (r1, r2, r3, r4, r5)) :
  Calls Try.prog 40 #[.slice A0 l0.length c0] w fun e w' => ∃ v2_ v3_ v4_ : Value, e = .returned (.tuple #[.agg #[.int .i64 r1, .int .i64 r2, v2_], v3_, v4_]) ∧ Kd.R (Kd.int .i64) 3 w' w.heap.size (fun k_ => some k_ ≠ (v4_ : Value).ownBlock) v2_ r3 ∧ Kd.R k37 37 w' w.heap.size (fun _ => True) v3_ r4 ∧ Kd.R (Kd.int .i64) 3 w' w.heap.size (fun k_ => some k_ ≠ (v2_ : Value).ownBlock) v4_ r5 ∧ Below w.heap.size w w' := by
 have hu43 := Try.underlying43
 have HR0 := aM hr0
 have HC0 := aM hc0
 clear hr0 hc0
 have HB := aM (Below.refl w.heap.size w)
 unfold spec_DrawClash.f at h
 have H := h
 clear h
 replace H := Option.bind_eq_some_iff.mp H
 obtain ⟨⟨t567, t568, t569⟩, A20, H⟩ := H
 try dsimp only at H
 have A2 := aM A20
 clear A20
 replace H := Option.bind_eq_some_iff.mp H
 obtain ⟨⟨t571, t572, t573, t576, t579, t580⟩, A30, H⟩ := H
 try dsimp only at H
 have A3 := aM A30
 clear A30
 replace H := Option.bind_eq_some_iff.mp H
 obtain ⟨t582, A40, H⟩ := H
 have A4 := aM A40
 clear A40
 have HC5 := aM H
 clear H
 go_enter Try.func40, Try.ntmps40
 go_upto_region 4 with (first | ((with_reducible refine gate_dst (N := 2) rfl ?_); refine bx_ 2 #[.int .i64 0, .int .i64 0, .slice none 0 0] 43 ?_; intro gb566 hg w6 hbox hb; have BK566 := aM (hbox); have GW566 := aM (bz_ w hg qz1); have GE566 := GW566; replace HB := bS_ hb; clear hb hbox hg) | ((with_reducible refine gate_callee (f := 57) rfl ?_); refine goesL_ (some 11) rfl rfl Try.func57 (by kernel_rfl) rfl #[.slice A0 l0.length c0] rfl qz2 ?_; (with_reducible refine (spec_l1New.calls k _ _ l0 t567 t568 t569 w _ ?_ ?_ ?_ A2.out).mono ?_); exact qz1; exact HR0.out; exact HC0.out; rintro e w7 ⟨g570, rfl, hi, hb, hb2⟩; refine ⟨_, rfl, ?_⟩; replace HB := aM (hb); have HI570 := aM (hi); have NB570_566 := aM (IsS113.ne_blk hi (blk_below (bk_ BK566.out) hb2) (by decide)); have NB566_570 := aM (Ne.symm (IsS113.ne_blk hi (blk_below (bk_ BK566.out) hb2) (by decide))); replace BK566 := aM (blk_below (bk_ BK566.out) hb2); (try clear hb hb2 hi)) | ((with_reducible refine gate_callee (f := 58) rfl ?_); refine goesL_ (some 14) rfl rfl Try.func58 (by kernel_rfl) rfl #[.pointer (some ⟨g570, 0, none⟩)] rfl qz2 ?_; (with_reducible refine (spec_l7DrawAny.calls k g570 t567 t568 t569 t571 t572 t573 t576 t579 t580 w _ ?_ ?_ A3.out).mono ?_); exact qz5; exact qz1; rintro e w8 ⟨v574, v577, rfl, ho0, ho1, hi, hb, hk⟩; refine ⟨_, rfl, ?_⟩; replace BK566 := aM (KeepBut.blk hk (bk_ BK566.out) NB566_570.out (by simp)); have HO575 := aM (Kd.R_lower ho0 (below_size qz1)); have HO578 := aM (Kd.R_lower ho1 (below_size qz1)); replace HB := aM (hb); replace HI570 := aM (hi); (try clear hb hk hi ho0 ho1)) | ((with_reducible refine gate_dst (N := 6) rfl ?_); refine bx_ 6 #[.int .i64 0, .int .i64 0, .slice none 0 0] 43 ?_; intro gb581 hg w9 hbox hb; replace HO575 := aM (Kd.R_below (rr_ HO575.out) hb); replace HO578 := aM (Kd.R_below (rr_ HO578.out) hb); have BK581 := aM (hbox); have GW581 := aM (bz_ w hg qz1); have GE581 := GW581; replace HB := bS_ hb; obtain ⟨NB566_581, NB581_566⟩ := nb_ hg (bk_ BK566.out); replace BK566 := bB_ BK566 hb; have NB570_581 := aM ((by rw [hg]; exact Nat.ne_of_lt (IsS113.lt (show IsS113 w _ g570 t567 t579 t580 from qz5)) : g570 ≠ gb581)); have NB581_570 := aM ((by rw [hg]; exact Nat.ne_of_gt (IsS113.lt (show IsS113 w _ g570 t567 t579 t580 from qz5)) : gb581 ≠ g570)); replace HI570 := aM (IsS113.below qz5 hb); clear hb hbox hg; have hnb10 := NB581_566.out; have hnc10 := NB566_581.out; have hnb11 := NB581_570.out; have hnc11 := NB570_581.out; obtain ⟨hcz12_0, hcz12_1, hcz12_2, hfz12_0, hfz12_1, hfz12_2⟩ := b6_ BK581.out; obtain ⟨Ao13, co13, eo13⟩ := Kd.R_slice HO575.out; subst eo13; obtain ⟨Ao14, co14, eo14⟩ := Kd.R_slice HO578.out; subst eo14) | ((with_reducible refine gate_callee (f := 41) rfl ?_); refine goesL_ (some 19) rfl rfl Try.func41 (by kernel_rfl) rfl #[.agg #[.int .i64 t571, .int .i64 t572, .slice Ao13 t573.length co13], .slice Ao14 t576.length co14] rfl qz2 ?_; (with_reducible refine (spec_Step.calls k t571 t572 _ _ t573 _ _ t576 t582 _ ?side1 ?side2 ?side3 ?side4 A4.out).mono ?_); (case side1 => refine (Kd.R_reads' (e := 3) (base := w.heap.size) (ok := fun k_ => True) (n := t573.length) (c := co13) ?_).2.2; exact (by (with_reducible repeat (first | apply Kd.R_alloc | apply Kd.R_drewN | apply Kd.R_drew)); exact (Kd.R_mono (Kd.R_far (p := ⟨gb581, 2, none⟩) (Kd.R_far (p := ⟨gb581, 1, none⟩) (Kd.R_far (p := ⟨gb581, 0, none⟩) (Kd.R_types HO575.out BK581.out (by decide)) (fun _ hk => hk.2) (.int .i64 t571)) (fun _ hk => hk.2) (.int .i64 t572)) (fun _ hk => hk.2) (.slice Ao13 t573.length co13)) (fun _ h_ => h_.1)))); (case side2 => exact (Kd.R_reads' HO575.out).2.1); (case side3 => refine (Kd.R_reads' (e := 37) (base := w.heap.size) (ok := fun k_ => True) (n := t576.length) (c := co14) ?_).2.2; exact (by (with_reducible repeat (first | apply Kd.R_alloc | apply Kd.R_drewN | apply Kd.R_drew)); exact (Kd.R_mono (Kd.R_far (p := ⟨gb581, 2, none⟩) (Kd.R_far (p := ⟨gb581, 1, none⟩) (Kd.R_far (p := ⟨gb581, 0, none⟩) (Kd.R_types HO578.out BK581.out (by decide)) (fun _ hk => hk.2) (.int .i64 t571)) (fun _ hk => hk.2) (.int .i64 t572)) (fun _ hk => hk.2) (.slice Ao13 t573.length co13)) (fun _ h_ => h_.1)))); (case side4 => exact (Kd.R_reads' HO578.out).2.1); rintro e w15 ⟨v583, rfl, ho0, hb⟩; refine ⟨_, rfl, ?_⟩; replace HO578 := aM (Kd.R_below (by (with_reducible repeat (first | apply Kd.R_alloc | apply Kd.R_drewN | apply Kd.R_drew)); exact (Kd.R_mono (Kd.R_far (p := ⟨gb581, 2, none⟩) (Kd.R_far (p := ⟨gb581, 1, none⟩) (Kd.R_far (p := ⟨gb581, 0, none⟩) (Kd.R_types HO578.out BK581.out (by decide)) (fun _ hk => hk.2) (.int .i64 t571)) (fun _ hk => hk.2) (.int .i64 t572)) (fun _ hk => hk.2) (.slice Ao13 t573.length co13)) (fun _ h_ => h_.1))) hb); have HO584 := aM (Kd.R_lower (Kd.R_new' ho0 (Kd.R_lt (by (with_reducible repeat (first | apply Kd.R_alloc | apply Kd.R_drewN | apply Kd.R_drew)); exact (Kd.R_mono (Kd.R_far (p := ⟨gb581, 2, none⟩) (Kd.R_far (p := ⟨gb581, 1, none⟩) (Kd.R_far (p := ⟨gb581, 0, none⟩) (Kd.R_types HO575.out BK581.out (by decide)) (fun _ hk => hk.2) (.int .i64 t571)) (fun _ hk => hk.2) (.int .i64 t572)) (fun _ hk => hk.2) (.slice Ao13 t573.length co13)) (fun _ h_ => h_.1))))) (below_size qz1)); replace HO575 := aM (Kd.R_elder' (by (with_reducible repeat (first | apply Kd.R_alloc | apply Kd.R_drewN | apply Kd.R_drew)); exact (Kd.R_mono (Kd.R_far (p := ⟨gb581, 2, none⟩) (Kd.R_far (p := ⟨gb581, 1, none⟩) (Kd.R_far (p := ⟨gb581, 0, none⟩) (Kd.R_types HO575.out BK581.out (by decide)) (fun _ hk => hk.2) (.int .i64 t571)) (fun _ hk => hk.2) (.int .i64 t572)) (fun _ hk => hk.2) (.slice Ao13 t573.length co13)) (fun _ h_ => h_.1))) (Kd.R_base ho0) hb); replace BK566 := aM (blk_below (g := gb566) (o := .cells #[.int .i64 0, .int .i64 0, .slice none 0 0] 43 (0, 0)) (bk2_ BK566.out) hb); replace BK581 := aM (blk_below (g := gb581) (o := .cells #[.int .i64 t571, .int .i64 t572, .slice Ao13 t573.length co13] 43 (0, 0)) (by (with_reducible repeat (first | refine blk_drewN ?_ _ | refine blk_drew ?_ | refine blk_alloc ?_ _)); refine blk_put (cs := #[.int .i64 t571, .int .i64 t572, .slice none 0 0]) ?_ 2 _ rfl; (with_reducible repeat (first | refine blk_drewN ?_ _ | refine blk_drew ?_ | refine blk_alloc ?_ _)); refine blk_put (cs := #[.int .i64 t571, .int .i64 0, .slice none 0 0]) ?_ 1 _ rfl; (with_reducible repeat (first | refine blk_drewN ?_ _ | refine blk_drew ?_ | refine blk_alloc ?_ _)); refine blk_put (cs := #[.int .i64 0, .int .i64 0, .slice none 0 0]) ?_ 0 _ rfl; exact bk_ BK581.out) hb); replace HB := bS_ hb; replace HI570 := aM (IsS113.below (show IsS113 w (((w9.setCell ⟨gb581, 0, none⟩ (.int .i64 t571)).setCell ⟨gb581, 1, none⟩ (.int .i64 t572)).setCell ⟨gb581, 2, none⟩ (.slice Ao13 t573.length co13)) g570 t567 t579 t580 from qz5) hb); (try clear hb ho0)))
 (try simp only [Act.put, List.setIfInBounds_toArray, List.set_cons_zero, List.set_cons_succ])
 go_cut [26] (fun v26 wc => ∃ (kq : Nat) (x26_4 : Bool) (x571001_4 : Int) (x571002_4 : Int), v26 = .bool x26_4 ∧ Aside0 (spec_DrawClash.j0 kq t576 t582 x26_4 t567 x571001_4 x571002_4 t571 t572 t573 = some (r1, r2, r3, r4, r5)) ∧ Aside0 (kq ≤ k) ∧ Aside0 (Kd.R k37 37 wc w.heap.size (fun _ => True) (.slice Ao14 t576.length co14) t576) ∧ Aside0 (Kd.R (Kd.int .i64) 3 wc w.heap.size (fun k_ => some k_ ≠ ((.slice Ao13 t573.length co13) : Value).ownBlock) v583 t582) ∧ Aside0 (Kd.R (Kd.int .i64) 3 wc w.heap.size (fun k_ => some k_ ≠ (v583 : Value).ownBlock) (.slice Ao13 t573.length co13) t573) ∧ Aside0 (wc.heap[gb566]? = some (.cells #[.int .i64 0, .int .i64 0, (.slice none 0 0)] 43 (0, 0))) ∧ Aside0 (wc.heap[gb581]? = some (.cells #[.int .i64 t571, .int .i64 t572, (.slice Ao13 t573.length co13)] 43 (0, 0))) ∧ Aside0 (IsS113 w wc g570 t567 x571001_4 x571002_4) ∧ Aside0 (Below w.heap.size w wc))
 case first =>
  have H := HC5.out
  clear HC5
  replace H := iS_ H
  rcases H with ⟨c16, H⟩ | ⟨c16, H⟩
  {
  have c16b0 := decide_eq_true c16
  have c16b1 : decide (0 < t582.length) = true := decide_eq_true (by omega)
  clear c16
  (first | rw [c16b0] | (simp only [i64_w, i32_w]; rw [c16b0]) | rw [@decide_eq_true _ _ (of_decide_eq_true c16b0)] | rw [@decide_eq_true _ _ (of_decide_eq_true c16b1)] | skip)
  replace H := Option.bind_eq_some_iff.mp H
  obtain ⟨⟨t585, t586, t587⟩, A170, H⟩ := H
  try dsimp only at H
  have A17 := aM A170
  clear A170
  have H' := aM H
  clear H
  obtain ⟨Ao18, co18, eo18⟩ := Kd.R_slice HO584.out
  subst eo18
  go_wp2_with (first | (go_at_call 80; (with_reducible refine (spec_l1Once.calls g570 t567 t579 t580 2 t585 t586 t587 w _ ?_ ?_ A17.out).mono ?_); exact qz5; exact qz1; rintro e w19 ⟨rfl, hi, hb, hk⟩; replace BK566 := aM (KeepBut.blk hk (bk_ BK566.out) NB566_570.out (by simp)); replace HO575 := aM (Kd.R_mono (Kd.R_keep (IsS113.apart (show IsS113 w _ g570 t567 t579 t580 from qz5) (rr_ HO575.out) (by decide)) hk (fun _ h => h.2)) (fun _ h => h.1)); replace HO578 := aM (Kd.R_mono (Kd.R_keep (IsS113.apart (show IsS113 w _ g570 t567 t579 t580 from qz5) (rr_ HO578.out) (by decide)) hk (fun _ h => h.2)) (fun _ h => h.1)); replace BK581 := aM (KeepBut.blk hk (bk_ BK581.out) NB581_570.out (by simp)); replace HO584 := aM (Kd.R_mono (Kd.R_keep (IsS113.apart (show IsS113 w _ g570 t567 t579 t580 from qz5) (rr_ HO584.out) (by decide)) hk (fun _ h => h.2)) (fun _ h => h.1)); replace HB := aM (hb); replace HI570 := aM (hi); (try clear hb hk hi)))
  go_meet
  case rel => exact ⟨_, (t585), (t586), (t587), qz7, H', ⟨by first | omega | exact Nat.le_refl _⟩, ⟨rm_ HO578.out⟩, ⟨by (with_reducible repeat (first | apply Kd.R_alloc | apply Kd.R_drewN | apply Kd.R_drew)); exact Kd.R_mono HO584.out (fun _ hk => hk.2)⟩, ⟨by (with_reducible repeat (first | apply Kd.R_alloc | apply Kd.R_drewN | apply Kd.R_drew)); exact Kd.R_mono HO575.out (fun _ hk => hk.2)⟩, ⟨bk_ BK566.out⟩, ⟨bk_ BK581.out⟩, ⟨qz5⟩, ⟨qz1⟩⟩
  }
  {
  have c16b0 := decide_eq_false c16
  have c16b1 : decide (0 < t582.length) = false := decide_eq_false (by omega)
  clear c16
  (first | rw [c16b0] | (simp only [i64_w, i32_w]; rw [c16b0]) | rw [@decide_eq_false _ _ (of_decide_eq_false c16b0)] | rw [@decide_eq_false _ _ (of_decide_eq_false c16b1)] | skip)
  have H' := aM H
  clear H
  obtain ⟨Ao20, co20, eo20⟩ := Kd.R_slice HO584.out
  subst eo20
  go_wp2
  go_meet
  case rel => exact ⟨_, (false), (t579), (t580), qz7, H', ⟨by first | omega | exact Nat.le_refl _⟩, ⟨rm_ HO578.out⟩, ⟨by (with_reducible repeat (first | apply Kd.R_alloc | apply Kd.R_drewN | apply Kd.R_drew)); exact Kd.R_mono HO584.out (fun _ hk => hk.2)⟩, ⟨by (with_reducible repeat (first | apply Kd.R_alloc | apply Kd.R_drewN | apply Kd.R_drew)); exact Kd.R_mono HO575.out (fun _ hk => hk.2)⟩, ⟨bk_ BK566.out⟩, ⟨bk_ BK581.out⟩, ⟨qz5⟩, ⟨qz1⟩⟩
  }
 case rest =>
 clear HC5
 try clear hcz12_0 hcz12_1 hcz12_2 hfz12_0 hfz12_1 hfz12_2
 obtain ⟨kq, x26_4, x571001_4, x571002_4, rfl, HA, HJ4, HO_7, HO_8, HO_582002, BK566, BK581, HI570, HB⟩ := hcut
 cases kq with
 | zero => exact absurd HA.out (by simp [spec_DrawClash.j0])
 | succ kj4 =>
 have H := HA.out
 clear HA
 simp only [spec_DrawClash.j0] at H
 have HC21 := aM H
 clear H
 go_upto_if 26 with (fail)
 go_cut [] (fun wc => ∃ (kq : Nat) (x8_20 : List Int) (x571001_20 : Int) (x571002_20 : Int), Aside0 (spec_DrawClash.j1 kq t576 x8_20 t567 x571001_20 x571002_20 t571 t572 t573 = some (r1, r2, r3, r4, r5)) ∧ Aside0 (kq ≤ kj4) ∧ Aside0 (Kd.R k37 37 wc w.heap.size (fun _ => True) (.slice Ao14 t576.length co14) t576) ∧ Aside0 (Kd.R (Kd.int .i64) 3 wc w.heap.size (fun k_ => some k_ ≠ ((.slice Ao13 t573.length co13) : Value).ownBlock) v583 x8_20) ∧ Aside0 (Kd.R (Kd.int .i64) 3 wc w.heap.size (fun k_ => some k_ ≠ (v583 : Value).ownBlock) (.slice Ao13 t573.length co13) t573) ∧ Aside0 (wc.heap[gb566]? = some (.cells #[.int .i64 0, .int .i64 0, (.slice none 0 0)] 43 (0, 0))) ∧ Aside0 (wc.heap[gb581]? = some (.cells #[.int .i64 t571, .int .i64 t572, (.slice Ao13 t573.length co13)] 43 (0, 0))) ∧ Aside0 (IsS113 w wc g570 t567 x571001_20 x571002_20) ∧ Aside0 (Below w.heap.size w wc))
 case first =>
  have H := HC21.out
  clear HC21
  replace H := iB_ H
  rcases H with ⟨rfl, H⟩ | ⟨rfl, H⟩
  {
  replace H := Option.bind_eq_some_iff.mp H
  obtain ⟨⟨t588, t589, t590⟩, A230, H⟩ := H
  try dsimp only at H
  have A23 := aM A230
  clear A230
  replace H := iN_ H
  obtain ⟨c24, H⟩ := H
  have c24b0 := decide_eq_true c24
  have c24b1 : decide (0 < t576.length) = true := decide_eq_true (by omega)
  clear c24
  (first | rw [c24b0] | (simp only [i64_w, i32_w]; rw [c24b0]) | rw [@decide_eq_true _ _ (of_decide_eq_true c24b0)] | rw [@decide_eq_true _ _ (of_decide_eq_true c24b1)] | skip)
  replace H := iD_ H
  obtain ⟨c25b0, H⟩ := H
  replace H := iD_ H
  obtain ⟨c26b0, H⟩ := H
  replace H := Option.bind_eq_some_iff.mp H
  obtain ⟨⟨t593, t594, t595⟩, A270, H⟩ := H
  try dsimp only at H
  have A27 := aM A270
  clear A270
  obtain ⟨y596, hy596⟩ : ∃ y_ : List Int, y_ = (([(rd_T37 t576 0).f1, (rd_T37 t576 t588).f1, t593, (-1)] : List Int)) := ⟨_, rfl⟩
  replace H : ((spec_l1Int.f t567 t594 t595 y596).bind fun bt599 => (if t588 < (t582.length : Int) then (spec_DrawClash.j1 kj4 t576 (t582.set (t588 : Int).toNat bt599.1) t567 bt599.2.1 bt599.2.2 t571 t572 t573) else (none))) = some (r1, r2, r3, r4, r5) := by first | (rw [hy596]; exact H) | exact H
  have Ny596 := aM hy596
  clear hy596
  replace H := Option.bind_eq_some_iff.mp H
  obtain ⟨⟨t599, t600, t601⟩, A280, H⟩ := H
  try dsimp only at H
  have A28 := aM A280
  clear A280
  replace H := iD_ H
  obtain ⟨c29b0, H⟩ := H
  obtain ⟨y602, hy602⟩ : ∃ y_ : List Int, y_ = (t582.set (t588 : Int).toNat t599) := ⟨_, rfl⟩
  replace H : (spec_DrawClash.j1 kj4 t576 y602 t567 t600 t601 t571 t572 t573) = some (r1, r2, r3, r4, r5) := by first | (rw [hy602]; exact H) | exact H
  have Ny602 := aM hy602
  clear hy602
  have H' := aM H
  clear H
  obtain ⟨Ao31, co31, eo31⟩ := Kd.R_slice HO_8.out
  subst eo31
  try go_wp2_with (first | ((with_reducible refine gate_callee (f := 73) rfl ?_); refine goesL_ (some 30) rfl rfl Try.func73 (by kernel_rfl) rfl #[.pointer (some ⟨g570, 0, none⟩), .int .i64 (t582.length : Int)] rfl qz2 ?_; (with_reducible refine (spec_l1Below.calls g570 t567 x571001_4 x571002_4 (t582.length : Int) t588 t589 t590 w _ ?_ ?_ A23.out).mono ?_); exact qz5; exact qz1; rintro e w32 ⟨rfl, hi, hb, hk⟩; refine ⟨_, rfl, ?_⟩; replace HO_7 := aM (Kd.R_mono (Kd.R_keep (IsS113.apart (show IsS113 w _ g570 t567 x571001_4 x571002_4 from qz5) (rr_ HO_7.out) (by decide)) hk (fun _ h => h.2)) (fun _ h => h.1)); replace HO_8 := aM (Kd.R_mono (Kd.R_keep (IsS113.apart (show IsS113 w _ g570 t567 x571001_4 x571002_4 from qz5) (rr_ HO_8.out) (by decide)) hk (fun _ h => h.2)) (fun _ h => h.1)); replace HO_582002 := aM (Kd.R_mono (Kd.R_keep (IsS113.apart (show IsS113 w _ g570 t567 x571001_4 x571002_4 from qz5) (rr_ HO_582002.out) (by decide)) hk (fun _ h => h.2)) (fun _ h => h.1)); replace BK566 := aM (KeepBut.blk hk (bk_ BK566.out) NB566_570.out (by simp)); replace BK581 := aM (KeepBut.blk hk (bk_ BK581.out) NB581_570.out (by simp)); replace HB := aM (hb); replace HI570 := aM (hi); (try clear hb hk hi)))
  replace HO_7 := aM (Kd.R_drew HO_7.out)
  replace HO_8 := aM (Kd.R_drew HO_8.out)
  replace HO_582002 := aM (Kd.R_drew HO_582002.out)
  replace BK566 := aM (blk_drew BK566.out)
  replace BK581 := aM (blk_drew BK581.out)
  replace HI570 := aM (IsS113.drew HI570.out)
  replace HB := aM (below_drew1 HB.out)
  have p591 : 0 ≤ (0 : Int) := (by omega)
  have q591 : 0 < (t576.length : Int) := dt_
  obtain ⟨ad591, e591, hx591_0, hx591_1, hx591_2, hx591_3, hx591_4⟩ := at_T37 (Kd.R_reads' HO_7.out).2.2 0 p591 q591
  cases e591
  have qi591 : (0 < t576.length) = True := eq_true (by omega)
  (try rw [show ((0 : Int)).toNat = 0 from rfl] at hx591_0)
  (try rw [show 0 * 5 = 0 from rfl] at hx591_0)
  (try rw [Addr.add_zero'] at hx591_0)
  (try rw [show ((0 : Int)).toNat = 0 from rfl] at hx591_1)
  (try rw [show 0 * 5 = 0 from rfl] at hx591_1)
  (try rw [Addr.add_zero'] at hx591_1)
  (try rw [show ((0 : Int)).toNat = 0 from rfl] at hx591_2)
  (try rw [show 0 * 5 = 0 from rfl] at hx591_2)
  (try rw [Addr.add_zero'] at hx591_2)
  (try rw [show ((0 : Int)).toNat = 0 from rfl] at hx591_3)
  (try rw [show 0 * 5 = 0 from rfl] at hx591_3)
  (try rw [Addr.add_zero'] at hx591_3)
  (try rw [show ((0 : Int)).toNat = 0 from rfl] at hx591_4)
  (try rw [show 0 * 5 = 0 from rfl] at hx591_4)
  (try rw [Addr.add_zero'] at hx591_4)
  replace p591 := eq_true p591
  replace q591 := eq_true q591
  have p592 : (0 ≤ (t588 : Int)) = True := et_
  have q592 : (t588 < (t576.length : Int)) = True := et_
  obtain ⟨ad592, e592, hx592_0, hx592_1, hx592_2, hx592_3, hx592_4⟩ := at_T37 (Kd.R_reads' HO_7.out).2.2 t588 dt_ dt_
  obtain rfl := iJ_ e592
  refine start_ (n := 21) (S := fun w' => w'.cell? ⟨gb581, 0, none⟩ = some (.int .i64 t571) ∧ w'.cell? ⟨gb581, 1, none⟩ = some (.int .i64 t572) ∧ w'.cell? ⟨gb581, 2, none⟩ = some (.slice Ao13 t573.length co13) ∧ w'.cell? ad591 = some (.int .i64 ((rd_T37 t576 0).f0)) ∧ w'.cell? ⟨ad591.block, ad591.off + 1, none⟩ = some (.int .i64 ((rd_T37 t576 0).f1)) ∧ w'.cell? ⟨ad591.block, ad591.off + 2, none⟩ = some (.int .i64 ((rd_T37 t576 0).f2)) ∧ w'.cell? ⟨ad591.block, ad591.off + 3, none⟩ = some (.bool ((rd_T37 t576 0).f3)) ∧ w'.cell? ⟨ad591.block, ad591.off + 4, none⟩ = some (.int .i64 ((rd_T37 t576 0).f4)) ∧ w'.cell? (ad591.add ((t588).toNat * 5)) = some (.int .i64 ((rd_T37 t576 t588).f0)) ∧ w'.cell? ⟨(ad591.add ((t588).toNat * 5)).block, (ad591.add ((t588).toNat * 5)).off + 1, none⟩ = some (.int .i64 ((rd_T37 t576 t588).f1)) ∧ w'.cell? ⟨(ad591.add ((t588).toNat * 5)).block, (ad591.add ((t588).toNat * 5)).off + 2, none⟩ = some (.int .i64 ((rd_T37 t576 t588).f2)) ∧ w'.cell? ⟨(ad591.add ((t588).toNat * 5)).block, (ad591.add ((t588).toNat * 5)).off + 3, none⟩ = some (.bool ((rd_T37 t576 t588).f3)) ∧ w'.cell? ⟨(ad591.add ((t588).toNat * 5)).block, (ad591.add ((t588).toNat * 5)).off + 4, none⟩ = some (.int .i64 ((rd_T37 t576 t588).f4))) (ds := [20]) #[false, false, false, false, false, false, false, false, false, false, false, false, false, false, false, false, false, false, false, false, false] (by kernel_rfl) rfl rfl ⟨(blk_cell BK581.out 0).trans rfl, (blk_cell BK581.out 1).trans rfl, (blk_cell BK581.out 2).trans rfl, hx591_0, hx591_1, hx591_2, hx591_3, hx591_4, hx592_0, hx592_1, hx592_2, hx592_3, hx592_4⟩ (fun hHeld => ?_); refine with_tabW spec_DrawClash.tab6 spec_DrawClash.bits6 (fun HT_ HW_ => ?_)
  generalize w32.drew = w33 at HO_7 HO_8 HO_582002 BK566 BK581 HI570 HB hx591_0 hx591_1 hx591_2 hx591_3 hx591_4 hx592_0 hx592_1 hx592_2 hx592_3 hx592_4 hHeld ⊢
  refine pI_ 0 (bqz 21 1) ?_
  refine jI_ 1 ?_
  refine jI_ 2 ?_
  refine jI_ 3 ?_
  refine jI_ 4 ?_
  refine jI_ 5 ?_
  refine jI_ 7 ?_
  refine jI_ 8 ?_
  refine jI_ 9 ?_
  refine jI_ 10 ?_
  refine jI_ 12 ?_
  refine jI_ 13 ?_
  refine sI13_ 6 ?_
  refine sI13_ 11 ?_
  refine sI13_ 14 ?_
  refine jI_ 15 ?_
  refine oI_ 16 47 (bqz 21 131071) (fun K hK => ?_)
  refine goes_ Try.func73 (by kernel_rfl) rfl #[.pointer (some ⟨g570, 0, none⟩), .int .i64 (t573.length : Int)] (by rfl) rfl rfl qz2 ?_
  with_reducible refine (spec_l1Below.calls g570 t567 t589 t590 (t573.length : Int) t593 t594 t595 w _ ?side1 ?side2 A27.out).mono ?_
  (case side1 => exact qz5)
  (case side2 => exact qz1)
  rintro e w34 ⟨rfl, hi, hb, hk⟩
  have HN_ := Kd.own_blk (IsS113.own_ne HI570.out HO_7.out (by decide))
  have HS3_ := keep_cell hk (hHeld.2.2.2.1) (by first | exact ab_ HN_ | exact HN_)
  have HS4_ := keep_cell hk (hHeld.2.2.2.2.1) (by first | exact ab_ HN_ | exact HN_)
  have HS5_ := keep_cell hk (hHeld.2.2.2.2.2.1) (by first | exact ab_ HN_ | exact HN_)
  have HS6_ := keep_cell hk (hHeld.2.2.2.2.2.2.1) (by first | exact ab_ HN_ | exact HN_)
  have HS7_ := keep_cell hk (hHeld.2.2.2.2.2.2.2.1) (by first | exact ab_ HN_ | exact HN_)
  have HS8_ := keep_cell hk (hHeld.2.2.2.2.2.2.2.2.1) (by first | exact ab_ HN_ | exact HN_)
  have HS9_ := keep_cell hk (hHeld.2.2.2.2.2.2.2.2.2.1) (by first | exact ab_ HN_ | exact HN_)
  have HS10_ := keep_cell hk (hHeld.2.2.2.2.2.2.2.2.2.2.1) (by first | exact ab_ HN_ | exact HN_)
  have HS11_ := keep_cell hk (hHeld.2.2.2.2.2.2.2.2.2.2.2.1) (by first | exact ab_ HN_ | exact HN_)
  have HS12_ := keep_cell hk (hHeld.2.2.2.2.2.2.2.2.2.2.2.2) (by first | exact ab_ HN_ | exact HN_)
  refine ⟨_, rfl, ?_⟩
  replace HO_7 := aM (Kd.R_mono (Kd.R_keep (IsS113.apart (show IsS113 w _ g570 t567 t589 t590 from qz5) (rr_ HO_7.out) (by decide)) hk (fun _ h => h.2)) (fun _ h => h.1))
  replace HO_8 := aM (Kd.R_mono (Kd.R_keep (IsS113.apart (show IsS113 w _ g570 t567 t589 t590 from qz5) (rr_ HO_8.out) (by decide)) hk (fun _ h => h.2)) (fun _ h => h.1))
  replace HO_582002 := aM (Kd.R_mono (Kd.R_keep (IsS113.apart (show IsS113 w _ g570 t567 t589 t590 from qz5) (rr_ HO_582002.out) (by decide)) hk (fun _ h => h.2)) (fun _ h => h.1))
  replace BK566 := aM (KeepBut.blk hk (bk_ BK566.out) NB566_570.out (by simp))
  replace BK581 := aM (KeepBut.blk hk (bk_ BK581.out) NB581_570.out (by simp))
  replace HB := aM (hb)
  replace HI570 := aM (hi)
  (try clear hb)
  (try clear hb2)
  (try clear hk)
  (try clear hi)
  refine hK.out _ _ (b3A_ BK581 ⟨HS3_, HS4_, HS5_, HS6_, HS7_, HS8_, HS9_, HS10_, HS11_, HS12_⟩) (fun hHeld => ?_)
  clear hK K
  refine nm_ 47 ?_
  refine oI_ 17 48 (bqz 21 262143) (fun K hK => ?_)
  refine Kd.R_lit_step (Kd.int .i64) _ 3 ?hg (N := 48) ?hd (xs := ([(rd_T37 t576 0).f1, (rd_T37 t576 t588).f1, t593, (-1)] : List Int)) (inner := [.int .i64 ((rd_T37 t576 0).f1), .int .i64 ((rd_T37 t576 t588).f1), .int .i64 t593, .int .i64 (-1)]) (ok := fun _ => True) (okp := fun _ => True) ?hr ?hp (fun _ hk => hk) trivial (Below.refl _ _) (Nat.le_refl _) (by simp) ?_; (case hd => rfl); (case hg => rfl); (case hr => exact qz9); (case hp => exact (Reps.one (show Kd.M (Kd.int .i64) _ _ _ ((rd_T37 t576 0).f1) [.int .i64 ((rd_T37 t576 0).f1)] from rfl) (Reps.one (show Kd.M (Kd.int .i64) _ _ _ ((rd_T37 t576 t588).f1) [.int .i64 ((rd_T37 t576 t588).f1)] from rfl) (Reps.one (show Kd.M (Kd.int .i64) _ _ _ t593 [.int .i64 t593] from rfl) (Reps.one (show Kd.M (Kd.int .i64) _ _ _ (-1) [.int .i64 (-1)] from rfl) (Reps.none _ _))))))
  intro v597 w35 ho36 hb hg_ hnew_
  have HS3_ := (hb.cell (World.block_lt_of_cell? _ _ (hHeld.2.2.2.1))).trans (hHeld.2.2.2.1)
  have HS4_ := (hb.cell (World.block_lt_of_cell? _ _ (hHeld.2.2.2.2.1))).trans (hHeld.2.2.2.2.1)
  have HS5_ := (hb.cell (World.block_lt_of_cell? _ _ (hHeld.2.2.2.2.2.1))).trans (hHeld.2.2.2.2.2.1)
  have HS6_ := (hb.cell (World.block_lt_of_cell? _ _ (hHeld.2.2.2.2.2.2.1))).trans (hHeld.2.2.2.2.2.2.1)
  have HS7_ := (hb.cell (World.block_lt_of_cell? _ _ (hHeld.2.2.2.2.2.2.2.1))).trans (hHeld.2.2.2.2.2.2.2.1)
  have HS8_ := (hb.cell (World.block_lt_of_cell? _ _ (hHeld.2.2.2.2.2.2.2.2.1))).trans (hHeld.2.2.2.2.2.2.2.2.1)
  have HS9_ := (hb.cell (World.block_lt_of_cell? _ _ (hHeld.2.2.2.2.2.2.2.2.2.1))).trans (hHeld.2.2.2.2.2.2.2.2.2.1)
  have HS10_ := (hb.cell (World.block_lt_of_cell? _ _ (hHeld.2.2.2.2.2.2.2.2.2.2.1))).trans (hHeld.2.2.2.2.2.2.2.2.2.2.1)
  have HS11_ := (hb.cell (World.block_lt_of_cell? _ _ (hHeld.2.2.2.2.2.2.2.2.2.2.2.1))).trans (hHeld.2.2.2.2.2.2.2.2.2.2.2.1)
  have HS12_ := (hb.cell (World.block_lt_of_cell? _ _ (hHeld.2.2.2.2.2.2.2.2.2.2.2.2))).trans (hHeld.2.2.2.2.2.2.2.2.2.2.2.2)
  clear hg_ hnew_
  (first | rw [← Ny596.out] at ho36 | (simp only [Int.reduceToNat] at ho36; rw [← Ny596.out] at ho36))
  replace HO_7 := aM (Kd.R_below (rr_ HO_7.out) hb)
  have HO598 := aM (Kd.R_lower (Kd.R_new' (Kd.R_new' ho36 (Kd.R_lt (rr_ HO_8.out))) (Kd.R_lt (rr_ HO_582002.out))) (below_size qz1))
  replace HO_8 := aM (Kd.R_elder' (rr_ HO_8.out) (Kd.R_base ho36) hb)
  replace HO_582002 := aM (Kd.R_elder' (rr_ HO_582002.out) (Kd.R_base ho36) hb)
  replace BK566 := bB_ BK566 hb
  replace BK581 := bB_ BK581 hb
  replace HB := bS_ hb
  replace HI570 := aM (IsS113.below qz5 hb)
  clear hb ho36
  obtain ⟨Ao37, co37, eo37⟩ := Kd.R_slice HO598.out
  (first | subst eo37 | (injection eo37 with f1_ f2_ f3_; have f4_ := f1_.symm; have f5_ := f3_.symm; clear f1_ f2_ f3_; subst f4_; subst f5_))
  refine hK.out _ _ (b3A_ BK581 ⟨HS3_, HS4_, HS5_, HS6_, HS7_, HS8_, HS9_, HS10_, HS11_, HS12_⟩) (fun hHeld => ?_)
  clear hK K
  refine nm_ 48 ?_
  refine oI_ 18 49 (bqz 21 524287) (fun K hK => ?_)
  refine goes_ Try.func81 (by kernel_rfl) rfl #[.pointer (some ⟨g570, 0, none⟩), .slice Ao37 y596.length co37] (by rfl) rfl rfl qz2 ?_
  with_reducible refine (spec_l1Int.calls g570 t567 t594 t595 _ _ y596 t599 t600 t601 w _ ?side1 ?side2 ?side3 ?side4 ?side5 A28.out).mono ?_
  (case side1 => exact qz5)
  (case side2 => exact qz1)
  (case side3 => repeat (first | exact (Kd.R_reads' HO598.out).2.2 | (with_reducible refine Kd.C_alloc ?_ _) | (with_reducible refine Kd.C_drewN ?_ _) | (with_reducible refine Kd.C_drew ?_)))
  (case side4 => exact (Kd.R_reads' HO598.out).2.1)
  (case side5 => exact far_slice (IsS113.own_ne HI570.out HO598.out (by decide)))
  rintro e w38 ⟨rfl, hi, hb, hk⟩
  have HN_ := Kd.own_blk (IsS113.own_ne HI570.out HO_7.out (by decide))
  have HS3_ := keep_cell hk (hHeld.2.2.2.1) (by first | exact ab_ HN_ | exact HN_)
  have HS4_ := keep_cell hk (hHeld.2.2.2.2.1) (by first | exact ab_ HN_ | exact HN_)
  have HS5_ := keep_cell hk (hHeld.2.2.2.2.2.1) (by first | exact ab_ HN_ | exact HN_)
  have HS6_ := keep_cell hk (hHeld.2.2.2.2.2.2.1) (by first | exact ab_ HN_ | exact HN_)
  have HS7_ := keep_cell hk (hHeld.2.2.2.2.2.2.2.1) (by first | exact ab_ HN_ | exact HN_)
  have HS8_ := keep_cell hk (hHeld.2.2.2.2.2.2.2.2.1) (by first | exact ab_ HN_ | exact HN_)
  have HS9_ := keep_cell hk (hHeld.2.2.2.2.2.2.2.2.2.1) (by first | exact ab_ HN_ | exact HN_)
  have HS10_ := keep_cell hk (hHeld.2.2.2.2.2.2.2.2.2.2.1) (by first | exact ab_ HN_ | exact HN_)
  have HS11_ := keep_cell hk (hHeld.2.2.2.2.2.2.2.2.2.2.2.1) (by first | exact ab_ HN_ | exact HN_)
  have HS12_ := keep_cell hk (hHeld.2.2.2.2.2.2.2.2.2.2.2.2) (by first | exact ab_ HN_ | exact HN_)
  refine ⟨_, rfl, ?_⟩
  replace HO_7 := aM (Kd.R_mono (Kd.R_keep (IsS113.apart (show IsS113 w _ g570 t567 t594 t595 from qz5) (rr_ HO_7.out) (by decide)) hk (fun _ h => h.2)) (fun _ h => h.1))
  replace HO_8 := aM (Kd.R_mono (Kd.R_keep (IsS113.apart (show IsS113 w _ g570 t567 t594 t595 from qz5) (rr_ HO_8.out) (by decide)) hk (fun _ h => h.2)) (fun _ h => h.1))
  replace HO_582002 := aM (Kd.R_mono (Kd.R_keep (IsS113.apart (show IsS113 w _ g570 t567 t594 t595 from qz5) (rr_ HO_582002.out) (by decide)) hk (fun _ h => h.2)) (fun _ h => h.1))
  replace BK566 := aM (KeepBut.blk hk (bk_ BK566.out) NB566_570.out (by simp))
  replace BK581 := aM (KeepBut.blk hk (bk_ BK581.out) NB581_570.out (by simp))
  replace HO598 := aM (Kd.R_mono (Kd.R_keep (IsS113.apart (show IsS113 w _ g570 t567 t594 t595 from qz5) (rr_ HO598.out) (by decide)) hk (fun _ h => h.2)) (fun _ h => h.1))
  replace HB := aM (hb)
  replace HI570 := aM (hi)
  (try clear hb)
  (try clear hb2)
  (try clear hk)
  (try clear hi)
  have p30 : 0 ≤ (t588 : Int) := dt_
  have q30 : (t588 : Int) < ((t582.length : Int) : Int) := dt_
  obtain ⟨go30, co30, eo30, gb30, gl30, cl30, HG30⟩ := Kd.R_form HO_8.out (by omega)
  (first | cases eo30 | (injection eo30 with ea_ en_ ec_; (first | subst ea_ | (injection ea_ with ea_; subst ea_)); subst ec_; clear en_))
  have GB30 := aM gb30
  have GG30 := aM HG30
  clear gb30 gl30 HG30
  obtain ⟨hx30_0, hf30_0⟩ := Kd.R_celln 0 HO_8.out (t588 : Int) p30 q30
  replace p30 := eq_true p30
  replace q30 := eq_true q30
  have HN570_go30 := aM (show g570 ≠ go30 from by have h_ := IsS113.own_ne HI570.out HO_8.out (by decide); intro e_; exact h_ (by rw [e_]; rfl))
  have HP39 := Kd.R_putn HO_8.out (t588 : Int) t599
  rw [← Ny602.out] at HP39
  have HQ39 := aM HP39
  clear HP39
  refine hK.out _ _ (b3A_ BK581 ⟨HS3_, HS4_, HS5_, HS6_, HS7_, HS8_, HS9_, HS10_, HS11_, HS12_⟩) (fun hHeld => ?_)
  clear hK K
  refine nm_ 49 ?_
  refine pI_ 19 (bqz 21 1048575) ?_
  refine last_ (i := 20) (N := none) (bqz 21 2097151) rfl rfl qzc (by decide) (fun K hK => ?_)
  refine sk_ ?_
  refine hK.out _ _ ?_
  clear hK K
  refine dN_ ?_
  try go_wp2
  go_meet
  case rel => exact ⟨_, (y602), (t600), (t601), H', ⟨by have := HJ4.out; first | omega | exact Nat.le_refl _⟩, ⟨by (with_reducible repeat (first | apply Kd.R_alloc | apply Kd.R_drewN | apply Kd.R_drew)); exact Kd.R_mono (Kd.R_far (p := ⟨go30, (t588 : Int).toNat, none⟩) (Kd.R_types HO_7.out GG30.out (by decide)) (fun _ hk => hk.2) (.int .i64 t599)) (fun _ hk => trivial)⟩, ⟨by (with_reducible repeat (first | apply Kd.R_alloc | apply Kd.R_drewN | apply Kd.R_drew)); exact Kd.R_mono HQ39.out (fun _ hk => hk.1)⟩, ⟨by (with_reducible repeat (first | apply Kd.R_alloc | apply Kd.R_drewN | apply Kd.R_drew)); exact Kd.R_mono (Kd.R_far (p := ⟨go30, (t588 : Int).toNat, none⟩) (Kd.R_mono HO_582002.out (fun k_ hk => (⟨hk, fun e_ => hk.1 (by rw [e_]; rfl)⟩ : _ ∧ k_ ≠ go30))) (fun _ hk => hk.2) (.int .i64 t599)) (fun _ hk => hk.1.1)⟩, ⟨by (with_reducible repeat (first | refine blk_drewN ?_ _ | refine blk_drew ?_ | refine blk_alloc ?_ _)); refine blk_far ?_ (by have h_ := Kd.R_ne HO_8.out BK566.out (by decide); intro e_; exact h_ (by rw [e_]; rfl)) _; exact bk_ BK566.out⟩, ⟨by (with_reducible repeat (first | refine blk_drewN ?_ _ | refine blk_drew ?_ | refine blk_alloc ?_ _)); refine blk_far ?_ (by have h_ := Kd.R_ne HO_8.out BK581.out (by decide); intro e_; exact h_ (by rw [e_]; rfl)) _; exact bk_ BK581.out⟩, ⟨qz5⟩, ⟨qz1⟩⟩
  }
  {
  have H' := aM H
  clear H
  go_wp2
  go_meet
  case rel => exact ⟨_, (t582), (x571001_4), (x571002_4), H', ⟨by have := HJ4.out; first | omega | exact Nat.le_refl _⟩, ⟨rm_ HO_7.out⟩, ⟨rm_ HO_8.out⟩, ⟨rm_ HO_582002.out⟩, ⟨bk_ BK566.out⟩, ⟨bk_ BK581.out⟩, ⟨qz5⟩, ⟨qz1⟩⟩
  }
 case rest =>
 clear HC21
 try clear hf3
 try clear qi5
 try clear hf30
 try clear hcz12_0 hcz12_1 hcz12_2 hfz12_0 hfz12_1 hfz12_2
 obtain ⟨kq, x8_20, x571001_20, x571002_20, HA, HJ20, HO_7, HO_8, HO_582002, BK566, BK581, HI570, HB⟩ := hcut
 cases kq with
 | zero => exact absurd HA.out (by simp [spec_DrawClash.j1])
 | succ kj20 =>
 have H := HA.out
 clear HA
 simp only [spec_DrawClash.j1] at H
 have HC40 := aM H
 clear H
 go_upto_region 7 with (fail)
 go_cut [57] (fun v57 wc => ∃ (kq : Nat) (x57_39 : Bool) (x571001_39 : Int) (x571002_39 : Int), v57 = .bool x57_39 ∧ Aside0 (spec_DrawClash.j2 kq t576 x8_20 x57_39 t567 x571001_39 x571002_39 t571 t572 t573 = some (r1, r2, r3, r4, r5)) ∧ Aside0 (kq ≤ kj20) ∧ Aside0 (Kd.R k37 37 wc w.heap.size (fun _ => True) (.slice Ao14 t576.length co14) t576) ∧ Aside0 (Kd.R (Kd.int .i64) 3 wc w.heap.size (fun k_ => some k_ ≠ ((.slice Ao13 t573.length co13) : Value).ownBlock) v583 x8_20) ∧ Aside0 (Kd.R (Kd.int .i64) 3 wc w.heap.size (fun k_ => some k_ ≠ (v583 : Value).ownBlock) (.slice Ao13 t573.length co13) t573) ∧ Aside0 (wc.heap[gb566]? = some (.cells #[.int .i64 0, .int .i64 0, (.slice none 0 0)] 43 (0, 0))) ∧ Aside0 (wc.heap[gb581]? = some (.cells #[.int .i64 t571, .int .i64 t572, (.slice Ao13 t573.length co13)] 43 (0, 0))) ∧ Aside0 (IsS113 w wc g570 t567 x571001_39 x571002_39) ∧ Aside0 (Below w.heap.size w wc))
 case first =>
  have H := HC40.out
  clear HC40
  replace H := iS_ H
  rcases H with ⟨c41, H⟩ | ⟨c41, H⟩
  {
  have c41b0 := decide_eq_true c41
  have c41b1 : decide (1 < x8_20.length) = true := decide_eq_true (by omega)
  clear c41
  (first | rw [c41b0] | (simp only [i64_w, i32_w]; rw [c41b0]) | rw [@decide_eq_true _ _ (of_decide_eq_true c41b0)] | rw [@decide_eq_true _ _ (of_decide_eq_true c41b1)] | skip)
  replace H := Option.bind_eq_some_iff.mp H
  obtain ⟨⟨t603, t604, t605⟩, A420, H⟩ := H
  try dsimp only at H
  have A42 := aM A420
  clear A420
  have H' := aM H
  clear H
  obtain ⟨Ao43, co43, eo43⟩ := Kd.R_slice HO_8.out
  subst eo43
  go_wp2_with (first | (go_at_call 80; (with_reducible refine (spec_l1Once.calls g570 t567 x571001_20 x571002_20 4 t603 t604 t605 w _ ?_ ?_ A42.out).mono ?_); exact qz5; exact qz1; rintro e w44 ⟨rfl, hi, hb, hk⟩; replace HO_7 := aM (Kd.R_mono (Kd.R_keep (IsS113.apart (show IsS113 w _ g570 t567 x571001_20 x571002_20 from qz5) (rr_ HO_7.out) (by decide)) hk (fun _ h => h.2)) (fun _ h => h.1)); replace HO_8 := aM (Kd.R_mono (Kd.R_keep (IsS113.apart (show IsS113 w _ g570 t567 x571001_20 x571002_20 from qz5) (rr_ HO_8.out) (by decide)) hk (fun _ h => h.2)) (fun _ h => h.1)); replace HO_582002 := aM (Kd.R_mono (Kd.R_keep (IsS113.apart (show IsS113 w _ g570 t567 x571001_20 x571002_20 from qz5) (rr_ HO_582002.out) (by decide)) hk (fun _ h => h.2)) (fun _ h => h.1)); replace BK566 := aM (KeepBut.blk hk (bk_ BK566.out) NB566_570.out (by simp)); replace BK581 := aM (KeepBut.blk hk (bk_ BK581.out) NB581_570.out (by simp)); replace HB := aM (hb); replace HI570 := aM (hi); (try clear hb hk hi)))
  go_meet
  case rel => exact ⟨_, (t603), (t604), (t605), qz7, H', ⟨by have := HJ4.out; have := HJ20.out; first | omega | exact Nat.le_refl _⟩, ⟨rm_ HO_7.out⟩, ⟨rm_ HO_8.out⟩, ⟨rm_ HO_582002.out⟩, ⟨bk_ BK566.out⟩, ⟨bk_ BK581.out⟩, ⟨qz5⟩, ⟨qz1⟩⟩
  }
  {
  have c41b0 := decide_eq_false c41
  have c41b1 : decide (1 < x8_20.length) = false := decide_eq_false (by omega)
  clear c41
  (first | rw [c41b0] | (simp only [i64_w, i32_w]; rw [c41b0]) | rw [@decide_eq_false _ _ (of_decide_eq_false c41b0)] | rw [@decide_eq_false _ _ (of_decide_eq_false c41b1)] | skip)
  have H' := aM H
  clear H
  obtain ⟨Ao45, co45, eo45⟩ := Kd.R_slice HO_8.out
  subst eo45
  go_wp2
  go_meet
  case rel => exact ⟨_, (false), (x571001_20), (x571002_20), qz7, H', ⟨by have := HJ4.out; have := HJ20.out; first | omega | exact Nat.le_refl _⟩, ⟨rm_ HO_7.out⟩, ⟨rm_ HO_8.out⟩, ⟨rm_ HO_582002.out⟩, ⟨bk_ BK566.out⟩, ⟨bk_ BK581.out⟩, ⟨qz5⟩, ⟨qz1⟩⟩
  }
 case rest =>
 clear HC40
 try clear hf3
 try clear qi5
 try clear hf30
 try clear hcz12_0 hcz12_1 hcz12_2 hfz12_0 hfz12_1 hfz12_2
 obtain ⟨kq, x57_39, x571001_39, x571002_39, rfl, HA, HJ39, HO_7, HO_8, HO_582002, BK566, BK581, HI570, HB⟩ := hcut
 cases kq with
 | zero => exact absurd HA.out (by simp [spec_DrawClash.j2])
 | succ kj39 =>
 have H := HA.out
 clear HA
 simp only [spec_DrawClash.j2] at H
 replace H := iB_ H
 rcases H with ⟨rfl, H⟩ | ⟨rfl, H⟩
 {
 replace H := iN_ H
 obtain ⟨c47, H⟩ := H
 have c47b0 := decide_eq_true c47
 have c47b1 : decide (1 < t576.length) = true := decide_eq_true (by omega)
 clear c47
 replace H := iN_ H
 obtain ⟨c48, H⟩ := H
 have c48b0 := decide_eq_true c48
 have c48b1 : decide (0 < x8_20.length) = true := decide_eq_true (by omega)
 clear c48
 obtain ⟨y607, hy607⟩ : ∃ y_ : List Int, y_ = (x8_20.set (0 : Int).toNat ((rd_T37 t576 1).f1)) := ⟨_, rfl⟩
 replace H : (if 0 < (t576.length : Int) then (if 1 < (x8_20.length : Int) then ((some (y607.set (1 : Int).toNat ((rd_T37 t576 0).f1) : List Int)).bind fun y609 => ((spec_l1Once.f t567 x571001_39 x571002_39 12).bind fun bt610 => (if bt610.1 = true then (if y609.length < 17592186044416 then (some (t571, t572, t573, t576, (y609 ++ [0]))) else (none)) else (some (t571, t572, t573, t576, y609))))) else (none)) else (none)) = some (r1, r2, r3, r4, r5) := by first | (rw [hy607]; exact H) | exact H
 have Ny607 := aM hy607
 clear hy607
 replace H := iN_ H
 obtain ⟨c50, H⟩ := H
 have c50b0 := decide_eq_true c50
 have c50b1 : decide (0 < t576.length) = true := decide_eq_true (by omega)
 clear c50
 replace H := iN_ H
 obtain ⟨c51, H⟩ := H
 have c51b0 := decide_eq_true c51
 have c51b1 : decide (1 < x8_20.length) = true := decide_eq_true (by omega)
 clear c51
 obtain ⟨y609, hy609⟩ : ∃ y_ : List Int, y_ = (y607.set (1 : Int).toNat ((rd_T37 t576 0).f1)) := ⟨_, rfl⟩
 replace H := yB_ hy609 H
 have Ny609 := aM hy609
 clear hy609
 replace H := Option.bind_eq_some_iff.mp H
 obtain ⟨⟨t610, t611, t612⟩, A530, H⟩ := H
 try dsimp only at H
 have A53 := aM A530
 clear A530
 have p606 : 0 ≤ (1 : Int) := (by omega)
 have q606 : 1 < (t576.length : Int) := dt_
 obtain ⟨ad606, e606, hx606_0, hx606_1, hx606_2, hx606_3, hx606_4⟩ := at_T37 (Kd.R_reads' HO_7.out).2.2 1 p606 q606
 cases e606
 (try simp only [show (1 : Int).toNat = 1 from rfl, Nat.reduceMul, Nat.reduceEqDiff, Go.Addr.add, ↓reduceIte] at hx606_0)
 (try simp only [show (1 : Int).toNat = 1 from rfl, Nat.reduceMul, Nat.reduceEqDiff, Go.Addr.add, ↓reduceIte] at hx606_1)
 (try simp only [show (1 : Int).toNat = 1 from rfl, Nat.reduceMul, Nat.reduceEqDiff, Go.Addr.add, ↓reduceIte] at hx606_2)
 (try simp only [show (1 : Int).toNat = 1 from rfl, Nat.reduceMul, Nat.reduceEqDiff, Go.Addr.add, ↓reduceIte] at hx606_3)
 (try simp only [show (1 : Int).toNat = 1 from rfl, Nat.reduceMul, Nat.reduceEqDiff, Go.Addr.add, ↓reduceIte] at hx606_4)
 have qi606 : (1 < t576.length) = True := eq_true (by omega)
 (try rw [show ((1 : Int)).toNat = 1 from rfl] at hx606_0)
 (try rw [show 1 * 5 = 5 from rfl] at hx606_0)
 (try rw [show ((1 : Int)).toNat = 1 from rfl] at hx606_1)
 (try rw [show 1 * 5 = 5 from rfl] at hx606_1)
 (try rw [show ((1 : Int)).toNat = 1 from rfl] at hx606_2)
 (try rw [show 1 * 5 = 5 from rfl] at hx606_2)
 (try rw [show ((1 : Int)).toNat = 1 from rfl] at hx606_3)
 (try rw [show 1 * 5 = 5 from rfl] at hx606_3)
 (try rw [show ((1 : Int)).toNat = 1 from rfl] at hx606_4)
 (try rw [show 1 * 5 = 5 from rfl] at hx606_4)
 replace p606 := eq_true p606
 replace q606 := eq_true q606
 have p49 : 0 ≤ (0 : Int) := (by omega)
 have q49 : (0 : Int) < ((x8_20.length : Int) : Int) := dt_
 have qi49 : (0 < x8_20.length) = True := eq_true (by omega)
 obtain ⟨go49, co49, eo49, gb49, gl49, cl49, HG49⟩ := Kd.R_form HO_8.out (by omega)
 (first | cases eo49 | (injection eo49 with ea_ en_ ec_; (first | subst ea_ | (injection ea_ with ea_; subst ea_)); subst ec_; clear en_))
 have GB49 := aM gb49
 have GG49 := aM HG49
 clear gb49 gl49 HG49
 obtain ⟨hx49_0, hf49_0⟩ := Kd.R_celln 0 HO_8.out (0 : Int) p49 q49
 (try rw [show ((0 : Int)).toNat = 0 from rfl] at hx49_0)
 (try simp only [Nat.reduceMul, Nat.zero_mul, Nat.zero_add, Nat.reduceAdd] at hx49_0)
 (try rw [show ((0 : Int)).toNat = 0 from rfl] at hf49_0)
 (try simp only [Nat.reduceMul, Nat.zero_mul, Nat.zero_add, Nat.reduceAdd] at hf49_0)
 replace p49 := eq_true p49
 replace q49 := eq_true q49
 obtain ⟨hy56_, hz56_⟩ := Kd.R_celln 0 HO_8.out (0 : Int) (by omega) (dt_)
 (try simp only [Int.reduceToNat, Int.toNat_zero, Int.toNat_ofNat, Nat.reduceMul, Nat.zero_mul, Nat.zero_add] at hy56_ hz56_)
 (try rw [show ((0 : Int)).toNat = 0 from rfl] at hy56_)
 (try rw [show ((0 : Int)).toNat = 0 from rfl] at hz56_)
 have HP56 := Kd.R_putg HO_8.out (0 : Int) ((rd_T37 t576 1).f1)
 go_upto_if 71 with (first | ((with_reducible refine gate_store (t := 3) (p := 63) rfl ?_); refine store_event (t := 3) (p := 63) (v := ?vo_w57) (w1 := (wc.setCell ⟨go49, (0 : Int).toNat, none⟩ (.int .i64 ((rd_T37 t576 1).f1)))) ?hg ?ho ?hn ?hr ?_; (case ho => rfl); (case hg => rfl); (case hn => rfl); (case hr => exact qz9); intro w57 hw; have hg : wc.grownBy w57 (some go49) := (by rw [hw]; exact HP56.2); have hp_ : Kd.R (Kd.int .i64) 3 w57 w.heap.size (fun k_ => some k_ ≠ (.slice Ao13 t573.length co13 : Value).ownBlock) (.slice (some ⟨go49, 0, none⟩) x8_20.length co49) y607 := (by rw [hw, Ny607.out]; exact HP56.1); clear HP56; replace HO_7 := aM (Kd.R_over' (v := (.slice (some ⟨go49, 0, none⟩) x8_20.length co49)) (rr_ HO_7.out) (Kd.R_typed HO_8.out) (by decide) hg); replace HO_582002 := aM (Kd.R_after (v := (.slice (some ⟨go49, 0, none⟩) x8_20.length co49)) (v1 := (.slice (some ⟨go49, 0, none⟩) x8_20.length co49)) (ok := (fun _ => True)) (by (with_reducible repeat (first | apply Kd.R_alloc | apply Kd.R_drewN | apply Kd.R_drew)); exact Kd.R_mono HO_582002.out (fun _ hk => ⟨trivial, hk⟩)) hg (.inl rfl)); replace BK566 := aM (blk_grown (bk_ BK566.out) hg (Kd.R_ne HO_8.out BK566.out (by decide))); replace BK581 := aM (blk_grown (bk_ BK581.out) hg (Kd.R_ne HO_8.out BK581.out (by decide))); replace HI570 := aM (IsS113.grown qz5 hg (IsS113.own_ne HI570.out HO_8.out (by decide))); replace HO_8 := aM (hp_); replace HB := aM ((by rw [hw]; exact below_set (HB.out) GB49.out : Below w.heap.size w w57)); clear hg hw hp_; have p608 : 0 ≤ (0 : Int) := (by omega); have q608 : 0 < (t576.length : Int) := dt_; obtain ⟨ad608, e608, hx608_0, hx608_1, hx608_2, hx608_3, hx608_4⟩ := at_T37 (Kd.R_reads' HO_7.out).2.2 0 p608 q608; obtain rfl := iJ_ e608; have qi608 : (0 < t576.length) = True := eq_true (by omega); (try rw [show ((0 : Int)).toNat = 0 from rfl] at hx608_0); (try rw [show 0 * 5 = 0 from rfl] at hx608_0); (try rw [Addr.add_zero'] at hx608_0); (try rw [show ((0 : Int)).toNat = 0 from rfl] at hx608_1); (try rw [show 0 * 5 = 0 from rfl] at hx608_1); (try rw [Addr.add_zero'] at hx608_1); (try rw [show ((0 : Int)).toNat = 0 from rfl] at hx608_2); (try rw [show 0 * 5 = 0 from rfl] at hx608_2); (try rw [Addr.add_zero'] at hx608_2); (try rw [show ((0 : Int)).toNat = 0 from rfl] at hx608_3); (try rw [show 0 * 5 = 0 from rfl] at hx608_3); (try rw [Addr.add_zero'] at hx608_3); (try rw [show ((0 : Int)).toNat = 0 from rfl] at hx608_4); (try rw [show 0 * 5 = 0 from rfl] at hx608_4); (try rw [Addr.add_zero'] at hx608_4); replace p608 := eq_true p608; replace q608 := eq_true q608; have p52 : 0 ≤ (1 : Int) := (by omega); have q52 : (1 : Int) < ((x8_20.length : Int) : Int) := dt_; have qi52 : (1 < x8_20.length) = True := eq_true (by omega); obtain ⟨hx52_0, hf52_0⟩ := Kd.R_celln 0 HO_8.out (1 : Int) p52 q52; (try rw [show ((1 : Int)).toNat = 1 from rfl] at hx52_0); (try simp only [Nat.reduceMul, Nat.zero_mul, Nat.zero_add, Nat.reduceAdd] at hx52_0); (try rw [show ((1 : Int)).toNat = 1 from rfl] at hf52_0); (try simp only [Nat.reduceMul, Nat.zero_mul, Nat.zero_add, Nat.reduceAdd] at hf52_0); replace p52 := eq_true p52; replace q52 := eq_true q52; obtain ⟨hy58_, hz58_⟩ := Kd.R_celln 0 HO_8.out (1 : Int) (by omega) (dt_); (try simp only [Int.reduceToNat, Int.toNat_zero, Int.toNat_ofNat, Nat.reduceMul, Nat.zero_mul, Nat.zero_add] at hy58_ hz58_); (try rw [show ((1 : Int)).toNat = 1 from rfl] at hy58_); (try rw [show ((1 : Int)).toNat = 1 from rfl] at hz58_); have HP58 := Kd.R_putg HO_8.out (1 : Int) ((rd_T37 t576 0).f1)) | ((with_reducible refine gate_store (t := 3) (p := 69) rfl ?_); refine store_event (t := 3) (p := 69) (v := ?vo_w59) (w1 := (w57.setCell ⟨go49, (1 : Int).toNat, none⟩ (.int .i64 ((rd_T37 t576 0).f1)))) ?hg ?ho ?hn ?hr ?_; (case ho => rfl); (case hg => rfl); (case hn => rfl); (case hr => exact qz9); intro w59 hw; have hg : w57.grownBy w59 (some go49) := (by rw [hw]; exact HP58.2); have hp_ : Kd.R (Kd.int .i64) 3 w59 w.heap.size (fun k_ => some k_ ≠ (.slice Ao13 t573.length co13 : Value).ownBlock) (.slice (some ⟨go49, 0, none⟩) x8_20.length co49) y609 := (by rw [hw, Ny609.out]; exact HP58.1); clear HP58; replace HO_7 := aM (Kd.R_over' (v := (.slice (some ⟨go49, 0, none⟩) x8_20.length co49)) (rr_ HO_7.out) (Kd.R_typed HO_8.out) (by decide) hg); replace HO_582002 := aM (Kd.R_after (v := (.slice (some ⟨go49, 0, none⟩) x8_20.length co49)) (v1 := (.slice (some ⟨go49, 0, none⟩) x8_20.length co49)) (ok := (fun _ => True)) (rr_ HO_582002.out) hg (.inl rfl)); replace BK566 := aM (blk_grown (bk_ BK566.out) hg (Kd.R_ne HO_8.out BK566.out (by decide))); replace BK581 := aM (blk_grown (bk_ BK581.out) hg (Kd.R_ne HO_8.out BK581.out (by decide))); replace HI570 := aM (IsS113.grown qz5 hg (IsS113.own_ne HI570.out HO_8.out (by decide))); replace HO_8 := aM (hp_); replace HB := aM ((by rw [hw]; exact below_set (HB.out) GB49.out : Below w.heap.size w w59)); clear hg hw hp_) | ((with_reducible refine gate_callee (f := 80) rfl ?_); refine goesL_ (some 71) rfl rfl Try.func80 (by kernel_rfl) rfl #[.pointer (some ⟨g570, 0, none⟩), .int .i64 12] rfl qz2 ?_; (with_reducible refine (spec_l1Once.calls g570 t567 x571001_39 x571002_39 12 t610 t611 t612 w _ ?_ ?_ A53.out).mono ?_); exact qz5; exact qz1; rintro e w60 ⟨rfl, hi, hb, hk⟩; refine ⟨_, rfl, ?_⟩; replace HO_7 := aM (Kd.R_mono (Kd.R_keep (IsS113.apart (show IsS113 w _ g570 t567 x571001_39 x571002_39 from qz5) (rr_ HO_7.out) (by decide)) hk (fun _ h => h.2)) (fun _ h => h.1)); replace HO_8 := aM (Kd.R_mono (Kd.R_keep (IsS113.apart (show IsS113 w _ g570 t567 x571001_39 x571002_39 from qz5) (rr_ HO_8.out) (by decide)) hk (fun _ h => h.2)) (fun _ h => h.1)); replace HO_582002 := aM (Kd.R_mono (Kd.R_keep (IsS113.apart (show IsS113 w _ g570 t567 x571001_39 x571002_39 from qz5) (rr_ HO_582002.out) (by decide)) hk (fun _ h => h.2)) (fun _ h => h.1)); replace BK566 := aM (KeepBut.blk hk (bk_ BK566.out) NB566_570.out (by simp)); replace BK581 := aM (KeepBut.blk hk (bk_ BK581.out) NB581_570.out (by simp)); replace HB := aM (hb); replace HI570 := aM (hi); (try clear hb hk hi)))
 replace H := iB_ H
 rcases H with ⟨rfl, H⟩ | ⟨rfl, H⟩
 {
 replace H := iN_ H
 obtain ⟨c55, H⟩ := H
 have LMc55 := aM c55
 clear c55
 obtain ⟨y613, hy613⟩ : ∃ y_ : List Int, y_ = (y609 ++ [0]) := ⟨_, rfl⟩
 replace H : (some (t571, t572, t573, t576, y613)) = some (r1, r2, r3, r4, r5) := by first | (rw [hy613]; exact H) | exact H
 have Ny613 := aM hy613
 clear hy613
 simp only [Option.some.injEq, Prod.mk.injEq] at H
 obtain ⟨rfl, rfl, rfl, rfl, rfl⟩ := H
 go_wp2_with (first | ((with_reducible refine gate_builtin (b := .append) (xs := #[.tmp 72, .tmp 73]) rfl ?_); at_builtin; refine Kd.R_append (Kd.int .i64) (w0 := w) w.heap.size rfl (.tmp 72) (.tmp 73) 24 3 (.int .i64 0) 8 rfl Try.underlying24 info3 rfl (by decide) (by omega) (.slice (some ⟨go49, 0, none⟩) x8_20.length co49) y609 0 [.int .i64 0] (fun k_ => some k_ ≠ (.slice Ao13 t573.length co13 : Value).ownBlock) (fun _ => False) rfl rfl ?aP (fun _ hk => hk.elim) ?aF ?aO ?aB ?aS ?aL ?_; (case aP => exact rfl); (case aB => exact qz1); (case aF => exact (fun k_ hk => Kd.fresh' (Kd.R_lt (rr_ HO_582002.out)) k_ hk)); (case aO => exact (rr_ HO_8.out)); (case aS => exact qz32); (case aL => have := LMc55.out; omega); intro v614 w61 ho hb hg hat; rw [← Ny613.out] at ho; replace HO_7 := aM (Kd.R_over' (rr_ HO_7.out) (Kd.R_typed (rr_ HO_8.out)) (by decide) hg); replace HO_582002 := aM (Kd.R_after (ok := (fun _ => True)) (rr_ HO_582002.out) hg hat); replace BK566 := aM (blk_grown (bk_ BK566.out) hg (Kd.R_ne HO_8.out BK566.out (by decide))); replace BK581 := aM (blk_grown (bk_ BK581.out) hg (Kd.R_ne HO_8.out BK581.out (by decide))); replace HI570 := aM (IsS113.grown qz5 hg (IsS113.own_ne HI570.out HO_8.out (by decide))); replace HB := aM (hb); have HO615 := aM (ho); clear HO_8; clear ho hb hg hat; have hnb62 := NB581_566.out; have hnc62 := NB566_581.out; have hnb63 := NB581_570.out; have hnc63 := NB570_581.out; obtain ⟨hcz64_0, hcz64_1, hcz64_2, hfz64_0, hfz64_1, hfz64_2⟩ := b6_ BK581.out; have hnb65 := NB566_570.out; have hnc65 := NB570_566.out; obtain ⟨hcz66_0, hcz66_1, hcz66_2, hfz66_0, hfz66_1, hfz66_2⟩ := b6_ BK566.out))
 refine bodyPost_ret (results_ctt rfl _ _ gb566 43 #[.int .i64 t571, .int .i64 t572, .slice Ao13 t573.length co13] (0, 0) _ rfl (by (with_reducible repeat (first | refine blk_drewN ?_ _ | refine blk_drew ?_ | refine blk_alloc ?_ _)); refine blk_put (cs := #[.int .i64 t571, .int .i64 t572, .slice none 0 0]) ?_ 2 _ rfl; (with_reducible repeat (first | refine blk_drewN ?_ _ | refine blk_drew ?_ | refine blk_alloc ?_ _)); refine blk_put (cs := #[.int .i64 t571, .int .i64 0, .slice none 0 0]) ?_ 1 _ rfl; (with_reducible repeat (first | refine blk_drewN ?_ _ | refine blk_drew ?_ | refine blk_alloc ?_ _)); refine blk_put (cs := #[.int .i64 0, .int .i64 0, .slice none 0 0]) ?_ 0 _ rfl; exact bk_ BK566.out) Try.underlying43 rfl (by kernel_rfl)) rfl ?_
 exact ⟨_, _, _, qzw, by (with_reducible repeat (first | apply Kd.R_alloc | apply Kd.R_drewN | apply Kd.R_drew)); exact Kd.R_mono (Kd.R_far (p := ⟨gb566, 2, none⟩) (Kd.R_far (p := ⟨gb566, 1, none⟩) (Kd.R_far (p := ⟨gb566, 0, none⟩) (Kd.R_types HO_582002.out BK566.out (by decide)) (fun _ hk => hk.2) (.int .i64 t571)) (fun _ hk => hk.2) (.int .i64 t572)) (fun _ hk => hk.2) (.slice Ao13 t573.length co13)) (fun _ hk => hk.1.2), by (with_reducible repeat (first | apply Kd.R_alloc | apply Kd.R_drewN | apply Kd.R_drew)); exact Kd.R_mono (Kd.R_far (p := ⟨gb566, 2, none⟩) (Kd.R_far (p := ⟨gb566, 1, none⟩) (Kd.R_far (p := ⟨gb566, 0, none⟩) (Kd.R_types HO_7.out BK566.out (by decide)) (fun _ hk => hk.2) (.int .i64 t571)) (fun _ hk => hk.2) (.int .i64 t572)) (fun _ hk => hk.2) (.slice Ao13 t573.length co13)) (fun _ hk => trivial), by (with_reducible repeat (first | apply Kd.R_alloc | apply Kd.R_drewN | apply Kd.R_drew)); exact Kd.R_mono (Kd.R_far (p := ⟨gb566, 2, none⟩) (Kd.R_far (p := ⟨gb566, 1, none⟩) (Kd.R_far (p := ⟨gb566, 0, none⟩) (Kd.R_types HO615.out BK566.out (by decide)) (fun _ hk => hk.2) (.int .i64 t571)) (fun _ hk => hk.2) (.int .i64 t572)) (fun _ hk => hk.2) (.slice Ao13 t573.length co13)) (fun _ hk => hk.1), qz1⟩
 }
 {
 simp only [Option.some.injEq, Prod.mk.injEq] at H
 obtain ⟨rfl, rfl, rfl, rfl, rfl⟩ := H
 have hnb72 := NB581_566.out
 have hnc72 := NB566_581.out
 have hnb73 := NB581_570.out
 have hnc73 := NB570_581.out
 obtain ⟨hcz74_0, hcz74_1, hcz74_2, hfz74_0, hfz74_1, hfz74_2⟩ := b6_ BK581.out
 have hnb75 := NB566_570.out
 have hnc75 := NB570_566.out
 obtain ⟨hcz76_0, hcz76_1, hcz76_2, hfz76_0, hfz76_1, hfz76_2⟩ := b6_ BK566.out
 go_wp2
 refine bodyPost_ret (results_ctt rfl _ _ gb566 43 #[.int .i64 t571, .int .i64 t572, .slice Ao13 t573.length co13] (0, 0) _ rfl (by (with_reducible repeat (first | refine blk_drewN ?_ _ | refine blk_drew ?_ | refine blk_alloc ?_ _)); refine blk_put (cs := #[.int .i64 t571, .int .i64 t572, .slice none 0 0]) ?_ 2 _ rfl; (with_reducible repeat (first | refine blk_drewN ?_ _ | refine blk_drew ?_ | refine blk_alloc ?_ _)); refine blk_put (cs := #[.int .i64 t571, .int .i64 0, .slice none 0 0]) ?_ 1 _ rfl; (with_reducible repeat (first | refine blk_drewN ?_ _ | refine blk_drew ?_ | refine blk_alloc ?_ _)); refine blk_put (cs := #[.int .i64 0, .int .i64 0, .slice none 0 0]) ?_ 0 _ rfl; exact bk_ BK566.out) Try.underlying43 rfl (by kernel_rfl)) rfl ?_
 exact ⟨_, _, _, qzw, by (with_reducible repeat (first | apply Kd.R_alloc | apply Kd.R_drewN | apply Kd.R_drew)); exact Kd.R_mono (Kd.R_far (p := ⟨gb566, 2, none⟩) (Kd.R_far (p := ⟨gb566, 1, none⟩) (Kd.R_far (p := ⟨gb566, 0, none⟩) (Kd.R_types HO_582002.out BK566.out (by decide)) (fun _ hk => hk.2) (.int .i64 t571)) (fun _ hk => hk.2) (.int .i64 t572)) (fun _ hk => hk.2) (.slice Ao13 t573.length co13)) (fun _ hk => hk.1.2), by (with_reducible repeat (first | apply Kd.R_alloc | apply Kd.R_drewN | apply Kd.R_drew)); exact Kd.R_mono (Kd.R_far (p := ⟨gb566, 2, none⟩) (Kd.R_far (p := ⟨gb566, 1, none⟩) (Kd.R_far (p := ⟨gb566, 0, none⟩) (Kd.R_types HO_7.out BK566.out (by decide)) (fun _ hk => hk.2) (.int .i64 t571)) (fun _ hk => hk.2) (.int .i64 t572)) (fun _ hk => hk.2) (.slice Ao13 t573.length co13)) (fun _ hk => trivial), by (with_reducible repeat (first | apply Kd.R_alloc | apply Kd.R_drewN | apply Kd.R_drew)); exact Kd.R_mono (Kd.R_far (p := ⟨gb566, 2, none⟩) (Kd.R_far (p := ⟨gb566, 1, none⟩) (Kd.R_far (p := ⟨gb566, 0, none⟩) (Kd.R_types HO_8.out BK566.out (by decide)) (fun _ hk => hk.2) (.int .i64 t571)) (fun _ hk => hk.2) (.int .i64 t572)) (fun _ hk => hk.2) (.slice Ao13 t573.length co13)) (fun _ hk => hk.1), qz1⟩
 }
 }
 {
 replace H := Option.bind_eq_some_iff.mp H
 obtain ⟨⟨t616, t617, t618⟩, A770, H⟩ := H
 try dsimp only at H
 have A77 := aM A770
 clear A770
 go_upto_if 71 with (first | ((with_reducible refine gate_callee (f := 80) rfl ?_); refine goesL_ (some 71) rfl rfl Try.func80 (by kernel_rfl) rfl #[.pointer (some ⟨g570, 0, none⟩), .int .i64 12] rfl qz2 ?_; (with_reducible refine (spec_l1Once.calls g570 t567 x571001_39 x571002_39 12 t616 t617 t618 w _ ?_ ?_ A77.out).mono ?_); exact qz5; exact qz1; rintro e w80 ⟨rfl, hi, hb, hk⟩; refine ⟨_, rfl, ?_⟩; replace HO_7 := aM (Kd.R_mono (Kd.R_keep (IsS113.apart (show IsS113 w _ g570 t567 x571001_39 x571002_39 from qz5) (rr_ HO_7.out) (by decide)) hk (fun _ h => h.2)) (fun _ h => h.1)); replace HO_8 := aM (Kd.R_mono (Kd.R_keep (IsS113.apart (show IsS113 w _ g570 t567 x571001_39 x571002_39 from qz5) (rr_ HO_8.out) (by decide)) hk (fun _ h => h.2)) (fun _ h => h.1)); replace HO_582002 := aM (Kd.R_mono (Kd.R_keep (IsS113.apart (show IsS113 w _ g570 t567 x571001_39 x571002_39 from qz5) (rr_ HO_582002.out) (by decide)) hk (fun _ h => h.2)) (fun _ h => h.1)); replace BK566 := aM (KeepBut.blk hk (bk_ BK566.out) NB566_570.out (by simp)); replace BK581 := aM (KeepBut.blk hk (bk_ BK581.out) NB581_570.out (by simp)); replace HB := aM (hb); replace HI570 := aM (hi); (try clear hb hk hi)))
 replace H := iB_ H
 rcases H with ⟨rfl, H⟩ | ⟨rfl, H⟩
 {
 replace H := iN_ H
 obtain ⟨c79, H⟩ := H
 have LMc79 := aM c79
 clear c79
 obtain ⟨y619, hy619⟩ : ∃ y_ : List Int, y_ = (x8_20 ++ [0]) := ⟨_, rfl⟩
 replace H : (some (t571, t572, t573, t576, y619)) = some (r1, r2, r3, r4, r5) := by first | (rw [hy619]; exact H) | exact H
 have Ny619 := aM hy619
 clear hy619
 simp only [Option.some.injEq, Prod.mk.injEq] at H
 obtain ⟨rfl, rfl, rfl, rfl, rfl⟩ := H
 go_wp2_with (first | ((with_reducible refine gate_builtin (b := .append) (xs := #[.tmp 72, .tmp 73]) rfl ?_); at_builtin; refine Kd.R_append (Kd.int .i64) (w0 := w) w.heap.size rfl (.tmp 72) (.tmp 73) 24 3 (.int .i64 0) 8 rfl Try.underlying24 info3 rfl (by decide) (by omega) v583 x8_20 0 [.int .i64 0] (fun k_ => some k_ ≠ (.slice Ao13 t573.length co13 : Value).ownBlock) (fun _ => False) rfl rfl ?aP (fun _ hk => hk.elim) ?aF ?aO ?aB ?aS ?aL ?_; (case aP => exact rfl); (case aB => exact qz1); (case aF => exact (fun k_ hk => Kd.fresh' (Kd.R_lt (rr_ HO_582002.out)) k_ hk)); (case aO => exact (rr_ HO_8.out)); (case aS => exact qz32); (case aL => have := LMc79.out; omega); intro v620 w81 ho hb hg hat; rw [← Ny619.out] at ho; replace HO_7 := aM (Kd.R_over' (rr_ HO_7.out) (Kd.R_typed (rr_ HO_8.out)) (by decide) hg); replace HO_582002 := aM (Kd.R_after (ok := (fun _ => True)) (by (with_reducible repeat (first | apply Kd.R_alloc | apply Kd.R_drewN | apply Kd.R_drew)); exact Kd.R_mono HO_582002.out (fun _ hk => ⟨trivial, hk⟩)) hg hat); replace BK566 := aM (blk_grown (bk_ BK566.out) hg (Kd.R_ne HO_8.out BK566.out (by decide))); replace BK581 := aM (blk_grown (bk_ BK581.out) hg (Kd.R_ne HO_8.out BK581.out (by decide))); replace HI570 := aM (IsS113.grown qz5 hg (IsS113.own_ne HI570.out HO_8.out (by decide))); replace HB := aM (hb); have HO621 := aM (ho); clear HO_8; clear ho hb hg hat; have hnb82 := NB581_566.out; have hnc82 := NB566_581.out; have hnb83 := NB581_570.out; have hnc83 := NB570_581.out; obtain ⟨hcz84_0, hcz84_1, hcz84_2, hfz84_0, hfz84_1, hfz84_2⟩ := b6_ BK581.out; have hnb85 := NB566_570.out; have hnc85 := NB570_566.out; obtain ⟨hcz86_0, hcz86_1, hcz86_2, hfz86_0, hfz86_1, hfz86_2⟩ := b6_ BK566.out))
 refine bodyPost_ret (results_ctt rfl _ _ gb566 43 #[.int .i64 t571, .int .i64 t572, .slice Ao13 t573.length co13] (0, 0) _ rfl (by (with_reducible repeat (first | refine blk_drewN ?_ _ | refine blk_drew ?_ | refine blk_alloc ?_ _)); refine blk_put (cs := #[.int .i64 t571, .int .i64 t572, .slice none 0 0]) ?_ 2 _ rfl; (with_reducible repeat (first | refine blk_drewN ?_ _ | refine blk_drew ?_ | refine blk_alloc ?_ _)); refine blk_put (cs := #[.int .i64 t571, .int .i64 0, .slice none 0 0]) ?_ 1 _ rfl; (with_reducible repeat (first | refine blk_drewN ?_ _ | refine blk_drew ?_ | refine blk_alloc ?_ _)); refine blk_put (cs := #[.int .i64 0, .int .i64 0, .slice none 0 0]) ?_ 0 _ rfl; exact bk_ BK566.out) Try.underlying43 rfl (by kernel_rfl)) rfl ?_
 exact ⟨_, _, _, qzw, by (with_reducible repeat (first | apply Kd.R_alloc | apply Kd.R_drewN | apply Kd.R_drew)); exact Kd.R_mono (Kd.R_far (p := ⟨gb566, 2, none⟩) (Kd.R_far (p := ⟨gb566, 1, none⟩) (Kd.R_far (p := ⟨gb566, 0, none⟩) (Kd.R_types HO_582002.out BK566.out (by decide)) (fun _ hk => hk.2) (.int .i64 t571)) (fun _ hk => hk.2) (.int .i64 t572)) (fun _ hk => hk.2) (.slice Ao13 t573.length co13)) (fun _ hk => hk.1.2), by (with_reducible repeat (first | apply Kd.R_alloc | apply Kd.R_drewN | apply Kd.R_drew)); exact Kd.R_mono (Kd.R_far (p := ⟨gb566, 2, none⟩) (Kd.R_far (p := ⟨gb566, 1, none⟩) (Kd.R_far (p := ⟨gb566, 0, none⟩) (Kd.R_types HO_7.out BK566.out (by decide)) (fun _ hk => hk.2) (.int .i64 t571)) (fun _ hk => hk.2) (.int .i64 t572)) (fun _ hk => hk.2) (.slice Ao13 t573.length co13)) (fun _ hk => trivial), by (with_reducible repeat (first | apply Kd.R_alloc | apply Kd.R_drewN | apply Kd.R_drew)); exact Kd.R_mono (Kd.R_far (p := ⟨gb566, 2, none⟩) (Kd.R_far (p := ⟨gb566, 1, none⟩) (Kd.R_far (p := ⟨gb566, 0, none⟩) (Kd.R_types HO621.out BK566.out (by decide)) (fun _ hk => hk.2) (.int .i64 t571)) (fun _ hk => hk.2) (.int .i64 t572)) (fun _ hk => hk.2) (.slice Ao13 t573.length co13)) (fun _ hk => hk.1), qz1⟩
 }
 {
 simp only [Option.some.injEq, Prod.mk.injEq] at H
 obtain ⟨rfl, rfl, rfl, rfl, rfl⟩ := H
 have hnb88 := NB581_566.out
 have hnc88 := NB566_581.out
 have hnb89 := NB581_570.out
 have hnc89 := NB570_581.out
 obtain ⟨hcz90_0, hcz90_1, hcz90_2, hfz90_0, hfz90_1, hfz90_2⟩ := b6_ BK581.out
 have hnb91 := NB566_570.out
 have hnc91 := NB570_566.out
 obtain ⟨hcz92_0, hcz92_1, hcz92_2, hfz92_0, hfz92_1, hfz92_2⟩ := b6_ BK566.out
 go_wp2
 refine bodyPost_ret (results_ctt rfl _ _ gb566 43 #[.int .i64 t571, .int .i64 t572, .slice Ao13 t573.length co13] (0, 0) _ rfl (by (with_reducible repeat (first | refine blk_drewN ?_ _ | refine blk_drew ?_ | refine blk_alloc ?_ _)); refine blk_put (cs := #[.int .i64 t571, .int .i64 t572, .slice none 0 0]) ?_ 2 _ rfl; (with_reducible repeat (first | refine blk_drewN ?_ _ | refine blk_drew ?_ | refine blk_alloc ?_ _)); refine blk_put (cs := #[.int .i64 t571, .int .i64 0, .slice none 0 0]) ?_ 1 _ rfl; (with_reducible repeat (first | refine blk_drewN ?_ _ | refine blk_drew ?_ | refine blk_alloc ?_ _)); refine blk_put (cs := #[.int .i64 0, .int .i64 0, .slice none 0 0]) ?_ 0 _ rfl; exact bk_ BK566.out) Try.underlying43 rfl (by kernel_rfl)) rfl ?_
 exact ⟨_, _, _, qzw, by (with_reducible repeat (first | apply Kd.R_alloc | apply Kd.R_drewN | apply Kd.R_drew)); exact Kd.R_mono (Kd.R_far (p := ⟨gb566, 2, none⟩) (Kd.R_far (p := ⟨gb566, 1, none⟩) (Kd.R_far (p := ⟨gb566, 0, none⟩) (Kd.R_types HO_582002.out BK566.out (by decide)) (fun _ hk => hk.2) (.int .i64 t571)) (fun _ hk => hk.2) (.int .i64 t572)) (fun _ hk => hk.2) (.slice Ao13 t573.length co13)) (fun _ hk => hk.1), by (with_reducible repeat (first | apply Kd.R_alloc | apply Kd.R_drewN | apply Kd.R_drew)); exact Kd.R_mono (Kd.R_far (p := ⟨gb566, 2, none⟩) (Kd.R_far (p := ⟨gb566, 1, none⟩) (Kd.R_far (p := ⟨gb566, 0, none⟩) (Kd.R_types HO_7.out BK566.out (by decide)) (fun _ hk => hk.2) (.int .i64 t571)) (fun _ hk => hk.2) (.int .i64 t572)) (fun _ hk => hk.2) (.slice Ao13 t573.length co13)) (fun _ hk => trivial), by (with_reducible repeat (first | apply Kd.R_alloc | apply Kd.R_drewN | apply Kd.R_drew)); exact Kd.R_mono (Kd.R_far (p := ⟨gb566, 2, none⟩) (Kd.R_far (p := ⟨gb566, 1, none⟩) (Kd.R_far (p := ⟨gb566, 0, none⟩) (Kd.R_types HO_8.out BK566.out (by decide)) (fun _ hk => hk.2) (.int .i64 t571)) (fun _ hk => hk.2) (.int .i64 t572)) (fun _ hk => hk.2) (.slice Ao13 t573.length co13)) (fun _ hk => hk.1), qz1⟩
 }
 }
/-! ### laws_FnClashes: function 8 -/
mutual
def laws_FnClashes.l0 : Nat → List (S37) → List Int → Int → Option (Bool)
 | 0, _, _, _ => none
 | k + 1, x4, x5, x7 => if x7 < (x5.length : Int) then (laws_FnClashes.l1 k x4 x5 x7 0) else (some ((x5.length : Int) == (x4.length : Int)))
def laws_FnClashes.l1 : Nat → List (S37) → List Int → Int → Int → Option (Bool)
 | 0, _, _, _, _ => none
 | k + 1, x4, x5, x7, x8 => if x8 < x7 then (if 0 ≤ x7 then (if x7 < (x5.length : Int) then (if 0 ≤ x8 then (if x8 < (x5.length : Int) then (if (rd x5 x7) = (rd x5 x8) then (some false) else (if x8 < (x4.length : Int) then (if (rd x5 x7) = ((rd_T37 x4 x8).f1) then (if x7 < (x4.length : Int) then (if (rd x5 x8) = ((rd_T37 x4 x7).f1) then (some false) else (laws_FnClashes.l1 k x4 x5 x7 (wrap64 (x8 + 1)))) else (none)) else (laws_FnClashes.l1 k x4 x5 x7 (wrap64 (x8 + 1)))) else (none))) else (none)) else (none)) else (none)) else (none)) else (laws_FnClashes.l0 k x4 x5 (wrap64 (x7 + 1)))
end
def laws_FnClashes.f (k : Nat) (l0 : List Int) : Option (Bool) := (laws_big.f l0).bind fun t622 => (if t622 = true then (some true) else ((spec_DrawClash.f k l0).bind fun bt623 => ((impl_Clash.f k bt623.1 bt623.2.1 bt623.2.2.1 bt623.2.2.2.1 bt623.2.2.2.2).bind fun t635 => ((spec_Clash.f k bt623.1 bt623.2.1 bt623.2.2.1 bt623.2.2.2.1 bt623.2.2.2.2).bind fun t636 => (if t635 = t636 then (if t635 = 0 then (laws_FnClashes.l0 k bt623.2.2.2.1 bt623.2.2.2.2 0) else (if t635 > 0 then (some (decide (t635 < 5))) else (some false))) else (some false))))))
theorem laws_FnClashes.mono_l : ∀ k, (∀ y0 y1 y2, LeO (laws_FnClashes.l0 k y0 y1 y2) (laws_FnClashes.l0 (k + 1) y0 y1 y2)) ∧ (∀ y0 y1 y2 y3, LeO (laws_FnClashes.l1 k y0 y1 y2 y3) (laws_FnClashes.l1 (k + 1) y0 y1 y2 y3))
 | 0 => ⟨fun _ _ _ r h => by simp [laws_FnClashes.l0] at h, fun _ _ _ _ r h => by simp [laws_FnClashes.l1] at h⟩
 | k + 1 => by
  obtain ⟨ih0, ih1⟩ := laws_FnClashes.mono_l k
  refine ⟨?_, ?_⟩
  {
  intro y0 y1 y2
  unfold laws_FnClashes.l0
  have j0 := @impl_Clash.mono
  have j1 := @spec_Clash.mono
  have j2 := @spec_DrawClash.mono
  exact qL
  }
  {
  intro y0 y1 y2 y3
  unfold laws_FnClashes.l1
  have j0 := @impl_Clash.mono
  have j1 := @spec_Clash.mono
  have j2 := @spec_DrawClash.mono
  exact qL
  }
theorem laws_FnClashes.mono : ∀ a0 k, LeO (laws_FnClashes.f k a0) (laws_FnClashes.f (k + 1) a0) := by
 intro a0 k
 obtain ⟨ih0, ih1⟩ := laws_FnClashes.mono_l k
 unfold laws_FnClashes.f
 have j0 := @impl_Clash.mono
 have j1 := @spec_Clash.mono
 have j2 := @spec_DrawClash.mono
 exact qL
theorem laws_FnClashes.calls (k : Nat) (A0 : Option Addr) (c0 : Nat) (l0 : List Int) (r : Bool) (w : World) (hr0 : Kd.C (Kd.int .u8) w A0 l0.length l0) (hc0 : l0.length ≤ c0) (hT : r = true) (h : laws_FnClashes.f k l0 = some r) :
  Calls Try.prog 8 #[.slice A0 l0.length c0] w fun e w' => e = .returned (.bool r) ∧ Below w.heap.size w w' := by
 have HTR_ := aM hT
 clear hT
 have hu43 := Try.underlying43
 have HR0 := aM hr0
 have HC0 := aM hc0
 clear hr0 hc0
 have HB := aM (Below.refl w.heap.size w)
 unfold laws_FnClashes.f at h
 have H := h
 clear h
 replace H := Option.bind_eq_some_iff.mp H
 obtain ⟨t622, A20, H⟩ := H
 have A2 := aM A20
 clear A20
 replace H := iB_ H
 rcases H with ⟨rfl, H⟩ | ⟨rfl, H⟩
 {
 obtain rfl := Option.some.inj H
 go_enter Try.func8, Try.ntmps8
 go_wp2_with (first | (go_at_call 23; (with_reducible refine (laws_big.calls _ _ l0 true _ ?_ ?_ A2.out).mono ?_); exact qz12; exact HC0.out; rintro e w' ⟨rfl, ⟨nd, rfl⟩⟩; (try first | exact ⟨rfl, _, World.drewN_drewN _ _ _⟩ | exact ⟨rfl, _, Eq.trans (World.drewN_drewN _ _ _) (congrArg (World.drewN _) (Nat.add_assoc _ _ _))⟩)) | go_quiet (first | (go_at_call 23; (with_reducible refine (laws_big.calls _ _ l0 true _ ?_ ?_ A2.out).mono ?_); exact qz12; exact HC0.out; rintro e w' ⟨rfl, ⟨nd, rfl⟩⟩; (try first | exact ⟨rfl, _, World.drewN_drewN _ _ _⟩ | exact ⟨rfl, _, Eq.trans (World.drewN_drewN _ _ _) (congrArg (World.drewN _) (Nat.add_assoc _ _ _))⟩))))
 go_ret
 exact ⟨qzw, qz1⟩
 }
 {
 replace H := Option.bind_eq_some_iff.mp H
 obtain ⟨⟨t623, t624, t625, t628, t631⟩, A40, H⟩ := H
 try dsimp only at H
 have A4 := aM A40
 clear A40
 replace H := Option.bind_eq_some_iff.mp H
 obtain ⟨t635, A50, H⟩ := H
 have A5 := aM A50
 clear A50
 replace H := Option.bind_eq_some_iff.mp H
 obtain ⟨t636, A60, H⟩ := H
 have A6 := aM A60
 clear A60
 replace H := iQ_ H
 rcases H with ⟨c7b0, c7b1, H⟩ | ⟨c7, c7b0, c7b1, H⟩
 {
 replace H := iQ_ H
 rcases H with ⟨c8b0, c8b1, H⟩ | ⟨c8, c8b0, c8b1, H⟩
 {
 have H' := aM H
 clear H
 go_enter Try.func8, Try.ntmps8
 go_wp2_with (first | (go_at_call 23; (with_reducible refine (laws_big.calls _ _ l0 false _ ?_ ?_ A2.out).mono ?_); exact qz12; exact HC0.out; rintro e w' ⟨rfl, ⟨nd, rfl⟩⟩; (try first | exact ⟨rfl, _, World.drewN_drewN _ _ _⟩ | exact ⟨rfl, _, Eq.trans (World.drewN_drewN _ _ _) (congrArg (World.drewN _) (Nat.add_assoc _ _ _))⟩)) | (go_at_call 40; (with_reducible refine (spec_DrawClash.calls k _ _ l0 t623 t624 t625 t628 t631 _ ?_ ?_ A4.out).mono ?_); exact qz12; exact HC0.out; rintro e w9 ⟨v626, v629, v632, rfl, ho0, ho1, ho2, hb⟩; have HO627 := aM (Kd.R_lower ho0 (below_size qz1)); have HO630 := aM (Kd.R_lower ho1 (below_size qz1)); have HO633 := aM (Kd.R_lower ho2 (below_size qz1)); replace HB := bS_ hb; (try clear hb ho0 ho1 ho2)) | ((with_reducible refine gate_dst (N := 3) rfl ?_); refine bx_ 3 #[.int .i64 0, .int .i64 0, .slice none 0 0] 43 ?_; intro gb634 hg w10 hbox hb; replace HO627 := aM (Kd.R_below (rr_ HO627.out) hb); replace HO630 := aM (Kd.R_below (rr_ HO630.out) hb); replace HO633 := aM (Kd.R_below (rr_ HO633.out) hb); have BK634 := aM (hbox); have GW634 := aM (bz_ w hg qz1); have GE634 := GW634; replace HB := bS_ hb; clear hb hbox hg; obtain ⟨hcz11_0, hcz11_1, hcz11_2, hfz11_0, hfz11_1, hfz11_2⟩ := b6_ BK634.out; obtain ⟨Ao12, co12, eo12⟩ := Kd.R_slice HO627.out; subst eo12; obtain ⟨Ao13, co13, eo13⟩ := Kd.R_slice HO630.out; subst eo13; obtain ⟨Ao14, co14, eo14⟩ := Kd.R_slice HO633.out; subst eo14) | (go_at_call 39; (with_reducible refine (impl_Clash.calls k t623 t624 _ _ t625 _ _ t628 _ _ t631 t635 _ ?side1 ?side2 ?side3 ?side4 ?side5 ?side6 A5.out).mono ?_); (case side1 => refine (Kd.R_reads' (e := 3) (base := w.heap.size) (ok := fun k_ => some k_ ≠ (.slice Ao14 t631.length co14 : Value).ownBlock) (n := t625.length) (c := co12) ?_).2.2; exact (by (with_reducible repeat (first | apply Kd.R_alloc | apply Kd.R_drewN | apply Kd.R_drew)); exact (Kd.R_mono (Kd.R_far (p := ⟨gb634, 2, none⟩) (Kd.R_far (p := ⟨gb634, 1, none⟩) (Kd.R_far (p := ⟨gb634, 0, none⟩) (Kd.R_types HO627.out BK634.out (by decide)) (fun _ hk => hk.2) (.int .i64 t623)) (fun _ hk => hk.2) (.int .i64 t624)) (fun _ hk => hk.2) (.slice Ao12 t625.length co12)) (fun _ h_ => h_.1)))); (case side2 => exact (Kd.R_reads' HO627.out).2.1); (case side3 => refine (Kd.R_reads' (e := 37) (base := w.heap.size) (ok := fun k_ => True) (n := t628.length) (c := co13) ?_).2.2; exact (by (with_reducible repeat (first | apply Kd.R_alloc | apply Kd.R_drewN | apply Kd.R_drew)); exact (Kd.R_mono (Kd.R_far (p := ⟨gb634, 2, none⟩) (Kd.R_far (p := ⟨gb634, 1, none⟩) (Kd.R_far (p := ⟨gb634, 0, none⟩) (Kd.R_types HO630.out BK634.out (by decide)) (fun _ hk => hk.2) (.int .i64 t623)) (fun _ hk => hk.2) (.int .i64 t624)) (fun _ hk => hk.2) (.slice Ao12 t625.length co12)) (fun _ h_ => h_.1)))); (case side4 => exact (Kd.R_reads' HO630.out).2.1); (case side5 => refine (Kd.R_reads' (e := 3) (base := w.heap.size) (ok := fun k_ => some k_ ≠ (.slice Ao12 t625.length co12 : Value).ownBlock) (n := t631.length) (c := co14) ?_).2.2; exact (by (with_reducible repeat (first | apply Kd.R_alloc | apply Kd.R_drewN | apply Kd.R_drew)); exact (Kd.R_mono (Kd.R_far (p := ⟨gb634, 2, none⟩) (Kd.R_far (p := ⟨gb634, 1, none⟩) (Kd.R_far (p := ⟨gb634, 0, none⟩) (Kd.R_types HO633.out BK634.out (by decide)) (fun _ hk => hk.2) (.int .i64 t623)) (fun _ hk => hk.2) (.int .i64 t624)) (fun _ hk => hk.2) (.slice Ao12 t625.length co12)) (fun _ h_ => h_.1)))); (case side6 => exact (Kd.R_reads' HO633.out).2.1); rintro e w15 ⟨rfl, hb⟩; replace HO627 := aM (Kd.R_below (by (with_reducible repeat (first | apply Kd.R_alloc | apply Kd.R_drewN | apply Kd.R_drew)); exact (Kd.R_mono (Kd.R_far (p := ⟨gb634, 2, none⟩) (Kd.R_far (p := ⟨gb634, 1, none⟩) (Kd.R_far (p := ⟨gb634, 0, none⟩) (Kd.R_types HO627.out BK634.out (by decide)) (fun _ hk => hk.2) (.int .i64 t623)) (fun _ hk => hk.2) (.int .i64 t624)) (fun _ hk => hk.2) (.slice Ao12 t625.length co12)) (fun _ h_ => h_.1))) hb); replace HO630 := aM (Kd.R_below (by (with_reducible repeat (first | apply Kd.R_alloc | apply Kd.R_drewN | apply Kd.R_drew)); exact (Kd.R_mono (Kd.R_far (p := ⟨gb634, 2, none⟩) (Kd.R_far (p := ⟨gb634, 1, none⟩) (Kd.R_far (p := ⟨gb634, 0, none⟩) (Kd.R_types HO630.out BK634.out (by decide)) (fun _ hk => hk.2) (.int .i64 t623)) (fun _ hk => hk.2) (.int .i64 t624)) (fun _ hk => hk.2) (.slice Ao12 t625.length co12)) (fun _ h_ => h_.1))) hb); replace HO633 := aM (Kd.R_below (by (with_reducible repeat (first | apply Kd.R_alloc | apply Kd.R_drewN | apply Kd.R_drew)); exact (Kd.R_mono (Kd.R_far (p := ⟨gb634, 2, none⟩) (Kd.R_far (p := ⟨gb634, 1, none⟩) (Kd.R_far (p := ⟨gb634, 0, none⟩) (Kd.R_types HO633.out BK634.out (by decide)) (fun _ hk => hk.2) (.int .i64 t623)) (fun _ hk => hk.2) (.int .i64 t624)) (fun _ hk => hk.2) (.slice Ao12 t625.length co12)) (fun _ h_ => h_.1))) hb); replace BK634 := aM (blk_below (g := gb634) (o := .cells #[.int .i64 t623, .int .i64 t624, .slice Ao12 t625.length co12] 43 (0, 0)) (by (with_reducible repeat (first | refine blk_drewN ?_ _ | refine blk_drew ?_ | refine blk_alloc ?_ _)); refine blk_put (cs := #[.int .i64 t623, .int .i64 t624, .slice none 0 0]) ?_ 2 _ rfl; (with_reducible repeat (first | refine blk_drewN ?_ _ | refine blk_drew ?_ | refine blk_alloc ?_ _)); refine blk_put (cs := #[.int .i64 t623, .int .i64 0, .slice none 0 0]) ?_ 1 _ rfl; (with_reducible repeat (first | refine blk_drewN ?_ _ | refine blk_drew ?_ | refine blk_alloc ?_ _)); refine blk_put (cs := #[.int .i64 0, .int .i64 0, .slice none 0 0]) ?_ 0 _ rfl; exact bk_ BK634.out) hb); replace HB := bS_ hb; (try clear hb); obtain ⟨hcz16_0, hcz16_1, hcz16_2, hfz16_0, hfz16_1, hfz16_2⟩ := b6_ BK634.out) | (go_at_call 37; (with_reducible refine (spec_Clash.calls k t623 t624 _ _ t625 _ _ t628 _ _ t631 t636 _ ?_ ?_ ?_ ?_ ?_ ?_ A6.out).mono ?_); exact qz16; exact (Kd.R_reads' HO627.out).2.1; exact qz17; exact (Kd.R_reads' HO630.out).2.1; exact qz18; exact (Kd.R_reads' HO633.out).2.1; rintro e w17 ⟨rfl, hb⟩; replace HO627 := aM (Kd.R_below (rr_ HO627.out) hb); replace HO630 := aM (Kd.R_below (rr_ HO630.out) hb); replace HO633 := aM (Kd.R_below (rr_ HO633.out) hb); replace BK634 := bB_ BK634 hb; replace HB := bS_ hb; (try clear hb)) | go_quiet (first | (go_at_call 23; (with_reducible refine (laws_big.calls _ _ l0 false _ ?_ ?_ A2.out).mono ?_); exact qz12; exact HC0.out; rintro e w' ⟨rfl, ⟨nd, rfl⟩⟩; (try first | exact ⟨rfl, _, World.drewN_drewN _ _ _⟩ | exact ⟨rfl, _, Eq.trans (World.drewN_drewN _ _ _) (congrArg (World.drewN _) (Nat.add_assoc _ _ _))⟩)) | (go_at_call 40; (with_reducible refine (spec_DrawClash.calls k _ _ l0 t623 t624 t625 t628 t631 _ ?_ ?_ A4.out).mono ?_); exact qz12; exact HC0.out; rintro e w9 ⟨v626, v629, v632, rfl, ho0, ho1, ho2, hb⟩; have HO627 := aM (Kd.R_lower ho0 (below_size qz1)); have HO630 := aM (Kd.R_lower ho1 (below_size qz1)); have HO633 := aM (Kd.R_lower ho2 (below_size qz1)); replace HB := bS_ hb; (try clear hb ho0 ho1 ho2)) | (go_at_call 39; (with_reducible refine (impl_Clash.calls k t623 t624 _ _ t625 _ _ t628 _ _ t631 t635 _ ?side1 ?side2 ?side3 ?side4 ?side5 ?side6 A5.out).mono ?_); (case side1 => refine (Kd.R_reads' (e := 3) (base := w.heap.size) (ok := fun k_ => some k_ ≠ (.slice Ao14 t631.length co14 : Value).ownBlock) (n := t625.length) (c := co12) ?_).2.2; exact (by (with_reducible repeat (first | apply Kd.R_alloc | apply Kd.R_drewN | apply Kd.R_drew)); exact (Kd.R_mono (Kd.R_far (p := ⟨gb634, 2, none⟩) (Kd.R_far (p := ⟨gb634, 1, none⟩) (Kd.R_far (p := ⟨gb634, 0, none⟩) (Kd.R_types HO627.out BK634.out (by decide)) (fun _ hk => hk.2) (.int .i64 t623)) (fun _ hk => hk.2) (.int .i64 t624)) (fun _ hk => hk.2) (.slice Ao12 t625.length co12)) (fun _ h_ => h_.1)))); (case side2 => exact (Kd.R_reads' HO627.out).2.1); (case side3 => refine (Kd.R_reads' (e := 37) (base := w.heap.size) (ok := fun k_ => True) (n := t628.length) (c := co13) ?_).2.2; exact (by (with_reducible repeat (first | apply Kd.R_alloc | apply Kd.R_drewN | apply Kd.R_drew)); exact (Kd.R_mono (Kd.R_far (p := ⟨gb634, 2, none⟩) (Kd.R_far (p := ⟨gb634, 1, none⟩) (Kd.R_far (p := ⟨gb634, 0, none⟩) (Kd.R_types HO630.out BK634.out (by decide)) (fun _ hk => hk.2) (.int .i64 t623)) (fun _ hk => hk.2) (.int .i64 t624)) (fun _ hk => hk.2) (.slice Ao12 t625.length co12)) (fun _ h_ => h_.1)))); (case side4 => exact (Kd.R_reads' HO630.out).2.1); (case side5 => refine (Kd.R_reads' (e := 3) (base := w.heap.size) (ok := fun k_ => some k_ ≠ (.slice Ao12 t625.length co12 : Value).ownBlock) (n := t631.length) (c := co14) ?_).2.2; exact (by (with_reducible repeat (first | apply Kd.R_alloc | apply Kd.R_drewN | apply Kd.R_drew)); exact (Kd.R_mono (Kd.R_far (p := ⟨gb634, 2, none⟩) (Kd.R_far (p := ⟨gb634, 1, none⟩) (Kd.R_far (p := ⟨gb634, 0, none⟩) (Kd.R_types HO633.out BK634.out (by decide)) (fun _ hk => hk.2) (.int .i64 t623)) (fun _ hk => hk.2) (.int .i64 t624)) (fun _ hk => hk.2) (.slice Ao12 t625.length co12)) (fun _ h_ => h_.1)))); (case side6 => exact (Kd.R_reads' HO633.out).2.1); rintro e w15 ⟨rfl, hb⟩; replace HO627 := aM (Kd.R_below (by (with_reducible repeat (first | apply Kd.R_alloc | apply Kd.R_drewN | apply Kd.R_drew)); exact (Kd.R_mono (Kd.R_far (p := ⟨gb634, 2, none⟩) (Kd.R_far (p := ⟨gb634, 1, none⟩) (Kd.R_far (p := ⟨gb634, 0, none⟩) (Kd.R_types HO627.out BK634.out (by decide)) (fun _ hk => hk.2) (.int .i64 t623)) (fun _ hk => hk.2) (.int .i64 t624)) (fun _ hk => hk.2) (.slice Ao12 t625.length co12)) (fun _ h_ => h_.1))) hb); replace HO630 := aM (Kd.R_below (by (with_reducible repeat (first | apply Kd.R_alloc | apply Kd.R_drewN | apply Kd.R_drew)); exact (Kd.R_mono (Kd.R_far (p := ⟨gb634, 2, none⟩) (Kd.R_far (p := ⟨gb634, 1, none⟩) (Kd.R_far (p := ⟨gb634, 0, none⟩) (Kd.R_types HO630.out BK634.out (by decide)) (fun _ hk => hk.2) (.int .i64 t623)) (fun _ hk => hk.2) (.int .i64 t624)) (fun _ hk => hk.2) (.slice Ao12 t625.length co12)) (fun _ h_ => h_.1))) hb); replace HO633 := aM (Kd.R_below (by (with_reducible repeat (first | apply Kd.R_alloc | apply Kd.R_drewN | apply Kd.R_drew)); exact (Kd.R_mono (Kd.R_far (p := ⟨gb634, 2, none⟩) (Kd.R_far (p := ⟨gb634, 1, none⟩) (Kd.R_far (p := ⟨gb634, 0, none⟩) (Kd.R_types HO633.out BK634.out (by decide)) (fun _ hk => hk.2) (.int .i64 t623)) (fun _ hk => hk.2) (.int .i64 t624)) (fun _ hk => hk.2) (.slice Ao12 t625.length co12)) (fun _ h_ => h_.1))) hb); replace BK634 := aM (blk_below (g := gb634) (o := .cells #[.int .i64 t623, .int .i64 t624, .slice Ao12 t625.length co12] 43 (0, 0)) (by (with_reducible repeat (first | refine blk_drewN ?_ _ | refine blk_drew ?_ | refine blk_alloc ?_ _)); refine blk_put (cs := #[.int .i64 t623, .int .i64 t624, .slice none 0 0]) ?_ 2 _ rfl; (with_reducible repeat (first | refine blk_drewN ?_ _ | refine blk_drew ?_ | refine blk_alloc ?_ _)); refine blk_put (cs := #[.int .i64 t623, .int .i64 0, .slice none 0 0]) ?_ 1 _ rfl; (with_reducible repeat (first | refine blk_drewN ?_ _ | refine blk_drew ?_ | refine blk_alloc ?_ _)); refine blk_put (cs := #[.int .i64 0, .int .i64 0, .slice none 0 0]) ?_ 0 _ rfl; exact bk_ BK634.out) hb); replace HB := bS_ hb; (try clear hb); obtain ⟨hcz16_0, hcz16_1, hcz16_2, hfz16_0, hfz16_1, hfz16_2⟩ := b6_ BK634.out) | (go_at_call 37; (with_reducible refine (spec_Clash.calls k t623 t624 _ _ t625 _ _ t628 _ _ t631 t636 _ ?_ ?_ ?_ ?_ ?_ ?_ A6.out).mono ?_); exact qz16; exact (Kd.R_reads' HO627.out).2.1; exact qz17; exact (Kd.R_reads' HO630.out).2.1; exact qz18; exact (Kd.R_reads' HO633.out).2.1; rintro e w17 ⟨rfl, hb⟩; replace HO627 := aM (Kd.R_below (rr_ HO627.out) hb); replace HO630 := aM (Kd.R_below (rr_ HO630.out) hb); replace HO633 := aM (Kd.R_below (rr_ HO633.out) hb); replace BK634 := bB_ BK634 hb; replace HB := bS_ hb; (try clear hb))))
 go_loopg [7] k (fun kq v7 w' => ∃ (x7_1 : Int), v7 = .int .i64 x7_1 ∧ Aside0 (laws_FnClashes.l0 kq t628 t631 x7_1 = some r) ∧ Aside0 (kq ≤ k) ∧ Aside0 (Kd.R k37 37 w' w.heap.size (fun _ => True) (.slice Ao13 t628.length co13) t628) ∧ Aside0 (Kd.R (Kd.int .i64) 3 w' w.heap.size (fun k_ => some k_ ≠ ((.slice Ao12 t625.length co12) : Value).ownBlock) (.slice Ao14 t631.length co14) t631) ∧ Aside0 (Kd.R (Kd.int .i64) 3 w' w.heap.size (fun k_ => some k_ ≠ ((.slice Ao14 t631.length co14) : Value).ownBlock) (.slice Ao12 t625.length co12) t625) ∧ Aside0 (w'.heap[gb634]? = some (.cells #[.int .i64 t623, .int .i64 t624, (.slice Ao12 t625.length co12)] 43 (0, 0))) ∧ Aside0 (Below w.heap.size w w'))
 case atStart => exact ⟨(0), qz7, H', ⟨Nat.le_refl _⟩, ⟨rr_ HO630.out⟩, ⟨rr_ HO633.out⟩, ⟨rr_ HO627.out⟩, ⟨bk_ BK634.out⟩, ⟨qz1⟩⟩
 case round =>
 clear H'
 try clear c3
 try clear c7
 try clear c7b0
 try clear c7b1
 try clear c8
 try clear c8b0
 try clear c8b1
 try clear hcz11_0 hcz11_1 hcz11_2 hfz11_0 hfz11_1 hfz11_2
 try clear hcz16_0 hcz16_1 hcz16_2 hfz16_0 hfz16_1 hfz16_2
 obtain ⟨x7_1, rfl, HA, HK1, HO_4, HO_5, HO_635002, BK634, HB⟩ := hrel
 cases gk with
 | zero => exact absurd HA.out (by simp [laws_FnClashes.l0])
 | succ k1 =>
 have H := HA.out
 clear HA
 simp only [laws_FnClashes.l0] at H
 replace H := iE_ H
 rcases H with ⟨c18b0, H⟩ | ⟨c18b0, H⟩
 {
 have H' := aM H
 clear H
 go_wp2
 repeat (go_quiet (fail); try go_wp2)
 go_loopg [8] k1 (fun kq v8 w' => ∃ (x8_2 : Int), v8 = .int .i64 x8_2 ∧ Aside0 (laws_FnClashes.l1 kq t628 t631 x7_1 x8_2 = some r) ∧ Aside0 (kq ≤ k1) ∧ Aside0 (Kd.R k37 37 w' w.heap.size (fun _ => True) (.slice Ao13 t628.length co13) t628) ∧ Aside0 (Kd.R (Kd.int .i64) 3 w' w.heap.size (fun k_ => some k_ ≠ ((.slice Ao12 t625.length co12) : Value).ownBlock) (.slice Ao14 t631.length co14) t631) ∧ Aside0 (Kd.R (Kd.int .i64) 3 w' w.heap.size (fun k_ => some k_ ≠ ((.slice Ao14 t631.length co14) : Value).ownBlock) (.slice Ao12 t625.length co12) t625) ∧ Aside0 (w'.heap[gb634]? = some (.cells #[.int .i64 t623, .int .i64 t624, (.slice Ao12 t625.length co12)] 43 (0, 0))) ∧ Aside0 (Below w.heap.size w w'))
 case atStart => exact ⟨(0), qz7, H', ⟨Nat.le_refl _⟩, ⟨rr_ HO_4.out⟩, ⟨rr_ HO_5.out⟩, ⟨rr_ HO_635002.out⟩, ⟨bk_ BK634.out⟩, ⟨qz1⟩⟩
 case round =>
 clear H'
 try clear c3
 try clear c7
 try clear c7b0
 try clear c7b1
 try clear c8
 try clear c8b0
 try clear c8b1
 try clear c18
 try clear c18b0
 try clear hcz11_0 hcz11_1 hcz11_2 hfz11_0 hfz11_1 hfz11_2
 try clear hcz16_0 hcz16_1 hcz16_2 hfz16_0 hfz16_1 hfz16_2
 obtain ⟨x8_2, rfl, HA, HK2, HO_4, HO_5, HO_635002, BK634, HB⟩ := hrel
 cases gk with
 | zero => exact absurd HA.out (by simp [laws_FnClashes.l1])
 | succ k2 =>
 have H := HA.out
 clear HA
 simp only [laws_FnClashes.l1] at H
 replace H := iE_ H
 rcases H with ⟨c19b0, H⟩ | ⟨c19b0, H⟩
 {
 replace H := iD_ H
 obtain ⟨c20b0, H⟩ := H
 replace H := iD_ H
 obtain ⟨c21b0, H⟩ := H
 replace H := iD_ H
 obtain ⟨c22b0, H⟩ := H
 replace H := iD_ H
 obtain ⟨c23b0, H⟩ := H
 replace H := iQ_ H
 rcases H with ⟨c24b0, c24b1, H⟩ | ⟨c24, c24b0, c24b1, H⟩
 {
 obtain rfl := Option.some.inj H
 exact absurd HTR_.out (by decide)
 }
 {
 replace H := iD_ H
 obtain ⟨c25b0, H⟩ := H
 replace H := iQ_ H
 rcases H with ⟨c26b0, c26b1, H⟩ | ⟨c26, c26b0, c26b1, H⟩
 {
 replace H := iD_ H
 obtain ⟨c27b0, H⟩ := H
 replace H := iQ_ H
 rcases H with ⟨c28b0, c28b1, H⟩ | ⟨c28, c28b0, c28b1, H⟩
 {
 obtain rfl := Option.some.inj H
 exact absurd HTR_.out (by decide)
 }
 {
 have H' := aM H
 clear H
 have p637 : (0 ≤ (x7_1 : Int)) = True := et_
 have q637 : (x7_1 < (t631.length : Int)) = True := et_
 obtain ⟨ad637, e637, hx637_0⟩ := Kd.at_int (Kd.R_reads' HO_5.out).2.2 x7_1 dt_ dt_
 cases e637
 have p638 : (0 ≤ (x8_2 : Int)) = True := et_
 have q638 : (x8_2 < (t631.length : Int)) = True := et_
 obtain ⟨ad638, e638, hx638_0⟩ := Kd.at_int (Kd.R_reads' HO_5.out).2.2 x8_2 dt_ dt_
 obtain rfl := iJ_ e638
 have p639 : (0 ≤ (x7_1 : Int)) = True := et_
 have q639 : (x7_1 < (t631.length : Int)) = True := et_
 obtain ⟨ad639, e639, hx639_0⟩ := Kd.at_int (Kd.R_reads' HO_5.out).2.2 x7_1 dt_ dt_
 obtain rfl := iJ_ e639
 have p640 : (0 ≤ (x8_2 : Int)) = True := et_
 have q640 : (x8_2 < (t628.length : Int)) = True := et_
 obtain ⟨ad640, e640, hx640_0, hx640_1, hx640_2, hx640_3, hx640_4⟩ := at_T37 (Kd.R_reads' HO_4.out).2.2 x8_2 dt_ dt_
 cases e640
 have p641 : (0 ≤ (x8_2 : Int)) = True := et_
 have q641 : (x8_2 < (t631.length : Int)) = True := et_
 obtain ⟨ad641, e641, hx641_0⟩ := Kd.at_int (Kd.R_reads' HO_5.out).2.2 x8_2 dt_ dt_
 obtain rfl := iJ_ e641
 have p642 : (0 ≤ (x7_1 : Int)) = True := et_
 have q642 : (x7_1 < (t628.length : Int)) = True := et_
 obtain ⟨ad642, e642, hx642_0, hx642_1, hx642_2, hx642_3, hx642_4⟩ := at_T37 (Kd.R_reads' HO_4.out).2.2 x7_1 dt_ dt_
 obtain rfl := iJ_ e642
 go_wp2
 repeat (go_quiet (fail); try go_wp2)
 go_roundg k2
 case measure => have := HK1.out; have := HK2.out; omega
 case rel => exact ⟨(wrap64 (x8_2 + 1)), qz7, H', ⟨by have := HK1.out; have := HK2.out; omega⟩, ⟨rm_ HO_4.out⟩, ⟨rm_ HO_5.out⟩, ⟨rm_ HO_635002.out⟩, ⟨bk_ BK634.out⟩, ⟨qz1⟩⟩
 }
 }
 {
 have H' := aM H
 clear H
 have p637 : (0 ≤ (x7_1 : Int)) = True := et_
 have q637 : (x7_1 < (t631.length : Int)) = True := et_
 obtain ⟨ad637, e637, hx637_0⟩ := Kd.at_int (Kd.R_reads' HO_5.out).2.2 x7_1 dt_ dt_
 cases e637
 have p638 : (0 ≤ (x8_2 : Int)) = True := et_
 have q638 : (x8_2 < (t631.length : Int)) = True := et_
 obtain ⟨ad638, e638, hx638_0⟩ := Kd.at_int (Kd.R_reads' HO_5.out).2.2 x8_2 dt_ dt_
 obtain rfl := iJ_ e638
 have p639 : (0 ≤ (x7_1 : Int)) = True := et_
 have q639 : (x7_1 < (t631.length : Int)) = True := et_
 obtain ⟨ad639, e639, hx639_0⟩ := Kd.at_int (Kd.R_reads' HO_5.out).2.2 x7_1 dt_ dt_
 obtain rfl := iJ_ e639
 have p640 : (0 ≤ (x8_2 : Int)) = True := et_
 have q640 : (x8_2 < (t628.length : Int)) = True := et_
 obtain ⟨ad640, e640, hx640_0, hx640_1, hx640_2, hx640_3, hx640_4⟩ := at_T37 (Kd.R_reads' HO_4.out).2.2 x8_2 dt_ dt_
 cases e640
 go_wp2
 repeat (go_quiet (fail); try go_wp2)
 go_roundg k2
 case measure => have := HK1.out; have := HK2.out; omega
 case rel => exact ⟨(wrap64 (x8_2 + 1)), qz7, H', ⟨by have := HK1.out; have := HK2.out; omega⟩, ⟨rm_ HO_4.out⟩, ⟨rm_ HO_5.out⟩, ⟨rm_ HO_635002.out⟩, ⟨bk_ BK634.out⟩, ⟨qz1⟩⟩
 }
 }
 }
 {
 have H' := aM H
 clear H
 go_wp2
 repeat (go_quiet (fail); try go_wp2)
 go_roundg k2
 case measure => have := HK1.out; have := HK2.out; omega
 case rel => exact ⟨(wrap64 (x7_1 + 1)), qz7, H', ⟨by have := HK1.out; have := HK2.out; omega⟩, ⟨rm_ HO_4.out⟩, ⟨rm_ HO_5.out⟩, ⟨rm_ HO_635002.out⟩, ⟨bk_ BK634.out⟩, ⟨qz1⟩⟩
 }
 }
 {
 obtain rfl := Option.some.inj H
 go_wp2
 repeat (go_quiet (fail); try go_wp2)
 go_ret
 exact ⟨qzw, qz1⟩
 }
 }
 {
 replace H := iE_ H
 rcases H with ⟨c29b0, H⟩ | ⟨c29b0, H⟩
 {
 obtain rfl := Option.some.inj H
 go_enter Try.func8, Try.ntmps8
 go_wp2_with (first | (go_at_call 23; (with_reducible refine (laws_big.calls _ _ l0 false _ ?_ ?_ A2.out).mono ?_); exact qz12; exact HC0.out; rintro e w' ⟨rfl, ⟨nd, rfl⟩⟩; (try first | exact ⟨rfl, _, World.drewN_drewN _ _ _⟩ | exact ⟨rfl, _, Eq.trans (World.drewN_drewN _ _ _) (congrArg (World.drewN _) (Nat.add_assoc _ _ _))⟩)) | (go_at_call 40; (with_reducible refine (spec_DrawClash.calls k _ _ l0 t623 t624 t625 t628 t631 _ ?_ ?_ A4.out).mono ?_); exact qz12; exact HC0.out; rintro e w30 ⟨v626, v629, v632, rfl, ho0, ho1, ho2, hb⟩; have HO627 := aM (Kd.R_lower ho0 (below_size qz1)); have HO630 := aM (Kd.R_lower ho1 (below_size qz1)); have HO633 := aM (Kd.R_lower ho2 (below_size qz1)); replace HB := bS_ hb; (try clear hb ho0 ho1 ho2)) | ((with_reducible refine gate_dst (N := 3) rfl ?_); refine bx_ 3 #[.int .i64 0, .int .i64 0, .slice none 0 0] 43 ?_; intro gb634 hg w31 hbox hb; replace HO627 := aM (Kd.R_below (rr_ HO627.out) hb); replace HO630 := aM (Kd.R_below (rr_ HO630.out) hb); replace HO633 := aM (Kd.R_below (rr_ HO633.out) hb); have BK634 := aM (hbox); have GW634 := aM (bz_ w hg qz1); have GE634 := GW634; replace HB := bS_ hb; clear hb hbox hg; obtain ⟨hcz32_0, hcz32_1, hcz32_2, hfz32_0, hfz32_1, hfz32_2⟩ := b6_ BK634.out; obtain ⟨Ao33, co33, eo33⟩ := Kd.R_slice HO627.out; subst eo33; obtain ⟨Ao34, co34, eo34⟩ := Kd.R_slice HO630.out; subst eo34; obtain ⟨Ao35, co35, eo35⟩ := Kd.R_slice HO633.out; subst eo35) | (go_at_call 39; (with_reducible refine (impl_Clash.calls k t623 t624 _ _ t625 _ _ t628 _ _ t631 t635 _ ?side1 ?side2 ?side3 ?side4 ?side5 ?side6 A5.out).mono ?_); (case side1 => refine (Kd.R_reads' (e := 3) (base := w.heap.size) (ok := fun k_ => some k_ ≠ (.slice Ao35 t631.length co35 : Value).ownBlock) (n := t625.length) (c := co33) ?_).2.2; exact (by (with_reducible repeat (first | apply Kd.R_alloc | apply Kd.R_drewN | apply Kd.R_drew)); exact (Kd.R_mono (Kd.R_far (p := ⟨gb634, 2, none⟩) (Kd.R_far (p := ⟨gb634, 1, none⟩) (Kd.R_far (p := ⟨gb634, 0, none⟩) (Kd.R_types HO627.out BK634.out (by decide)) (fun _ hk => hk.2) (.int .i64 t623)) (fun _ hk => hk.2) (.int .i64 t624)) (fun _ hk => hk.2) (.slice Ao33 t625.length co33)) (fun _ h_ => h_.1)))); (case side2 => exact (Kd.R_reads' HO627.out).2.1); (case side3 => refine (Kd.R_reads' (e := 37) (base := w.heap.size) (ok := fun k_ => True) (n := t628.length) (c := co34) ?_).2.2; exact (by (with_reducible repeat (first | apply Kd.R_alloc | apply Kd.R_drewN | apply Kd.R_drew)); exact (Kd.R_mono (Kd.R_far (p := ⟨gb634, 2, none⟩) (Kd.R_far (p := ⟨gb634, 1, none⟩) (Kd.R_far (p := ⟨gb634, 0, none⟩) (Kd.R_types HO630.out BK634.out (by decide)) (fun _ hk => hk.2) (.int .i64 t623)) (fun _ hk => hk.2) (.int .i64 t624)) (fun _ hk => hk.2) (.slice Ao33 t625.length co33)) (fun _ h_ => h_.1)))); (case side4 => exact (Kd.R_reads' HO630.out).2.1); (case side5 => refine (Kd.R_reads' (e := 3) (base := w.heap.size) (ok := fun k_ => some k_ ≠ (.slice Ao33 t625.length co33 : Value).ownBlock) (n := t631.length) (c := co35) ?_).2.2; exact (by (with_reducible repeat (first | apply Kd.R_alloc | apply Kd.R_drewN | apply Kd.R_drew)); exact (Kd.R_mono (Kd.R_far (p := ⟨gb634, 2, none⟩) (Kd.R_far (p := ⟨gb634, 1, none⟩) (Kd.R_far (p := ⟨gb634, 0, none⟩) (Kd.R_types HO633.out BK634.out (by decide)) (fun _ hk => hk.2) (.int .i64 t623)) (fun _ hk => hk.2) (.int .i64 t624)) (fun _ hk => hk.2) (.slice Ao33 t625.length co33)) (fun _ h_ => h_.1)))); (case side6 => exact (Kd.R_reads' HO633.out).2.1); rintro e w36 ⟨rfl, hb⟩; replace HO627 := aM (Kd.R_below (by (with_reducible repeat (first | apply Kd.R_alloc | apply Kd.R_drewN | apply Kd.R_drew)); exact (Kd.R_mono (Kd.R_far (p := ⟨gb634, 2, none⟩) (Kd.R_far (p := ⟨gb634, 1, none⟩) (Kd.R_far (p := ⟨gb634, 0, none⟩) (Kd.R_types HO627.out BK634.out (by decide)) (fun _ hk => hk.2) (.int .i64 t623)) (fun _ hk => hk.2) (.int .i64 t624)) (fun _ hk => hk.2) (.slice Ao33 t625.length co33)) (fun _ h_ => h_.1))) hb); replace HO630 := aM (Kd.R_below (by (with_reducible repeat (first | apply Kd.R_alloc | apply Kd.R_drewN | apply Kd.R_drew)); exact (Kd.R_mono (Kd.R_far (p := ⟨gb634, 2, none⟩) (Kd.R_far (p := ⟨gb634, 1, none⟩) (Kd.R_far (p := ⟨gb634, 0, none⟩) (Kd.R_types HO630.out BK634.out (by decide)) (fun _ hk => hk.2) (.int .i64 t623)) (fun _ hk => hk.2) (.int .i64 t624)) (fun _ hk => hk.2) (.slice Ao33 t625.length co33)) (fun _ h_ => h_.1))) hb); replace HO633 := aM (Kd.R_below (by (with_reducible repeat (first | apply Kd.R_alloc | apply Kd.R_drewN | apply Kd.R_drew)); exact (Kd.R_mono (Kd.R_far (p := ⟨gb634, 2, none⟩) (Kd.R_far (p := ⟨gb634, 1, none⟩) (Kd.R_far (p := ⟨gb634, 0, none⟩) (Kd.R_types HO633.out BK634.out (by decide)) (fun _ hk => hk.2) (.int .i64 t623)) (fun _ hk => hk.2) (.int .i64 t624)) (fun _ hk => hk.2) (.slice Ao33 t625.length co33)) (fun _ h_ => h_.1))) hb); replace BK634 := aM (blk_below (g := gb634) (o := .cells #[.int .i64 t623, .int .i64 t624, .slice Ao33 t625.length co33] 43 (0, 0)) (by (with_reducible repeat (first | refine blk_drewN ?_ _ | refine blk_drew ?_ | refine blk_alloc ?_ _)); refine blk_put (cs := #[.int .i64 t623, .int .i64 t624, .slice none 0 0]) ?_ 2 _ rfl; (with_reducible repeat (first | refine blk_drewN ?_ _ | refine blk_drew ?_ | refine blk_alloc ?_ _)); refine blk_put (cs := #[.int .i64 t623, .int .i64 0, .slice none 0 0]) ?_ 1 _ rfl; (with_reducible repeat (first | refine blk_drewN ?_ _ | refine blk_drew ?_ | refine blk_alloc ?_ _)); refine blk_put (cs := #[.int .i64 0, .int .i64 0, .slice none 0 0]) ?_ 0 _ rfl; exact bk_ BK634.out) hb); replace HB := bS_ hb; (try clear hb); obtain ⟨hcz37_0, hcz37_1, hcz37_2, hfz37_0, hfz37_1, hfz37_2⟩ := b6_ BK634.out) | (go_at_call 37; (with_reducible refine (spec_Clash.calls k t623 t624 _ _ t625 _ _ t628 _ _ t631 t636 _ ?_ ?_ ?_ ?_ ?_ ?_ A6.out).mono ?_); exact qz16; exact (Kd.R_reads' HO627.out).2.1; exact qz17; exact (Kd.R_reads' HO630.out).2.1; exact qz18; exact (Kd.R_reads' HO633.out).2.1; rintro e w38 ⟨rfl, hb⟩; replace HO627 := aM (Kd.R_below (rr_ HO627.out) hb); replace HO630 := aM (Kd.R_below (rr_ HO630.out) hb); replace HO633 := aM (Kd.R_below (rr_ HO633.out) hb); replace BK634 := bB_ BK634 hb; replace HB := bS_ hb; (try clear hb)) | go_quiet (first | (go_at_call 23; (with_reducible refine (laws_big.calls _ _ l0 false _ ?_ ?_ A2.out).mono ?_); exact qz12; exact HC0.out; rintro e w' ⟨rfl, ⟨nd, rfl⟩⟩; (try first | exact ⟨rfl, _, World.drewN_drewN _ _ _⟩ | exact ⟨rfl, _, Eq.trans (World.drewN_drewN _ _ _) (congrArg (World.drewN _) (Nat.add_assoc _ _ _))⟩)) | (go_at_call 40; (with_reducible refine (spec_DrawClash.calls k _ _ l0 t623 t624 t625 t628 t631 _ ?_ ?_ A4.out).mono ?_); exact qz12; exact HC0.out; rintro e w30 ⟨v626, v629, v632, rfl, ho0, ho1, ho2, hb⟩; have HO627 := aM (Kd.R_lower ho0 (below_size qz1)); have HO630 := aM (Kd.R_lower ho1 (below_size qz1)); have HO633 := aM (Kd.R_lower ho2 (below_size qz1)); replace HB := bS_ hb; (try clear hb ho0 ho1 ho2)) | (go_at_call 39; (with_reducible refine (impl_Clash.calls k t623 t624 _ _ t625 _ _ t628 _ _ t631 t635 _ ?side1 ?side2 ?side3 ?side4 ?side5 ?side6 A5.out).mono ?_); (case side1 => refine (Kd.R_reads' (e := 3) (base := w.heap.size) (ok := fun k_ => some k_ ≠ (.slice Ao35 t631.length co35 : Value).ownBlock) (n := t625.length) (c := co33) ?_).2.2; exact (by (with_reducible repeat (first | apply Kd.R_alloc | apply Kd.R_drewN | apply Kd.R_drew)); exact (Kd.R_mono (Kd.R_far (p := ⟨gb634, 2, none⟩) (Kd.R_far (p := ⟨gb634, 1, none⟩) (Kd.R_far (p := ⟨gb634, 0, none⟩) (Kd.R_types HO627.out BK634.out (by decide)) (fun _ hk => hk.2) (.int .i64 t623)) (fun _ hk => hk.2) (.int .i64 t624)) (fun _ hk => hk.2) (.slice Ao33 t625.length co33)) (fun _ h_ => h_.1)))); (case side2 => exact (Kd.R_reads' HO627.out).2.1); (case side3 => refine (Kd.R_reads' (e := 37) (base := w.heap.size) (ok := fun k_ => True) (n := t628.length) (c := co34) ?_).2.2; exact (by (with_reducible repeat (first | apply Kd.R_alloc | apply Kd.R_drewN | apply Kd.R_drew)); exact (Kd.R_mono (Kd.R_far (p := ⟨gb634, 2, none⟩) (Kd.R_far (p := ⟨gb634, 1, none⟩) (Kd.R_far (p := ⟨gb634, 0, none⟩) (Kd.R_types HO630.out BK634.out (by decide)) (fun _ hk => hk.2) (.int .i64 t623)) (fun _ hk => hk.2) (.int .i64 t624)) (fun _ hk => hk.2) (.slice Ao33 t625.length co33)) (fun _ h_ => h_.1)))); (case side4 => exact (Kd.R_reads' HO630.out).2.1); (case side5 => refine (Kd.R_reads' (e := 3) (base := w.heap.size) (ok := fun k_ => some k_ ≠ (.slice Ao33 t625.length co33 : Value).ownBlock) (n := t631.length) (c := co35) ?_).2.2; exact (by (with_reducible repeat (first | apply Kd.R_alloc | apply Kd.R_drewN | apply Kd.R_drew)); exact (Kd.R_mono (Kd.R_far (p := ⟨gb634, 2, none⟩) (Kd.R_far (p := ⟨gb634, 1, none⟩) (Kd.R_far (p := ⟨gb634, 0, none⟩) (Kd.R_types HO633.out BK634.out (by decide)) (fun _ hk => hk.2) (.int .i64 t623)) (fun _ hk => hk.2) (.int .i64 t624)) (fun _ hk => hk.2) (.slice Ao33 t625.length co33)) (fun _ h_ => h_.1)))); (case side6 => exact (Kd.R_reads' HO633.out).2.1); rintro e w36 ⟨rfl, hb⟩; replace HO627 := aM (Kd.R_below (by (with_reducible repeat (first | apply Kd.R_alloc | apply Kd.R_drewN | apply Kd.R_drew)); exact (Kd.R_mono (Kd.R_far (p := ⟨gb634, 2, none⟩) (Kd.R_far (p := ⟨gb634, 1, none⟩) (Kd.R_far (p := ⟨gb634, 0, none⟩) (Kd.R_types HO627.out BK634.out (by decide)) (fun _ hk => hk.2) (.int .i64 t623)) (fun _ hk => hk.2) (.int .i64 t624)) (fun _ hk => hk.2) (.slice Ao33 t625.length co33)) (fun _ h_ => h_.1))) hb); replace HO630 := aM (Kd.R_below (by (with_reducible repeat (first | apply Kd.R_alloc | apply Kd.R_drewN | apply Kd.R_drew)); exact (Kd.R_mono (Kd.R_far (p := ⟨gb634, 2, none⟩) (Kd.R_far (p := ⟨gb634, 1, none⟩) (Kd.R_far (p := ⟨gb634, 0, none⟩) (Kd.R_types HO630.out BK634.out (by decide)) (fun _ hk => hk.2) (.int .i64 t623)) (fun _ hk => hk.2) (.int .i64 t624)) (fun _ hk => hk.2) (.slice Ao33 t625.length co33)) (fun _ h_ => h_.1))) hb); replace HO633 := aM (Kd.R_below (by (with_reducible repeat (first | apply Kd.R_alloc | apply Kd.R_drewN | apply Kd.R_drew)); exact (Kd.R_mono (Kd.R_far (p := ⟨gb634, 2, none⟩) (Kd.R_far (p := ⟨gb634, 1, none⟩) (Kd.R_far (p := ⟨gb634, 0, none⟩) (Kd.R_types HO633.out BK634.out (by decide)) (fun _ hk => hk.2) (.int .i64 t623)) (fun _ hk => hk.2) (.int .i64 t624)) (fun _ hk => hk.2) (.slice Ao33 t625.length co33)) (fun _ h_ => h_.1))) hb); replace BK634 := aM (blk_below (g := gb634) (o := .cells #[.int .i64 t623, .int .i64 t624, .slice Ao33 t625.length co33] 43 (0, 0)) (by (with_reducible repeat (first | refine blk_drewN ?_ _ | refine blk_drew ?_ | refine blk_alloc ?_ _)); refine blk_put (cs := #[.int .i64 t623, .int .i64 t624, .slice none 0 0]) ?_ 2 _ rfl; (with_reducible repeat (first | refine blk_drewN ?_ _ | refine blk_drew ?_ | refine blk_alloc ?_ _)); refine blk_put (cs := #[.int .i64 t623, .int .i64 0, .slice none 0 0]) ?_ 1 _ rfl; (with_reducible repeat (first | refine blk_drewN ?_ _ | refine blk_drew ?_ | refine blk_alloc ?_ _)); refine blk_put (cs := #[.int .i64 0, .int .i64 0, .slice none 0 0]) ?_ 0 _ rfl; exact bk_ BK634.out) hb); replace HB := bS_ hb; (try clear hb); obtain ⟨hcz37_0, hcz37_1, hcz37_2, hfz37_0, hfz37_1, hfz37_2⟩ := b6_ BK634.out) | (go_at_call 37; (with_reducible refine (spec_Clash.calls k t623 t624 _ _ t625 _ _ t628 _ _ t631 t636 _ ?_ ?_ ?_ ?_ ?_ ?_ A6.out).mono ?_); exact qz16; exact (Kd.R_reads' HO627.out).2.1; exact qz17; exact (Kd.R_reads' HO630.out).2.1; exact qz18; exact (Kd.R_reads' HO633.out).2.1; rintro e w38 ⟨rfl, hb⟩; replace HO627 := aM (Kd.R_below (rr_ HO627.out) hb); replace HO630 := aM (Kd.R_below (rr_ HO630.out) hb); replace HO633 := aM (Kd.R_below (rr_ HO633.out) hb); replace BK634 := bB_ BK634 hb; replace HB := bS_ hb; (try clear hb))))
 go_ret
 exact ⟨qzw, qz1⟩
 }
 {
 obtain rfl := Option.some.inj H
 exact absurd HTR_.out (by decide)
 }
 }
 }
 {
 obtain rfl := Option.some.inj H
 exact absurd HTR_.out (by decide)
 }
 }
/-- THE ONE PURE STATEMENT of laws_FnClashes: yours. -/
def laws_FnClashes.Pure : Prop := ∀ (l0 : List Int), l0.length ≤ maxLen → l0.length * 1 ≤ 140737488351232 → (∀ x ∈ l0, (Lit.int .u8 x).wf = true) → ∃ k, laws_FnClashes.f k l0 = some true
theorem laws_FnClashes.walk (P : laws_FnClashes.Pure) (a0 : Option Addr) (len0 cap0 : Nat) (z0 : List Int) (w : World) (w0 : (a0 = none ∧ len0 = 0 ∧ cap0 = 0 ∧ z0 = []) ∨ ∃ x, a0 = some x ∧ len0 ≤ cap0 ∧ cap0 ≤ maxLen ∧ z0.length = cap0 ∧ (∀ i, i < z0.length → w.cell? (x.add i) = some (.int .u8 (z0.getD i 0))) ∧ ∀ n ∈ z0, (Lit.int .u8 n).wf = true) (y0 : len0 * 1 ≤ 140737488351232) :
  Calls Try.prog 8 #[.slice a0 len0 cap0] w fun e w' => e = .returned (.bool true) ∧ Below w.heap.size w w' := by
 obtain ⟨l0, rfl, hr0, hm0, hw0, hc0⟩ := ReadsInt.ofRowC w0
 obtain ⟨k, h⟩ := P l0 hm0 y0 hw0
 refine (laws_FnClashes.calls k _ _ l0 true w (Kd.C_of_reads (d := (0 : Int)) (h1 := fun _ => rfl) hr0) hc0 rfl h).mono ?_
 rintro e w' ⟨rfl, hd⟩
 exact ⟨rfl, hd⟩

end Go.Proofs.Ytankmdbbgepmbaa.PFnClashes
