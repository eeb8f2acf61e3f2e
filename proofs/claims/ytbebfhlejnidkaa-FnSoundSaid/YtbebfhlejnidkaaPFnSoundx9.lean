-- Made by a program of this session out of the translation. Lean checks it.
import Derived.Test.YtbebfhlejnidkaaPFnSoundx0
import Derived.Test.YtbebfhlejnidkaaPFnSoundx1
import Derived.Test.YtbebfhlejnidkaaPFnSoundx5
import Derived.Test.YtbebfhlejnidkaaPFnSoundx8
namespace Go.Proofs.Ytbebfhlejnidkaa.PFnSound
open Go.RowKit Go.Proofs.YtbebfhlejnidkaaW.PrintWords Go.Proofs.YtbebfhlejnidkaaW.PrintLast Go.Proofs.YtbebfhlejnidkaaW.PrintMore
attribute [local go_sem] max2_int min2_int max_two min_two max_three min_three max_four min_four   -- for this text's walks alone
set_option linter.unusedVariables false
set_option linter.unusedSimpArgs false

/-! ### spec_l3Sound: function 51 -/
mutual
def spec_l3Sound.l0 : Nat → Int → List Int → Int → Int → Int → Int → List Int → Option (Int × Int × List Int × Int × Int)
 | 0, _, _, _, _, _, _, _ => none
 | k + 1, x4, x1000, x1001, x1002, x319000, x319001, x319002 => if x4 < (wrap64 (x319000 * x319001)) then ((spec_l1Int.f x1000 x1001 x1002 (([1, 1, 1, 2, 3, 4] : List Int))).bind fun bt329 => (if x319002.length < 17592186044416 then (spec_l3Sound.l0 k (wrap64 (x4 + 1)) x1000 bt329.2.1 bt329.2.2 x319000 x319001 (x319002 ++ [bt329.1])) else (none))) else (if x319000 > 2 then (if x319001 > 2 then ((spec_l1Once.f x1000 x1001 x1002 2).bind fun bt335 => (spec_l3Sound.j1 k bt335.1 x1000 bt335.2.1 bt335.2.2 x319000 x319001 x319002)) else (spec_l3Sound.j1 k false x1000 x1001 x1002 x319000 x319001 x319002)) else (spec_l3Sound.j1 k false x1000 x1001 x1002 x319000 x319001 x319002))
def spec_l3Sound.j1 : Nat → Bool → List Int → Int → Int → Int → Int → List Int → Option (Int × Int × List Int × Int × Int)
 | 0, _, _, _, _, _, _, _ => none
 | k + 1, x45, x1000, x1001, x1002, x319000, x319001, x319002 => if x45 = true then (if 0 ≤ (wrap64 (x319000 + 1)) then (if (wrap64 (x319000 + 1)) < (x319002.length : Int) then ((some (x319002.set ((wrap64 (x319000 + 1)) : Int).toNat 0 : List Int)).bind fun y338 => ((spec_Sound.f k x319000 x319001 y338).bind fun t339 => (if t339 = true then (some (x319000, x319001, y338, x1001, x1002)) else (some (x319000, x319001, (y338.set ((wrap64 (x319000 + 1)) : Int).toNat 1), x1001, x1002))))) else (none)) else (none)) else (some (x319000, x319001, x319002, x1001, x1002))
end
def spec_l3Sound.f (k : Nat) (s0_0 : List Int) (s0_1 : Int) (s0_2 : Int) : Option (Int × Int × List Int × Int × Int) := (spec_l1Floor.f k s0_0 s0_1 s0_2).bind fun bt311 => ((spec_Sound.f k bt311.1 bt311.2.1 bt311.2.2.1).bind fun t319 => (if t319 = true then (some (bt311.1, bt311.2.1, bt311.2.2.1, bt311.2.2.2.1, bt311.2.2.2.2)) else ((spec_l1Below.f s0_0 bt311.2.2.2.1 bt311.2.2.2.2 4).bind fun bt320 => ((spec_l1Below.f s0_0 bt320.2.1 bt320.2.2 3).bind fun bt323 => (spec_l3Sound.l0 k 0 s0_0 bt323.2.1 bt323.2.2 (wrap64 (2 + bt320.1)) (wrap64 (2 + bt323.1)) ([] : List Int))))))
theorem spec_l3Sound.mono_l : ∀ k, (∀ y0 y1 y2 y3 y4 y5 y6, LeO (spec_l3Sound.l0 k y0 y1 y2 y3 y4 y5 y6) (spec_l3Sound.l0 (k + 1) y0 y1 y2 y3 y4 y5 y6)) ∧ (∀ y0 y1 y2 y3 y4 y5 y6, LeO (spec_l3Sound.j1 k y0 y1 y2 y3 y4 y5 y6) (spec_l3Sound.j1 (k + 1) y0 y1 y2 y3 y4 y5 y6))
 | 0 => ⟨fun _ _ _ _ _ _ _ r h => by simp [spec_l3Sound.l0] at h, fun _ _ _ _ _ _ _ r h => by simp [spec_l3Sound.j1] at h⟩
 | k + 1 => by
  obtain ⟨ih0, ih1⟩ := spec_l3Sound.mono_l k
  refine ⟨?_, ?_⟩
  {
  intro y0 y1 y2 y3 y4 y5 y6
  unfold spec_l3Sound.l0
  repeat' first
  | (with_reducible first | exact ih0 _ _ _ _ _ _ _ | exact ih1 _ _ _ _ _ _ _ | exact spec_Sound.mono _ _ _ _ | exact spec_l1Floor.mono _ _ _ _ | exact LeO.refl _ | exact LeO.none _ | refine LeO.ite ?_ ?_ | refine LeO.bind ?_ (fun _ => ?_))
  | exact ih0 _ _ _ _ _ _ _
  | exact ih1 _ _ _ _ _ _ _
  | exact spec_Sound.mono _ _ _ _
  | exact spec_l1Floor.mono _ _ _ _
  | exact LeO.none _
  | refine LeO.ite ?_ ?_
  | refine LeO.bind ?_ (fun _ => ?_)
  }
  {
  intro y0 y1 y2 y3 y4 y5 y6
  unfold spec_l3Sound.j1
  repeat' first
  | (with_reducible first | exact ih0 _ _ _ _ _ _ _ | exact ih1 _ _ _ _ _ _ _ | exact spec_Sound.mono _ _ _ _ | exact spec_l1Floor.mono _ _ _ _ | exact LeO.refl _ | exact LeO.none _ | refine LeO.ite ?_ ?_ | refine LeO.bind ?_ (fun _ => ?_))
  | exact ih0 _ _ _ _ _ _ _
  | exact ih1 _ _ _ _ _ _ _
  | exact spec_Sound.mono _ _ _ _
  | exact spec_l1Floor.mono _ _ _ _
  | exact LeO.none _
  | refine LeO.ite ?_ ?_
  | refine LeO.bind ?_ (fun _ => ?_)
  }
theorem spec_l3Sound.mono : ∀ a0 a1 a2 k, LeO (spec_l3Sound.f k a0 a1 a2) (spec_l3Sound.f (k + 1) a0 a1 a2) := by
 intro a0 a1 a2 k
 obtain ⟨ih0, ih1⟩ := spec_l3Sound.mono_l k
 unfold spec_l3Sound.f
 repeat' first
  | (with_reducible first | exact ih0 _ _ _ _ _ _ _ | exact ih1 _ _ _ _ _ _ _ | exact spec_Sound.mono _ _ _ _ | exact spec_l1Floor.mono _ _ _ _ | exact LeO.refl _ | exact LeO.none _ | refine LeO.ite ?_ ?_ | refine LeO.bind ?_ (fun _ => ?_))
  | exact ih0 _ _ _ _ _ _ _
  | exact ih1 _ _ _ _ _ _ _
  | exact spec_Sound.mono _ _ _ _
  | exact spec_l1Floor.mono _ _ _ _
  | exact LeO.none _
  | refine LeO.ite ?_ ?_
  | refine LeO.bind ?_ (fun _ => ?_)
def spec_l3Sound.T8 : Bool × List (List Nat × List Nat) := (true, [([], []), ([0], [0]), ([], []), ([], []), ([2, 3], [2, 3]), ([4], [4]), ([1, 5, 4], [1, 5]), ([0, 1, 2, 3, 4, 5, 6], []), ([7, 6, 6, 0, 1, 2, 3, 4, 5, 6], [6, 7])])
def spec_l3Sound.B8 : List Nat := [0, 1, 0, 0, 12, 28, 63, 127, 255]
theorem spec_l3Sound.tab8 : rtab .any (opsOf Try.f51 8) = spec_l3Sound.T8 := by kernel_rfl
theorem spec_l3Sound.bits8 : waitsOk spec_l3Sound.T8.2 spec_l3Sound.B8 = true := by kernel_rfl
set_option maxHeartbeats 8000000 in
set_option maxRecDepth 100000 in
theorem spec_l3Sound.calls (k : Nat) (g : Nat) (s0_0 : List Int) (s0_1 : Int) (s0_2 : Int) (r1 : Int) (r2 : Int) (r3 : List Int) (r4 : Int) (r5 : Int) (w0 w : World) (hI : IsS77 w0 w g s0_0 s0_1 s0_2) (hB : Below w0.heap.size w0 w) (h : spec_l3Sound.f k s0_0 s0_1 s0_2 = some (r1, r2, r3, r4, r5)) :
  Calls Try.prog 51 #[.pointer (some ⟨g, 0, none⟩)] w fun e w' => ∃ v2_ : Value, e = .returned (.agg #[.int .i64 r1, .int .i64 r2, v2_]) ∧ Kd.R (Kd.int .i64) 3 w' w.heap.size (fun _ => True) v2_ r3 ∧ IsS77 w0 w' g s0_0 r4 r5 ∧ Below w0.heap.size w0 w' ∧ KeepBut w w' g none := by
 have hu43 := Try.underlying43
 have HI0 := aM hI
 have HK := aM (KeepBut.refl w g none)
 have HL := aM hB.size
 clear hI
 have HW0 := aM hB.size
 have HB := aM hB
 clear hB
 have H : ((spec_l1Floor.f k s0_0 s0_1 s0_2).bind fun bt311 => ((spec_Sound.f k bt311.1 bt311.2.1 bt311.2.2.1).bind fun t319 => (if t319 = true then (some (bt311.1, bt311.2.1, bt311.2.2.1, bt311.2.2.2.1, bt311.2.2.2.2)) else ((spec_l1Below.f s0_0 bt311.2.2.2.1 bt311.2.2.2.2 4).bind fun bt320 => ((spec_l1Below.f s0_0 bt320.2.1 bt320.2.2 3).bind fun bt323 => (spec_l3Sound.l0 k 0 s0_0 bt323.2.1 bt323.2.2 (wrap64 (2 + bt320.1)) (wrap64 (2 + bt323.1)) ([] : List Int))))))) = some (r1, r2, r3, r4, r5) := h
 clear h
 replace H := Option.bind_eq_some_iff.mp H
 obtain ⟨⟨t311, t312, t313, t316, t317⟩, A20, H⟩ := H
 replace H : ((spec_Sound.f k t311 t312 t313).bind fun t319 => (if t319 = true then (some (t311, t312, t313, t316, t317)) else ((spec_l1Below.f s0_0 t316 t317 4).bind fun bt320 => ((spec_l1Below.f s0_0 bt320.2.1 bt320.2.2 3).bind fun bt323 => (spec_l3Sound.l0 k 0 s0_0 bt323.2.1 bt323.2.2 (wrap64 (2 + bt320.1)) (wrap64 (2 + bt323.1)) ([] : List Int)))))) = some (r1, r2, r3, r4, r5) := H
 have A2 := aM A20
 clear A20
 replace H := Option.bind_eq_some_iff.mp H
 obtain ⟨t319, A30, H⟩ := H
 replace H : (if t319 = true then (some (t311, t312, t313, t316, t317)) else ((spec_l1Below.f s0_0 t316 t317 4).bind fun bt320 => ((spec_l1Below.f s0_0 bt320.2.1 bt320.2.2 3).bind fun bt323 => (spec_l3Sound.l0 k 0 s0_0 bt323.2.1 bt323.2.2 (wrap64 (2 + bt320.1)) (wrap64 (2 + bt323.1)) ([] : List Int))))) = some (r1, r2, r3, r4, r5) := H
 have A3 := aM A30
 clear A30
 by_cases c4 : t319 = true
 {
 subst c4
 rw [if_pos rfl] at H
 simp only [Option.some.injEq, Prod.mk.injEq] at H
 obtain ⟨rfl, rfl, rfl, rfl, rfl⟩ := H
 go_enter Try.func51, Try.ntmps51
 go_wp2_with (first | ((with_reducible refine gate_dst (N := 2) rfl ?_); refine bx_ 2 #[.int .i64 0, .int .i64 0, .slice none 0 0] 43 ?_; intro gb310 hg w5 hbox hb; have n0_ := aM (IsS77.below qz30 hb); have n1_ := aM (KeepBut.trans qz7 (KeepBut.of_below hb g none) (.inl rfl)); have n2_ := aM (below_step qz29 hb); have n3_ := aM (hbox); have n4_ := aM ((by rw [hg]; exact (keep_size (w := w) (g := g) (row := none) qz7) : w.heap.size ≤ gb310)); have n5_ := aM ((Nat.le_trans HW0.out (by rw [hg]; exact (keep_size (w := w) (g := g) (row := none) qz7) : w.heap.size ≤ gb310) : w0.heap.size ≤ gb310)); have n6_ := aM ((by rw [hg]; exact Nat.ne_of_lt (IsS77.lt (show IsS77 w0 _ g s0_0 s0_1 s0_2 from by repeat (first | (with_reducible first | exact HI0.out | apply IsS77.alloc | apply IsS77.drewN | apply IsS77.drew | apply IsS77.set_1 | apply IsS77.set_2) | exact HI0.out))) : g ≠ gb310)); have n7_ := aM ((by rw [hg]; exact Nat.ne_of_gt (IsS77.lt (show IsS77 w0 _ g s0_0 s0_1 s0_2 from by repeat (first | (with_reducible first | exact HI0.out | apply IsS77.alloc | apply IsS77.drewN | apply IsS77.drew | apply IsS77.set_1 | apply IsS77.set_2) | exact HI0.out))) : gb310 ≠ g)); clear HI0 HK HB; have HI0 := n0_; have HK := n1_; have HB := n2_; have BK310 := n3_; have GW310 := n4_; have GE310 := n5_; have NB0_310 := n6_; have NB310_0 := n7_; clear n0_ n1_ n2_ n3_ n4_ n5_ n6_ n7_; clear hb hbox hg) | ((with_reducible refine gate_callee (f := 69) rfl ?_); refine goesL_ (some 6) rfl rfl Try.func69 (by kernel_rfl) rfl #[.pointer (some ⟨g, 0, none⟩)] rfl qz3 ?_; (with_reducible refine (spec_l1Floor.calls k g s0_0 s0_1 s0_2 t311 t312 t313 t316 t317 w0 _ ?side1 ?side2 A2.out).mono ?_); (case side1 => exact qz75); (case side2 => exact qz76); rintro e w6 ⟨v314, rfl, ho0, hi, hb, hk⟩; refine ⟨_, rfl, ?_⟩; have n0_ := aM (KeepBut.blk hk (bk_ BK310.out) NB310_0.out (by simp)); have n1_ := aM (Kd.R_lower ho0 (keep_size (w := w) (g := g) (row := none) qz22)); have n2_ := aM (KeepBut.trans qz22 hk (.inl rfl)); have n3_ := aM (hb); have n4_ := aM (hi); clear BK310 HK HB HI0; have BK310 := n0_; have HO315 := n1_; have HK := n2_; have HB := n3_; have HI0 := n4_; clear n0_ n1_ n2_ n3_ n4_; (try clear hb); (try clear hb2); (try clear hk); (try clear hi); (try clear ho0)) | ((with_reducible refine gate_dst (N := 3) rfl ?_); refine bx_ 3 #[.int .i64 0, .int .i64 0, .slice none 0 0] 43 ?_; intro gb318 hg w7 hbox hb; have n0_ := aM (Kd.R_below (rr_ HO315.out) hb); have n1_ := aM (IsS77.below qz75 hb); have n2_ := aM (blk_below (bk_ BK310.out) hb); have n3_ := aM (KeepBut.trans qz22 (KeepBut.of_below hb g none) (.inl rfl)); have n4_ := aM (below_step qz76 hb); have n5_ := aM (hbox); have n6_ := aM ((by rw [hg]; exact (keep_size (w := w) (g := g) (row := none) qz22) : w.heap.size ≤ gb318)); have n7_ := aM ((Nat.le_trans HW0.out (by rw [hg]; exact (keep_size (w := w) (g := g) (row := none) qz22) : w.heap.size ≤ gb318) : w0.heap.size ≤ gb318)); have n8_ := aM ((by rw [hg]; exact Nat.ne_of_lt (blk_lt (bk_ BK310.out)) : gb310 ≠ gb318)); have n9_ := aM ((by rw [hg]; exact Nat.ne_of_gt (blk_lt (bk_ BK310.out)) : gb318 ≠ gb310)); have n10_ := aM ((by rw [hg]; exact Nat.ne_of_lt (IsS77.lt (show IsS77 w0 _ g s0_0 t316 t317 from by repeat (first | (with_reducible first | exact HI0.out | apply IsS77.alloc | apply IsS77.drewN | apply IsS77.drew | apply IsS77.set_1 | apply IsS77.set_2 | refine IsS77.far ?_ NB0_310.out _) | exact HI0.out))) : g ≠ gb318)); have n11_ := aM ((by rw [hg]; exact Nat.ne_of_gt (IsS77.lt (show IsS77 w0 _ g s0_0 t316 t317 from by repeat (first | (with_reducible first | exact HI0.out | apply IsS77.alloc | apply IsS77.drewN | apply IsS77.drew | apply IsS77.set_1 | apply IsS77.set_2 | refine IsS77.far ?_ NB0_310.out _) | exact HI0.out))) : gb318 ≠ g)); clear HO315 HI0 BK310 HK HB; have HO315 := n0_; have HI0 := n1_; have BK310 := n2_; have HK := n3_; have HB := n4_; have BK318 := n5_; have GW318 := n6_; have GE318 := n7_; have NB310_318 := n8_; have NB318_310 := n9_; have NB0_318 := n10_; have NB318_0 := n11_; clear n0_ n1_ n2_ n3_ n4_ n5_ n6_ n7_ n8_ n9_ n10_ n11_; clear hb hbox hg; have hnb8 := NB318_310.out; have hnc8 := NB310_318.out; have hnb9 := NB318_0.out; have hnc9 := NB0_318.out; obtain ⟨hcz10_0, hcz10_1, hcz10_2, hfz10_0, hfz10_1, hfz10_2⟩ := b6_ BK318.out; obtain ⟨Ao11, co11, eo11⟩ := Kd.R_slice HO315.out; subst eo11) | ((with_reducible refine gate_callee (f := 28) rfl ?_); refine goesL_ (some 8) rfl rfl Try.func28 (by kernel_rfl) rfl #[.agg #[.int .i64 t311, .int .i64 t312, .slice Ao11 t313.length co11]] rfl qz3 ?_; (with_reducible refine (spec_Sound.calls k t311 t312 _ _ t313 true _ ?side1 ?side2 A3.out).mono ?_); (case side1 => refine (Kd.R_reads' (e := 3) (base := w.heap.size) (ok := fun k_ => True) (n := t313.length) (c := co11) ?_).2.2; exact (by (with_reducible repeat (first | apply Kd.R_alloc | apply Kd.R_drewN | apply Kd.R_drew)); exact (Kd.R_mono (Kd.R_far (p := ⟨gb318, 2, none⟩) (Kd.R_far (p := ⟨gb318, 1, none⟩) (Kd.R_far (p := ⟨gb318, 0, none⟩) (Kd.R_types HO315.out BK318.out (by decide)) (fun _ hk => hk.2) (.int .i64 t311)) (fun _ hk => hk.2) (.int .i64 t312)) (fun _ hk => hk.2) (.slice Ao11 t313.length co11)) (fun _ h_ => h_.1)))); (case side2 => exact (Kd.R_reads' HO315.out).2.1); rintro e w12 ⟨rfl, hb⟩; refine ⟨_, rfl, ?_⟩; have n0_ := aM (Kd.R_below (by (with_reducible repeat (first | apply Kd.R_alloc | apply Kd.R_drewN | apply Kd.R_drew)); exact (Kd.R_mono (Kd.R_far (p := ⟨gb318, 2, none⟩) (Kd.R_far (p := ⟨gb318, 1, none⟩) (Kd.R_far (p := ⟨gb318, 0, none⟩) (Kd.R_types HO315.out BK318.out (by decide)) (fun _ hk => hk.2) (.int .i64 t311)) (fun _ hk => hk.2) (.int .i64 t312)) (fun _ hk => hk.2) (.slice Ao11 t313.length co11)) (fun _ h_ => h_.1))) hb); have n1_ := aM (IsS77.below (show IsS77 w0 (((w7.setCell ⟨gb318, 0, none⟩ (.int .i64 t311)).setCell ⟨gb318, 1, none⟩ (.int .i64 t312)).setCell ⟨gb318, 2, none⟩ (.slice Ao11 t313.length co11)) g s0_0 t316 t317 from by repeat (first | (with_reducible first | exact HI0.out | apply IsS77.alloc | apply IsS77.drewN | apply IsS77.drew | apply IsS77.set_1 | apply IsS77.set_2 | refine IsS77.far ?_ NB0_310.out _ | refine IsS77.far ?_ NB0_318.out _) | exact HI0.out)) hb); have n2_ := aM (blk_below (g := gb310) (o := .cells #[.int .i64 0, .int .i64 0, .slice none 0 0] 43 (0, 0)) qz60 hb); have n3_ := aM (blk_below (g := gb318) (o := .cells #[.int .i64 t311, .int .i64 t312, .slice Ao11 t313.length co11] 43 (0, 0)) (by (with_reducible repeat (first | refine blk_drewN ?_ _ | refine blk_drew ?_ | refine blk_alloc ?_ _)); refine blk_put (cs := #[.int .i64 t311, .int .i64 t312, .slice none 0 0]) ?_ 2 _ rfl; (with_reducible repeat (first | refine blk_drewN ?_ _ | refine blk_drew ?_ | refine blk_alloc ?_ _)); refine blk_put (cs := #[.int .i64 t311, .int .i64 0, .slice none 0 0]) ?_ 1 _ rfl; (with_reducible repeat (first | refine blk_drewN ?_ _ | refine blk_drew ?_ | refine blk_alloc ?_ _)); refine blk_put (cs := #[.int .i64 0, .int .i64 0, .slice none 0 0]) ?_ 0 _ rfl; exact bk_ BK318.out) hb); have n4_ := aM (KeepBut.trans qz12 (KeepBut.of_below hb g none) (.inl rfl)); have n5_ := aM (below_step qz31 hb); clear HO315 HI0 BK310 BK318 HK HB; have HO315 := n0_; have HI0 := n1_; have BK310 := n2_; have BK318 := n3_; have HK := n4_; have HB := n5_; clear n0_ n1_ n2_ n3_ n4_ n5_; (try clear hb); (try clear hb2); (try clear hk); (try clear hi); obtain ⟨hcz13_0, hcz13_1, hcz13_2, hfz13_0, hfz13_1, hfz13_2⟩ := b6_ BK318.out; have hnb14 := NB310_0.out; have hnc14 := NB0_310.out; obtain ⟨hcz15_0, hcz15_1, hcz15_2, hfz15_0, hfz15_1, hfz15_2⟩ := b6_ BK310.out))
 refine bodyPost_ret (results_cell_row rfl _ _ gb310 43 #[.int .i64 t311, .int .i64 t312, .slice Ao11 t313.length co11] (0, 0) _ rfl (by (with_reducible repeat (first | refine blk_drewN ?_ _ | refine blk_drew ?_ | refine blk_alloc ?_ _)); refine blk_put (cs := #[.int .i64 t311, .int .i64 t312, .slice none 0 0]) ?_ 2 _ rfl; (with_reducible repeat (first | refine blk_drewN ?_ _ | refine blk_drew ?_ | refine blk_alloc ?_ _)); refine blk_put (cs := #[.int .i64 t311, .int .i64 0, .slice none 0 0]) ?_ 1 _ rfl; (with_reducible repeat (first | refine blk_drewN ?_ _ | refine blk_drew ?_ | refine blk_alloc ?_ _)); refine blk_put (cs := #[.int .i64 0, .int .i64 0, .slice none 0 0]) ?_ 0 _ rfl; exact bk_ BK310.out) Try.underlying43 rfl (by kernel_rfl)) rfl ?_
 exact ⟨_, by first | rfl | (simp [errW_none, errW_some] <;> rfl) | (simp [*, errW_none, errW_some] <;> rfl), by (with_reducible repeat (first | apply Kd.R_alloc | apply Kd.R_drewN | apply Kd.R_drew)); exact Kd.R_mono (Kd.R_far (p := ⟨gb310, 2, none⟩) (Kd.R_far (p := ⟨gb310, 1, none⟩) (Kd.R_far (p := ⟨gb310, 0, none⟩) (Kd.R_types HO315.out BK310.out (by decide)) (fun _ hk => hk.2) (.int .i64 t311)) (fun _ hk => hk.2) (.int .i64 t312)) (fun _ hk => hk.2) (.slice Ao11 t313.length co11)) (fun _ hk => trivial), by repeat (first | (with_reducible first | exact HI0.out | apply IsS77.alloc | apply IsS77.drewN | apply IsS77.drew | apply IsS77.set_1 | apply IsS77.set_2 | refine IsS77.far ?_ NB0_310.out _ | refine IsS77.far ?_ NB0_318.out _) | exact HI0.out), by repeat (first | (with_reducible first | exact HB.out | apply below_alloc | apply pw_below_drewN | apply below_drew1 | refine below_set ?_ (IsS77.ge HI0.out) | refine below_set ?_ GE310.out | refine below_set ?_ GE318.out) | exact HB.out), by repeat (first | (with_reducible first | exact HK.out | apply KeepBut.set_ | apply keep_drewN | apply keep_drew | apply keep_alloc | refine keep_far ?_ GW310.out _ | refine keep_far ?_ GW318.out _) | exact HK.out)⟩
 }
 {
 replace c4 := Bool.eq_false_iff.mpr c4
 subst c4
 rw [if_neg (show ¬ (false = true) by decide)] at H
 replace H := Option.bind_eq_some_iff.mp H
 obtain ⟨⟨t320, t321, t322⟩, A160, H⟩ := H
 replace H : ((spec_l1Below.f s0_0 t321 t322 3).bind fun bt323 => (spec_l3Sound.l0 k 0 s0_0 bt323.2.1 bt323.2.2 (wrap64 (2 + t320)) (wrap64 (2 + bt323.1)) ([] : List Int))) = some (r1, r2, r3, r4, r5) := H
 have A16 := aM A160
 clear A160
 replace H := Option.bind_eq_some_iff.mp H
 obtain ⟨⟨t323, t324, t325⟩, A170, H⟩ := H
 replace H : (spec_l3Sound.l0 k 0 s0_0 t324 t325 (wrap64 (2 + t320)) (wrap64 (2 + t323)) ([] : List Int)) = some (r1, r2, r3, r4, r5) := H
 have A17 := aM A170
 clear A170
 have H' := aM H
 clear H
 go_enter Try.func51, Try.ntmps51
 go_wp2_with (first | ((with_reducible refine gate_dst (N := 2) rfl ?_); refine bx_ 2 #[.int .i64 0, .int .i64 0, .slice none 0 0] 43 ?_; intro gb310 hg w18 hbox hb; have n0_ := aM (IsS77.below qz30 hb); have n1_ := aM (KeepBut.trans qz7 (KeepBut.of_below hb g none) (.inl rfl)); have n2_ := aM (below_step qz29 hb); have n3_ := aM (hbox); have n4_ := aM ((by rw [hg]; exact (keep_size (w := w) (g := g) (row := none) qz7) : w.heap.size ≤ gb310)); have n5_ := aM ((Nat.le_trans HW0.out (by rw [hg]; exact (keep_size (w := w) (g := g) (row := none) qz7) : w.heap.size ≤ gb310) : w0.heap.size ≤ gb310)); have n6_ := aM ((by rw [hg]; exact Nat.ne_of_lt (IsS77.lt (show IsS77 w0 _ g s0_0 s0_1 s0_2 from by repeat (first | (with_reducible first | exact HI0.out | apply IsS77.alloc | apply IsS77.drewN | apply IsS77.drew | apply IsS77.set_1 | apply IsS77.set_2) | exact HI0.out))) : g ≠ gb310)); have n7_ := aM ((by rw [hg]; exact Nat.ne_of_gt (IsS77.lt (show IsS77 w0 _ g s0_0 s0_1 s0_2 from by repeat (first | (with_reducible first | exact HI0.out | apply IsS77.alloc | apply IsS77.drewN | apply IsS77.drew | apply IsS77.set_1 | apply IsS77.set_2) | exact HI0.out))) : gb310 ≠ g)); clear HI0 HK HB; have HI0 := n0_; have HK := n1_; have HB := n2_; have BK310 := n3_; have GW310 := n4_; have GE310 := n5_; have NB0_310 := n6_; have NB310_0 := n7_; clear n0_ n1_ n2_ n3_ n4_ n5_ n6_ n7_; clear hb hbox hg) | ((with_reducible refine gate_callee (f := 69) rfl ?_); refine goesL_ (some 6) rfl rfl Try.func69 (by kernel_rfl) rfl #[.pointer (some ⟨g, 0, none⟩)] rfl qz3 ?_; (with_reducible refine (spec_l1Floor.calls k g s0_0 s0_1 s0_2 t311 t312 t313 t316 t317 w0 _ ?side1 ?side2 A2.out).mono ?_); (case side1 => exact qz75); (case side2 => exact qz76); rintro e w19 ⟨v314, rfl, ho0, hi, hb, hk⟩; refine ⟨_, rfl, ?_⟩; have n0_ := aM (KeepBut.blk hk (bk_ BK310.out) NB310_0.out (by simp)); have n1_ := aM (Kd.R_lower ho0 (keep_size (w := w) (g := g) (row := none) qz22)); have n2_ := aM (KeepBut.trans qz22 hk (.inl rfl)); have n3_ := aM (hb); have n4_ := aM (hi); clear BK310 HK HB HI0; have BK310 := n0_; have HO315 := n1_; have HK := n2_; have HB := n3_; have HI0 := n4_; clear n0_ n1_ n2_ n3_ n4_; (try clear hb); (try clear hb2); (try clear hk); (try clear hi); (try clear ho0)) | ((with_reducible refine gate_dst (N := 3) rfl ?_); refine bx_ 3 #[.int .i64 0, .int .i64 0, .slice none 0 0] 43 ?_; intro gb318 hg w20 hbox hb; have n0_ := aM (Kd.R_below (rr_ HO315.out) hb); have n1_ := aM (IsS77.below qz75 hb); have n2_ := aM (blk_below (bk_ BK310.out) hb); have n3_ := aM (KeepBut.trans qz22 (KeepBut.of_below hb g none) (.inl rfl)); have n4_ := aM (below_step qz76 hb); have n5_ := aM (hbox); have n6_ := aM ((by rw [hg]; exact (keep_size (w := w) (g := g) (row := none) qz22) : w.heap.size ≤ gb318)); have n7_ := aM ((Nat.le_trans HW0.out (by rw [hg]; exact (keep_size (w := w) (g := g) (row := none) qz22) : w.heap.size ≤ gb318) : w0.heap.size ≤ gb318)); have n8_ := aM ((by rw [hg]; exact Nat.ne_of_lt (blk_lt (bk_ BK310.out)) : gb310 ≠ gb318)); have n9_ := aM ((by rw [hg]; exact Nat.ne_of_gt (blk_lt (bk_ BK310.out)) : gb318 ≠ gb310)); have n10_ := aM ((by rw [hg]; exact Nat.ne_of_lt (IsS77.lt (show IsS77 w0 _ g s0_0 t316 t317 from by repeat (first | (with_reducible first | exact HI0.out | apply IsS77.alloc | apply IsS77.drewN | apply IsS77.drew | apply IsS77.set_1 | apply IsS77.set_2 | refine IsS77.far ?_ NB0_310.out _) | exact HI0.out))) : g ≠ gb318)); have n11_ := aM ((by rw [hg]; exact Nat.ne_of_gt (IsS77.lt (show IsS77 w0 _ g s0_0 t316 t317 from by repeat (first | (with_reducible first | exact HI0.out | apply IsS77.alloc | apply IsS77.drewN | apply IsS77.drew | apply IsS77.set_1 | apply IsS77.set_2 | refine IsS77.far ?_ NB0_310.out _) | exact HI0.out))) : gb318 ≠ g)); clear HO315 HI0 BK310 HK HB; have HO315 := n0_; have HI0 := n1_; have BK310 := n2_; have HK := n3_; have HB := n4_; have BK318 := n5_; have GW318 := n6_; have GE318 := n7_; have NB310_318 := n8_; have NB318_310 := n9_; have NB0_318 := n10_; have NB318_0 := n11_; clear n0_ n1_ n2_ n3_ n4_ n5_ n6_ n7_ n8_ n9_ n10_ n11_; clear hb hbox hg; have hnb21 := NB318_310.out; have hnc21 := NB310_318.out; have hnb22 := NB318_0.out; have hnc22 := NB0_318.out; obtain ⟨hcz23_0, hcz23_1, hcz23_2, hfz23_0, hfz23_1, hfz23_2⟩ := b6_ BK318.out; obtain ⟨Ao24, co24, eo24⟩ := Kd.R_slice HO315.out; subst eo24) | ((with_reducible refine gate_callee (f := 28) rfl ?_); refine goesL_ (some 8) rfl rfl Try.func28 (by kernel_rfl) rfl #[.agg #[.int .i64 t311, .int .i64 t312, .slice Ao24 t313.length co24]] rfl qz3 ?_; (with_reducible refine (spec_Sound.calls k t311 t312 _ _ t313 false _ ?side1 ?side2 A3.out).mono ?_); (case side1 => refine (Kd.R_reads' (e := 3) (base := w.heap.size) (ok := fun k_ => True) (n := t313.length) (c := co24) ?_).2.2; exact (by (with_reducible repeat (first | apply Kd.R_alloc | apply Kd.R_drewN | apply Kd.R_drew)); exact (Kd.R_mono (Kd.R_far (p := ⟨gb318, 2, none⟩) (Kd.R_far (p := ⟨gb318, 1, none⟩) (Kd.R_far (p := ⟨gb318, 0, none⟩) (Kd.R_types HO315.out BK318.out (by decide)) (fun _ hk => hk.2) (.int .i64 t311)) (fun _ hk => hk.2) (.int .i64 t312)) (fun _ hk => hk.2) (.slice Ao24 t313.length co24)) (fun _ h_ => h_.1)))); (case side2 => exact (Kd.R_reads' HO315.out).2.1); rintro e w25 ⟨rfl, hb⟩; refine ⟨_, rfl, ?_⟩; have n0_ := aM (Kd.R_below (by (with_reducible repeat (first | apply Kd.R_alloc | apply Kd.R_drewN | apply Kd.R_drew)); exact (Kd.R_mono (Kd.R_far (p := ⟨gb318, 2, none⟩) (Kd.R_far (p := ⟨gb318, 1, none⟩) (Kd.R_far (p := ⟨gb318, 0, none⟩) (Kd.R_types HO315.out BK318.out (by decide)) (fun _ hk => hk.2) (.int .i64 t311)) (fun _ hk => hk.2) (.int .i64 t312)) (fun _ hk => hk.2) (.slice Ao24 t313.length co24)) (fun _ h_ => h_.1))) hb); have n1_ := aM (IsS77.below (show IsS77 w0 (((w20.setCell ⟨gb318, 0, none⟩ (.int .i64 t311)).setCell ⟨gb318, 1, none⟩ (.int .i64 t312)).setCell ⟨gb318, 2, none⟩ (.slice Ao24 t313.length co24)) g s0_0 t316 t317 from by repeat (first | (with_reducible first | exact HI0.out | apply IsS77.alloc | apply IsS77.drewN | apply IsS77.drew | apply IsS77.set_1 | apply IsS77.set_2 | refine IsS77.far ?_ NB0_310.out _ | refine IsS77.far ?_ NB0_318.out _) | exact HI0.out)) hb); have n2_ := aM (blk_below (g := gb310) (o := .cells #[.int .i64 0, .int .i64 0, .slice none 0 0] 43 (0, 0)) qz60 hb); have n3_ := aM (blk_below (g := gb318) (o := .cells #[.int .i64 t311, .int .i64 t312, .slice Ao24 t313.length co24] 43 (0, 0)) (by (with_reducible repeat (first | refine blk_drewN ?_ _ | refine blk_drew ?_ | refine blk_alloc ?_ _)); refine blk_put (cs := #[.int .i64 t311, .int .i64 t312, .slice none 0 0]) ?_ 2 _ rfl; (with_reducible repeat (first | refine blk_drewN ?_ _ | refine blk_drew ?_ | refine blk_alloc ?_ _)); refine blk_put (cs := #[.int .i64 t311, .int .i64 0, .slice none 0 0]) ?_ 1 _ rfl; (with_reducible repeat (first | refine blk_drewN ?_ _ | refine blk_drew ?_ | refine blk_alloc ?_ _)); refine blk_put (cs := #[.int .i64 0, .int .i64 0, .slice none 0 0]) ?_ 0 _ rfl; exact bk_ BK318.out) hb); have n4_ := aM (KeepBut.trans qz12 (KeepBut.of_below hb g none) (.inl rfl)); have n5_ := aM (below_step qz31 hb); clear HO315 HI0 BK310 BK318 HK HB; have HO315 := n0_; have HI0 := n1_; have BK310 := n2_; have BK318 := n3_; have HK := n4_; have HB := n5_; clear n0_ n1_ n2_ n3_ n4_ n5_; (try clear hb); (try clear hb2); (try clear hk); (try clear hi)) | ((with_reducible refine gate_callee (f := 68) rfl ?_); refine goesL_ (some 11) rfl rfl Try.func68 (by kernel_rfl) rfl #[.pointer (some ⟨g, 0, none⟩), .int .i64 4] rfl qz3 ?_; (with_reducible refine (spec_l1Below.calls g s0_0 t316 t317 4 t320 t321 t322 w0 _ ?side1 ?side2 A16.out).mono ?_); (case side1 => exact qz25); (case side2 => exact qz31); rintro e w26 ⟨rfl, hi, hb, hk⟩; refine ⟨_, rfl, ?_⟩; have n0_ := aM (KeepBut.blk hk (bk_ BK310.out) NB310_0.out (by simp)); have n1_ := aM (Kd.R_mono (Kd.R_keep (IsS77.apart (show IsS77 w0 _ g s0_0 t316 t317 from by repeat (first | (with_reducible first | exact HI0.out | apply IsS77.alloc | apply IsS77.drewN | apply IsS77.drew | apply IsS77.set_1 | apply IsS77.set_2 | refine IsS77.far ?_ NB0_310.out _ | refine IsS77.far ?_ NB0_318.out _) | exact HI0.out)) (rr_ HO315.out) (by decide)) hk (fun _ h => h.2)) (fun _ h => h.1)); have n2_ := aM (KeepBut.blk hk (bk_ BK318.out) NB318_0.out (by simp)); have n3_ := aM (KeepBut.trans qz12 hk (.inl rfl)); have n4_ := aM (hb); have n5_ := aM (hi); clear BK310 HO315 BK318 HK HB HI0; have BK310 := n0_; have HO315 := n1_; have BK318 := n2_; have HK := n3_; have HB := n4_; have HI0 := n5_; clear n0_ n1_ n2_ n3_ n4_ n5_; (try clear hb); (try clear hb2); (try clear hk); (try clear hi)) | ((with_reducible refine gate_callee (f := 68) rfl ?_); refine goesL_ (some 14) rfl rfl Try.func68 (by kernel_rfl) rfl #[.pointer (some ⟨g, 0, none⟩), .int .i64 3] rfl qz3 ?_; (with_reducible refine (spec_l1Below.calls g s0_0 t321 t322 3 t323 t324 t325 w0 _ ?side1 ?side2 A17.out).mono ?_); (case side1 => exact qz25); (case side2 => exact qz31); rintro e w27 ⟨rfl, hi, hb, hk⟩; refine ⟨_, rfl, ?_⟩; have n0_ := aM (KeepBut.blk hk (bk_ BK310.out) NB310_0.out (by simp)); have n1_ := aM (Kd.R_mono (Kd.R_keep (IsS77.apart (show IsS77 w0 _ g s0_0 t321 t322 from by repeat (first | (with_reducible first | exact HI0.out | apply IsS77.alloc | apply IsS77.drewN | apply IsS77.drew | apply IsS77.set_1 | apply IsS77.set_2 | refine IsS77.far ?_ NB0_310.out _ | refine IsS77.far ?_ NB0_318.out _) | exact HI0.out)) (rr_ HO315.out) (by decide)) hk (fun _ h => h.2)) (fun _ h => h.1)); have n2_ := aM (KeepBut.blk hk (bk_ BK318.out) NB318_0.out (by simp)); have n3_ := aM (KeepBut.trans qz12 hk (.inl rfl)); have n4_ := aM (hb); have n5_ := aM (hi); clear BK310 HO315 BK318 HK HB HI0; have BK310 := n0_; have HO315 := n1_; have BK318 := n2_; have HK := n3_; have HB := n4_; have HI0 := n5_; clear n0_ n1_ n2_ n3_ n4_ n5_; (try clear hb); (try clear hb2); (try clear hk); (try clear hi); obtain ⟨hcz28_0, hcz28_1, hcz28_2, hfz28_0, hfz28_1, hfz28_2⟩ := b6_ BK318.out))
 go_loopg [4] k (fun kq v4 w' => ∃ (x4_1 : Int) (x1001_1 : Int) (x1002_1 : Int) (x319002_1 : List Int) (u319002 : Value), v4 = .int .i64 x4_1 ∧ Aside0 (spec_l3Sound.l0 kq x4_1 s0_0 x1001_1 x1002_1 (wrap64 (2 + t320)) (wrap64 (2 + t323)) x319002_1 = some (r1, r2, r3, r4, r5)) ∧ Aside0 (kq ≤ k) ∧ Aside0 (Kd.R (Kd.int .i64) 3 w' w.heap.size (fun _ => True) u319002 x319002_1) ∧ Aside0 (w'.heap[gb310]? = some (.cells #[.int .i64 0, .int .i64 0, (.slice none 0 0)] 43 (0, 0))) ∧ Aside0 (w'.heap[gb318]? = some (.cells #[.int .i64 (wrap64 (2 + t320)), .int .i64 (wrap64 (2 + t323)), u319002] 43 (0, 0))) ∧ Aside0 (IsS77 w0 w' g s0_0 x1001_1 x1002_1) ∧ Aside0 (KeepBut w w' g none) ∧ Aside0 (Below w0.heap.size w0 w'))
 case atStart => exact ⟨(0), (t324), (t325), (([] : List Int)), (.slice none 0 0), qz5, H', ⟨Nat.le_refl _⟩, ⟨by first | exact Kd.R_nil _ _ _ _ _ | exact Kd.N_nil _ _ _ _ _ | exact Kd.V_nil _ _ _ _ _ | exact Kd.Q_nil _ _ _ _ _ | exact Kd.S_nil _ _ _ _ _⟩, ⟨by (with_reducible repeat (first | refine blk_drewN ?_ _ | refine blk_drew ?_ | refine blk_alloc ?_ _)); refine blk_far ?_ NB310_318.out _; (with_reducible repeat (first | refine blk_drewN ?_ _ | refine blk_drew ?_ | refine blk_alloc ?_ _)); refine blk_far ?_ NB310_318.out _; (with_reducible repeat (first | refine blk_drewN ?_ _ | refine blk_drew ?_ | refine blk_alloc ?_ _)); refine blk_far ?_ NB310_318.out _; exact bk_ BK310.out⟩, ⟨by (with_reducible repeat (first | refine blk_drewN ?_ _ | refine blk_drew ?_ | refine blk_alloc ?_ _)); refine blk_put (cs := #[.int .i64 (wrap64 (2 + t320)), .int .i64 (wrap64 (2 + t323)), .slice Ao24 t313.length co24]) ?_ 2 _ rfl; (with_reducible repeat (first | refine blk_drewN ?_ _ | refine blk_drew ?_ | refine blk_alloc ?_ _)); refine blk_put (cs := #[.int .i64 (wrap64 (2 + t320)), .int .i64 t312, .slice Ao24 t313.length co24]) ?_ 1 _ rfl; (with_reducible repeat (first | refine blk_drewN ?_ _ | refine blk_drew ?_ | refine blk_alloc ?_ _)); refine blk_put (cs := #[.int .i64 t311, .int .i64 t312, .slice Ao24 t313.length co24]) ?_ 0 _ rfl; exact bk_ BK318.out⟩, ⟨by repeat (first | (with_reducible first | exact HI0.out | apply IsS77.alloc | apply IsS77.drewN | apply IsS77.drew | apply IsS77.set_1 | apply IsS77.set_2 | refine IsS77.far ?_ NB0_310.out _ | refine IsS77.far ?_ NB0_318.out _) | exact HI0.out)⟩, ⟨by repeat (first | (with_reducible first | exact HK.out | apply KeepBut.set_ | apply keep_drewN | apply keep_drew | apply keep_alloc | refine keep_far ?_ GW310.out _ | refine keep_far ?_ GW318.out _) | exact HK.out)⟩, ⟨by repeat (first | (with_reducible first | exact HB.out | apply below_alloc | apply pw_below_drewN | apply below_drew1 | refine below_set ?_ (IsS77.ge HI0.out) | refine below_set ?_ GE310.out | refine below_set ?_ GE318.out) | exact HB.out)⟩⟩
 case round =>
  clear H'
  try clear c1
  try clear c2
  try clear p2
  try clear c4
  try clear c5
  try clear c6
  try clear p6
  try clear c8
  try clear c9
  try clear c14
  try clear c21
  try clear c22
  try clear c28
  try clear hcz10_0
  try clear hcz10_1
  try clear hcz10_2
  try clear hcz13_0
  try clear hcz13_1
  try clear hcz13_2
  try clear hcz15_0
  try clear hcz15_1
  try clear hcz15_2
  try clear hcz23_0
  try clear hcz23_1
  try clear hcz23_2
  try clear hcz28_0
  try clear hcz28_1
  try clear hcz28_2
  try clear hfz10_0
  try clear hfz10_1
  try clear hfz10_2
  try clear hfz13_0
  try clear hfz13_1
  try clear hfz13_2
  try clear hfz15_0
  try clear hfz15_1
  try clear hfz15_2
  try clear hfz23_0
  try clear hfz23_1
  try clear hfz23_2
  try clear hfz28_0
  try clear hfz28_1
  try clear hfz28_2
  obtain ⟨x4_1, x1001_1, x1002_1, x319002_1, u319002, rfl, HA, HK1, HO_319002, BK310, BK318, HI0, HK, HB⟩ := hrel
  cases gk with
  | zero => exact absurd HA.out (by simp [spec_l3Sound.l0])
  | succ k1 =>
   have H := HA.out
   clear HA
   simp only [spec_l3Sound.l0] at H
   by_cases c29 : x4_1 < (wrap64 ((wrap64 (2 + t320)) * (wrap64 (2 + t323))))
   {
   rw [if_pos c29] at H
   have c29b0 := decide_eq_true c29
   clear c29
   obtain ⟨y326, hy326⟩ : ∃ y_ : List Int, y_ = (([1, 1, 1, 2, 3, 4] : List Int)) := ⟨_, rfl⟩
   replace H : ((spec_l1Int.f s0_0 x1001_1 x1002_1 y326).bind fun bt329 => (if x319002_1.length < 17592186044416 then (spec_l3Sound.l0 k1 (wrap64 (x4_1 + 1)) s0_0 bt329.2.1 bt329.2.2 (wrap64 (2 + t320)) (wrap64 (2 + t323)) (x319002_1 ++ [bt329.1])) else (none))) = some (r1, r2, r3, r4, r5) := by first | (rw [hy326]; with_reducible exact H) | (have H2_ := (Option.bind_some _ _).symm.trans H; rw [hy326]; with_reducible exact H2_) | (have H2_ := (Option.bind_some _ _).symm.trans H; with_reducible exact H2_) | with_reducible exact H | (rw [hy326]; exact H) | exact H
   have Ny326 := aM hy326
   clear hy326
   replace H := Option.bind_eq_some_iff.mp H
   obtain ⟨⟨t329, t330, t331⟩, A300, H⟩ := H
   replace H : (if x319002_1.length < 17592186044416 then (spec_l3Sound.l0 k1 (wrap64 (x4_1 + 1)) s0_0 t330 t331 (wrap64 (2 + t320)) (wrap64 (2 + t323)) (x319002_1 ++ [t329])) else (none)) = some (r1, r2, r3, r4, r5) := H
   have A30 := aM A300
   clear A300
   by_cases c31 : x319002_1.length < 17592186044416
   {
   rw [if_pos c31] at H
   have LMc31 := aM c31
   clear c31
   obtain ⟨y332, hy332⟩ : ∃ y_ : List Int, y_ = (x319002_1 ++ [t329]) := ⟨_, rfl⟩
   replace H : (spec_l3Sound.l0 k1 (wrap64 (x4_1 + 1)) s0_0 t330 t331 (wrap64 (2 + t320)) (wrap64 (2 + t323)) y332) = some (r1, r2, r3, r4, r5) := by first | (rw [hy332]; with_reducible exact H) | (have H2_ := (Option.bind_some _ _).symm.trans H; rw [hy332]; with_reducible exact H2_) | (have H2_ := (Option.bind_some _ _).symm.trans H; with_reducible exact H2_) | with_reducible exact H | (rw [hy332]; exact H) | exact H
   have Ny332 := aM hy332
   clear hy332
   have H' := aM H
   clear H
   have hnb32 := NB318_310.out
   have hnc32 := NB310_318.out
   have hnb33 := NB318_0.out
   have hnc33 := NB0_318.out
   obtain ⟨hcz34_0, hcz34_1, hcz34_2, hfz34_0, hfz34_1, hfz34_2⟩ := b6_ BK318.out
   try go_wp2
   have n0_ := aM (Kd.R_drew HO_319002.out)
   have n1_ := aM (blk_drew BK310.out)
   have n2_ := aM (blk_drew BK318.out)
   have n3_ := aM (IsS77.drew HI0.out)
   have n4_ := aM (keep_drew HK.out)
   have n5_ := aM (below_drew1 HB.out)
   clear HO_319002
   clear BK310
   clear BK318
   clear HI0
   clear HK
   clear HB
   have HO_319002 := n0_
   have BK310 := n1_
   have BK318 := n2_
   have HI0 := n3_
   have HK := n4_
   have HB := n5_
   clear n0_ n1_ n2_ n3_ n4_ n5_
   refine start_ (n := 9) (S := fun w' => w'.cell? ⟨gb318, 0, none⟩ = some (.int .i64 (wrap64 (2 + t320))) ∧ w'.cell? ⟨gb318, 1, none⟩ = some (.int .i64 (wrap64 (2 + t323))) ∧ w'.cell? ⟨gb318, 2, none⟩ = some (u319002)) (ds := [8]) #[false, false, false, false, false, false, false, false, false] (by kernel_rfl) rfl rfl ⟨(blk_cell BK318.out 0).trans rfl, (blk_cell BK318.out 1).trans rfl, (blk_cell BK318.out 2).trans rfl⟩ (fun hHeld => ?_); refine with_tabW spec_l3Sound.tab8 spec_l3Sound.bits8 (fun HT_ HW_ => ?_)
   generalize wr.drew = w35 at HO_319002 BK310 BK318 HI0 HK HB hHeld ⊢
   refine pI_ 0 26 (bqz 9 1) ?_
   refine pI_ 2 28 (bqz 9 5) ?_
   refine tI3_ 1 27 (bqz 9 7) ?_
   refine one_ (i := 3) (N := some 29) (bqz 9 15) rfl rfl qzc (by decide) (fun K hK => ?_)
   refine Kd.R_lit_step (Kd.int .i64) _ 3 ?hg (N := 29) ?hd (xs := ([1, 1, 1, 2, 3, 4] : List Int)) (inner := [.int .i64 1, .int .i64 1, .int .i64 1, .int .i64 2, .int .i64 3, .int .i64 4]) (ok := fun _ => True) (okp := fun _ => True) ?hr ?hp (fun _ hk => hk) trivial (Below.refl _ _) (Nat.le_refl _) (by simp) ?_; (case hd => rfl); (case hg => rfl); (case hr => exact qz28); (case hp => exact (Reps.one (show Kd.M (Kd.int .i64) _ _ _ 1 [.int .i64 1] from rfl) (Reps.one (show Kd.M (Kd.int .i64) _ _ _ 1 [.int .i64 1] from rfl) (Reps.one (show Kd.M (Kd.int .i64) _ _ _ 1 [.int .i64 1] from rfl) (Reps.one (show Kd.M (Kd.int .i64) _ _ _ 2 [.int .i64 2] from rfl) (Reps.one (show Kd.M (Kd.int .i64) _ _ _ 3 [.int .i64 3] from rfl) (Reps.one (show Kd.M (Kd.int .i64) _ _ _ 4 [.int .i64 4] from rfl) (Reps.none _ _))))))))
   intro v327 w36 ho37 hb hg_ hnew_
   clear hg_ hnew_
   (first | rw [← Ny326.out] at ho37 | (simp only [Int.reduceToNat] at ho37; rw [← Ny326.out] at ho37))
   have n0_ := aM (Kd.R_elder' (rr_ HO_319002.out) (Kd.R_base ho37) hb)
   have n1_ := aM (Kd.R_lower (Kd.R_new' ho37 (Kd.R_lt (rr_ HO_319002.out))) (keep_size (w := w) (g := g) (row := none) qz12))
   have n2_ := aM (blk_below (bk_ BK310.out) hb)
   have n3_ := aM (blk_below (bk_ BK318.out) hb)
   have n4_ := aM (IsS77.below qz25 hb)
   have n5_ := aM (KeepBut.trans qz12 (KeepBut.of_below hb g none) (.inl rfl))
   have n6_ := aM (below_step qz31 hb)
   clear HO_319002
   clear BK310
   clear BK318
   clear HI0
   clear HK
   clear HB
   have HO_319002 := n0_
   have HO328 := n1_
   have BK310 := n2_
   have BK318 := n3_
   have HI0 := n4_
   have HK := n5_
   have HB := n6_
   clear n0_ n1_ n2_ n3_ n4_ n5_ n6_
   clear hb ho37
   obtain ⟨Ao38, co38, eo38⟩ := Kd.R_slice HO328.out
   (first | subst eo38 | (injection eo38 with f1_ f2_ f3_; have f4_ := f1_.symm; have f5_ := f3_.symm; clear f1_ f2_ f3_; subst f4_; subst f5_))
   refine hK.out _ _ ⟨(blk_cell BK318.out 0).trans rfl, (blk_cell BK318.out 1).trans rfl, (blk_cell BK318.out 2).trans rfl⟩ (fun hHeld => ?_)
   clear hK K
   refine norm_ (a' := ?_) ?_ ?_
   rotate_left
   {
   show Act.put _ (some 29) _ = _
   simp only [qzs]
   rfl
   }
   refine one_ (i := 4) (N := some 30) (bqz 9 31) rfl rfl qzc (by decide) (fun K hK => ?_)
   refine goes_ Try.func48 (by kernel_rfl) rfl #[.pointer (some ⟨g, 0, none⟩), .slice Ao38 y326.length co38] (by rfl) rfl rfl qz3 ?_
   with_reducible refine (spec_l1Int.calls g s0_0 x1001_1 x1002_1 _ _ y326 t329 t330 t331 w0 _ ?side1 ?side2 ?side3 ?side4 ?side5 A30.out).mono ?_
   (case side1 => exact qz25)
   (case side2 => exact qz31)
   (case side3 => repeat (first | exact (Kd.R_reads' HO328.out).2.2 | (with_reducible refine Kd.C_alloc ?_ _) | (with_reducible refine Kd.C_drewN ?_ _) | (with_reducible refine Kd.C_drew ?_)))
   (case side4 => exact (Kd.R_reads' HO328.out).2.1)
   (case side5 => exact far_slice (IsS77.own_ne HI0.out HO328.out (by decide)))
   rintro e w39 ⟨rfl, hi, hb, hk⟩
   refine ⟨_, rfl, ?_⟩
   have n0_ := aM (Kd.R_mono (Kd.R_keep (IsS77.apart (show IsS77 w0 _ g s0_0 x1001_1 x1002_1 from by repeat (first | (with_reducible first | exact HI0.out | apply IsS77.alloc | apply IsS77.drewN | apply IsS77.drew | apply IsS77.set_1 | apply IsS77.set_2 | refine IsS77.far ?_ NB0_310.out _ | refine IsS77.far ?_ NB0_318.out _) | exact HI0.out)) (rr_ HO_319002.out) (by decide)) hk (fun _ h => h.2)) (fun _ h => h.1))
   have n1_ := aM (KeepBut.blk hk (bk_ BK310.out) NB310_0.out (by simp))
   have n2_ := aM (KeepBut.blk hk (bk_ BK318.out) NB318_0.out (by simp))
   have n3_ := aM (Kd.R_mono (Kd.R_keep (IsS77.apart (show IsS77 w0 _ g s0_0 x1001_1 x1002_1 from by repeat (first | (with_reducible first | exact HI0.out | apply IsS77.alloc | apply IsS77.drewN | apply IsS77.drew | apply IsS77.set_1 | apply IsS77.set_2 | refine IsS77.far ?_ NB0_310.out _ | refine IsS77.far ?_ NB0_318.out _) | exact HI0.out)) (rr_ HO328.out) (by decide)) hk (fun _ h => h.2)) (fun _ h => h.1))
   have n4_ := aM (KeepBut.trans qz12 hk (.inl rfl))
   have n5_ := aM (hb)
   have n6_ := aM (hi)
   clear HO_319002
   clear BK310
   clear BK318
   clear HO328
   clear HK
   clear HB
   clear HI0
   have HO_319002 := n0_
   have BK310 := n1_
   have BK318 := n2_
   have HO328 := n3_
   have HK := n4_
   have HB := n5_
   have HI0 := n6_
   clear n0_ n1_ n2_ n3_ n4_ n5_ n6_
   (try clear hb)
   (try clear hb2)
   (try clear hk)
   (try clear hi)
   refine hK.out _ _ ⟨(blk_cell BK318.out 0).trans rfl, (blk_cell BK318.out 1).trans rfl, (blk_cell BK318.out 2).trans rfl⟩ (fun hHeld => ?_)
   clear hK K
   refine norm_ (a' := ?_) ?_ ?_
   rotate_left
   {
   show Act.put _ (some 30) _ = _
   simp only [qzs]
   rfl
   }
   refine one_ (i := 5) (N := some 31) (bqz 9 63) rfl rfl qzc (by decide) (fun K hK => ?_)
   refine value_ (w1 := ?_) (v := ?_) (by rfl) rfl ?_ ?_
   rotate_left 2
   {
   go_simp
   constructor
   {
   rfl
   }
   {
   rfl
   }
   }
   refine hK.out _ _ ⟨(blk_cell (blk_alloc BK318.out _) 0).trans rfl, (blk_cell (blk_alloc BK318.out _) 1).trans rfl, (blk_cell (blk_alloc BK318.out _) 2).trans rfl⟩ (fun hHeld => ?_)
   clear hK K
   refine norm_ (a' := ?_) ?_ ?_
   rotate_left
   {
   show Act.put _ (some 31) _ = _
   simp only [qzs]
   rfl
   }
   refine one_ (i := 6) (N := some 32) (bqz 9 127) rfl rfl qzc (by decide) (fun K hK => ?_)
   refine Kd.R_append_step (Kd.int .i64) w.heap.size (by rfl) (.tmp 27) (.tmp 31) 24 3 (.int .i64 0) 8 rfl Try.underlying24 info3 rfl (by decide) (by omega) u319002 x319002_1 t329 [.int .i64 t329] (fun k_ => some k_ ≠ (.slice Ao38 y326.length co38 : Value).ownBlock) (fun _ => False) rfl rfl ?aP (fun _ hk => hk.elim) ?aF ?aO (Below.refl _ _) ?aS ?aL ?_
   (case aP => exact rfl)
   (case aF => exact (fun k_ hk => Kd.fresh' (Kd.R_lt (rr_ HO328.out)) k_ hk))
   (case aO => exact (by (with_reducible repeat (first | apply Kd.R_alloc | apply Kd.R_drewN | apply Kd.R_drew)); exact Kd.R_mono HO_319002.out (fun _ hk => hk.2)))
   (case aS => exact (keep_size (w := w) (g := g) (row := none) qz12))
   (case aL => have := LMc31.out; omega)
   intro v333 w40 ho hb hg hat
   rw [← Ny332.out] at ho
   have n0_ := aM (blk_grown (bk_ BK310.out) hg (Kd.R_ne HO_319002.out BK310.out (by decide)))
   have n1_ := aM (blk_grown (bk_ BK318.out) hg (Kd.R_ne HO_319002.out BK318.out (by decide)))
   have n2_ := aM (IsS77.grown qz25 hg (IsS77.own_ne HI0.out HO_319002.out (by decide)))
   have n3_ := aM (Kd.R_after (ok := (fun _ => True)) (rr_ HO328.out) hg hat)
   have n4_ := aM (below_weaken qz31 HL.out hb)
   have n5_ := aM (KeepBut.trans qz12 (KeepBut.of_grown hg g) (Kd.R_base2 HO_319002.out))
   have n6_ := aM (ho)
   clear BK310
   clear BK318
   clear HI0
   clear HO328
   clear HB
   clear HK
   clear HO_319002
   have BK310 := n0_
   have BK318 := n1_
   have HI0 := n2_
   have HO328 := n3_
   have HB := n4_
   have HK := n5_
   have HO334 := n6_
   clear n0_ n1_ n2_ n3_ n4_ n5_ n6_
   clear ho hb hg hat
   obtain ⟨Ao41, co41, eo41⟩ := Kd.R_slice HO334.out
   (first | subst eo41 | (injection eo41 with f1_ f2_ f3_; have f4_ := f1_.symm; have f5_ := f3_.symm; clear f1_ f2_ f3_; subst f4_; subst f5_))
   refine hK.out _ _ ⟨(blk_cell BK318.out 0).trans rfl, (blk_cell BK318.out 1).trans rfl, (blk_cell BK318.out 2).trans rfl⟩ (fun hHeld => ?_)
   clear hK K
   refine norm_ (a' := ?_) ?_ ?_
   rotate_left
   {
   show Act.put _ (some 32) _ = _
   simp only [qzs]
   rfl
   }
   refine pI_ 7 33 (bqz 9 255) ?_
   refine last_ (i := 8) (N := none) (bqz 9 511) rfl rfl qzc (by decide) (fun K hK => ?_)
   have hs42 : w40.cell? ⟨gb318, 2, none⟩ = some (u319002) := (blk_cell BK318.out 2).trans rfl
   have hfs42 := blk_frozen BK318.out 2
   have hns42_0 := NB310_318.out
   have hms42_0 := NB318_310.out
   refine skip_ (w1 := ?_) (by rfl) rfl ?_ ?_
   rotate_left
   {
   go_simp
   rfl
   }
   refine hK.out _ _ ?_
   clear hK K
   refine done_ (done_of HT_.out (by kernel_rfl)) ?_
   try go_wp2
   go_roundg k1
   case measure => have := HK1.out; omega
   case rel => exact ⟨(wrap64 (x4_1 + 1)), (t330), (t331), (y332), (.slice Ao41 y332.length co41), qz5, H', ⟨by have := HK1.out; omega⟩, ⟨by (with_reducible repeat (first | apply Kd.R_alloc | apply Kd.R_drewN | apply Kd.R_drew)); exact Kd.R_mono (Kd.R_far (p := ⟨gb318, 2, none⟩) (Kd.R_types HO334.out BK318.out (by decide)) (fun _ hk => hk.2) (.slice Ao41 y332.length co41)) (fun _ hk => trivial)⟩, ⟨by (with_reducible repeat (first | refine blk_drewN ?_ _ | refine blk_drew ?_ | refine blk_alloc ?_ _)); refine blk_far ?_ NB310_318.out _; exact bk_ BK310.out⟩, ⟨by (with_reducible repeat (first | refine blk_drewN ?_ _ | refine blk_drew ?_ | refine blk_alloc ?_ _)); refine blk_put (cs := #[.int .i64 (wrap64 (2 + t320)), .int .i64 (wrap64 (2 + t323)), u319002]) ?_ 2 _ rfl; exact bk_ BK318.out⟩, ⟨by repeat (first | (with_reducible first | exact HI0.out | apply IsS77.alloc | apply IsS77.drewN | apply IsS77.drew | apply IsS77.set_1 | apply IsS77.set_2 | refine IsS77.far ?_ NB0_310.out _ | refine IsS77.far ?_ NB0_318.out _) | exact HI0.out)⟩, ⟨by repeat (first | (with_reducible first | exact HK.out | apply KeepBut.set_ | apply keep_drewN | apply keep_drew | apply keep_alloc | refine keep_far ?_ GW310.out _ | refine keep_far ?_ GW318.out _) | exact HK.out)⟩, ⟨by repeat (first | (with_reducible first | exact HB.out | apply below_alloc | apply pw_below_drewN | apply below_drew1 | refine below_set ?_ (IsS77.ge HI0.out) | refine below_set ?_ GE310.out | refine below_set ?_ GE318.out) | exact HB.out)⟩⟩
   }
   {
   rw [if_neg c31] at H
   exact absurd H (by simp)
   }
   }
   {
   rw [if_neg c29] at H
   have c29b0 := decide_eq_false c29
   clear c29
   have HC43 := aM H
   clear H
   have hnb44 := NB318_310.out
   have hnc44 := NB310_318.out
   have hnb45 := NB318_0.out
   have hnc45 := NB0_318.out
   obtain ⟨hcz46_0, hcz46_1, hcz46_2, hfz46_0, hfz46_1, hfz46_2⟩ := b6_ BK318.out
   go_upto_region 9 with (fail)
   go_cut [45] (fun v45 wc => ∃ (kq : Nat) (x45_42 : Bool) (x1001_42 : Int) (x1002_42 : Int), v45 = .bool x45_42 ∧ Aside0 (spec_l3Sound.j1 kq x45_42 s0_0 x1001_42 x1002_42 (wrap64 (2 + t320)) (wrap64 (2 + t323)) x319002_1 = some (r1, r2, r3, r4, r5)) ∧ Aside0 (kq ≤ k1) ∧ Aside0 (Kd.R (Kd.int .i64) 3 wc w.heap.size (fun _ => True) u319002 x319002_1) ∧ Aside0 (wc.heap[gb310]? = some (.cells #[.int .i64 0, .int .i64 0, (.slice none 0 0)] 43 (0, 0))) ∧ Aside0 (wc.heap[gb318]? = some (.cells #[.int .i64 (wrap64 (2 + t320)), .int .i64 (wrap64 (2 + t323)), u319002] 43 (0, 0))) ∧ Aside0 (IsS77 w0 wc g s0_0 x1001_42 x1002_42) ∧ Aside0 (KeepBut w wc g none) ∧ Aside0 (Below w0.heap.size w0 wc))
   case first =>
    have H := HC43.out
    clear HC43
    by_cases c47 : (wrap64 (2 + t320)) > 2
    {
    rw [if_pos c47] at H
    have c47b0 := decide_eq_true c47
    clear c47
    (first | rw [c47b0] | (simp only [i64_w, i32_w]; rw [c47b0]) | rw [@decide_eq_true _ _ (of_decide_eq_true c47b0)] | rw [@decide_eq_true _ _ (of_decide_eq_true c47b1)] | skip)
    by_cases c48 : (wrap64 (2 + t323)) > 2
    {
    rw [if_pos c48] at H
    have c48b0 := decide_eq_true c48
    clear c48
    replace H := Option.bind_eq_some_iff.mp H
    obtain ⟨⟨t335, t336, t337⟩, A490, H⟩ := H
    replace H : (spec_l3Sound.j1 k1 t335 s0_0 t336 t337 (wrap64 (2 + t320)) (wrap64 (2 + t323)) x319002_1) = some (r1, r2, r3, r4, r5) := H
    have A49 := aM A490
    clear A490
    have H' := aM H
    clear H
    have hnb50 := NB318_310.out
    have hnc50 := NB310_318.out
    have hnb51 := NB318_0.out
    have hnc51 := NB0_318.out
    obtain ⟨hcz52_0, hcz52_1, hcz52_2, hfz52_0, hfz52_1, hfz52_2⟩ := b6_ BK318.out
    go_wp2_with (first | (go_at_call 47; (with_reducible refine (spec_l1Once.calls g s0_0 x1001_1 x1002_1 2 t335 t336 t337 w0 _ ?side1 ?side2 A49.out).mono ?_); (case side1 => exact qz25); (case side2 => exact qz31); rintro e w53 ⟨rfl, hi, hb, hk⟩; have n0_ := aM (Kd.R_mono (Kd.R_keep (IsS77.apart (show IsS77 w0 _ g s0_0 x1001_1 x1002_1 from by repeat (first | (with_reducible first | exact HI0.out | apply IsS77.alloc | apply IsS77.drewN | apply IsS77.drew | apply IsS77.set_1 | apply IsS77.set_2 | refine IsS77.far ?_ NB0_310.out _ | refine IsS77.far ?_ NB0_318.out _) | exact HI0.out)) (rr_ HO_319002.out) (by decide)) hk (fun _ h => h.2)) (fun _ h => h.1)); have n1_ := aM (KeepBut.blk hk (bk_ BK310.out) NB310_0.out (by simp)); have n2_ := aM (KeepBut.blk hk (bk_ BK318.out) NB318_0.out (by simp)); have n3_ := aM (KeepBut.trans qz12 hk (.inl rfl)); have n4_ := aM (hb); have n5_ := aM (hi); clear HO_319002 BK310 BK318 HK HB HI0; have HO_319002 := n0_; have BK310 := n1_; have BK318 := n2_; have HK := n3_; have HB := n4_; have HI0 := n5_; clear n0_ n1_ n2_ n3_ n4_ n5_; (try clear hb); (try clear hb2); (try clear hk); (try clear hi)))
    go_meet
    case rel => exact ⟨_, (t335), (t336), (t337), qz5, H', ⟨by have := HK1.out; first | omega | exact Nat.le_refl _⟩, ⟨rm_ HO_319002.out⟩, ⟨bk_ BK310.out⟩, ⟨bk_ BK318.out⟩, ⟨by repeat (first | (with_reducible first | exact HI0.out | apply IsS77.alloc | apply IsS77.drewN | apply IsS77.drew | apply IsS77.set_1 | apply IsS77.set_2 | refine IsS77.far ?_ NB0_310.out _ | refine IsS77.far ?_ NB0_318.out _) | exact HI0.out)⟩, ⟨by repeat (first | (with_reducible first | exact HK.out | apply KeepBut.set_ | apply keep_drewN | apply keep_drew | apply keep_alloc | refine keep_far ?_ GW310.out _ | refine keep_far ?_ GW318.out _) | exact HK.out)⟩, ⟨by repeat (first | (with_reducible first | exact HB.out | apply below_alloc | apply pw_below_drewN | apply below_drew1 | refine below_set ?_ (IsS77.ge HI0.out) | refine below_set ?_ GE310.out | refine below_set ?_ GE318.out) | exact HB.out)⟩⟩
    }
    {
    rw [if_neg c48] at H
    have c48b0 := decide_eq_false c48
    clear c48
    have H' := aM H
    clear H
    have hnb54 := NB318_310.out
    have hnc54 := NB310_318.out
    have hnb55 := NB318_0.out
    have hnc55 := NB0_318.out
    obtain ⟨hcz56_0, hcz56_1, hcz56_2, hfz56_0, hfz56_1, hfz56_2⟩ := b6_ BK318.out
    go_wp2
    go_meet
    case rel => exact ⟨_, (false), (x1001_1), (x1002_1), qz5, H', ⟨by have := HK1.out; first | omega | exact Nat.le_refl _⟩, ⟨rm_ HO_319002.out⟩, ⟨bk_ BK310.out⟩, ⟨bk_ BK318.out⟩, ⟨by repeat (first | (with_reducible first | exact HI0.out | apply IsS77.alloc | apply IsS77.drewN | apply IsS77.drew | apply IsS77.set_1 | apply IsS77.set_2 | refine IsS77.far ?_ NB0_310.out _ | refine IsS77.far ?_ NB0_318.out _) | exact HI0.out)⟩, ⟨by repeat (first | (with_reducible first | exact HK.out | apply KeepBut.set_ | apply keep_drewN | apply keep_drew | apply keep_alloc | refine keep_far ?_ GW310.out _ | refine keep_far ?_ GW318.out _) | exact HK.out)⟩, ⟨by repeat (first | (with_reducible first | exact HB.out | apply below_alloc | apply pw_below_drewN | apply below_drew1 | refine below_set ?_ (IsS77.ge HI0.out) | refine below_set ?_ GE310.out | refine below_set ?_ GE318.out) | exact HB.out)⟩⟩
    }
    }
    {
    rw [if_neg c47] at H
    have c47b0 := decide_eq_false c47
    clear c47
    (first | rw [c47b0] | (simp only [i64_w, i32_w]; rw [c47b0]) | rw [@decide_eq_false _ _ (of_decide_eq_false c47b0)] | rw [@decide_eq_false _ _ (of_decide_eq_false c47b1)] | skip)
    have H' := aM H
    clear H
    have hnb57 := NB318_310.out
    have hnc57 := NB310_318.out
    have hnb58 := NB318_0.out
    have hnc58 := NB0_318.out
    obtain ⟨hcz59_0, hcz59_1, hcz59_2, hfz59_0, hfz59_1, hfz59_2⟩ := b6_ BK318.out
    go_wp2
    go_meet
    case rel => exact ⟨_, (false), (x1001_1), (x1002_1), qz5, H', ⟨by have := HK1.out; first | omega | exact Nat.le_refl _⟩, ⟨rm_ HO_319002.out⟩, ⟨bk_ BK310.out⟩, ⟨bk_ BK318.out⟩, ⟨by repeat (first | (with_reducible first | exact HI0.out | apply IsS77.alloc | apply IsS77.drewN | apply IsS77.drew | apply IsS77.set_1 | apply IsS77.set_2 | refine IsS77.far ?_ NB0_310.out _ | refine IsS77.far ?_ NB0_318.out _) | exact HI0.out)⟩, ⟨by repeat (first | (with_reducible first | exact HK.out | apply KeepBut.set_ | apply keep_drewN | apply keep_drew | apply keep_alloc | refine keep_far ?_ GW310.out _ | refine keep_far ?_ GW318.out _) | exact HK.out)⟩, ⟨by repeat (first | (with_reducible first | exact HB.out | apply below_alloc | apply pw_below_drewN | apply below_drew1 | refine below_set ?_ (IsS77.ge HI0.out) | refine below_set ?_ GE310.out | refine below_set ?_ GE318.out) | exact HB.out)⟩⟩
    }
   case rest =>
    clear HC43
    try clear c1
    try clear c2
    try clear p2
    try clear c3
    try clear c4
    try clear c5
    try clear c6
    try clear p6
    try clear c8
    try clear c9
    try clear c14
    try clear c21
    try clear c22
    try clear c28
    try clear c29
    try clear c29b0
    try clear c31
    try clear c32
    try clear c33
    try clear c44
    try clear c45
    try clear c47
    try clear c47b0
    try clear c47b1
    try clear c48
    try clear c48b0
    try clear c50
    try clear c51
    try clear c54
    try clear c55
    try clear c57
    try clear c58
    try clear hcz10_0
    try clear hcz10_1
    try clear hcz10_2
    try clear hcz13_0
    try clear hcz13_1
    try clear hcz13_2
    try clear hcz15_0
    try clear hcz15_1
    try clear hcz15_2
    try clear hcz23_0
    try clear hcz23_1
    try clear hcz23_2
    try clear hcz28_0
    try clear hcz28_1
    try clear hcz28_2
    try clear hcz34_0
    try clear hcz34_1
    try clear hcz34_2
    try clear hcz46_0
    try clear hcz46_1
    try clear hcz46_2
    try clear hcz52_0
    try clear hcz52_1
    try clear hcz52_2
    try clear hcz56_0
    try clear hcz56_1
    try clear hcz56_2
    try clear hcz59_0
    try clear hcz59_1
    try clear hcz59_2
    try clear hfz10_0
    try clear hfz10_1
    try clear hfz10_2
    try clear hfz13_0
    try clear hfz13_1
    try clear hfz13_2
    try clear hfz15_0
    try clear hfz15_1
    try clear hfz15_2
    try clear hfz23_0
    try clear hfz23_1
    try clear hfz23_2
    try clear hfz28_0
    try clear hfz28_1
    try clear hfz28_2
    try clear hfz34_0
    try clear hfz34_1
    try clear hfz34_2
    try clear hfz46_0
    try clear hfz46_1
    try clear hfz46_2
    try clear hfz52_0
    try clear hfz52_1
    try clear hfz52_2
    try clear hfz56_0
    try clear hfz56_1
    try clear hfz56_2
    try clear hfz59_0
    try clear hfz59_1
    try clear hfz59_2
    try clear p2
    try clear p6
    obtain ⟨kq, x45_42, x1001_42, x1002_42, rfl, HA, HJ42, HO_319002, BK310, BK318, HI0, HK, HB⟩ := hcut
    cases kq with
    | zero => exact absurd HA.out (by simp [spec_l3Sound.j1])
    | succ kj42 =>
     have H := HA.out
     clear HA
     simp only [spec_l3Sound.j1] at H
     by_cases c60 : x45_42 = true
     {
     subst c60
     rw [if_pos rfl] at H
     obtain ⟨ji61, hji61⟩ : ∃ j_ : Int, (wrap64 ((wrap64 (2 + t320)) + 1)) = j_ := ⟨_, rfl⟩
     replace H : (if 0 ≤ (ji61) then (if (ji61) < (x319002_1.length : Int) then ((some (x319002_1.set ((ji61) : Int).toNat 0 : List Int)).bind fun y338 => ((spec_Sound.f kj42 (wrap64 (2 + t320)) (wrap64 (2 + t323)) y338).bind fun t339 => (if t339 = true then (some ((wrap64 (2 + t320)), (wrap64 (2 + t323)), y338, x1001_42, x1002_42)) else (some ((wrap64 (2 + t320)), (wrap64 (2 + t323)), (y338.set ((ji61) : Int).toNat 1), x1001_42, x1002_42))))) else (none)) else (none)) = some (r1, r2, r3, r4, r5) := by first | (rw [hji61] at H; exact H) | (simp only [hji61] at H ⊢; exact H)
     have hji61w : (IntKind.i64.wrap ((wrap64 (2 + t320)) + 1)) = ji61 := (i64_w _).trans hji61
     by_cases c62 : 0 ≤ (ji61)
     {
     rw [if_pos c62] at H
     have c62b0 := decide_eq_true c62
     clear c62
     by_cases c63 : (ji61) < (x319002_1.length : Int)
     {
     rw [if_pos c63] at H
     have c63b0 := decide_eq_true c63
     clear c63
     obtain ⟨y338, hy338⟩ : ∃ y_ : List Int, y_ = (x319002_1.set ((ji61) : Int).toNat 0) := ⟨_, rfl⟩
     replace H : ((spec_Sound.f kj42 (wrap64 (2 + t320)) (wrap64 (2 + t323)) y338).bind fun t339 => (if t339 = true then (some ((wrap64 (2 + t320)), (wrap64 (2 + t323)), y338, x1001_42, x1002_42)) else (some ((wrap64 (2 + t320)), (wrap64 (2 + t323)), (y338.set ((ji61) : Int).toNat 1), x1001_42, x1002_42)))) = some (r1, r2, r3, r4, r5) := by first | (rw [hy338]; with_reducible exact H) | (have H2_ := (Option.bind_some _ _).symm.trans H; rw [hy338]; with_reducible exact H2_) | (have H2_ := (Option.bind_some _ _).symm.trans H; with_reducible exact H2_) | with_reducible exact H | (rw [hy338]; exact H) | exact H
     have Ny338 := aM hy338
     clear hy338
     replace H := Option.bind_eq_some_iff.mp H
     obtain ⟨t339, A650, H⟩ := H
     replace H : (if t339 = true then (some ((wrap64 (2 + t320)), (wrap64 (2 + t323)), y338, x1001_42, x1002_42)) else (some ((wrap64 (2 + t320)), (wrap64 (2 + t323)), (y338.set ((ji61) : Int).toNat 1), x1001_42, x1002_42))) = some (r1, r2, r3, r4, r5) := H
     have A65 := aM A650
     clear A650
     by_cases c66 : t339 = true
     {
     subst c66
     rw [if_pos rfl] at H
     simp only [Option.some.injEq, Prod.mk.injEq] at H
     obtain ⟨rfl, rfl, rfl, rfl, rfl⟩ := H
     have hnb67 := NB318_310.out
     have hnc67 := NB310_318.out
     have hnb68 := NB318_0.out
     have hnc68 := NB0_318.out
     obtain ⟨hcz69_0, hcz69_1, hcz69_2, hfz69_0, hfz69_1, hfz69_2⟩ := b6_ BK318.out
     have p64 : 0 ≤ ((ji61) : Int) := of_decide_eq_true qz2
     have q64 : ((ji61) : Int) < ((x319002_1.length : Int) : Int) := of_decide_eq_true qz2
     obtain ⟨go64, co64, eo64, gb64, gl64, cl64, HG64⟩ := Kd.R_form HO_319002.out (by omega)
     (first | cases eo64 | (injection eo64 with ea_ en_ ec_; (first | subst ea_ | (injection ea_ with ea_; subst ea_)); subst ec_; clear en_))
     have GB64 := aM gb64
     have GG64 := aM HG64
     clear gb64 gl64 HG64
     obtain ⟨hx64_0, hf64_0⟩ := Kd.R_celln 0 HO_319002.out ((ji61) : Int) p64 q64
     replace p64 := eq_true p64
     replace q64 := eq_true q64
     obtain ⟨hy70_, hz70_⟩ := Kd.R_celln 0 HO_319002.out ((ji61) : Int) (of_decide_eq_true qz2) (of_decide_eq_true qz2)
     have HP70 := Kd.R_putg HO_319002.out ((ji61) : Int) 0
     go_wp2_with (first | ((with_reducible refine gate_store (t := 3) (p := 51) rfl ?_); refine store_event (t := 3) (p := 51) (v := ?vo_w71) (w1 := (wc.setCell ⟨go64, ((ji61) : Int).toNat, none⟩ (.int .i64 0))) ?hg ?ho ?hn ?hr ?_; (case ho => rfl); (case hg => rfl); (case hn => rfl); (case hr => exact qz28); intro w71 hw; have hg : wc.grownBy w71 (some go64) := (by rw [hw]; exact HP70.2); have hp_ : Kd.R (Kd.int .i64) 3 w71 w.heap.size (fun _ => True) (.slice (some ⟨go64, 0, none⟩) x319002_1.length co64) y338 := (by rw [hw, Ny338.out]; exact HP70.1); clear HP70; have n0_ := aM (hp_); have n1_ := aM (blk_grown (bk_ BK310.out) hg (Kd.R_ne HO_319002.out BK310.out (by decide))); have n2_ := aM (blk_grown (bk_ BK318.out) hg (Kd.R_ne HO_319002.out BK318.out (by decide))); have n3_ := aM (IsS77.grown qz25 hg (IsS77.own_ne HI0.out HO_319002.out (by decide))); have n4_ := aM ((by rw [hw]; exact below_set (HB.out) (Nat.le_trans HL.out GB64.out) : Below w0.heap.size w0 w71)); have n5_ := aM (KeepBut.trans qz12 (KeepBut.of_grown hg g) (Kd.R_base2 HO_319002.out)); clear HO_319002 BK310 BK318 HI0 HB HK; have HO_319002 := n0_; have BK310 := n1_; have BK318 := n2_; have HI0 := n3_; have HB := n4_; have HK := n5_; clear n0_ n1_ n2_ n3_ n4_ n5_; clear hg hw hp_; obtain ⟨hcz72_0, hcz72_1, hcz72_2, hfz72_0, hfz72_1, hfz72_2⟩ := b6_ BK318.out) | ((with_reducible refine gate_callee (f := 28) rfl ?_); refine goesL_ (some 53) rfl rfl Try.func28 (by kernel_rfl) rfl #[.agg #[.int .i64 (wrap64 (2 + t320)), .int .i64 (wrap64 (2 + t323)), .slice (some ⟨go64, 0, none⟩) y338.length co64]] rfl qz74 ?_; (with_reducible refine (spec_Sound.calls kj42 (wrap64 (2 + t320)) (wrap64 (2 + t323)) _ _ y338 true _ ?side1 ?side2 A65.out).mono ?_); (case side1 => repeat (first | exact (Kd.R_reads' HO_319002.out).2.2 | (with_reducible refine Kd.C_alloc ?_ _) | (with_reducible refine Kd.C_drewN ?_ _) | (with_reducible refine Kd.C_drew ?_))); (case side2 => rw [show y338.length = x319002_1.length from (Kd.R_reads' HO_319002.out).1.symm]; exact (Kd.R_reads' HO_319002.out).2.1); rintro e w73 ⟨rfl, hb⟩; refine ⟨_, rfl, ?_⟩; have n0_ := aM (Kd.R_below (rr_ HO_319002.out) hb); have n1_ := aM (blk_below (bk_ BK310.out) hb); have n2_ := aM (blk_below (bk_ BK318.out) hb); have n3_ := aM (IsS77.below qz25 hb); have n4_ := aM (KeepBut.trans qz12 (KeepBut.of_below hb g none) (.inl rfl)); have n5_ := aM (below_step qz31 hb); clear HO_319002 BK310 BK318 HI0 HK HB; have HO_319002 := n0_; have BK310 := n1_; have BK318 := n2_; have HI0 := n3_; have HK := n4_; have HB := n5_; clear n0_ n1_ n2_ n3_ n4_ n5_; (try clear hb); (try clear hb2); (try clear hk); (try clear hi); obtain ⟨hcz74_0, hcz74_1, hcz74_2, hfz74_0, hfz74_1, hfz74_2⟩ := b6_ BK318.out; have hnb75 := NB310_0.out; have hnc75 := NB0_310.out; obtain ⟨hcz76_0, hcz76_1, hcz76_2, hfz76_0, hfz76_1, hfz76_2⟩ := b6_ BK310.out))
     refine bodyPost_ret (results_cell_row rfl _ _ gb310 43 #[.int .i64 (wrap64 (2 + t320)), .int .i64 (wrap64 (2 + t323)), .slice (some ⟨go64, 0, none⟩) x319002_1.length co64] (0, 0) _ rfl (by (with_reducible repeat (first | refine blk_drewN ?_ _ | refine blk_drew ?_ | refine blk_alloc ?_ _)); refine blk_put (cs := #[.int .i64 (wrap64 (2 + t320)), .int .i64 (wrap64 (2 + t323)), .slice none 0 0]) ?_ 2 _ rfl; (with_reducible repeat (first | refine blk_drewN ?_ _ | refine blk_drew ?_ | refine blk_alloc ?_ _)); refine blk_put (cs := #[.int .i64 (wrap64 (2 + t320)), .int .i64 0, .slice none 0 0]) ?_ 1 _ rfl; (with_reducible repeat (first | refine blk_drewN ?_ _ | refine blk_drew ?_ | refine blk_alloc ?_ _)); refine blk_put (cs := #[.int .i64 0, .int .i64 0, .slice none 0 0]) ?_ 0 _ rfl; exact bk_ BK310.out) Try.underlying43 rfl (by kernel_rfl)) rfl ?_
     exact ⟨_, by first | rfl | (simp [errW_none, errW_some] <;> rfl) | (simp only [← hji61]; first | rfl | (simp [errW_none, errW_some] <;> rfl)) | (simp [*, errW_none, errW_some] <;> rfl), by (with_reducible repeat (first | apply Kd.R_alloc | apply Kd.R_drewN | apply Kd.R_drew)); exact Kd.R_mono (Kd.R_far (p := ⟨gb310, 2, none⟩) (Kd.R_far (p := ⟨gb310, 1, none⟩) (Kd.R_far (p := ⟨gb310, 0, none⟩) (Kd.R_types HO_319002.out BK310.out (by decide)) (fun _ hk => hk.2) (.int .i64 (wrap64 (2 + t320)))) (fun _ hk => hk.2) (.int .i64 (wrap64 (2 + t323)))) (fun _ hk => hk.2) (.slice (some ⟨go64, 0, none⟩) x319002_1.length co64)) (fun _ hk => trivial), by repeat (first | (with_reducible first | exact HI0.out | apply IsS77.alloc | apply IsS77.drewN | apply IsS77.drew | apply IsS77.set_1 | apply IsS77.set_2 | refine IsS77.far ?_ NB0_310.out _ | refine IsS77.far ?_ NB0_318.out _) | exact HI0.out), by repeat (first | (with_reducible first | exact HB.out | apply below_alloc | apply pw_below_drewN | apply below_drew1 | refine below_set ?_ (IsS77.ge HI0.out) | refine below_set ?_ GE310.out | refine below_set ?_ GE318.out) | exact HB.out), by repeat (first | (with_reducible first | exact HK.out | apply KeepBut.set_ | apply keep_drewN | apply keep_drew | apply keep_alloc | refine keep_far ?_ GW310.out _ | refine keep_far ?_ GW318.out _) | exact HK.out)⟩
     }
     {
     replace c66 := Bool.eq_false_iff.mpr c66
     subst c66
     rw [if_neg (show ¬ (false = true) by decide)] at H
     obtain ⟨y340, hy340⟩ : ∃ y_ : List Int, y_ = (y338.set ((ji61) : Int).toNat 1) := ⟨_, rfl⟩
     replace H : (some ((wrap64 (2 + t320)), (wrap64 (2 + t323)), y340, x1001_42, x1002_42)) = some (r1, r2, r3, r4, r5) := by first | (rw [hy340]; with_reducible exact H) | (have H2_ := (Option.bind_some _ _).symm.trans H; rw [hy340]; with_reducible exact H2_) | (have H2_ := (Option.bind_some _ _).symm.trans H; with_reducible exact H2_) | with_reducible exact H | (rw [hy340]; exact H) | exact H
     have Ny340 := aM hy340
     clear hy340
     simp only [Option.some.injEq, Prod.mk.injEq] at H
     obtain ⟨rfl, rfl, rfl, rfl, rfl⟩ := H
     have hnb78 := NB318_310.out
     have hnc78 := NB310_318.out
     have hnb79 := NB318_0.out
     have hnc79 := NB0_318.out
     obtain ⟨hcz80_0, hcz80_1, hcz80_2, hfz80_0, hfz80_1, hfz80_2⟩ := b6_ BK318.out
     have p64 : 0 ≤ ((ji61) : Int) := of_decide_eq_true qz2
     have q64 : ((ji61) : Int) < ((x319002_1.length : Int) : Int) := of_decide_eq_true qz2
     obtain ⟨go64, co64, eo64, gb64, gl64, cl64, HG64⟩ := Kd.R_form HO_319002.out (by omega)
     (first | cases eo64 | (injection eo64 with ea_ en_ ec_; (first | subst ea_ | (injection ea_ with ea_; subst ea_)); subst ec_; clear en_))
     have GB64 := aM gb64
     have GG64 := aM HG64
     clear gb64 gl64 HG64
     obtain ⟨hx64_0, hf64_0⟩ := Kd.R_celln 0 HO_319002.out ((ji61) : Int) p64 q64
     replace p64 := eq_true p64
     replace q64 := eq_true q64
     obtain ⟨hy81_, hz81_⟩ := Kd.R_celln 0 HO_319002.out ((ji61) : Int) (of_decide_eq_true qz2) (of_decide_eq_true qz2)
     have HP81 := Kd.R_putg HO_319002.out ((ji61) : Int) 0
     go_wp2_with (first | ((with_reducible refine gate_store (t := 3) (p := 51) rfl ?_); refine store_event (t := 3) (p := 51) (v := ?vo_w82) (w1 := (wc.setCell ⟨go64, ((ji61) : Int).toNat, none⟩ (.int .i64 0))) ?hg ?ho ?hn ?hr ?_; (case ho => rfl); (case hg => rfl); (case hn => rfl); (case hr => exact qz28); intro w82 hw; have hg : wc.grownBy w82 (some go64) := (by rw [hw]; exact HP81.2); have hp_ : Kd.R (Kd.int .i64) 3 w82 w.heap.size (fun _ => True) (.slice (some ⟨go64, 0, none⟩) x319002_1.length co64) y338 := (by rw [hw, Ny338.out]; exact HP81.1); clear HP81; have n0_ := aM (hp_); have n1_ := aM (blk_grown (bk_ BK310.out) hg (Kd.R_ne HO_319002.out BK310.out (by decide))); have n2_ := aM (blk_grown (bk_ BK318.out) hg (Kd.R_ne HO_319002.out BK318.out (by decide))); have n3_ := aM (IsS77.grown qz25 hg (IsS77.own_ne HI0.out HO_319002.out (by decide))); have n4_ := aM ((by rw [hw]; exact below_set (HB.out) (Nat.le_trans HL.out GB64.out) : Below w0.heap.size w0 w82)); have n5_ := aM (KeepBut.trans qz12 (KeepBut.of_grown hg g) (Kd.R_base2 HO_319002.out)); clear HO_319002 BK310 BK318 HI0 HB HK; have HO_319002 := n0_; have BK310 := n1_; have BK318 := n2_; have HI0 := n3_; have HB := n4_; have HK := n5_; clear n0_ n1_ n2_ n3_ n4_ n5_; clear hg hw hp_; obtain ⟨hcz83_0, hcz83_1, hcz83_2, hfz83_0, hfz83_1, hfz83_2⟩ := b6_ BK318.out) | ((with_reducible refine gate_callee (f := 28) rfl ?_); refine goesL_ (some 53) rfl rfl Try.func28 (by kernel_rfl) rfl #[.agg #[.int .i64 (wrap64 (2 + t320)), .int .i64 (wrap64 (2 + t323)), .slice (some ⟨go64, 0, none⟩) y338.length co64]] rfl qz74 ?_; (with_reducible refine (spec_Sound.calls kj42 (wrap64 (2 + t320)) (wrap64 (2 + t323)) _ _ y338 false _ ?side1 ?side2 A65.out).mono ?_); (case side1 => repeat (first | exact (Kd.R_reads' HO_319002.out).2.2 | (with_reducible refine Kd.C_alloc ?_ _) | (with_reducible refine Kd.C_drewN ?_ _) | (with_reducible refine Kd.C_drew ?_))); (case side2 => rw [show y338.length = x319002_1.length from (Kd.R_reads' HO_319002.out).1.symm]; exact (Kd.R_reads' HO_319002.out).2.1); rintro e w84 ⟨rfl, hb⟩; refine ⟨_, rfl, ?_⟩; have n0_ := aM (Kd.R_below (rr_ HO_319002.out) hb); have n1_ := aM (blk_below (bk_ BK310.out) hb); have n2_ := aM (blk_below (bk_ BK318.out) hb); have n3_ := aM (IsS77.below qz25 hb); have n4_ := aM (KeepBut.trans qz12 (KeepBut.of_below hb g none) (.inl rfl)); have n5_ := aM (below_step qz31 hb); clear HO_319002 BK310 BK318 HI0 HK HB; have HO_319002 := n0_; have BK310 := n1_; have BK318 := n2_; have HI0 := n3_; have HK := n4_; have HB := n5_; clear n0_ n1_ n2_ n3_ n4_ n5_; (try clear hb); (try clear hb2); (try clear hk); (try clear hi); obtain ⟨hcz85_0, hcz85_1, hcz85_2, hfz85_0, hfz85_1, hfz85_2⟩ := b6_ BK318.out; have p77 : 0 ≤ ((ji61) : Int) := of_decide_eq_true qz2; have q77 : ((ji61) : Int) < ((x319002_1.length : Int) : Int) := of_decide_eq_true qz2; obtain ⟨hx77_0, hf77_0⟩ := Kd.R_celln 0 HO_319002.out ((ji61) : Int) p77 q77; replace p77 := eq_true p77; replace q77 := eq_true q77; obtain ⟨hy86_, hz86_⟩ := Kd.R_celln 0 HO_319002.out ((ji61) : Int) (of_decide_eq_true qz2) (of_decide_eq_true qz2); have HP86 := Kd.R_putg HO_319002.out ((ji61) : Int) 1) | ((with_reducible refine gate_store (t := 3) (p := 60) rfl ?_); refine store_event (t := 3) (p := 60) (v := ?vo_w87) (w1 := (w84.setCell ⟨go64, ((ji61) : Int).toNat, none⟩ (.int .i64 1))) ?hg ?ho ?hn ?hr ?_; (case ho => rfl); (case hg => rfl); (case hn => rfl); (case hr => exact qz28); intro w87 hw; have hg : w84.grownBy w87 (some go64) := (by rw [hw]; exact HP86.2); have hp_ : Kd.R (Kd.int .i64) 3 w87 w.heap.size (fun _ => True) (.slice (some ⟨go64, 0, none⟩) x319002_1.length co64) y340 := (by rw [hw, Ny340.out]; exact HP86.1); clear HP86; have n0_ := aM (hp_); have n1_ := aM (blk_grown (bk_ BK310.out) hg (Kd.R_ne HO_319002.out BK310.out (by decide))); have n2_ := aM (blk_grown (bk_ BK318.out) hg (Kd.R_ne HO_319002.out BK318.out (by decide))); have n3_ := aM (IsS77.grown qz25 hg (IsS77.own_ne HI0.out HO_319002.out (by decide))); have n4_ := aM ((by rw [hw]; exact below_set (HB.out) (Nat.le_trans HL.out GB64.out) : Below w0.heap.size w0 w87)); have n5_ := aM (KeepBut.trans qz12 (KeepBut.of_grown hg g) (Kd.R_base2 HO_319002.out)); clear HO_319002 BK310 BK318 HI0 HB HK; have HO_319002 := n0_; have BK310 := n1_; have BK318 := n2_; have HI0 := n3_; have HB := n4_; have HK := n5_; clear n0_ n1_ n2_ n3_ n4_ n5_; clear hg hw hp_; obtain ⟨hcz88_0, hcz88_1, hcz88_2, hfz88_0, hfz88_1, hfz88_2⟩ := b6_ BK318.out; have hnb89 := NB310_0.out; have hnc89 := NB0_310.out; obtain ⟨hcz90_0, hcz90_1, hcz90_2, hfz90_0, hfz90_1, hfz90_2⟩ := b6_ BK310.out))
     refine bodyPost_ret (results_cell_row rfl _ _ gb310 43 #[.int .i64 (wrap64 (2 + t320)), .int .i64 (wrap64 (2 + t323)), .slice (some ⟨go64, 0, none⟩) x319002_1.length co64] (0, 0) _ rfl (by (with_reducible repeat (first | refine blk_drewN ?_ _ | refine blk_drew ?_ | refine blk_alloc ?_ _)); refine blk_put (cs := #[.int .i64 (wrap64 (2 + t320)), .int .i64 (wrap64 (2 + t323)), .slice none 0 0]) ?_ 2 _ rfl; (with_reducible repeat (first | refine blk_drewN ?_ _ | refine blk_drew ?_ | refine blk_alloc ?_ _)); refine blk_put (cs := #[.int .i64 (wrap64 (2 + t320)), .int .i64 0, .slice none 0 0]) ?_ 1 _ rfl; (with_reducible repeat (first | refine blk_drewN ?_ _ | refine blk_drew ?_ | refine blk_alloc ?_ _)); refine blk_put (cs := #[.int .i64 0, .int .i64 0, .slice none 0 0]) ?_ 0 _ rfl; exact bk_ BK310.out) Try.underlying43 rfl (by kernel_rfl)) rfl ?_
     exact ⟨_, by first | rfl | (simp [errW_none, errW_some] <;> rfl) | (simp only [← hji61]; first | rfl | (simp [errW_none, errW_some] <;> rfl)) | (simp [*, errW_none, errW_some] <;> rfl), by (with_reducible repeat (first | apply Kd.R_alloc | apply Kd.R_drewN | apply Kd.R_drew)); exact Kd.R_mono (Kd.R_far (p := ⟨gb310, 2, none⟩) (Kd.R_far (p := ⟨gb310, 1, none⟩) (Kd.R_far (p := ⟨gb310, 0, none⟩) (Kd.R_types HO_319002.out BK310.out (by decide)) (fun _ hk => hk.2) (.int .i64 (wrap64 (2 + t320)))) (fun _ hk => hk.2) (.int .i64 (wrap64 (2 + t323)))) (fun _ hk => hk.2) (.slice (some ⟨go64, 0, none⟩) x319002_1.length co64)) (fun _ hk => trivial), by repeat (first | (with_reducible first | exact HI0.out | apply IsS77.alloc | apply IsS77.drewN | apply IsS77.drew | apply IsS77.set_1 | apply IsS77.set_2 | refine IsS77.far ?_ NB0_310.out _ | refine IsS77.far ?_ NB0_318.out _) | exact HI0.out), by repeat (first | (with_reducible first | exact HB.out | apply below_alloc | apply pw_below_drewN | apply below_drew1 | refine below_set ?_ (IsS77.ge HI0.out) | refine below_set ?_ GE310.out | refine below_set ?_ GE318.out) | exact HB.out), by repeat (first | (with_reducible first | exact HK.out | apply KeepBut.set_ | apply keep_drewN | apply keep_drew | apply keep_alloc | refine keep_far ?_ GW310.out _ | refine keep_far ?_ GW318.out _) | exact HK.out)⟩
     }
     }
     {
     rw [if_neg c63] at H
     exact absurd H (by simp)
     }
     }
     {
     rw [if_neg c62] at H
     exact absurd H (by simp)
     }
     }
     {
     replace c60 := Bool.eq_false_iff.mpr c60
     subst c60
     rw [if_neg (show ¬ (false = true) by decide)] at H
     simp only [Option.some.injEq, Prod.mk.injEq] at H
     obtain ⟨rfl, rfl, rfl, rfl, rfl⟩ := H
     have hnb91 := NB318_310.out
     have hnc91 := NB310_318.out
     have hnb92 := NB318_0.out
     have hnc92 := NB0_318.out
     obtain ⟨hcz93_0, hcz93_1, hcz93_2, hfz93_0, hfz93_1, hfz93_2⟩ := b6_ BK318.out
     have hnb94 := NB310_0.out
     have hnc94 := NB0_310.out
     obtain ⟨hcz95_0, hcz95_1, hcz95_2, hfz95_0, hfz95_1, hfz95_2⟩ := b6_ BK310.out
     obtain ⟨Ao96, co96, eo96⟩ := Kd.R_slice HO_319002.out
     subst eo96
     go_wp2
     refine bodyPost_ret (results_cell_row rfl _ _ gb310 43 #[.int .i64 (wrap64 (2 + t320)), .int .i64 (wrap64 (2 + t323)), .slice Ao96 x319002_1.length co96] (0, 0) _ rfl (by (with_reducible repeat (first | refine blk_drewN ?_ _ | refine blk_drew ?_ | refine blk_alloc ?_ _)); refine blk_put (cs := #[.int .i64 (wrap64 (2 + t320)), .int .i64 (wrap64 (2 + t323)), .slice none 0 0]) ?_ 2 _ rfl; (with_reducible repeat (first | refine blk_drewN ?_ _ | refine blk_drew ?_ | refine blk_alloc ?_ _)); refine blk_put (cs := #[.int .i64 (wrap64 (2 + t320)), .int .i64 0, .slice none 0 0]) ?_ 1 _ rfl; (with_reducible repeat (first | refine blk_drewN ?_ _ | refine blk_drew ?_ | refine blk_alloc ?_ _)); refine blk_put (cs := #[.int .i64 0, .int .i64 0, .slice none 0 0]) ?_ 0 _ rfl; exact bk_ BK310.out) Try.underlying43 rfl (by kernel_rfl)) rfl ?_
     exact ⟨_, by first | rfl | (simp [errW_none, errW_some] <;> rfl) | (simp [*, errW_none, errW_some] <;> rfl), by (with_reducible repeat (first | apply Kd.R_alloc | apply Kd.R_drewN | apply Kd.R_drew)); exact Kd.R_mono (Kd.R_far (p := ⟨gb310, 2, none⟩) (Kd.R_far (p := ⟨gb310, 1, none⟩) (Kd.R_far (p := ⟨gb310, 0, none⟩) (Kd.R_types HO_319002.out BK310.out (by decide)) (fun _ hk => hk.2) (.int .i64 (wrap64 (2 + t320)))) (fun _ hk => hk.2) (.int .i64 (wrap64 (2 + t323)))) (fun _ hk => hk.2) (.slice Ao96 x319002_1.length co96)) (fun _ hk => trivial), by repeat (first | (with_reducible first | exact HI0.out | apply IsS77.alloc | apply IsS77.drewN | apply IsS77.drew | apply IsS77.set_1 | apply IsS77.set_2 | refine IsS77.far ?_ NB0_310.out _ | refine IsS77.far ?_ NB0_318.out _) | exact HI0.out), by repeat (first | (with_reducible first | exact HB.out | apply below_alloc | apply pw_below_drewN | apply below_drew1 | refine below_set ?_ (IsS77.ge HI0.out) | refine below_set ?_ GE310.out | refine below_set ?_ GE318.out) | exact HB.out), by repeat (first | (with_reducible first | exact HK.out | apply KeepBut.set_ | apply keep_drewN | apply keep_drew | apply keep_alloc | refine keep_far ?_ GW310.out _ | refine keep_far ?_ GW318.out _) | exact HK.out)⟩

     }
   }
 }
end Go.Proofs.Ytbebfhlejnidkaa.PFnSound
