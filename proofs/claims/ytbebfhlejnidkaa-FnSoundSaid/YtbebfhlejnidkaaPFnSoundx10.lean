-- Made by a program of this session out of the translation. Lean checks it.
import Derived.Test.YtbebfhlejnidkaaPFnSoundx0
import Derived.Test.YtbebfhlejnidkaaPFnSoundx1
import Derived.Test.YtbebfhlejnidkaaPFnSoundx2
import Derived.Test.YtbebfhlejnidkaaPFnSoundx5
import Derived.Test.YtbebfhlejnidkaaPFnSoundx8
import Derived.Test.YtbebfhlejnidkaaPFnSoundx9
namespace Go.Proofs.Ytbebfhlejnidkaa.PFnSound
open Go.RowKit Go.Proofs.YtbebfhlejnidkaaW.PrintWords Go.Proofs.YtbebfhlejnidkaaW.PrintLast Go.Proofs.YtbebfhlejnidkaaW.PrintMore
attribute [local go_sem] max2_int min2_int max_two min_two max_three min_three max_four min_four   -- for this text's walks alone
set_option linter.unusedVariables false
set_option linter.unusedSimpArgs false

/-! ### spec_l1FloorAny: function 52 -/
def spec_l1FloorAny.f (k : Nat) (s0_0 : List Int) (s0_1 : Int) (s0_2 : Int) : Option (Int × Int × List Int × Int × Int) := (spec_l1Floor.f k s0_0 s0_1 s0_2).bind fun bt342 => ((spec_l1Below.f s0_0 bt342.2.2.2.1 bt342.2.2.2.2 14).bind fun bt350 => (if bt350.1 = 0 then ((spec_l1Int.f s0_0 bt350.2.1 bt350.2.2 (([0, 11, (-1), wrap64 (bt342.1 + 1)] : List Int))).bind fun bt356 => (some (bt356.1, bt342.2.1, bt342.2.2.1, bt356.2.1, bt356.2.2))) else (if bt350.1 = 1 then ((some (([] : List Int) : List Int)).bind fun y359 => (if y359.length + bt342.2.2.1.length < 17592186044416 then ((some (y359 ++ bt342.2.2.1 : List Int)).bind fun y362 => (if y362.length < 17592186044416 then (some (bt342.1, bt342.2.1, (y362 ++ [1]), bt350.2.1, bt350.2.2)) else (none))) else (none))) else (if bt350.1 = 2 then ((spec_l1Copy.f bt342.1 bt342.2.1 bt342.2.2.1).bind fun bt368 => ((spec_l1Int.f s0_0 bt350.2.1 bt350.2.2 (([(-1), 5] : List Int))).bind fun bt376 => (if 0 < (bt368.2.2.length : Int) then (some (bt368.1, bt368.2.1, (bt368.2.2.set (0 : Int).toNat bt376.1), bt376.2.1, bt376.2.2)) else (none)))) else (some (bt342.1, bt342.2.1, bt342.2.2.1, bt350.2.1, bt350.2.2))))))
theorem spec_l1FloorAny.mono : ∀ a0 a1 a2 k, LeO (spec_l1FloorAny.f k a0 a1 a2) (spec_l1FloorAny.f (k + 1) a0 a1 a2) := by
 intro a0 a1 a2 k
 unfold spec_l1FloorAny.f
 repeat' first
  | (with_reducible first | exact spec_l1Floor.mono _ _ _ _ | exact LeO.refl _ | exact LeO.none _ | refine LeO.ite ?_ ?_ | refine LeO.bind ?_ (fun _ => ?_))
  | exact spec_l1Floor.mono _ _ _ _
  | exact LeO.none _
  | refine LeO.ite ?_ ?_
  | refine LeO.bind ?_ (fun _ => ?_)
set_option maxHeartbeats 8000000 in
set_option maxRecDepth 100000 in
theorem spec_l1FloorAny.calls (k : Nat) (g : Nat) (s0_0 : List Int) (s0_1 : Int) (s0_2 : Int) (r1 : Int) (r2 : Int) (r3 : List Int) (r4 : Int) (r5 : Int) (w0 w : World) (hI : IsS77 w0 w g s0_0 s0_1 s0_2) (hB : Below w0.heap.size w0 w) (h : spec_l1FloorAny.f k s0_0 s0_1 s0_2 = some (r1, r2, r3, r4, r5)) :
  Calls Try.prog 52 #[.pointer (some ⟨g, 0, none⟩)] w fun e w' => ∃ v2_ : Value, e = .returned (.agg #[.int .i64 r1, .int .i64 r2, v2_]) ∧ Kd.R (Kd.int .i64) 3 w' w.heap.size (fun _ => True) v2_ r3 ∧ IsS77 w0 w' g s0_0 r4 r5 ∧ Below w0.heap.size w0 w' ∧ KeepBut w w' g none := by
 have hu43 := Try.underlying43
 have HI0 := aM hI
 have HK := aM (KeepBut.refl w g none)
 have HL := aM hB.size
 clear hI
 have HW0 := aM hB.size
 have HB := aM hB
 clear hB
 have H : ((spec_l1Floor.f k s0_0 s0_1 s0_2).bind fun bt342 => ((spec_l1Below.f s0_0 bt342.2.2.2.1 bt342.2.2.2.2 14).bind fun bt350 => (if bt350.1 = 0 then ((spec_l1Int.f s0_0 bt350.2.1 bt350.2.2 (([0, 11, (-1), wrap64 (bt342.1 + 1)] : List Int))).bind fun bt356 => (some (bt356.1, bt342.2.1, bt342.2.2.1, bt356.2.1, bt356.2.2))) else (if bt350.1 = 1 then ((some (([] : List Int) : List Int)).bind fun y359 => (if y359.length + bt342.2.2.1.length < 17592186044416 then ((some (y359 ++ bt342.2.2.1 : List Int)).bind fun y362 => (if y362.length < 17592186044416 then (some (bt342.1, bt342.2.1, (y362 ++ [1]), bt350.2.1, bt350.2.2)) else (none))) else (none))) else (if bt350.1 = 2 then ((spec_l1Copy.f bt342.1 bt342.2.1 bt342.2.2.1).bind fun bt368 => ((spec_l1Int.f s0_0 bt350.2.1 bt350.2.2 (([(-1), 5] : List Int))).bind fun bt376 => (if 0 < (bt368.2.2.length : Int) then (some (bt368.1, bt368.2.1, (bt368.2.2.set (0 : Int).toNat bt376.1), bt376.2.1, bt376.2.2)) else (none)))) else (some (bt342.1, bt342.2.1, bt342.2.2.1, bt350.2.1, bt350.2.2))))))) = some (r1, r2, r3, r4, r5) := h
 clear h
 replace H := Option.bind_eq_some_iff.mp H
 obtain ⟨⟨t342, t343, t344, t347, t348⟩, A20, H⟩ := H
 replace H : ((spec_l1Below.f s0_0 t347 t348 14).bind fun bt350 => (if bt350.1 = 0 then ((spec_l1Int.f s0_0 bt350.2.1 bt350.2.2 (([0, 11, (-1), wrap64 (t342 + 1)] : List Int))).bind fun bt356 => (some (bt356.1, t343, t344, bt356.2.1, bt356.2.2))) else (if bt350.1 = 1 then ((some (([] : List Int) : List Int)).bind fun y359 => (if y359.length + t344.length < 17592186044416 then ((some (y359 ++ t344 : List Int)).bind fun y362 => (if y362.length < 17592186044416 then (some (t342, t343, (y362 ++ [1]), bt350.2.1, bt350.2.2)) else (none))) else (none))) else (if bt350.1 = 2 then ((spec_l1Copy.f t342 t343 t344).bind fun bt368 => ((spec_l1Int.f s0_0 bt350.2.1 bt350.2.2 (([(-1), 5] : List Int))).bind fun bt376 => (if 0 < (bt368.2.2.length : Int) then (some (bt368.1, bt368.2.1, (bt368.2.2.set (0 : Int).toNat bt376.1), bt376.2.1, bt376.2.2)) else (none)))) else (some (t342, t343, t344, bt350.2.1, bt350.2.2)))))) = some (r1, r2, r3, r4, r5) := H
 have A2 := aM A20
 clear A20
 replace H := Option.bind_eq_some_iff.mp H
 obtain ⟨⟨t350, t351, t352⟩, A30, H⟩ := H
 replace H : (if t350 = 0 then ((spec_l1Int.f s0_0 t351 t352 (([0, 11, (-1), wrap64 (t342 + 1)] : List Int))).bind fun bt356 => (some (bt356.1, t343, t344, bt356.2.1, bt356.2.2))) else (if t350 = 1 then ((some (([] : List Int) : List Int)).bind fun y359 => (if y359.length + t344.length < 17592186044416 then ((some (y359 ++ t344 : List Int)).bind fun y362 => (if y362.length < 17592186044416 then (some (t342, t343, (y362 ++ [1]), t351, t352)) else (none))) else (none))) else (if t350 = 2 then ((spec_l1Copy.f t342 t343 t344).bind fun bt368 => ((spec_l1Int.f s0_0 t351 t352 (([(-1), 5] : List Int))).bind fun bt376 => (if 0 < (bt368.2.2.length : Int) then (some (bt368.1, bt368.2.1, (bt368.2.2.set (0 : Int).toNat bt376.1), bt376.2.1, bt376.2.2)) else (none)))) else (some (t342, t343, t344, t351, t352))))) = some (r1, r2, r3, r4, r5) := H
 have A3 := aM A30
 clear A30
 by_cases c4 : t350 = 0
 {
 rw [if_pos c4] at H
 have c4b0 := beq_iff_eq.mpr c4
 have c4b1 := bne_eq_false_iff_eq.mpr c4
 clear c4
 obtain ⟨y353, hy353⟩ : ∃ y_ : List Int, y_ = (([0, 11, (-1), wrap64 (t342 + 1)] : List Int)) := ⟨_, rfl⟩
 replace H : ((spec_l1Int.f s0_0 t351 t352 y353).bind fun bt356 => (some (bt356.1, t343, t344, bt356.2.1, bt356.2.2))) = some (r1, r2, r3, r4, r5) := by first | (rw [hy353]; with_reducible exact H) | (have H2_ := (Option.bind_some _ _).symm.trans H; rw [hy353]; with_reducible exact H2_) | (have H2_ := (Option.bind_some _ _).symm.trans H; with_reducible exact H2_) | with_reducible exact H | (rw [hy353]; exact H) | exact H
 have Ny353 := aM hy353
 clear hy353
 replace H := Option.bind_eq_some_iff.mp H
 obtain ⟨⟨t356, t357, t358⟩, A50, H⟩ := H
 replace H : (some (t356, t343, t344, t357, t358)) = some (r1, r2, r3, r4, r5) := H
 have A5 := aM A50
 clear A50
 simp only [Option.some.injEq, Prod.mk.injEq] at H
 obtain ⟨rfl, rfl, rfl, rfl, rfl⟩ := H
 go_enter Try.func52, Try.ntmps52
 go_wp2_with (first | ((with_reducible refine gate_dst (N := 2) rfl ?_); refine bx_ 2 #[.int .i64 0, .int .i64 0, .slice none 0 0] 43 ?_; intro gb341 hg w6 hbox hb; have n0_ := aM (IsS77.below qz30 hb); have n1_ := aM (KeepBut.trans qz7 (KeepBut.of_below hb g none) (.inl rfl)); have n2_ := aM (below_step qz29 hb); have n3_ := aM (hbox); have n4_ := aM ((by rw [hg]; exact (keep_size (w := w) (g := g) (row := none) qz7) : w.heap.size ≤ gb341)); have n5_ := aM ((Nat.le_trans HW0.out (by rw [hg]; exact (keep_size (w := w) (g := g) (row := none) qz7) : w.heap.size ≤ gb341) : w0.heap.size ≤ gb341)); have n6_ := aM ((by rw [hg]; exact Nat.ne_of_lt (IsS77.lt (show IsS77 w0 _ g s0_0 s0_1 s0_2 from by repeat (first | (with_reducible first | exact HI0.out | apply IsS77.alloc | apply IsS77.drewN | apply IsS77.drew | apply IsS77.set_1 | apply IsS77.set_2) | exact HI0.out))) : g ≠ gb341)); have n7_ := aM ((by rw [hg]; exact Nat.ne_of_gt (IsS77.lt (show IsS77 w0 _ g s0_0 s0_1 s0_2 from by repeat (first | (with_reducible first | exact HI0.out | apply IsS77.alloc | apply IsS77.drewN | apply IsS77.drew | apply IsS77.set_1 | apply IsS77.set_2) | exact HI0.out))) : gb341 ≠ g)); clear HI0 HK HB; have HI0 := n0_; have HK := n1_; have HB := n2_; have BK341 := n3_; have GW341 := n4_; have GE341 := n5_; have NB0_341 := n6_; have NB341_0 := n7_; clear n0_ n1_ n2_ n3_ n4_ n5_ n6_ n7_; clear hb hbox hg) | ((with_reducible refine gate_callee (f := 69) rfl ?_); refine goesL_ (some 5) rfl rfl Try.func69 (by kernel_rfl) rfl #[.pointer (some ⟨g, 0, none⟩)] rfl qz3 ?_; (with_reducible refine (spec_l1Floor.calls k g s0_0 s0_1 s0_2 t342 t343 t344 t347 t348 w0 _ ?side1 ?side2 A2.out).mono ?_); (case side1 => exact qz52); (case side2 => exact qz53); rintro e w7 ⟨v345, rfl, ho0, hi, hb, hk⟩; refine ⟨_, rfl, ?_⟩; have n0_ := aM (KeepBut.blk hk (bk_ BK341.out) NB341_0.out (by simp)); have n1_ := aM (Kd.R_lower ho0 (keep_size (w := w) (g := g) (row := none) qz11)); have n2_ := aM (KeepBut.trans qz11 hk (.inl rfl)); have n3_ := aM (hb); have n4_ := aM (hi); clear BK341 HK HB HI0; have BK341 := n0_; have HO346 := n1_; have HK := n2_; have HB := n3_; have HI0 := n4_; clear n0_ n1_ n2_ n3_ n4_; (try clear hb); (try clear hb2); (try clear hk); (try clear hi); (try clear ho0)) | ((with_reducible refine gate_dst (N := 3) rfl ?_); refine bx_ 3 #[.int .i64 0, .int .i64 0, .slice none 0 0] 43 ?_; intro gb349 hg w8 hbox hb; have n0_ := aM (Kd.R_below (rr_ HO346.out) hb); have n1_ := aM (IsS77.below qz52 hb); have n2_ := aM (blk_below (bk_ BK341.out) hb); have n3_ := aM (KeepBut.trans qz11 (KeepBut.of_below hb g none) (.inl rfl)); have n4_ := aM (below_step qz53 hb); have n5_ := aM (hbox); have n6_ := aM ((by rw [hg]; exact (keep_size (w := w) (g := g) (row := none) qz11) : w.heap.size ≤ gb349)); have n7_ := aM ((Nat.le_trans HW0.out (by rw [hg]; exact (keep_size (w := w) (g := g) (row := none) qz11) : w.heap.size ≤ gb349) : w0.heap.size ≤ gb349)); have n8_ := aM ((by rw [hg]; exact Nat.ne_of_lt (blk_lt (bk_ BK341.out)) : gb341 ≠ gb349)); have n9_ := aM ((by rw [hg]; exact Nat.ne_of_gt (blk_lt (bk_ BK341.out)) : gb349 ≠ gb341)); have n10_ := aM ((by rw [hg]; exact Nat.ne_of_lt (IsS77.lt (show IsS77 w0 _ g s0_0 t347 t348 from by repeat (first | (with_reducible first | exact HI0.out | apply IsS77.alloc | apply IsS77.drewN | apply IsS77.drew | apply IsS77.set_1 | apply IsS77.set_2 | refine IsS77.far ?_ NB0_341.out _) | exact HI0.out))) : g ≠ gb349)); have n11_ := aM ((by rw [hg]; exact Nat.ne_of_gt (IsS77.lt (show IsS77 w0 _ g s0_0 t347 t348 from by repeat (first | (with_reducible first | exact HI0.out | apply IsS77.alloc | apply IsS77.drewN | apply IsS77.drew | apply IsS77.set_1 | apply IsS77.set_2 | refine IsS77.far ?_ NB0_341.out _) | exact HI0.out))) : gb349 ≠ g)); clear HO346 HI0 BK341 HK HB; have HO346 := n0_; have HI0 := n1_; have BK341 := n2_; have HK := n3_; have HB := n4_; have BK349 := n5_; have GW349 := n6_; have GE349 := n7_; have NB341_349 := n8_; have NB349_341 := n9_; have NB0_349 := n10_; have NB349_0 := n11_; clear n0_ n1_ n2_ n3_ n4_ n5_ n6_ n7_ n8_ n9_ n10_ n11_; clear hb hbox hg; have hnb9 := NB349_341.out; have hnc9 := NB341_349.out; have hnb10 := NB349_0.out; have hnc10 := NB0_349.out; obtain ⟨hcz11_0, hcz11_1, hcz11_2, hfz11_0, hfz11_1, hfz11_2⟩ := b6_ BK349.out; obtain ⟨Ao12, co12, eo12⟩ := Kd.R_slice HO346.out; subst eo12) | ((with_reducible refine gate_callee (f := 68) rfl ?_); refine goesL_ (some 7) rfl rfl Try.func68 (by kernel_rfl) rfl #[.pointer (some ⟨g, 0, none⟩), .int .i64 14] rfl qz3 ?_; (with_reducible refine (spec_l1Below.calls g s0_0 t347 t348 14 t350 t351 t352 w0 _ ?side1 ?side2 A3.out).mono ?_); (case side1 => exact qz24); (case side2 => exact qz26); rintro e w13 ⟨rfl, hi, hb, hk⟩; refine ⟨_, rfl, ?_⟩; have n0_ := aM (KeepBut.blk hk (g' := gb341) (o := .cells #[.int .i64 0, .int .i64 0, .slice none 0 0] 43 (0, 0)) qz21 NB341_0.out (by simp)); have n1_ := aM (Kd.R_mono (Kd.R_keep (IsS77.apart (show IsS77 w0 _ g s0_0 t347 t348 from by repeat (first | (with_reducible first | exact HI0.out | apply IsS77.alloc | apply IsS77.drewN | apply IsS77.drew | apply IsS77.set_1 | apply IsS77.set_2 | refine IsS77.far ?_ NB0_341.out _ | refine IsS77.far ?_ NB0_349.out _) | exact HI0.out)) (by (with_reducible repeat (first | apply Kd.R_alloc | apply Kd.R_drewN | apply Kd.R_drew)); exact (Kd.R_mono (Kd.R_far (p := ⟨gb349, 2, none⟩) (Kd.R_far (p := ⟨gb349, 1, none⟩) (Kd.R_far (p := ⟨gb349, 0, none⟩) (Kd.R_types HO346.out BK349.out (by decide)) (fun _ hk => hk.2) (.int .i64 t342)) (fun _ hk => hk.2) (.int .i64 t343)) (fun _ hk => hk.2) (.slice Ao12 t344.length co12)) (fun _ h_ => h_.1))) (by decide)) hk (fun _ h => h.2)) (fun _ h => h.1)); have n2_ := aM (KeepBut.blk hk (g' := gb349) (o := .cells #[.int .i64 t342, .int .i64 t343, .slice Ao12 t344.length co12] 43 (0, 0)) (by (with_reducible repeat (first | refine blk_drewN ?_ _ | refine blk_drew ?_ | refine blk_alloc ?_ _)); refine blk_put (cs := #[.int .i64 t342, .int .i64 t343, .slice none 0 0]) ?_ 2 _ rfl; (with_reducible repeat (first | refine blk_drewN ?_ _ | refine blk_drew ?_ | refine blk_alloc ?_ _)); refine blk_put (cs := #[.int .i64 t342, .int .i64 0, .slice none 0 0]) ?_ 1 _ rfl; (with_reducible repeat (first | refine blk_drewN ?_ _ | refine blk_drew ?_ | refine blk_alloc ?_ _)); refine blk_put (cs := #[.int .i64 0, .int .i64 0, .slice none 0 0]) ?_ 0 _ rfl; exact bk_ BK349.out) NB349_0.out (by simp)); have n3_ := aM (KeepBut.trans qz8 hk (.inl rfl)); have n4_ := aM (hb); have n5_ := aM (hi); clear BK341 HO346 BK349 HK HB HI0; have BK341 := n0_; have HO346 := n1_; have BK349 := n2_; have HK := n3_; have HB := n4_; have HI0 := n5_; clear n0_ n1_ n2_ n3_ n4_ n5_; (try clear hb); (try clear hb2); (try clear hk); (try clear hi); obtain ⟨hcz14_0, hcz14_1, hcz14_2, hfz14_0, hfz14_1, hfz14_2⟩ := b6_ BK349.out) | ((with_reducible refine gate_dst (N := 14) rfl ?_); refine Kd.R_lit (Kd.int .i64) _ 3 ?hg (N := 14) ?hd (xs := ([0, 11, (-1), wrap64 (t342 + 1)] : List Int)) (inner := [.int .i64 0, .int .i64 11, .int .i64 (-1), .int .i64 (wrap64 (t342 + 1))]) (ok := fun _ => True) (okp := fun _ => True) ?hr ?hp (fun _ hk => hk) trivial (Below.refl _ _) (Nat.le_refl _) (by simp) ?_; (case hd => rfl); (case hg => rfl); (case hr => exact qz28); (case hp => exact (Reps.one (show Kd.M (Kd.int .i64) _ _ _ 0 [.int .i64 0] from rfl) (Reps.one (show Kd.M (Kd.int .i64) _ _ _ 11 [.int .i64 11] from rfl) (Reps.one (show Kd.M (Kd.int .i64) _ _ _ (-1) [.int .i64 (-1)] from rfl) (Reps.one (show Kd.M (Kd.int .i64) _ _ _ (wrap64 (t342 + 1)) [.int .i64 (wrap64 (t342 + 1))] from rfl) (Reps.none _ _)))))); intro v354 w15 ho16 hb hg_ hnew_; clear hg_ hnew_; (first | rw [← Ny353.out] at ho16 | (simp only [Int.reduceToNat] at ho16; rw [← Ny353.out] at ho16)); have n0_ := aM (Kd.R_elder' (rr_ HO346.out) (Kd.R_base ho16) hb); have n1_ := aM (Kd.R_lower (Kd.R_new' ho16 (Kd.R_lt (rr_ HO346.out))) (keep_size (w := w) (g := g) (row := none) qz8)); have n2_ := aM (IsS77.below qz24 hb); have n3_ := aM (blk_below (bk_ BK341.out) hb); have n4_ := aM (blk_below (bk_ BK349.out) hb); have n5_ := aM (KeepBut.trans qz8 (KeepBut.of_below hb g none) (.inl rfl)); have n6_ := aM (below_step qz26 hb); clear HO346 HI0 BK341 BK349 HK HB; have HO346 := n0_; have HO355 := n1_; have HI0 := n2_; have BK341 := n3_; have BK349 := n4_; have HK := n5_; have HB := n6_; clear n0_ n1_ n2_ n3_ n4_ n5_ n6_; clear hb ho16; obtain ⟨Ao17, co17, eo17⟩ := Kd.R_slice HO355.out; subst eo17) | ((with_reducible refine gate_callee (f := 48) rfl ?_); refine goesL_ (some 15) rfl rfl Try.func48 (by kernel_rfl) rfl #[.pointer (some ⟨g, 0, none⟩), .slice Ao17 y353.length co17] rfl qz3 ?_; (with_reducible refine (spec_l1Int.calls g s0_0 t351 t352 _ _ y353 t356 t357 t358 w0 _ ?side1 ?side2 ?side3 ?side4 ?side5 A5.out).mono ?_); (case side1 => exact qz24); (case side2 => exact qz26); (case side3 => repeat (first | exact (Kd.R_reads' HO355.out).2.2 | (with_reducible refine Kd.C_alloc ?_ _) | (with_reducible refine Kd.C_drewN ?_ _) | (with_reducible refine Kd.C_drew ?_))); (case side4 => exact (Kd.R_reads' HO355.out).2.1); (case side5 => exact far_slice (IsS77.own_ne HI0.out HO355.out (by decide))); rintro e w18 ⟨rfl, hi, hb, hk⟩; refine ⟨_, rfl, ?_⟩; have n0_ := aM (KeepBut.blk hk (bk_ BK341.out) NB341_0.out (by simp)); have n1_ := aM (Kd.R_mono (Kd.R_keep (IsS77.apart (show IsS77 w0 _ g s0_0 t351 t352 from by repeat (first | (with_reducible first | exact HI0.out | apply IsS77.alloc | apply IsS77.drewN | apply IsS77.drew | apply IsS77.set_1 | apply IsS77.set_2 | refine IsS77.far ?_ NB0_341.out _ | refine IsS77.far ?_ NB0_349.out _) | exact HI0.out)) (rr_ HO346.out) (by decide)) hk (fun _ h => h.2)) (fun _ h => h.1)); have n2_ := aM (KeepBut.blk hk (bk_ BK349.out) NB349_0.out (by simp)); have n3_ := aM (Kd.R_mono (Kd.R_keep (IsS77.apart (show IsS77 w0 _ g s0_0 t351 t352 from by repeat (first | (with_reducible first | exact HI0.out | apply IsS77.alloc | apply IsS77.drewN | apply IsS77.drew | apply IsS77.set_1 | apply IsS77.set_2 | refine IsS77.far ?_ NB0_341.out _ | refine IsS77.far ?_ NB0_349.out _) | exact HI0.out)) (rr_ HO355.out) (by decide)) hk (fun _ h => h.2)) (fun _ h => h.1)); have n4_ := aM (KeepBut.trans qz8 hk (.inl rfl)); have n5_ := aM (hb); have n6_ := aM (hi); clear BK341 HO346 BK349 HO355 HK HB HI0; have BK341 := n0_; have HO346 := n1_; have BK349 := n2_; have HO355 := n3_; have HK := n4_; have HB := n5_; have HI0 := n6_; clear n0_ n1_ n2_ n3_ n4_ n5_ n6_; (try clear hb); (try clear hb2); (try clear hk); (try clear hi); obtain ⟨hcz19_0, hcz19_1, hcz19_2, hfz19_0, hfz19_1, hfz19_2⟩ := b6_ BK349.out; have hnb20 := NB341_0.out; have hnc20 := NB0_341.out; obtain ⟨hcz21_0, hcz21_1, hcz21_2, hfz21_0, hfz21_1, hfz21_2⟩ := b6_ BK341.out))
 refine bodyPost_ret (results_cell_row rfl _ _ gb341 43 #[.int .i64 t356, .int .i64 t343, .slice Ao12 t344.length co12] (0, 0) _ rfl (by (with_reducible repeat (first | refine blk_drewN ?_ _ | refine blk_drew ?_ | refine blk_alloc ?_ _)); refine blk_put (cs := #[.int .i64 t356, .int .i64 t343, .slice none 0 0]) ?_ 2 _ rfl; (with_reducible repeat (first | refine blk_drewN ?_ _ | refine blk_drew ?_ | refine blk_alloc ?_ _)); refine blk_put (cs := #[.int .i64 t356, .int .i64 0, .slice none 0 0]) ?_ 1 _ rfl; (with_reducible repeat (first | refine blk_drewN ?_ _ | refine blk_drew ?_ | refine blk_alloc ?_ _)); refine blk_put (cs := #[.int .i64 0, .int .i64 0, .slice none 0 0]) ?_ 0 _ rfl; (with_reducible repeat (first | refine blk_drewN ?_ _ | refine blk_drew ?_ | refine blk_alloc ?_ _)); refine blk_far ?_ NB341_349.out _; exact bk_ BK341.out) Try.underlying43 rfl (by kernel_rfl)) rfl ?_
 exact ⟨_, by first | rfl | (simp [errW_none, errW_some] <;> rfl) | (simp [*, errW_none, errW_some] <;> rfl), by (with_reducible repeat (first | apply Kd.R_alloc | apply Kd.R_drewN | apply Kd.R_drew)); exact Kd.R_mono (Kd.R_far (p := ⟨gb341, 2, none⟩) (Kd.R_far (p := ⟨gb341, 1, none⟩) (Kd.R_far (p := ⟨gb341, 0, none⟩) (Kd.R_far (p := ⟨gb349, 0, none⟩) (Kd.R_types (Kd.R_types HO346.out BK349.out (by decide)) BK341.out (by decide)) (fun _ hk => hk.1.2) (.int .i64 t356)) (fun _ hk => hk.2) (.int .i64 t356)) (fun _ hk => hk.2) (.int .i64 t343)) (fun _ hk => hk.2) (.slice Ao12 t344.length co12)) (fun _ hk => trivial), by repeat (first | (with_reducible first | exact HI0.out | apply IsS77.alloc | apply IsS77.drewN | apply IsS77.drew | apply IsS77.set_1 | apply IsS77.set_2 | refine IsS77.far ?_ NB0_341.out _ | refine IsS77.far ?_ NB0_349.out _) | exact HI0.out), by repeat (first | (with_reducible first | exact HB.out | apply below_alloc | apply pw_below_drewN | apply below_drew1 | refine below_set ?_ (IsS77.ge HI0.out) | refine below_set ?_ GE341.out | refine below_set ?_ GE349.out) | exact HB.out), by repeat (first | (with_reducible first | exact HK.out | apply KeepBut.set_ | apply keep_drewN | apply keep_drew | apply keep_alloc | refine keep_far ?_ GW341.out _ | refine keep_far ?_ GW349.out _) | exact HK.out)⟩
 }
 {
 rw [if_neg c4] at H
 have c4b0 := beq_eq_false_iff_ne.mpr c4
 have c4b1 := bne_iff_ne.mpr c4
 by_cases c22 : t350 = 1
 {
 rw [if_pos c22] at H
 have c22b0 := beq_iff_eq.mpr c22
 have c22b1 := bne_eq_false_iff_eq.mpr c22
 clear c22
 obtain ⟨y359, hy359⟩ : ∃ y_ : List Int, y_ = (([] : List Int)) := ⟨_, rfl⟩
 replace H : (if y359.length + t344.length < 17592186044416 then ((some (y359 ++ t344 : List Int)).bind fun y362 => (if y362.length < 17592186044416 then (some (t342, t343, (y362 ++ [1]), t351, t352)) else (none))) else (none)) = some (r1, r2, r3, r4, r5) := by first | (rw [hy359]; with_reducible exact H) | (have H2_ := (Option.bind_some _ _).symm.trans H; rw [hy359]; with_reducible exact H2_) | (have H2_ := (Option.bind_some _ _).symm.trans H; with_reducible exact H2_) | with_reducible exact H | (rw [hy359]; exact H) | exact H
 have Ny359 := aM hy359
 clear hy359
 by_cases c23 : y359.length + t344.length < 17592186044416
 {
 rw [if_pos c23] at H
 have LMc23 := aM c23
 clear c23
 obtain ⟨y362, hy362⟩ : ∃ y_ : List Int, y_ = (y359 ++ t344) := ⟨_, rfl⟩
 replace H : (if y362.length < 17592186044416 then (some (t342, t343, (y362 ++ [1]), t351, t352)) else (none)) = some (r1, r2, r3, r4, r5) := by first | (rw [hy362]; with_reducible exact H) | (have H2_ := (Option.bind_some _ _).symm.trans H; rw [hy362]; with_reducible exact H2_) | (have H2_ := (Option.bind_some _ _).symm.trans H; with_reducible exact H2_) | with_reducible exact H | (rw [hy362]; exact H) | exact H
 have Ny362 := aM hy362
 clear hy362
 by_cases c24 : y362.length < 17592186044416
 {
 rw [if_pos c24] at H
 have LMc24 := aM c24
 clear c24
 obtain ⟨y365, hy365⟩ : ∃ y_ : List Int, y_ = (y362 ++ [1]) := ⟨_, rfl⟩
 replace H : (some (t342, t343, y365, t351, t352)) = some (r1, r2, r3, r4, r5) := by first | (rw [hy365]; with_reducible exact H) | (have H2_ := (Option.bind_some _ _).symm.trans H; rw [hy365]; with_reducible exact H2_) | (have H2_ := (Option.bind_some _ _).symm.trans H; with_reducible exact H2_) | with_reducible exact H | (rw [hy365]; exact H) | exact H
 have Ny365 := aM hy365
 clear hy365
 simp only [Option.some.injEq, Prod.mk.injEq] at H
 obtain ⟨rfl, rfl, rfl, rfl, rfl⟩ := H
 go_enter Try.func52, Try.ntmps52
 go_wp2_with (first | ((with_reducible refine gate_dst (N := 2) rfl ?_); refine bx_ 2 #[.int .i64 0, .int .i64 0, .slice none 0 0] 43 ?_; intro gb341 hg w25 hbox hb; have n0_ := aM (IsS77.below qz30 hb); have n1_ := aM (KeepBut.trans qz7 (KeepBut.of_below hb g none) (.inl rfl)); have n2_ := aM (below_step qz29 hb); have n3_ := aM (hbox); have n4_ := aM ((by rw [hg]; exact (keep_size (w := w) (g := g) (row := none) qz7) : w.heap.size ≤ gb341)); have n5_ := aM ((Nat.le_trans HW0.out (by rw [hg]; exact (keep_size (w := w) (g := g) (row := none) qz7) : w.heap.size ≤ gb341) : w0.heap.size ≤ gb341)); have n6_ := aM ((by rw [hg]; exact Nat.ne_of_lt (IsS77.lt (show IsS77 w0 _ g s0_0 s0_1 s0_2 from by repeat (first | (with_reducible first | exact HI0.out | apply IsS77.alloc | apply IsS77.drewN | apply IsS77.drew | apply IsS77.set_1 | apply IsS77.set_2) | exact HI0.out))) : g ≠ gb341)); have n7_ := aM ((by rw [hg]; exact Nat.ne_of_gt (IsS77.lt (show IsS77 w0 _ g s0_0 s0_1 s0_2 from by repeat (first | (with_reducible first | exact HI0.out | apply IsS77.alloc | apply IsS77.drewN | apply IsS77.drew | apply IsS77.set_1 | apply IsS77.set_2) | exact HI0.out))) : gb341 ≠ g)); clear HI0 HK HB; have HI0 := n0_; have HK := n1_; have HB := n2_; have BK341 := n3_; have GW341 := n4_; have GE341 := n5_; have NB0_341 := n6_; have NB341_0 := n7_; clear n0_ n1_ n2_ n3_ n4_ n5_ n6_ n7_; clear hb hbox hg) | ((with_reducible refine gate_callee (f := 69) rfl ?_); refine goesL_ (some 5) rfl rfl Try.func69 (by kernel_rfl) rfl #[.pointer (some ⟨g, 0, none⟩)] rfl qz3 ?_; (with_reducible refine (spec_l1Floor.calls k g s0_0 s0_1 s0_2 t342 t343 t344 t347 t348 w0 _ ?side1 ?side2 A2.out).mono ?_); (case side1 => exact qz52); (case side2 => exact qz53); rintro e w26 ⟨v345, rfl, ho0, hi, hb, hk⟩; refine ⟨_, rfl, ?_⟩; have n0_ := aM (KeepBut.blk hk (bk_ BK341.out) NB341_0.out (by simp)); have n1_ := aM (Kd.R_lower ho0 (keep_size (w := w) (g := g) (row := none) qz11)); have n2_ := aM (KeepBut.trans qz11 hk (.inl rfl)); have n3_ := aM (hb); have n4_ := aM (hi); clear BK341 HK HB HI0; have BK341 := n0_; have HO346 := n1_; have HK := n2_; have HB := n3_; have HI0 := n4_; clear n0_ n1_ n2_ n3_ n4_; (try clear hb); (try clear hb2); (try clear hk); (try clear hi); (try clear ho0)) | ((with_reducible refine gate_dst (N := 3) rfl ?_); refine bx_ 3 #[.int .i64 0, .int .i64 0, .slice none 0 0] 43 ?_; intro gb349 hg w27 hbox hb; have n0_ := aM (Kd.R_below (rr_ HO346.out) hb); have n1_ := aM (IsS77.below qz52 hb); have n2_ := aM (blk_below (bk_ BK341.out) hb); have n3_ := aM (KeepBut.trans qz11 (KeepBut.of_below hb g none) (.inl rfl)); have n4_ := aM (below_step qz53 hb); have n5_ := aM (hbox); have n6_ := aM ((by rw [hg]; exact (keep_size (w := w) (g := g) (row := none) qz11) : w.heap.size ≤ gb349)); have n7_ := aM ((Nat.le_trans HW0.out (by rw [hg]; exact (keep_size (w := w) (g := g) (row := none) qz11) : w.heap.size ≤ gb349) : w0.heap.size ≤ gb349)); have n8_ := aM ((by rw [hg]; exact Nat.ne_of_lt (blk_lt (bk_ BK341.out)) : gb341 ≠ gb349)); have n9_ := aM ((by rw [hg]; exact Nat.ne_of_gt (blk_lt (bk_ BK341.out)) : gb349 ≠ gb341)); have n10_ := aM ((by rw [hg]; exact Nat.ne_of_lt (IsS77.lt (show IsS77 w0 _ g s0_0 t347 t348 from by repeat (first | (with_reducible first | exact HI0.out | apply IsS77.alloc | apply IsS77.drewN | apply IsS77.drew | apply IsS77.set_1 | apply IsS77.set_2 | refine IsS77.far ?_ NB0_341.out _) | exact HI0.out))) : g ≠ gb349)); have n11_ := aM ((by rw [hg]; exact Nat.ne_of_gt (IsS77.lt (show IsS77 w0 _ g s0_0 t347 t348 from by repeat (first | (with_reducible first | exact HI0.out | apply IsS77.alloc | apply IsS77.drewN | apply IsS77.drew | apply IsS77.set_1 | apply IsS77.set_2 | refine IsS77.far ?_ NB0_341.out _) | exact HI0.out))) : gb349 ≠ g)); clear HO346 HI0 BK341 HK HB; have HO346 := n0_; have HI0 := n1_; have BK341 := n2_; have HK := n3_; have HB := n4_; have BK349 := n5_; have GW349 := n6_; have GE349 := n7_; have NB341_349 := n8_; have NB349_341 := n9_; have NB0_349 := n10_; have NB349_0 := n11_; clear n0_ n1_ n2_ n3_ n4_ n5_ n6_ n7_ n8_ n9_ n10_ n11_; clear hb hbox hg; have hnb28 := NB349_341.out; have hnc28 := NB341_349.out; have hnb29 := NB349_0.out; have hnc29 := NB0_349.out; obtain ⟨hcz30_0, hcz30_1, hcz30_2, hfz30_0, hfz30_1, hfz30_2⟩ := b6_ BK349.out; obtain ⟨Ao31, co31, eo31⟩ := Kd.R_slice HO346.out; subst eo31) | ((with_reducible refine gate_callee (f := 68) rfl ?_); refine goesL_ (some 7) rfl rfl Try.func68 (by kernel_rfl) rfl #[.pointer (some ⟨g, 0, none⟩), .int .i64 14] rfl qz3 ?_; (with_reducible refine (spec_l1Below.calls g s0_0 t347 t348 14 t350 t351 t352 w0 _ ?side1 ?side2 A3.out).mono ?_); (case side1 => exact qz24); (case side2 => exact qz26); rintro e w32 ⟨rfl, hi, hb, hk⟩; refine ⟨_, rfl, ?_⟩; have n0_ := aM (KeepBut.blk hk (g' := gb341) (o := .cells #[.int .i64 0, .int .i64 0, .slice none 0 0] 43 (0, 0)) qz21 NB341_0.out (by simp)); have n1_ := aM (Kd.R_mono (Kd.R_keep (IsS77.apart (show IsS77 w0 _ g s0_0 t347 t348 from by repeat (first | (with_reducible first | exact HI0.out | apply IsS77.alloc | apply IsS77.drewN | apply IsS77.drew | apply IsS77.set_1 | apply IsS77.set_2 | refine IsS77.far ?_ NB0_341.out _ | refine IsS77.far ?_ NB0_349.out _) | exact HI0.out)) (by (with_reducible repeat (first | apply Kd.R_alloc | apply Kd.R_drewN | apply Kd.R_drew)); exact (Kd.R_mono (Kd.R_far (p := ⟨gb349, 2, none⟩) (Kd.R_far (p := ⟨gb349, 1, none⟩) (Kd.R_far (p := ⟨gb349, 0, none⟩) (Kd.R_types HO346.out BK349.out (by decide)) (fun _ hk => hk.2) (.int .i64 t342)) (fun _ hk => hk.2) (.int .i64 t343)) (fun _ hk => hk.2) (.slice Ao31 t344.length co31)) (fun _ h_ => h_.1))) (by decide)) hk (fun _ h => h.2)) (fun _ h => h.1)); have n2_ := aM (KeepBut.blk hk (g' := gb349) (o := .cells #[.int .i64 t342, .int .i64 t343, .slice Ao31 t344.length co31] 43 (0, 0)) (by (with_reducible repeat (first | refine blk_drewN ?_ _ | refine blk_drew ?_ | refine blk_alloc ?_ _)); refine blk_put (cs := #[.int .i64 t342, .int .i64 t343, .slice none 0 0]) ?_ 2 _ rfl; (with_reducible repeat (first | refine blk_drewN ?_ _ | refine blk_drew ?_ | refine blk_alloc ?_ _)); refine blk_put (cs := #[.int .i64 t342, .int .i64 0, .slice none 0 0]) ?_ 1 _ rfl; (with_reducible repeat (first | refine blk_drewN ?_ _ | refine blk_drew ?_ | refine blk_alloc ?_ _)); refine blk_put (cs := #[.int .i64 0, .int .i64 0, .slice none 0 0]) ?_ 0 _ rfl; exact bk_ BK349.out) NB349_0.out (by simp)); have n3_ := aM (KeepBut.trans qz8 hk (.inl rfl)); have n4_ := aM (hb); have n5_ := aM (hi); clear BK341 HO346 BK349 HK HB HI0; have BK341 := n0_; have HO346 := n1_; have BK349 := n2_; have HK := n3_; have HB := n4_; have HI0 := n5_; clear n0_ n1_ n2_ n3_ n4_ n5_; (try clear hb); (try clear hb2); (try clear hk); (try clear hi)) | ((with_reducible refine gate_dst (N := 19) rfl ?_); refine Kd.R_lit (Kd.int .i64) _ 3 ?hg (N := 19) ?hd (xs := ([] : List Int)) (inner := []) (ok := fun _ => True) (okp := fun _ => True) ?hr ?hp (fun _ hk => hk) trivial (Below.refl _ _) (Nat.le_refl _) (by simp) ?_; (case hd => rfl); (case hg => rfl); (case hr => exact qz28); (case hp => exact (Reps.none _ _)); intro v360 w33 ho34 hb hg_ hnew_; clear hg_ hnew_; (first | rw [← Ny359.out] at ho34 | (simp only [Int.reduceToNat] at ho34; rw [← Ny359.out] at ho34)); have n0_ := aM (Kd.R_elder' (rr_ HO346.out) (Kd.R_base ho34) hb); have n1_ := aM (Kd.R_lower (Kd.R_new' ho34 (Kd.R_lt (rr_ HO346.out))) (keep_size (w := w) (g := g) (row := none) qz8)); have n2_ := aM (IsS77.below qz24 hb); have n3_ := aM (blk_below (bk_ BK341.out) hb); have n4_ := aM (blk_below (bk_ BK349.out) hb); have n5_ := aM (KeepBut.trans qz8 (KeepBut.of_below hb g none) (.inl rfl)); have n6_ := aM (below_step qz26 hb); clear HO346 HI0 BK341 BK349 HK HB; have HO346 := n0_; have HO361 := n1_; have HI0 := n2_; have BK341 := n3_; have BK349 := n4_; have HK := n5_; have HB := n6_; clear n0_ n1_ n2_ n3_ n4_ n5_ n6_; clear hb ho34; obtain ⟨hcz35_0, hcz35_1, hcz35_2, hfz35_0, hfz35_1, hfz35_2⟩ := b6_ BK349.out) | ((with_reducible refine gate_builtin (b := .append) (xs := #[.tmp 19, .tmp 21]) rfl ?_); at_builtin; refine Kd.R_append_rows (Kd.int .i64) w.heap.size rfl (.tmp 19) (.tmp 21) 24 3 (.int .i64 0) 8 rfl Try.underlying24 info3 rfl (by decide) (by omega) v360 y359 t344 _ _ _ (fun k_ => some k_ ≠ (.slice Ao31 t344.length co31 : Value).ownBlock) (fun _ => False) rfl rfl ?aO ?aR (fun _ _ h => h) (fun _ h => h.elim) ?aF (Below.refl _ _) ?aS ?aL ?_; (case aR => repeat (first | exact (Kd.R_reads' HO346.out).2.2 | (with_reducible refine Kd.C_alloc ?_ _) | (with_reducible refine Kd.C_drewN ?_ _) | (with_reducible refine Kd.C_drew ?_))); (case aF => exact (fun k_ hk => Kd.fresh' (Kd.R_lt (rr_ HO346.out)) k_ hk)); (case aO => exact (by (with_reducible repeat (first | apply Kd.R_alloc | apply Kd.R_drewN | apply Kd.R_drew)); exact Kd.R_mono HO361.out (fun _ hk => hk.2))); (case aS => exact (keep_size (w := w) (g := g) (row := none) qz8)); (case aL => have := LMc23.out; omega); intro v363 w36 ho hb hg hat; rw [← Ny362.out] at ho; have n0_ := aM (IsS77.grown qz24 hg (IsS77.own_ne HI0.out HO361.out (by decide))); have n1_ := aM (blk_grown (bk_ BK341.out) hg (Kd.R_ne HO361.out BK341.out (by decide))); have n2_ := aM (Kd.R_after (ok := (fun _ => True)) (rr_ HO346.out) hg hat); have n3_ := aM (blk_grown (bk_ BK349.out) hg (Kd.R_ne HO361.out BK349.out (by decide))); have n4_ := aM (below_weaken qz26 HL.out hb); have n5_ := aM (KeepBut.trans qz8 (KeepBut.of_grown hg g) (Kd.R_base2 HO361.out)); have n6_ := aM (ho); clear HI0 BK341 HO346 BK349 HB HK HO361; have HI0 := n0_; have BK341 := n1_; have HO346 := n2_; have BK349 := n3_; have HB := n4_; have HK := n5_; have HO364 := n6_; clear n0_ n1_ n2_ n3_ n4_ n5_ n6_; clear ho hb hg hat) | ((with_reducible refine gate_builtin (b := .append) (xs := #[.tmp 22, .tmp 23]) rfl ?_); at_builtin; refine Kd.R_append (Kd.int .i64) w.heap.size rfl (.tmp 22) (.tmp 23) 24 3 (.int .i64 0) 8 rfl Try.underlying24 info3 rfl (by decide) (by omega) v363 y362 1 [.int .i64 1] (fun k_ => some k_ ≠ (.slice Ao31 t344.length co31 : Value).ownBlock) (fun _ => False) rfl rfl ?aP (fun _ hk => hk.elim) ?aF ?aO (Below.refl _ _) ?aS ?aL ?_; (case aP => exact rfl); (case aF => exact (fun k_ hk => Kd.fresh' (Kd.R_lt (rr_ HO346.out)) k_ hk)); (case aO => exact (rr_ HO364.out)); (case aS => exact (keep_size (w := w) (g := g) (row := none) qz8)); (case aL => have := LMc24.out; omega); intro v366 w37 ho hb hg hat; rw [← Ny365.out] at ho; have n0_ := aM (IsS77.grown qz24 hg (IsS77.own_ne HI0.out HO364.out (by decide))); have n1_ := aM (blk_grown (bk_ BK341.out) hg (Kd.R_ne HO364.out BK341.out (by decide))); have n2_ := aM (Kd.R_after (ok := (fun _ => True)) (rr_ HO346.out) hg hat); have n3_ := aM (blk_grown (bk_ BK349.out) hg (Kd.R_ne HO364.out BK349.out (by decide))); have n4_ := aM (below_weaken qz26 HL.out hb); have n5_ := aM (KeepBut.trans qz8 (KeepBut.of_grown hg g) (Kd.R_base2 HO364.out)); have n6_ := aM (ho); clear HI0 BK341 HO346 BK349 HB HK HO364; have HI0 := n0_; have BK341 := n1_; have HO346 := n2_; have BK349 := n3_; have HB := n4_; have HK := n5_; have HO367 := n6_; clear n0_ n1_ n2_ n3_ n4_ n5_ n6_; clear ho hb hg hat; obtain ⟨Ao38, co38, eo38⟩ := Kd.R_slice HO367.out; subst eo38; obtain ⟨hcz39_0, hcz39_1, hcz39_2, hfz39_0, hfz39_1, hfz39_2⟩ := b6_ BK349.out; have hnb40 := NB341_0.out; have hnc40 := NB0_341.out; obtain ⟨hcz41_0, hcz41_1, hcz41_2, hfz41_0, hfz41_1, hfz41_2⟩ := b6_ BK341.out))
 refine bodyPost_ret (results_cell_row rfl _ _ gb341 43 #[.int .i64 t342, .int .i64 t343, .slice Ao38 y365.length co38] (0, 0) _ rfl (by (with_reducible repeat (first | refine blk_drewN ?_ _ | refine blk_drew ?_ | refine blk_alloc ?_ _)); refine blk_put (cs := #[.int .i64 t342, .int .i64 t343, .slice none 0 0]) ?_ 2 _ rfl; (with_reducible repeat (first | refine blk_drewN ?_ _ | refine blk_drew ?_ | refine blk_alloc ?_ _)); refine blk_put (cs := #[.int .i64 t342, .int .i64 0, .slice none 0 0]) ?_ 1 _ rfl; (with_reducible repeat (first | refine blk_drewN ?_ _ | refine blk_drew ?_ | refine blk_alloc ?_ _)); refine blk_put (cs := #[.int .i64 0, .int .i64 0, .slice none 0 0]) ?_ 0 _ rfl; (with_reducible repeat (first | refine blk_drewN ?_ _ | refine blk_drew ?_ | refine blk_alloc ?_ _)); refine blk_far ?_ NB341_349.out _; exact bk_ BK341.out) Try.underlying43 rfl (by kernel_rfl)) rfl ?_
 exact ⟨_, by first | rfl | (simp [errW_none, errW_some] <;> rfl) | (simp [*, errW_none, errW_some] <;> rfl), by (with_reducible repeat (first | apply Kd.R_alloc | apply Kd.R_drewN | apply Kd.R_drew)); exact Kd.R_mono (Kd.R_far (p := ⟨gb341, 2, none⟩) (Kd.R_far (p := ⟨gb341, 1, none⟩) (Kd.R_far (p := ⟨gb341, 0, none⟩) (Kd.R_far (p := ⟨gb349, 2, none⟩) (Kd.R_types (Kd.R_types HO367.out BK349.out (by decide)) BK341.out (by decide)) (fun _ hk => hk.1.2) (.slice Ao38 y365.length co38)) (fun _ hk => hk.2) (.int .i64 t342)) (fun _ hk => hk.2) (.int .i64 t343)) (fun _ hk => hk.2) (.slice Ao38 y365.length co38)) (fun _ hk => trivial), by repeat (first | (with_reducible first | exact HI0.out | apply IsS77.alloc | apply IsS77.drewN | apply IsS77.drew | apply IsS77.set_1 | apply IsS77.set_2 | refine IsS77.far ?_ NB0_341.out _ | refine IsS77.far ?_ NB0_349.out _) | exact HI0.out), by repeat (first | (with_reducible first | exact HB.out | apply below_alloc | apply pw_below_drewN | apply below_drew1 | refine below_set ?_ (IsS77.ge HI0.out) | refine below_set ?_ GE341.out | refine below_set ?_ GE349.out) | exact HB.out), by repeat (first | (with_reducible first | exact HK.out | apply KeepBut.set_ | apply keep_drewN | apply keep_drew | apply keep_alloc | refine keep_far ?_ GW341.out _ | refine keep_far ?_ GW349.out _) | exact HK.out)⟩
 }
 {
 rw [if_neg c24] at H
 exact absurd H (by simp)
 }
 }
 {
 rw [if_neg c23] at H
 exact absurd H (by simp)
 }
 }
 {
 rw [if_neg c22] at H
 have c22b0 := beq_eq_false_iff_ne.mpr c22
 have c22b1 := bne_iff_ne.mpr c22
 by_cases c42 : t350 = 2
 {
 rw [if_pos c42] at H
 have c42b0 := beq_iff_eq.mpr c42
 have c42b1 := bne_eq_false_iff_eq.mpr c42
 clear c42
 replace H := Option.bind_eq_some_iff.mp H
 obtain ⟨⟨t368, t369, t370⟩, A430, H⟩ := H
 replace H : ((spec_l1Int.f s0_0 t351 t352 (([(-1), 5] : List Int))).bind fun bt376 => (if 0 < (t370.length : Int) then (some (t368, t369, (t370.set (0 : Int).toNat bt376.1), bt376.2.1, bt376.2.2)) else (none))) = some (r1, r2, r3, r4, r5) := H
 have A43 := aM A430
 clear A430
 obtain ⟨y373, hy373⟩ : ∃ y_ : List Int, y_ = (([(-1), 5] : List Int)) := ⟨_, rfl⟩
 replace H : ((spec_l1Int.f s0_0 t351 t352 y373).bind fun bt376 => (if 0 < (t370.length : Int) then (some (t368, t369, (t370.set (0 : Int).toNat bt376.1), bt376.2.1, bt376.2.2)) else (none))) = some (r1, r2, r3, r4, r5) := by first | (rw [hy373]; with_reducible exact H) | (have H2_ := (Option.bind_some _ _).symm.trans H; rw [hy373]; with_reducible exact H2_) | (have H2_ := (Option.bind_some _ _).symm.trans H; with_reducible exact H2_) | with_reducible exact H | (rw [hy373]; exact H) | exact H
 have Ny373 := aM hy373
 clear hy373
 replace H := Option.bind_eq_some_iff.mp H
 obtain ⟨⟨t376, t377, t378⟩, A440, H⟩ := H
 replace H : (if 0 < (t370.length : Int) then (some (t368, t369, (t370.set (0 : Int).toNat t376), t377, t378)) else (none)) = some (r1, r2, r3, r4, r5) := H
 have A44 := aM A440
 clear A440
 by_cases c45 : 0 < (t370.length : Int)
 {
 rw [if_pos c45] at H
 have c45b0 := decide_eq_true c45
 have c45b1 : decide (0 < t370.length) = true := decide_eq_true (by omega)
 clear c45
 obtain ⟨y379, hy379⟩ : ∃ y_ : List Int, y_ = (t370.set (0 : Int).toNat t376) := ⟨_, rfl⟩
 replace H : (some (t368, t369, y379, t377, t378)) = some (r1, r2, r3, r4, r5) := by first | (rw [hy379]; with_reducible exact H) | (have H2_ := (Option.bind_some _ _).symm.trans H; rw [hy379]; with_reducible exact H2_) | (have H2_ := (Option.bind_some _ _).symm.trans H; with_reducible exact H2_) | with_reducible exact H | (rw [hy379]; exact H) | exact H
 have Ny379 := aM hy379
 clear hy379
 simp only [Option.some.injEq, Prod.mk.injEq] at H
 obtain ⟨rfl, rfl, rfl, rfl, rfl⟩ := H
 go_enter Try.func52, Try.ntmps52
 try go_wp2_with (first | ((with_reducible refine gate_dst (N := 2) rfl ?_); refine bx_ 2 #[.int .i64 0, .int .i64 0, .slice none 0 0] 43 ?_; intro gb341 hg w47 hbox hb; have n0_ := aM (IsS77.below qz30 hb); have n1_ := aM (KeepBut.trans qz7 (KeepBut.of_below hb g none) (.inl rfl)); have n2_ := aM (below_step qz29 hb); have n3_ := aM (hbox); have n4_ := aM ((by rw [hg]; exact (keep_size (w := w) (g := g) (row := none) qz7) : w.heap.size ≤ gb341)); have n5_ := aM ((Nat.le_trans HW0.out (by rw [hg]; exact (keep_size (w := w) (g := g) (row := none) qz7) : w.heap.size ≤ gb341) : w0.heap.size ≤ gb341)); have n6_ := aM ((by rw [hg]; exact Nat.ne_of_lt (IsS77.lt (show IsS77 w0 _ g s0_0 s0_1 s0_2 from by repeat (first | (with_reducible first | exact HI0.out | apply IsS77.alloc | apply IsS77.drewN | apply IsS77.drew | apply IsS77.set_1 | apply IsS77.set_2) | exact HI0.out))) : g ≠ gb341)); have n7_ := aM ((by rw [hg]; exact Nat.ne_of_gt (IsS77.lt (show IsS77 w0 _ g s0_0 s0_1 s0_2 from by repeat (first | (with_reducible first | exact HI0.out | apply IsS77.alloc | apply IsS77.drewN | apply IsS77.drew | apply IsS77.set_1 | apply IsS77.set_2) | exact HI0.out))) : gb341 ≠ g)); clear HI0 HK HB; have HI0 := n0_; have HK := n1_; have HB := n2_; have BK341 := n3_; have GW341 := n4_; have GE341 := n5_; have NB0_341 := n6_; have NB341_0 := n7_; clear n0_ n1_ n2_ n3_ n4_ n5_ n6_ n7_; clear hb hbox hg) | ((with_reducible refine gate_callee (f := 69) rfl ?_); refine goesL_ (some 5) rfl rfl Try.func69 (by kernel_rfl) rfl #[.pointer (some ⟨g, 0, none⟩)] rfl qz3 ?_; (with_reducible refine (spec_l1Floor.calls k g s0_0 s0_1 s0_2 t342 t343 t344 t347 t348 w0 _ ?side1 ?side2 A2.out).mono ?_); (case side1 => exact qz52); (case side2 => exact qz53); rintro e w48 ⟨v345, rfl, ho0, hi, hb, hk⟩; refine ⟨_, rfl, ?_⟩; have n0_ := aM (KeepBut.blk hk (bk_ BK341.out) NB341_0.out (by simp)); have n1_ := aM (Kd.R_lower ho0 (keep_size (w := w) (g := g) (row := none) qz11)); have n2_ := aM (KeepBut.trans qz11 hk (.inl rfl)); have n3_ := aM (hb); have n4_ := aM (hi); clear BK341 HK HB HI0; have BK341 := n0_; have HO346 := n1_; have HK := n2_; have HB := n3_; have HI0 := n4_; clear n0_ n1_ n2_ n3_ n4_; (try clear hb); (try clear hb2); (try clear hk); (try clear hi); (try clear ho0)) | ((with_reducible refine gate_dst (N := 3) rfl ?_); refine bx_ 3 #[.int .i64 0, .int .i64 0, .slice none 0 0] 43 ?_; intro gb349 hg w49 hbox hb; have n0_ := aM (Kd.R_below (rr_ HO346.out) hb); have n1_ := aM (IsS77.below qz52 hb); have n2_ := aM (blk_below (bk_ BK341.out) hb); have n3_ := aM (KeepBut.trans qz11 (KeepBut.of_below hb g none) (.inl rfl)); have n4_ := aM (below_step qz53 hb); have n5_ := aM (hbox); have n6_ := aM ((by rw [hg]; exact (keep_size (w := w) (g := g) (row := none) qz11) : w.heap.size ≤ gb349)); have n7_ := aM ((Nat.le_trans HW0.out (by rw [hg]; exact (keep_size (w := w) (g := g) (row := none) qz11) : w.heap.size ≤ gb349) : w0.heap.size ≤ gb349)); have n8_ := aM ((by rw [hg]; exact Nat.ne_of_lt (blk_lt (bk_ BK341.out)) : gb341 ≠ gb349)); have n9_ := aM ((by rw [hg]; exact Nat.ne_of_gt (blk_lt (bk_ BK341.out)) : gb349 ≠ gb341)); have n10_ := aM ((by rw [hg]; exact Nat.ne_of_lt (IsS77.lt (show IsS77 w0 _ g s0_0 t347 t348 from by repeat (first | (with_reducible first | exact HI0.out | apply IsS77.alloc | apply IsS77.drewN | apply IsS77.drew | apply IsS77.set_1 | apply IsS77.set_2 | refine IsS77.far ?_ NB0_341.out _) | exact HI0.out))) : g ≠ gb349)); have n11_ := aM ((by rw [hg]; exact Nat.ne_of_gt (IsS77.lt (show IsS77 w0 _ g s0_0 t347 t348 from by repeat (first | (with_reducible first | exact HI0.out | apply IsS77.alloc | apply IsS77.drewN | apply IsS77.drew | apply IsS77.set_1 | apply IsS77.set_2 | refine IsS77.far ?_ NB0_341.out _) | exact HI0.out))) : gb349 ≠ g)); clear HO346 HI0 BK341 HK HB; have HO346 := n0_; have HI0 := n1_; have BK341 := n2_; have HK := n3_; have HB := n4_; have BK349 := n5_; have GW349 := n6_; have GE349 := n7_; have NB341_349 := n8_; have NB349_341 := n9_; have NB0_349 := n10_; have NB349_0 := n11_; clear n0_ n1_ n2_ n3_ n4_ n5_ n6_ n7_ n8_ n9_ n10_ n11_; clear hb hbox hg; have hnb50 := NB349_341.out; have hnc50 := NB341_349.out; have hnb51 := NB349_0.out; have hnc51 := NB0_349.out; obtain ⟨hcz52_0, hcz52_1, hcz52_2, hfz52_0, hfz52_1, hfz52_2⟩ := b6_ BK349.out; obtain ⟨Ao53, co53, eo53⟩ := Kd.R_slice HO346.out; subst eo53) | ((with_reducible refine gate_callee (f := 68) rfl ?_); refine goesL_ (some 7) rfl rfl Try.func68 (by kernel_rfl) rfl #[.pointer (some ⟨g, 0, none⟩), .int .i64 14] rfl qz3 ?_; (with_reducible refine (spec_l1Below.calls g s0_0 t347 t348 14 t350 t351 t352 w0 _ ?side1 ?side2 A3.out).mono ?_); (case side1 => exact qz24); (case side2 => exact qz26); rintro e w54 ⟨rfl, hi, hb, hk⟩; refine ⟨_, rfl, ?_⟩; have n0_ := aM (KeepBut.blk hk (g' := gb341) (o := .cells #[.int .i64 0, .int .i64 0, .slice none 0 0] 43 (0, 0)) qz21 NB341_0.out (by simp)); have n1_ := aM (Kd.R_mono (Kd.R_keep (IsS77.apart (show IsS77 w0 _ g s0_0 t347 t348 from by repeat (first | (with_reducible first | exact HI0.out | apply IsS77.alloc | apply IsS77.drewN | apply IsS77.drew | apply IsS77.set_1 | apply IsS77.set_2 | refine IsS77.far ?_ NB0_341.out _ | refine IsS77.far ?_ NB0_349.out _) | exact HI0.out)) (by (with_reducible repeat (first | apply Kd.R_alloc | apply Kd.R_drewN | apply Kd.R_drew)); exact (Kd.R_mono (Kd.R_far (p := ⟨gb349, 2, none⟩) (Kd.R_far (p := ⟨gb349, 1, none⟩) (Kd.R_far (p := ⟨gb349, 0, none⟩) (Kd.R_types HO346.out BK349.out (by decide)) (fun _ hk => hk.2) (.int .i64 t342)) (fun _ hk => hk.2) (.int .i64 t343)) (fun _ hk => hk.2) (.slice Ao53 t344.length co53)) (fun _ h_ => h_.1))) (by decide)) hk (fun _ h => h.2)) (fun _ h => h.1)); have n2_ := aM (KeepBut.blk hk (g' := gb349) (o := .cells #[.int .i64 t342, .int .i64 t343, .slice Ao53 t344.length co53] 43 (0, 0)) (by (with_reducible repeat (first | refine blk_drewN ?_ _ | refine blk_drew ?_ | refine blk_alloc ?_ _)); refine blk_put (cs := #[.int .i64 t342, .int .i64 t343, .slice none 0 0]) ?_ 2 _ rfl; (with_reducible repeat (first | refine blk_drewN ?_ _ | refine blk_drew ?_ | refine blk_alloc ?_ _)); refine blk_put (cs := #[.int .i64 t342, .int .i64 0, .slice none 0 0]) ?_ 1 _ rfl; (with_reducible repeat (first | refine blk_drewN ?_ _ | refine blk_drew ?_ | refine blk_alloc ?_ _)); refine blk_put (cs := #[.int .i64 0, .int .i64 0, .slice none 0 0]) ?_ 0 _ rfl; exact bk_ BK349.out) NB349_0.out (by simp)); have n3_ := aM (KeepBut.trans qz8 hk (.inl rfl)); have n4_ := aM (hb); have n5_ := aM (hi); clear BK341 HO346 BK349 HK HB HI0; have BK341 := n0_; have HO346 := n1_; have BK349 := n2_; have HK := n3_; have HB := n4_; have HI0 := n5_; clear n0_ n1_ n2_ n3_ n4_ n5_; (try clear hb); (try clear hb2); (try clear hk); (try clear hi); obtain ⟨hcz55_0, hcz55_1, hcz55_2, hfz55_0, hfz55_1, hfz55_2⟩ := b6_ BK349.out) | ((with_reducible refine gate_callee (f := 70) rfl ?_); refine goesL_ (some 29) rfl rfl Try.func70 (by kernel_rfl) rfl #[.agg #[.int .i64 t342, .int .i64 t343, .slice Ao53 t344.length co53]] rfl qz3 ?_; (with_reducible refine (spec_l1Copy.calls t342 t343 _ _ t344 t368 t369 t370 _ ?side1 ?side2 A43.out).mono ?_); (case side1 => repeat (first | exact (Kd.R_reads' HO346.out).2.2 | (with_reducible refine Kd.C_alloc ?_ _) | (with_reducible refine Kd.C_drewN ?_ _) | (with_reducible refine Kd.C_drew ?_))); (case side2 => exact (Kd.R_reads' HO346.out).2.1); rintro e w56 ⟨v371, rfl, ho0, hb⟩; refine ⟨_, rfl, ?_⟩; have n0_ := aM (Kd.R_elder' (rr_ HO346.out) (Kd.R_base ho0) hb); have n1_ := aM (Kd.R_lower (Kd.R_new' ho0 (Kd.R_lt (rr_ HO346.out))) (keep_size (w := w) (g := g) (row := none) qz8)); have n2_ := aM (IsS77.below qz24 hb); have n3_ := aM (blk_below (bk_ BK341.out) hb); have n4_ := aM (blk_below (bk_ BK349.out) hb); have n5_ := aM (KeepBut.trans qz8 (KeepBut.of_below hb g none) (.inl rfl)); have n6_ := aM (below_step qz26 hb); clear HO346 HI0 BK341 BK349 HK HB; have HO346 := n0_; have HO372 := n1_; have HI0 := n2_; have BK341 := n3_; have BK349 := n4_; have HK := n5_; have HB := n6_; clear n0_ n1_ n2_ n3_ n4_ n5_ n6_; (try clear hb); (try clear hb2); (try clear hk); (try clear hi); (try clear ho0); obtain ⟨hcz57_0, hcz57_1, hcz57_2, hfz57_0, hfz57_1, hfz57_2⟩ := b6_ BK349.out; obtain ⟨Ao58, co58, eo58⟩ := Kd.R_slice HO372.out; subst eo58))
 generalize hq_ : (((w56.setCell ⟨gb349, 0, none⟩ (.int .i64 t368)).setCell ⟨gb349, 1, none⟩ (.int .i64 t369)).setCell ⟨gb349, 2, none⟩ (.slice Ao58 t370.length co58)) = w59
 have n0_ : Aside0 (Kd.R (Kd.int .i64) 3 w59 w.heap.size (fun k_ => some k_ ≠ (.slice Ao58 t370.length co58 : Value).ownBlock) (.slice Ao53 t344.length co53) t344) := ⟨by rw [← hq_]; exact (by (with_reducible repeat (first | apply Kd.R_alloc | apply Kd.R_drewN | apply Kd.R_drew)); exact Kd.R_mono (Kd.R_far (p := ⟨gb349, 2, none⟩) (Kd.R_far (p := ⟨gb349, 1, none⟩) (Kd.R_far (p := ⟨gb349, 0, none⟩) (Kd.R_types HO346.out BK349.out (by decide)) (fun _ hk => hk.2) (.int .i64 t368)) (fun _ hk => hk.2) (.int .i64 t369)) (fun _ hk => hk.2) (.slice Ao58 t370.length co58)) (fun _ hk => hk.1.2))⟩
 have n1_ : Aside0 (Kd.R (Kd.int .i64) 3 w59 w.heap.size (fun k_ => some k_ ≠ (.slice Ao53 t344.length co53 : Value).ownBlock) (.slice Ao58 t370.length co58) t370) := ⟨by rw [← hq_]; exact (by (with_reducible repeat (first | apply Kd.R_alloc | apply Kd.R_drewN | apply Kd.R_drew)); exact Kd.R_mono (Kd.R_far (p := ⟨gb349, 2, none⟩) (Kd.R_far (p := ⟨gb349, 1, none⟩) (Kd.R_far (p := ⟨gb349, 0, none⟩) (Kd.R_types HO372.out BK349.out (by decide)) (fun _ hk => hk.2) (.int .i64 t368)) (fun _ hk => hk.2) (.int .i64 t369)) (fun _ hk => hk.2) (.slice Ao58 t370.length co58)) (fun _ hk => hk.1.2))⟩
 have n2_ : Aside0 (w59.heap[gb341]? = some (.cells #[.int .i64 0, .int .i64 0, .slice none 0 0] 43 (0, 0))) := ⟨by rw [← hq_]; exact qz21⟩
 have n3_ : Aside0 (w59.heap[gb349]? = some (.cells #[.int .i64 t368, .int .i64 t369, .slice Ao58 t370.length co58] 43 (0, 0))) := ⟨by rw [← hq_]; exact (by (with_reducible repeat (first | refine blk_drewN ?_ _ | refine blk_drew ?_ | refine blk_alloc ?_ _)); refine blk_put (cs := #[.int .i64 t368, .int .i64 t369, .slice Ao53 t344.length co53]) ?_ 2 _ rfl; (with_reducible repeat (first | refine blk_drewN ?_ _ | refine blk_drew ?_ | refine blk_alloc ?_ _)); refine blk_put (cs := #[.int .i64 t368, .int .i64 t343, .slice Ao53 t344.length co53]) ?_ 1 _ rfl; (with_reducible repeat (first | refine blk_drewN ?_ _ | refine blk_drew ?_ | refine blk_alloc ?_ _)); refine blk_put (cs := #[.int .i64 t342, .int .i64 t343, .slice Ao53 t344.length co53]) ?_ 0 _ rfl; exact bk_ BK349.out)⟩
 have n4_ : Aside0 (IsS77 w0 w59 g s0_0 t351 t352) := ⟨by rw [← hq_]; exact qz24⟩
 have n5_ : Aside0 (KeepBut w w59 g none) := ⟨by rw [← hq_]; exact qz8⟩
 have n6_ : Aside0 (Below w0.heap.size w0 w59) := ⟨by rw [← hq_]; exact qz26⟩
 (try clear HO346)
 (try clear HO372)
 (try clear BK341)
 (try clear BK349)
 (try clear HI0)
 (try clear HK)
 (try clear HB)
 clear hq_
 have HO346 := n0_
 have HO372 := n1_
 have BK341 := n2_
 have BK349 := n3_
 have HI0 := n4_
 have HK := n5_
 have HB := n6_
 clear n0_ n1_ n2_ n3_ n4_ n5_ n6_
 have n0_ := aM (Kd.R_drew HO346.out)
 have n1_ := aM (Kd.R_drew HO372.out)
 have n2_ := aM (blk_drew BK341.out)
 have n3_ := aM (blk_drew BK349.out)
 have n4_ := aM (IsS77.drew HI0.out)
 have n5_ := aM (keep_drew HK.out)
 have n6_ := aM (below_drew1 HB.out)
 clear HO346
 clear HO372
 clear BK341
 clear BK349
 clear HI0
 clear HK
 clear HB
 have HO346 := n0_
 have HO372 := n1_
 have BK341 := n2_
 have BK349 := n3_
 have HI0 := n4_
 have HK := n5_
 have HB := n6_
 clear n0_ n1_ n2_ n3_ n4_ n5_ n6_
 refine start_ (n := 7) (S := fun w' => w'.cell? ⟨gb349, 0, none⟩ = some (.int .i64 t368) ∧ w'.cell? ⟨gb349, 1, none⟩ = some (.int .i64 t369) ∧ w'.cell? ⟨gb349, 2, none⟩ = some (.slice Ao58 t370.length co58)) (ds := [6]) #[false, false, false, false, false, false, false] (by kernel_rfl) rfl rfl ⟨(blk_cell BK349.out 0).trans rfl, (blk_cell BK349.out 1).trans rfl, (blk_cell BK349.out 2).trans rfl⟩ (fun hHeld => ?_)
 generalize w59.drew = w60 at HO346 HO372 BK341 BK349 HI0 HK HB hHeld ⊢
 refine pure_ (i := 0) (N := some 30) (v := ?_) (a' := ?_) #[true, false, false, false, false, false, false] rfl rfl (by kernel_rfl) qzd (Or.inl ⟨by rfl, ?_⟩) ?_ ?_
 rotate_left
 {
 intro w'
 go_simp
 with_reducible rfl
 }
 rotate_left
 {
 simp only [qzs]
 rfl
 }
 refine pure_ (i := 2) (N := some 32) (v := ?_) (a' := ?_) #[true, false, true, false, false, false, false] rfl rfl (by kernel_rfl) qzd (Or.inl ⟨by rfl, ?_⟩) ?_ ?_
 rotate_left
 {
 intro w'
 go_simp
 with_reducible rfl
 }
 rotate_left
 {
 simp only [qzs]
 rfl
 }
 refine take_ (i := 1) (N := some 31) (v := ?_) (a' := ?_) #[true, true, true, false, false, false, false] rfl rfl (by kernel_rfl) qzd (Or.inl ⟨by rfl, ?_⟩) hHeld ?_ ?_
 rotate_left
 {
 rintro w' ⟨s0, s1, s2⟩
 go_simp
 with_reducible rfl
 }
 rotate_left
 {
 simp only [qzs]
 rfl
 }
 refine one_ (i := 3) (N := some 33) #[true, true, true, true, false, false, false] rfl rfl (by kernel_rfl) (by decide) (fun K hK => ?_)
 refine Kd.R_lit_step (Kd.int .i64) _ 3 ?hg (N := 33) ?hd (xs := ([(-1), 5] : List Int)) (inner := [.int .i64 (-1), .int .i64 5]) (ok := fun _ => True) (okp := fun _ => True) ?hr ?hp (fun _ hk => hk) trivial (Below.refl _ _) (Nat.le_refl _) (by simp) ?_; (case hd => rfl); (case hg => rfl); (case hr => exact qz28); (case hp => exact (Reps.one (show Kd.M (Kd.int .i64) _ _ _ (-1) [.int .i64 (-1)] from rfl) (Reps.one (show Kd.M (Kd.int .i64) _ _ _ 5 [.int .i64 5] from rfl) (Reps.none _ _))))
 intro v374 w61 ho62 hb hg_ hnew_
 clear hg_ hnew_
 (first | rw [← Ny373.out] at ho62 | (simp only [Int.reduceToNat] at ho62; rw [← Ny373.out] at ho62))
 have n0_ := aM (Kd.R_elder' (rr_ HO346.out) (Kd.R_base ho62) hb)
 have n1_ := aM (Kd.R_elder' (rr_ HO372.out) (Kd.R_base ho62) hb)
 have n2_ := aM (Kd.R_lower (Kd.R_new' (Kd.R_new' ho62 (Kd.R_lt (rr_ HO346.out))) (Kd.R_lt (rr_ HO372.out))) (keep_size (w := w) (g := g) (row := none) qz8))
 have n3_ := aM (IsS77.below qz24 hb)
 have n4_ := aM (blk_below (bk_ BK341.out) hb)
 have n5_ := aM (blk_below (bk_ BK349.out) hb)
 have n6_ := aM (KeepBut.trans qz8 (KeepBut.of_below hb g none) (.inl rfl))
 have n7_ := aM (below_step qz26 hb)
 clear HO346
 clear HO372
 clear HI0
 clear BK341
 clear BK349
 clear HK
 clear HB
 have HO346 := n0_
 have HO372 := n1_
 have HO375 := n2_
 have HI0 := n3_
 have BK341 := n4_
 have BK349 := n5_
 have HK := n6_
 have HB := n7_
 clear n0_ n1_ n2_ n3_ n4_ n5_ n6_ n7_
 clear hb ho62
 obtain ⟨Ao63, co63, eo63⟩ := Kd.R_slice HO375.out
 (first | subst eo63 | (injection eo63 with f1_ f2_ f3_; have f4_ := f1_.symm; have f5_ := f3_.symm; clear f1_ f2_ f3_; subst f4_; subst f5_))
 refine hK.out _ _ ⟨(blk_cell BK349.out 0).trans rfl, (blk_cell BK349.out 1).trans rfl, (blk_cell BK349.out 2).trans rfl⟩ (fun hHeld => ?_)
 clear hK K
 refine norm_ (a' := ?_) ?_ ?_
 rotate_left
 {
 show Act.put _ (some 33) _ = _
 simp only [qzs]
 rfl
 }
 refine one_ (i := 4) (N := some 34) #[true, true, true, true, true, false, false] rfl rfl (by kernel_rfl) (by decide) (fun K hK => ?_)
 refine goes_ Try.func48 (by kernel_rfl) rfl #[.pointer (some ⟨g, 0, none⟩), .slice Ao63 y373.length co63] (by rfl) rfl rfl qz3 ?_
 with_reducible refine (spec_l1Int.calls g s0_0 t351 t352 _ _ y373 t376 t377 t378 w0 _ ?side1 ?side2 ?side3 ?side4 ?side5 A44.out).mono ?_
 (case side1 => exact qz24)
 (case side2 => exact qz26)
 (case side3 => repeat (first | exact (Kd.R_reads' HO375.out).2.2 | (with_reducible refine Kd.C_alloc ?_ _) | (with_reducible refine Kd.C_drewN ?_ _) | (with_reducible refine Kd.C_drew ?_)))
 (case side4 => exact (Kd.R_reads' HO375.out).2.1)
 (case side5 => exact far_slice (IsS77.own_ne HI0.out HO375.out (by decide)))
 rintro e w64 ⟨rfl, hi, hb, hk⟩
 refine ⟨_, rfl, ?_⟩
 have n0_ := aM (KeepBut.blk hk (bk_ BK341.out) NB341_0.out (by simp))
 have n1_ := aM (Kd.R_mono (Kd.R_keep (IsS77.apart (show IsS77 w0 _ g s0_0 t351 t352 from by repeat (first | (with_reducible first | exact HI0.out | apply IsS77.alloc | apply IsS77.drewN | apply IsS77.drew | apply IsS77.set_1 | apply IsS77.set_2 | refine IsS77.far ?_ NB0_341.out _ | refine IsS77.far ?_ NB0_349.out _) | exact HI0.out)) (rr_ HO346.out) (by decide)) hk (fun _ h => h.2)) (fun _ h => h.1))
 have n2_ := aM (KeepBut.blk hk (bk_ BK349.out) NB349_0.out (by simp))
 have n3_ := aM (Kd.R_mono (Kd.R_keep (IsS77.apart (show IsS77 w0 _ g s0_0 t351 t352 from by repeat (first | (with_reducible first | exact HI0.out | apply IsS77.alloc | apply IsS77.drewN | apply IsS77.drew | apply IsS77.set_1 | apply IsS77.set_2 | refine IsS77.far ?_ NB0_341.out _ | refine IsS77.far ?_ NB0_349.out _) | exact HI0.out)) (rr_ HO372.out) (by decide)) hk (fun _ h => h.2)) (fun _ h => h.1))
 have n4_ := aM (Kd.R_mono (Kd.R_keep (IsS77.apart (show IsS77 w0 _ g s0_0 t351 t352 from by repeat (first | (with_reducible first | exact HI0.out | apply IsS77.alloc | apply IsS77.drewN | apply IsS77.drew | apply IsS77.set_1 | apply IsS77.set_2 | refine IsS77.far ?_ NB0_341.out _ | refine IsS77.far ?_ NB0_349.out _) | exact HI0.out)) (rr_ HO375.out) (by decide)) hk (fun _ h => h.2)) (fun _ h => h.1))
 have n5_ := aM (KeepBut.trans qz8 hk (.inl rfl))
 have n6_ := aM (hb)
 have n7_ := aM (hi)
 clear BK341
 clear HO346
 clear BK349
 clear HO372
 clear HO375
 clear HK
 clear HB
 clear HI0
 have BK341 := n0_
 have HO346 := n1_
 have BK349 := n2_
 have HO372 := n3_
 have HO375 := n4_
 have HK := n5_
 have HB := n6_
 have HI0 := n7_
 clear n0_ n1_ n2_ n3_ n4_ n5_ n6_ n7_
 (try clear hb)
 (try clear hb2)
 (try clear hk)
 (try clear hi)
 have p46 : 0 ≤ (0 : Int) := (by omega)
 have q46 : (0 : Int) < ((t370.length : Int) : Int) := of_decide_eq_true qz2
 have qi46 : (0 < t370.length) = True := eq_true (by omega)
 obtain ⟨go46, co46, eo46, gb46, gl46, cl46, HG46⟩ := Kd.R_form HO372.out (by omega)
 (first | cases eo46 | (injection eo46 with ea_ en_ ec_; (first | subst ea_ | (injection ea_ with ea_; subst ea_)); subst ec_; clear en_))
 have GB46 := aM gb46
 have GG46 := aM HG46
 clear gb46 gl46 HG46
 obtain ⟨hx46_0, hf46_0⟩ := Kd.R_celln 0 HO372.out (0 : Int) p46 q46
 (try rw [show ((0 : Int)).toNat = 0 from rfl] at hx46_0)
 (try simp only [Nat.reduceMul, Nat.zero_mul, Nat.zero_add, Nat.reduceAdd] at hx46_0)
 (try rw [show ((0 : Int)).toNat = 0 from rfl] at hf46_0)
 (try simp only [Nat.reduceMul, Nat.zero_mul, Nat.zero_add, Nat.reduceAdd] at hf46_0)
 replace p46 := eq_true p46
 replace q46 := eq_true q46
 have HN0_go46 := aM (show g ≠ go46 from by have h_ := IsS77.own_ne HI0.out HO372.out (by decide); intro e_; exact h_ (by rw [e_]; rfl))
 have HP65 := Kd.R_putn HO372.out (0 : Int) t376
 rw [← Ny379.out] at HP65
 have HQ65 := aM HP65
 clear HP65
 refine hK.out _ _ ⟨(blk_cell BK349.out 0).trans rfl, (blk_cell BK349.out 1).trans rfl, (blk_cell BK349.out 2).trans rfl⟩ (fun hHeld => ?_)
 clear hK K
 refine norm_ (a' := ?_) ?_ ?_
 rotate_left
 {
 show Act.put _ (some 34) _ = _
 simp only [qzs]
 rfl
 }
 refine pure_ (i := 5) (N := some 35) (v := ?_) (a' := ?_) #[true, true, true, true, true, true, false] rfl rfl (by kernel_rfl) qzd (Or.inl ⟨by rfl, ?_⟩) ?_ ?_
 rotate_left
 {
 intro w'
 go_simp
 with_reducible rfl
 }
 rotate_left
 {
 simp only [qzs]
 rfl
 }
 refine last_ (i := 6) (N := none) #[true, true, true, true, true, true, true] rfl rfl (by kernel_rfl) (by decide) (fun K hK => ?_)
 refine skip_ (w1 := ?_) (by rfl) rfl ?_ ?_
 rotate_left
 {
 go_simp
 rfl
 }
 refine hK.out _ _ ?_
 clear hK K
 refine done_ (by kernel_rfl) ?_
 generalize hq_ : (w64.setCell ⟨go46, 0, none⟩ (.int .i64 t376)) = w66
 have n0_ : Aside0 (Kd.R (Kd.int .i64) 3 w66 w.heap.size (fun k_ => some k_ ≠ (.slice (some ⟨go46, 0, none⟩) t370.length co58 : Value).ownBlock ∧ some k_ ≠ (.slice Ao63 y373.length co63 : Value).ownBlock) (.slice Ao53 t344.length co53) t344) := ⟨by rw [← hq_]; exact (by (with_reducible repeat (first | apply Kd.R_alloc | apply Kd.R_drewN | apply Kd.R_drew)); exact Kd.R_mono (Kd.R_far (p := ⟨go46, 0, none⟩) (Kd.R_mono HO346.out (fun k_ hk => (⟨hk, fun e_ => hk.1 (by rw [e_]; rfl)⟩ : _ ∧ k_ ≠ go46))) (fun _ hk => hk.2) (.int .i64 t376)) (fun _ hk => ⟨hk.1.1, hk.1.2⟩))⟩
 have n1_ : Aside0 (Kd.R (Kd.int .i64) 3 w66 w.heap.size (fun k_ => some k_ ≠ (.slice Ao53 t344.length co53 : Value).ownBlock ∧ some k_ ≠ (.slice Ao63 y373.length co63 : Value).ownBlock) (.slice (some ⟨go46, 0, none⟩) t370.length co58) y379) := ⟨by rw [← hq_]; exact (rr_ HQ65.out)⟩
 have n2_ : Aside0 (Kd.R (Kd.int .i64) 3 w66 w.heap.size (fun k_ => some k_ ≠ (.slice Ao53 t344.length co53 : Value).ownBlock ∧ some k_ ≠ (.slice (some ⟨go46, 0, none⟩) t370.length co58 : Value).ownBlock) (.slice Ao63 y373.length co63) y373) := ⟨by rw [← hq_]; exact (by (with_reducible repeat (first | apply Kd.R_alloc | apply Kd.R_drewN | apply Kd.R_drew)); exact Kd.R_mono (Kd.R_far (p := ⟨go46, 0, none⟩) (Kd.R_mono HO375.out (fun k_ hk => (⟨hk, fun e_ => hk.2 (by rw [e_]; rfl)⟩ : _ ∧ k_ ≠ go46))) (fun _ hk => hk.2) (.int .i64 t376)) (fun _ hk => ⟨hk.1.1.2, hk.1.2⟩))⟩
 have n3_ : Aside0 (w66.heap[gb341]? = some (.cells #[.int .i64 0, .int .i64 0, .slice none 0 0] 43 (0, 0))) := ⟨by rw [← hq_]; exact (by (with_reducible repeat (first | refine blk_drewN ?_ _ | refine blk_drew ?_ | refine blk_alloc ?_ _)); refine blk_far ?_ (by have h_ := Kd.R_ne HO372.out BK341.out (by decide); intro e_; exact h_ (by rw [e_]; rfl)) _; exact bk_ BK341.out)⟩
 have n4_ : Aside0 (w66.heap[gb349]? = some (.cells #[.int .i64 t368, .int .i64 t369, .slice (some ⟨go46, 0, none⟩) t370.length co58] 43 (0, 0))) := ⟨by rw [← hq_]; exact (by (with_reducible repeat (first | refine blk_drewN ?_ _ | refine blk_drew ?_ | refine blk_alloc ?_ _)); refine blk_far ?_ (by have h_ := Kd.R_ne HO372.out BK349.out (by decide); intro e_; exact h_ (by rw [e_]; rfl)) _; exact bk_ BK349.out)⟩
 have n5_ : Aside0 (IsS77 w0 w66 g s0_0 t377 t378) := ⟨by rw [← hq_]; exact (by repeat (first | (with_reducible first | exact HI0.out | apply IsS77.alloc | apply IsS77.drewN | apply IsS77.drew | apply IsS77.set_1 | apply IsS77.set_2 | refine IsS77.far ?_ HN0_go46.out _ | refine IsS77.far ?_ NB0_341.out _ | refine IsS77.far ?_ NB0_349.out _) | exact HI0.out))⟩
 have n6_ : Aside0 (KeepBut w w66 g none) := ⟨by rw [← hq_]; exact (by repeat (first | (with_reducible first | exact HK.out | apply KeepBut.set_ | apply keep_drewN | apply keep_drew | apply keep_alloc | refine keep_far ?_ GB46.out _ | refine keep_far ?_ GW341.out _ | refine keep_far ?_ GW349.out _) | exact HK.out))⟩
 have n7_ : Aside0 (Below w0.heap.size w0 w66) := ⟨by rw [← hq_]; exact (by repeat (first | (with_reducible first | exact HB.out | apply below_alloc | apply pw_below_drewN | apply below_drew1 | refine below_set ?_ (Nat.le_trans HL.out GB46.out) | refine below_set ?_ (IsS77.ge HI0.out) | refine below_set ?_ GE341.out | refine below_set ?_ GE349.out) | exact HB.out))⟩
 (try clear HO346)
 (try clear HO372)
 (try clear HO375)
 (try clear BK341)
 (try clear BK349)
 (try clear HI0)
 (try clear HK)
 (try clear HB)
 clear hq_
 have HO346 := n0_
 have HO372 := n1_
 have HO375 := n2_
 have BK341 := n3_
 have BK349 := n4_
 have HI0 := n5_
 have HK := n6_
 have HB := n7_
 clear n0_ n1_ n2_ n3_ n4_ n5_ n6_ n7_
 obtain ⟨hcz67_0, hcz67_1, hcz67_2, hfz67_0, hfz67_1, hfz67_2⟩ := b6_ BK349.out
 have hnb68 := NB341_0.out
 have hnc68 := NB0_341.out
 obtain ⟨hcz69_0, hcz69_1, hcz69_2, hfz69_0, hfz69_1, hfz69_2⟩ := b6_ BK341.out
 try go_wp2
 refine bodyPost_ret (results_cell_row rfl _ _ gb341 43 #[.int .i64 t368, .int .i64 t369, .slice (some ⟨go46, 0, none⟩) t370.length co58] (0, 0) _ rfl (by (with_reducible repeat (first | refine blk_drewN ?_ _ | refine blk_drew ?_ | refine blk_alloc ?_ _)); refine blk_put (cs := #[.int .i64 t368, .int .i64 t369, .slice none 0 0]) ?_ 2 _ rfl; (with_reducible repeat (first | refine blk_drewN ?_ _ | refine blk_drew ?_ | refine blk_alloc ?_ _)); refine blk_put (cs := #[.int .i64 t368, .int .i64 0, .slice none 0 0]) ?_ 1 _ rfl; (with_reducible repeat (first | refine blk_drewN ?_ _ | refine blk_drew ?_ | refine blk_alloc ?_ _)); refine blk_put (cs := #[.int .i64 0, .int .i64 0, .slice none 0 0]) ?_ 0 _ rfl; exact bk_ BK341.out) Try.underlying43 rfl (by kernel_rfl)) rfl ?_
 exact ⟨_, by first | rfl | (simp [errW_none, errW_some] <;> rfl) | (simp [*, errW_none, errW_some] <;> rfl), by (with_reducible repeat (first | apply Kd.R_alloc | apply Kd.R_drewN | apply Kd.R_drew)); exact Kd.R_mono (Kd.R_far (p := ⟨gb341, 2, none⟩) (Kd.R_far (p := ⟨gb341, 1, none⟩) (Kd.R_far (p := ⟨gb341, 0, none⟩) (Kd.R_types HO372.out BK341.out (by decide)) (fun _ hk => hk.2) (.int .i64 t368)) (fun _ hk => hk.2) (.int .i64 t369)) (fun _ hk => hk.2) (.slice (some ⟨go46, 0, none⟩) t370.length co58)) (fun _ hk => trivial), by repeat (first | (with_reducible first | exact HI0.out | apply IsS77.alloc | apply IsS77.drewN | apply IsS77.drew | apply IsS77.set_1 | apply IsS77.set_2 | refine IsS77.far ?_ NB0_341.out _ | refine IsS77.far ?_ NB0_349.out _) | exact HI0.out), by repeat (first | (with_reducible first | exact HB.out | apply below_alloc | apply pw_below_drewN | apply below_drew1 | refine below_set ?_ (IsS77.ge HI0.out) | refine below_set ?_ GE341.out | refine below_set ?_ GE349.out) | exact HB.out), by repeat (first | (with_reducible first | exact HK.out | apply KeepBut.set_ | apply keep_drewN | apply keep_drew | apply keep_alloc | refine keep_far ?_ GW341.out _ | refine keep_far ?_ GW349.out _) | exact HK.out)⟩
 }
 {
 rw [if_neg c45] at H
 exact absurd H (by simp)
 }
 }
 {
 rw [if_neg c42] at H
 have c42b0 := beq_eq_false_iff_ne.mpr c42
 have c42b1 := bne_iff_ne.mpr c42
 simp only [Option.some.injEq, Prod.mk.injEq] at H
 obtain ⟨rfl, rfl, rfl, rfl, rfl⟩ := H
 go_enter Try.func52, Try.ntmps52
 go_wp2_with (first | ((with_reducible refine gate_dst (N := 2) rfl ?_); refine bx_ 2 #[.int .i64 0, .int .i64 0, .slice none 0 0] 43 ?_; intro gb341 hg w70 hbox hb; have n0_ := aM (IsS77.below qz30 hb); have n1_ := aM (KeepBut.trans qz7 (KeepBut.of_below hb g none) (.inl rfl)); have n2_ := aM (below_step qz29 hb); have n3_ := aM (hbox); have n4_ := aM ((by rw [hg]; exact (keep_size (w := w) (g := g) (row := none) qz7) : w.heap.size ≤ gb341)); have n5_ := aM ((Nat.le_trans HW0.out (by rw [hg]; exact (keep_size (w := w) (g := g) (row := none) qz7) : w.heap.size ≤ gb341) : w0.heap.size ≤ gb341)); have n6_ := aM ((by rw [hg]; exact Nat.ne_of_lt (IsS77.lt (show IsS77 w0 _ g s0_0 s0_1 s0_2 from by repeat (first | (with_reducible first | exact HI0.out | apply IsS77.alloc | apply IsS77.drewN | apply IsS77.drew | apply IsS77.set_1 | apply IsS77.set_2) | exact HI0.out))) : g ≠ gb341)); have n7_ := aM ((by rw [hg]; exact Nat.ne_of_gt (IsS77.lt (show IsS77 w0 _ g s0_0 s0_1 s0_2 from by repeat (first | (with_reducible first | exact HI0.out | apply IsS77.alloc | apply IsS77.drewN | apply IsS77.drew | apply IsS77.set_1 | apply IsS77.set_2) | exact HI0.out))) : gb341 ≠ g)); clear HI0 HK HB; have HI0 := n0_; have HK := n1_; have HB := n2_; have BK341 := n3_; have GW341 := n4_; have GE341 := n5_; have NB0_341 := n6_; have NB341_0 := n7_; clear n0_ n1_ n2_ n3_ n4_ n5_ n6_ n7_; clear hb hbox hg) | ((with_reducible refine gate_callee (f := 69) rfl ?_); refine goesL_ (some 5) rfl rfl Try.func69 (by kernel_rfl) rfl #[.pointer (some ⟨g, 0, none⟩)] rfl qz3 ?_; (with_reducible refine (spec_l1Floor.calls k g s0_0 s0_1 s0_2 t342 t343 t344 t347 t348 w0 _ ?side1 ?side2 A2.out).mono ?_); (case side1 => exact qz52); (case side2 => exact qz53); rintro e w71 ⟨v345, rfl, ho0, hi, hb, hk⟩; refine ⟨_, rfl, ?_⟩; have n0_ := aM (KeepBut.blk hk (bk_ BK341.out) NB341_0.out (by simp)); have n1_ := aM (Kd.R_lower ho0 (keep_size (w := w) (g := g) (row := none) qz11)); have n2_ := aM (KeepBut.trans qz11 hk (.inl rfl)); have n3_ := aM (hb); have n4_ := aM (hi); clear BK341 HK HB HI0; have BK341 := n0_; have HO346 := n1_; have HK := n2_; have HB := n3_; have HI0 := n4_; clear n0_ n1_ n2_ n3_ n4_; (try clear hb); (try clear hb2); (try clear hk); (try clear hi); (try clear ho0)) | ((with_reducible refine gate_dst (N := 3) rfl ?_); refine bx_ 3 #[.int .i64 0, .int .i64 0, .slice none 0 0] 43 ?_; intro gb349 hg w72 hbox hb; have n0_ := aM (Kd.R_below (rr_ HO346.out) hb); have n1_ := aM (IsS77.below qz52 hb); have n2_ := aM (blk_below (bk_ BK341.out) hb); have n3_ := aM (KeepBut.trans qz11 (KeepBut.of_below hb g none) (.inl rfl)); have n4_ := aM (below_step qz53 hb); have n5_ := aM (hbox); have n6_ := aM ((by rw [hg]; exact (keep_size (w := w) (g := g) (row := none) qz11) : w.heap.size ≤ gb349)); have n7_ := aM ((Nat.le_trans HW0.out (by rw [hg]; exact (keep_size (w := w) (g := g) (row := none) qz11) : w.heap.size ≤ gb349) : w0.heap.size ≤ gb349)); have n8_ := aM ((by rw [hg]; exact Nat.ne_of_lt (blk_lt (bk_ BK341.out)) : gb341 ≠ gb349)); have n9_ := aM ((by rw [hg]; exact Nat.ne_of_gt (blk_lt (bk_ BK341.out)) : gb349 ≠ gb341)); have n10_ := aM ((by rw [hg]; exact Nat.ne_of_lt (IsS77.lt (show IsS77 w0 _ g s0_0 t347 t348 from by repeat (first | (with_reducible first | exact HI0.out | apply IsS77.alloc | apply IsS77.drewN | apply IsS77.drew | apply IsS77.set_1 | apply IsS77.set_2 | refine IsS77.far ?_ NB0_341.out _) | exact HI0.out))) : g ≠ gb349)); have n11_ := aM ((by rw [hg]; exact Nat.ne_of_gt (IsS77.lt (show IsS77 w0 _ g s0_0 t347 t348 from by repeat (first | (with_reducible first | exact HI0.out | apply IsS77.alloc | apply IsS77.drewN | apply IsS77.drew | apply IsS77.set_1 | apply IsS77.set_2 | refine IsS77.far ?_ NB0_341.out _) | exact HI0.out))) : gb349 ≠ g)); clear HO346 HI0 BK341 HK HB; have HO346 := n0_; have HI0 := n1_; have BK341 := n2_; have HK := n3_; have HB := n4_; have BK349 := n5_; have GW349 := n6_; have GE349 := n7_; have NB341_349 := n8_; have NB349_341 := n9_; have NB0_349 := n10_; have NB349_0 := n11_; clear n0_ n1_ n2_ n3_ n4_ n5_ n6_ n7_ n8_ n9_ n10_ n11_; clear hb hbox hg; have hnb73 := NB349_341.out; have hnc73 := NB341_349.out; have hnb74 := NB349_0.out; have hnc74 := NB0_349.out; obtain ⟨hcz75_0, hcz75_1, hcz75_2, hfz75_0, hfz75_1, hfz75_2⟩ := b6_ BK349.out; obtain ⟨Ao76, co76, eo76⟩ := Kd.R_slice HO346.out; subst eo76) | ((with_reducible refine gate_callee (f := 68) rfl ?_); refine goesL_ (some 7) rfl rfl Try.func68 (by kernel_rfl) rfl #[.pointer (some ⟨g, 0, none⟩), .int .i64 14] rfl qz3 ?_; (with_reducible refine (spec_l1Below.calls g s0_0 t347 t348 14 t350 t351 t352 w0 _ ?side1 ?side2 A3.out).mono ?_); (case side1 => exact qz24); (case side2 => exact qz26); rintro e w77 ⟨rfl, hi, hb, hk⟩; refine ⟨_, rfl, ?_⟩; have n0_ := aM (KeepBut.blk hk (g' := gb341) (o := .cells #[.int .i64 0, .int .i64 0, .slice none 0 0] 43 (0, 0)) qz21 NB341_0.out (by simp)); have n1_ := aM (Kd.R_mono (Kd.R_keep (IsS77.apart (show IsS77 w0 _ g s0_0 t347 t348 from by repeat (first | (with_reducible first | exact HI0.out | apply IsS77.alloc | apply IsS77.drewN | apply IsS77.drew | apply IsS77.set_1 | apply IsS77.set_2 | refine IsS77.far ?_ NB0_341.out _ | refine IsS77.far ?_ NB0_349.out _) | exact HI0.out)) (by (with_reducible repeat (first | apply Kd.R_alloc | apply Kd.R_drewN | apply Kd.R_drew)); exact (Kd.R_mono (Kd.R_far (p := ⟨gb349, 2, none⟩) (Kd.R_far (p := ⟨gb349, 1, none⟩) (Kd.R_far (p := ⟨gb349, 0, none⟩) (Kd.R_types HO346.out BK349.out (by decide)) (fun _ hk => hk.2) (.int .i64 t342)) (fun _ hk => hk.2) (.int .i64 t343)) (fun _ hk => hk.2) (.slice Ao76 t344.length co76)) (fun _ h_ => h_.1))) (by decide)) hk (fun _ h => h.2)) (fun _ h => h.1)); have n2_ := aM (KeepBut.blk hk (g' := gb349) (o := .cells #[.int .i64 t342, .int .i64 t343, .slice Ao76 t344.length co76] 43 (0, 0)) (by (with_reducible repeat (first | refine blk_drewN ?_ _ | refine blk_drew ?_ | refine blk_alloc ?_ _)); refine blk_put (cs := #[.int .i64 t342, .int .i64 t343, .slice none 0 0]) ?_ 2 _ rfl; (with_reducible repeat (first | refine blk_drewN ?_ _ | refine blk_drew ?_ | refine blk_alloc ?_ _)); refine blk_put (cs := #[.int .i64 t342, .int .i64 0, .slice none 0 0]) ?_ 1 _ rfl; (with_reducible repeat (first | refine blk_drewN ?_ _ | refine blk_drew ?_ | refine blk_alloc ?_ _)); refine blk_put (cs := #[.int .i64 0, .int .i64 0, .slice none 0 0]) ?_ 0 _ rfl; exact bk_ BK349.out) NB349_0.out (by simp)); have n3_ := aM (KeepBut.trans qz8 hk (.inl rfl)); have n4_ := aM (hb); have n5_ := aM (hi); clear BK341 HO346 BK349 HK HB HI0; have BK341 := n0_; have HO346 := n1_; have BK349 := n2_; have HK := n3_; have HB := n4_; have HI0 := n5_; clear n0_ n1_ n2_ n3_ n4_ n5_; (try clear hb); (try clear hb2); (try clear hk); (try clear hi); obtain ⟨hcz78_0, hcz78_1, hcz78_2, hfz78_0, hfz78_1, hfz78_2⟩ := b6_ BK349.out; have hnb79 := NB341_0.out; have hnc79 := NB0_341.out; obtain ⟨hcz80_0, hcz80_1, hcz80_2, hfz80_0, hfz80_1, hfz80_2⟩ := b6_ BK341.out))
 refine bodyPost_ret (results_cell_row rfl _ _ gb341 43 #[.int .i64 t342, .int .i64 t343, .slice Ao76 t344.length co76] (0, 0) _ rfl (by (with_reducible repeat (first | refine blk_drewN ?_ _ | refine blk_drew ?_ | refine blk_alloc ?_ _)); refine blk_put (cs := #[.int .i64 t342, .int .i64 t343, .slice none 0 0]) ?_ 2 _ rfl; (with_reducible repeat (first | refine blk_drewN ?_ _ | refine blk_drew ?_ | refine blk_alloc ?_ _)); refine blk_put (cs := #[.int .i64 t342, .int .i64 0, .slice none 0 0]) ?_ 1 _ rfl; (with_reducible repeat (first | refine blk_drewN ?_ _ | refine blk_drew ?_ | refine blk_alloc ?_ _)); refine blk_put (cs := #[.int .i64 0, .int .i64 0, .slice none 0 0]) ?_ 0 _ rfl; exact bk_ BK341.out) Try.underlying43 rfl (by kernel_rfl)) rfl ?_
 exact ⟨_, by first | rfl | (simp [errW_none, errW_some] <;> rfl) | (simp [*, errW_none, errW_some] <;> rfl), by (with_reducible repeat (first | apply Kd.R_alloc | apply Kd.R_drewN | apply Kd.R_drew)); exact Kd.R_mono (Kd.R_far (p := ⟨gb341, 2, none⟩) (Kd.R_far (p := ⟨gb341, 1, none⟩) (Kd.R_far (p := ⟨gb341, 0, none⟩) (Kd.R_types HO346.out BK341.out (by decide)) (fun _ hk => hk.2) (.int .i64 t342)) (fun _ hk => hk.2) (.int .i64 t343)) (fun _ hk => hk.2) (.slice Ao76 t344.length co76)) (fun _ hk => trivial), by repeat (first | (with_reducible first | exact HI0.out | apply IsS77.alloc | apply IsS77.drewN | apply IsS77.drew | apply IsS77.set_1 | apply IsS77.set_2 | refine IsS77.far ?_ NB0_341.out _ | refine IsS77.far ?_ NB0_349.out _) | exact HI0.out), by repeat (first | (with_reducible first | exact HB.out | apply below_alloc | apply pw_below_drewN | apply below_drew1 | refine below_set ?_ (IsS77.ge HI0.out) | refine below_set ?_ GE341.out | refine below_set ?_ GE349.out) | exact HB.out), by repeat (first | (with_reducible first | exact HK.out | apply KeepBut.set_ | apply keep_drewN | apply keep_drew | apply keep_alloc | refine keep_far ?_ GW341.out _ | refine keep_far ?_ GW349.out _) | exact HK.out)⟩

 }
 }
 }
/-! ### spec_DrawSound: function 26 -/
def spec_DrawSound.f (k : Nat) (l0 : List Int) : Option (Int × Int × List Int) := (spec_l1New.f k l0).bind fun bt381 => ((spec_l1Once.f bt381.1 bt381.2.1 bt381.2.2 2).bind fun bt385 => (if bt385.1 = true then ((spec_l3Sound.f k bt381.1 bt385.2.1 bt385.2.2).bind fun bt388 => (some (bt388.1, bt388.2.1, bt388.2.2.1))) else ((spec_l1FloorAny.f k bt381.1 bt385.2.1 bt385.2.2).bind fun bt395 => (some (bt395.1, bt395.2.1, bt395.2.2.1)))))
theorem spec_DrawSound.mono : ∀ a0 k, LeO (spec_DrawSound.f k a0) (spec_DrawSound.f (k + 1) a0) := by
 intro a0 k
 unfold spec_DrawSound.f
 repeat' first
  | (with_reducible first | exact spec_l1FloorAny.mono _ _ _ _ | exact spec_l1New.mono _ _ | exact spec_l3Sound.mono _ _ _ _ | exact LeO.refl _ | exact LeO.none _ | refine LeO.ite ?_ ?_ | refine LeO.bind ?_ (fun _ => ?_))
  | exact spec_l1FloorAny.mono _ _ _ _
  | exact spec_l1New.mono _ _
  | exact spec_l3Sound.mono _ _ _ _
  | exact LeO.none _
  | refine LeO.ite ?_ ?_
  | refine LeO.bind ?_ (fun _ => ?_)
set_option maxHeartbeats 8000000 in
set_option maxRecDepth 100000 in
theorem spec_DrawSound.calls (k : Nat) (A0 : Option Addr) (c0 : Nat) (l0 : List Int) (r1 : Int) (r2 : Int) (r3 : List Int) (w : World) (hr0 : Kd.C (Kd.int .u8) w A0 l0.length l0) (hc0 : l0.length ≤ c0) (h : spec_DrawSound.f k l0 = some (r1, r2, r3)) :
  Calls Try.prog 26 #[.slice A0 l0.length c0] w fun e w' => ∃ v2_ : Value, e = .returned (.agg #[.int .i64 r1, .int .i64 r2, v2_]) ∧ Kd.R (Kd.int .i64) 3 w' w.heap.size (fun _ => True) v2_ r3 ∧ Below w.heap.size w w' := by
 have hu43 := Try.underlying43
 have HR0 := aM hr0
 have HC0 := aM hc0
 clear hr0 hc0
 have HB := aM (Below.refl w.heap.size w)
 have H : ((spec_l1New.f k l0).bind fun bt381 => ((spec_l1Once.f bt381.1 bt381.2.1 bt381.2.2 2).bind fun bt385 => (if bt385.1 = true then ((spec_l3Sound.f k bt381.1 bt385.2.1 bt385.2.2).bind fun bt388 => (some (bt388.1, bt388.2.1, bt388.2.2.1))) else ((spec_l1FloorAny.f k bt381.1 bt385.2.1 bt385.2.2).bind fun bt395 => (some (bt395.1, bt395.2.1, bt395.2.2.1)))))) = some (r1, r2, r3) := h
 clear h
 replace H := Option.bind_eq_some_iff.mp H
 obtain ⟨⟨t381, t382, t383⟩, A20, H⟩ := H
 replace H : ((spec_l1Once.f t381 t382 t383 2).bind fun bt385 => (if bt385.1 = true then ((spec_l3Sound.f k t381 bt385.2.1 bt385.2.2).bind fun bt388 => (some (bt388.1, bt388.2.1, bt388.2.2.1))) else ((spec_l1FloorAny.f k t381 bt385.2.1 bt385.2.2).bind fun bt395 => (some (bt395.1, bt395.2.1, bt395.2.2.1))))) = some (r1, r2, r3) := H
 have A2 := aM A20
 clear A20
 replace H := Option.bind_eq_some_iff.mp H
 obtain ⟨⟨t385, t386, t387⟩, A30, H⟩ := H
 replace H : (if t385 = true then ((spec_l3Sound.f k t381 t386 t387).bind fun bt388 => (some (bt388.1, bt388.2.1, bt388.2.2.1))) else ((spec_l1FloorAny.f k t381 t386 t387).bind fun bt395 => (some (bt395.1, bt395.2.1, bt395.2.2.1)))) = some (r1, r2, r3) := H
 have A3 := aM A30
 clear A30
 by_cases c4 : t385 = true
 {
 subst c4
 rw [if_pos rfl] at H
 replace H := Option.bind_eq_some_iff.mp H
 obtain ⟨⟨t388, t389, t390, t393, t394⟩, A50, H⟩ := H
 replace H : (some (t388, t389, t390)) = some (r1, r2, r3) := H
 have A5 := aM A50
 clear A50
 simp only [Option.some.injEq, Prod.mk.injEq] at H
 obtain ⟨rfl, rfl, rfl⟩ := H
 go_enter Try.func26, Try.ntmps26
 go_wp2_with (first | ((with_reducible refine gate_dst (N := 2) rfl ?_); refine bx_ 2 #[.int .i64 0, .int .i64 0, .slice none 0 0] 43 ?_; intro gb380 hg w6 hbox hb; have n0_ := aM (below_step qz1 hb); have n1_ := aM (hbox); have n2_ := aM ((by rw [hg]; exact (below_size qz1) : w.heap.size ≤ gb380)); have n3_ := aM ((by rw [hg]; exact (below_size qz1) : w.heap.size ≤ gb380)); clear HB; have HB := n0_; have BK380 := n1_; have GW380 := n2_; have GE380 := n3_; clear n0_ n1_ n2_ n3_; clear hb hbox hg) | ((with_reducible refine gate_callee (f := 39) rfl ?_); refine goesL_ (some 5) rfl rfl Try.func39 (by kernel_rfl) rfl #[.slice A0 l0.length c0] rfl qz3 ?_; (with_reducible refine (spec_l1New.calls k _ _ l0 t381 t382 t383 w _ ?side1 ?side2 ?side3 A2.out).mono ?_); (case side1 => repeat (first | (with_reducible first | exact HB.out | apply below_alloc | apply pw_below_drewN | apply below_drew1 | refine below_set ?_ GE380.out) | exact HB.out)); (case side2 => exact HR0.out); (case side3 => exact HC0.out); rintro e w7 ⟨g384, rfl, hi, hb, hb2⟩; refine ⟨_, rfl, ?_⟩; have n0_ := aM (blk_below (bk_ BK380.out) hb2); have n1_ := aM (hb); have n2_ := aM (hi); have n3_ := aM (IsS77.ne_blk hi (blk_below (bk_ BK380.out) hb2) (by decide)); have n4_ := aM (Ne.symm (IsS77.ne_blk hi (blk_below (bk_ BK380.out) hb2) (by decide))); clear BK380 HB; have BK380 := n0_; have HB := n1_; have HI384 := n2_; have NB384_380 := n3_; have NB380_384 := n4_; clear n0_ n1_ n2_ n3_ n4_; (try clear hb); (try clear hb2); (try clear hk); (try clear hi)) | ((with_reducible refine gate_callee (f := 47) rfl ?_); refine goesL_ (some 7) rfl rfl Try.func47 (by kernel_rfl) rfl #[.pointer (some ⟨g384, 0, none⟩), .int .i64 2] rfl qz3 ?_; (with_reducible refine (spec_l1Once.calls g384 t381 t382 t383 2 true t386 t387 w _ ?side1 ?side2 A3.out).mono ?_); (case side1 => exact qz54); (case side2 => exact qz56); rintro e w8 ⟨rfl, hi, hb, hk⟩; refine ⟨_, rfl, ?_⟩; have n0_ := aM (KeepBut.blk hk (bk_ BK380.out) NB380_384.out (by simp)); have n1_ := aM (hb); have n2_ := aM (hi); clear BK380 HB HI384; have BK380 := n0_; have HB := n1_; have HI384 := n2_; clear n0_ n1_ n2_; (try clear hb); (try clear hb2); (try clear hk); (try clear hi)) | ((with_reducible refine gate_callee (f := 51) rfl ?_); refine goesL_ (some 9) rfl rfl Try.func51 (by kernel_rfl) rfl #[.pointer (some ⟨g384, 0, none⟩)] rfl qz3 ?_; (with_reducible refine (spec_l3Sound.calls k g384 t381 t386 t387 t388 t389 t390 t393 t394 w _ ?side1 ?side2 A5.out).mono ?_); (case side1 => exact qz54); (case side2 => exact qz56); rintro e w9 ⟨v391, rfl, ho0, hi, hb, hk⟩; refine ⟨_, rfl, ?_⟩; have n0_ := aM (KeepBut.blk hk (bk_ BK380.out) NB380_384.out (by simp)); have n1_ := aM (Kd.R_lower ho0 (below_size qz56)); have n2_ := aM (hb); have n3_ := aM (hi); clear BK380 HB HI384; have BK380 := n0_; have HO392 := n1_; have HB := n2_; have HI384 := n3_; clear n0_ n1_ n2_ n3_; (try clear hb); (try clear hb2); (try clear hk); (try clear hi); (try clear ho0); have hnb10 := NB380_384.out; have hnc10 := NB384_380.out; obtain ⟨hcz11_0, hcz11_1, hcz11_2, hfz11_0, hfz11_1, hfz11_2⟩ := b6_ BK380.out; obtain ⟨Ao12, co12, eo12⟩ := Kd.R_slice HO392.out; subst eo12))
 refine bodyPost_ret (results_cell_row rfl _ _ gb380 43 #[.int .i64 t388, .int .i64 t389, .slice Ao12 t390.length co12] (0, 0) _ rfl (by (with_reducible repeat (first | refine blk_drewN ?_ _ | refine blk_drew ?_ | refine blk_alloc ?_ _)); refine blk_put (cs := #[.int .i64 t388, .int .i64 t389, .slice none 0 0]) ?_ 2 _ rfl; (with_reducible repeat (first | refine blk_drewN ?_ _ | refine blk_drew ?_ | refine blk_alloc ?_ _)); refine blk_put (cs := #[.int .i64 t388, .int .i64 0, .slice none 0 0]) ?_ 1 _ rfl; (with_reducible repeat (first | refine blk_drewN ?_ _ | refine blk_drew ?_ | refine blk_alloc ?_ _)); refine blk_put (cs := #[.int .i64 0, .int .i64 0, .slice none 0 0]) ?_ 0 _ rfl; exact bk_ BK380.out) Try.underlying43 rfl (by kernel_rfl)) rfl ?_
 exact ⟨_, by first | rfl | (simp [errW_none, errW_some] <;> rfl) | (simp [*, errW_none, errW_some] <;> rfl), by (with_reducible repeat (first | apply Kd.R_alloc | apply Kd.R_drewN | apply Kd.R_drew)); exact Kd.R_mono (Kd.R_far (p := ⟨gb380, 2, none⟩) (Kd.R_far (p := ⟨gb380, 1, none⟩) (Kd.R_far (p := ⟨gb380, 0, none⟩) (Kd.R_types HO392.out BK380.out (by decide)) (fun _ hk => hk.2) (.int .i64 t388)) (fun _ hk => hk.2) (.int .i64 t389)) (fun _ hk => hk.2) (.slice Ao12 t390.length co12)) (fun _ hk => trivial), by repeat (first | (with_reducible first | exact HB.out | apply below_alloc | apply pw_below_drewN | apply below_drew1 | refine below_set ?_ (IsS77.ge HI384.out) | refine below_set ?_ GE380.out) | exact HB.out)⟩
 }
 {
 replace c4 := Bool.eq_false_iff.mpr c4
 subst c4
 rw [if_neg (show ¬ (false = true) by decide)] at H
 replace H := Option.bind_eq_some_iff.mp H
 obtain ⟨⟨t395, t396, t397, t400, t401⟩, A130, H⟩ := H
 replace H : (some (t395, t396, t397)) = some (r1, r2, r3) := H
 have A13 := aM A130
 clear A130
 simp only [Option.some.injEq, Prod.mk.injEq] at H
 obtain ⟨rfl, rfl, rfl⟩ := H
 go_enter Try.func26, Try.ntmps26
 go_wp2_with (first | ((with_reducible refine gate_dst (N := 2) rfl ?_); refine bx_ 2 #[.int .i64 0, .int .i64 0, .slice none 0 0] 43 ?_; intro gb380 hg w14 hbox hb; have n0_ := aM (below_step qz1 hb); have n1_ := aM (hbox); have n2_ := aM ((by rw [hg]; exact (below_size qz1) : w.heap.size ≤ gb380)); have n3_ := aM ((by rw [hg]; exact (below_size qz1) : w.heap.size ≤ gb380)); clear HB; have HB := n0_; have BK380 := n1_; have GW380 := n2_; have GE380 := n3_; clear n0_ n1_ n2_ n3_; clear hb hbox hg) | ((with_reducible refine gate_callee (f := 39) rfl ?_); refine goesL_ (some 5) rfl rfl Try.func39 (by kernel_rfl) rfl #[.slice A0 l0.length c0] rfl qz3 ?_; (with_reducible refine (spec_l1New.calls k _ _ l0 t381 t382 t383 w _ ?side1 ?side2 ?side3 A2.out).mono ?_); (case side1 => repeat (first | (with_reducible first | exact HB.out | apply below_alloc | apply pw_below_drewN | apply below_drew1 | refine below_set ?_ GE380.out) | exact HB.out)); (case side2 => exact HR0.out); (case side3 => exact HC0.out); rintro e w15 ⟨g384, rfl, hi, hb, hb2⟩; refine ⟨_, rfl, ?_⟩; have n0_ := aM (blk_below (bk_ BK380.out) hb2); have n1_ := aM (hb); have n2_ := aM (hi); have n3_ := aM (IsS77.ne_blk hi (blk_below (bk_ BK380.out) hb2) (by decide)); have n4_ := aM (Ne.symm (IsS77.ne_blk hi (blk_below (bk_ BK380.out) hb2) (by decide))); clear BK380 HB; have BK380 := n0_; have HB := n1_; have HI384 := n2_; have NB384_380 := n3_; have NB380_384 := n4_; clear n0_ n1_ n2_ n3_ n4_; (try clear hb); (try clear hb2); (try clear hk); (try clear hi)) | ((with_reducible refine gate_callee (f := 47) rfl ?_); refine goesL_ (some 7) rfl rfl Try.func47 (by kernel_rfl) rfl #[.pointer (some ⟨g384, 0, none⟩), .int .i64 2] rfl qz3 ?_; (with_reducible refine (spec_l1Once.calls g384 t381 t382 t383 2 false t386 t387 w _ ?side1 ?side2 A3.out).mono ?_); (case side1 => exact qz54); (case side2 => exact qz56); rintro e w16 ⟨rfl, hi, hb, hk⟩; refine ⟨_, rfl, ?_⟩; have n0_ := aM (KeepBut.blk hk (bk_ BK380.out) NB380_384.out (by simp)); have n1_ := aM (hb); have n2_ := aM (hi); clear BK380 HB HI384; have BK380 := n0_; have HB := n1_; have HI384 := n2_; clear n0_ n1_ n2_; (try clear hb); (try clear hb2); (try clear hk); (try clear hi)) | ((with_reducible refine gate_callee (f := 52) rfl ?_); refine goesL_ (some 11) rfl rfl Try.func52 (by kernel_rfl) rfl #[.pointer (some ⟨g384, 0, none⟩)] rfl qz3 ?_; (with_reducible refine (spec_l1FloorAny.calls k g384 t381 t386 t387 t395 t396 t397 t400 t401 w _ ?side1 ?side2 A13.out).mono ?_); (case side1 => exact qz54); (case side2 => exact qz56); rintro e w17 ⟨v398, rfl, ho0, hi, hb, hk⟩; refine ⟨_, rfl, ?_⟩; have n0_ := aM (KeepBut.blk hk (bk_ BK380.out) NB380_384.out (by simp)); have n1_ := aM (Kd.R_lower ho0 (below_size qz56)); have n2_ := aM (hb); have n3_ := aM (hi); clear BK380 HB HI384; have BK380 := n0_; have HO399 := n1_; have HB := n2_; have HI384 := n3_; clear n0_ n1_ n2_ n3_; (try clear hb); (try clear hb2); (try clear hk); (try clear hi); (try clear ho0); have hnb18 := NB380_384.out; have hnc18 := NB384_380.out; obtain ⟨hcz19_0, hcz19_1, hcz19_2, hfz19_0, hfz19_1, hfz19_2⟩ := b6_ BK380.out; obtain ⟨Ao20, co20, eo20⟩ := Kd.R_slice HO399.out; subst eo20))
 refine bodyPost_ret (results_cell_row rfl _ _ gb380 43 #[.int .i64 t395, .int .i64 t396, .slice Ao20 t397.length co20] (0, 0) _ rfl (by (with_reducible repeat (first | refine blk_drewN ?_ _ | refine blk_drew ?_ | refine blk_alloc ?_ _)); refine blk_put (cs := #[.int .i64 t395, .int .i64 t396, .slice none 0 0]) ?_ 2 _ rfl; (with_reducible repeat (first | refine blk_drewN ?_ _ | refine blk_drew ?_ | refine blk_alloc ?_ _)); refine blk_put (cs := #[.int .i64 t395, .int .i64 0, .slice none 0 0]) ?_ 1 _ rfl; (with_reducible repeat (first | refine blk_drewN ?_ _ | refine blk_drew ?_ | refine blk_alloc ?_ _)); refine blk_put (cs := #[.int .i64 0, .int .i64 0, .slice none 0 0]) ?_ 0 _ rfl; exact bk_ BK380.out) Try.underlying43 rfl (by kernel_rfl)) rfl ?_
 exact ⟨_, by first | rfl | (simp [errW_none, errW_some] <;> rfl) | (simp [*, errW_none, errW_some] <;> rfl), by (with_reducible repeat (first | apply Kd.R_alloc | apply Kd.R_drewN | apply Kd.R_drew)); exact Kd.R_mono (Kd.R_far (p := ⟨gb380, 2, none⟩) (Kd.R_far (p := ⟨gb380, 1, none⟩) (Kd.R_far (p := ⟨gb380, 0, none⟩) (Kd.R_types HO399.out BK380.out (by decide)) (fun _ hk => hk.2) (.int .i64 t395)) (fun _ hk => hk.2) (.int .i64 t396)) (fun _ hk => hk.2) (.slice Ao20 t397.length co20)) (fun _ hk => trivial), by repeat (first | (with_reducible first | exact HB.out | apply below_alloc | apply pw_below_drewN | apply below_drew1 | refine below_set ?_ (IsS77.ge HI384.out) | refine below_set ?_ GE380.out) | exact HB.out)⟩

 }
/-! ### impl_open: function 53 -/
def impl_open.l0 : Nat → Int → Int → List Int → Int → Int → Option (Int × Int)
 | 0, _, _, _, _, _ => none
 | k + 1, x4, x5, x9, x10, x11 => if x11 < x10 then (if 0 ≤ x11 then (if x11 < (x9.length : Int) then (if (rd x9 x11) = 0 then (impl_open.l0 k x4 x5 x9 x10 (wrap64 (x11 + 1))) else (if x4 = 0 then (impl_open.l0 k (wrap64 (x4 + 1)) x11 x9 x10 (wrap64 (x11 + 1))) else (impl_open.l0 k (wrap64 (x4 + 1)) x5 x9 x10 (wrap64 (x11 + 1))))) else (none)) else (none)) else (some (x4, x5))
def impl_open.f (k : Nat) (a0_0 : Int) (a0_1 : Int) (l0_2 : List Int) : Option (Int × Int) := impl_open.l0 k 0 (-1) l0_2 (l0_2.length : Int) 0
theorem impl_open.mono_l : ∀ k, (∀ y0 y1 y2 y3 y4, LeO (impl_open.l0 k y0 y1 y2 y3 y4) (impl_open.l0 (k + 1) y0 y1 y2 y3 y4))
 | 0 => fun _ _ _ _ _ r h => by simp [impl_open.l0] at h
 | k + 1 => by
  have ih0 := impl_open.mono_l k
  {
  intro y0 y1 y2 y3 y4
  unfold impl_open.l0
  repeat' first
  | (with_reducible first | exact ih0 _ _ _ _ _ | exact LeO.refl _ | exact LeO.none _ | refine LeO.ite ?_ ?_ | refine LeO.bind ?_ (fun _ => ?_))
  | exact ih0 _ _ _ _ _
  | exact LeO.none _
  | refine LeO.ite ?_ ?_
  | refine LeO.bind ?_ (fun _ => ?_)
  }
theorem impl_open.mono : ∀ a0 a1 a2 k, LeO (impl_open.f k a0 a1 a2) (impl_open.f (k + 1) a0 a1 a2) := by
 intro a0 a1 a2 k
 have ih0 := impl_open.mono_l k
 unfold impl_open.f
 repeat' first
  | (with_reducible first | exact ih0 _ _ _ _ _ | exact LeO.refl _ | exact LeO.none _ | refine LeO.ite ?_ ?_ | refine LeO.bind ?_ (fun _ => ?_))
  | exact ih0 _ _ _ _ _
  | exact LeO.none _
  | refine LeO.ite ?_ ?_
  | refine LeO.bind ?_ (fun _ => ?_)
set_option maxHeartbeats 8000000 in
set_option maxRecDepth 100000 in
theorem impl_open.calls (k : Nat) (a0_0 : Int) (a0_1 : Int) (A0_2 : Option Addr) (c0_2 : Nat) (l0_2 : List Int) (r1 : Int) (r2 : Int) (w : World) (hr0_2 : Kd.C (Kd.int .i64) w A0_2 l0_2.length l0_2) (hc0_2 : l0_2.length ≤ c0_2) (h : impl_open.f k a0_0 a0_1 l0_2 = some (r1, r2)) :
  Calls Try.prog 53 #[.agg #[.int .i64 a0_0, .int .i64 a0_1, .slice A0_2 l0_2.length c0_2]] w fun e w' => e = .returned (.tuple #[.int .i64 r1, .int .i64 r2]) ∧ Below w.heap.size w w' := by
 have hu43 := Try.underlying43
 have HR0_2 := aM hr0_2
 have HC0_2 := aM hc0_2
 clear hr0_2 hc0_2
 have HB := aM (Below.refl w.heap.size w)
 have H : (impl_open.l0 k 0 (-1) l0_2 (l0_2.length : Int) 0) = some (r1, r2) := h
 clear h
 have H' := aM H
 clear H
 go_enter Try.func53, Try.ntmps53
 go_wp2_with (first | ((with_reducible refine gate_dst (N := 1) rfl ?_); refine bx_ 1 #[.int .i64 a0_0, .int .i64 a0_1, .slice A0_2 l0_2.length c0_2] 43 ?_; intro gb402 hg w2 hbox hb; have n0_ := aM (below_step qz1 hb); have n1_ := aM (hbox); have n2_ := aM ((by rw [hg]; exact (below_size qz1) : w.heap.size ≤ gb402)); have n3_ := aM ((by rw [hg]; exact (below_size qz1) : w.heap.size ≤ gb402)); clear HB; have HB := n0_; have BK402 := n1_; have GW402 := n2_; have GE402 := n3_; clear n0_ n1_ n2_ n3_; clear hb hbox hg; obtain ⟨hcz3_0, hcz3_1, hcz3_2, hfz3_0, hfz3_1, hfz3_2⟩ := b6_ BK402.out))
 go_loopg [4, 5, 11] k (fun kq v4 v5 v11 w' => ∃ (x4_1 : Int) (x5_1 : Int) (x11_1 : Int), v4 = .int .i64 x4_1 ∧ v5 = .int .i64 x5_1 ∧ v11 = .int .i64 x11_1 ∧ Aside0 (impl_open.l0 kq x4_1 x5_1 l0_2 (l0_2.length : Int) x11_1 = some (r1, r2)) ∧ Aside0 (kq ≤ k) ∧ Aside0 (w'.heap[gb402]? = some (.cells #[.int .i64 a0_0, .int .i64 a0_1, (.slice A0_2 l0_2.length c0_2)] 43 (0, 0))) ∧ Aside0 (Below w.heap.size w w'))
 case atStart => exact ⟨(0), ((-1)), (0), qz5, qz5, qz5, H', ⟨Nat.le_refl _⟩, ⟨bk_ BK402.out⟩, ⟨by repeat (first | (with_reducible first | exact HB.out | apply below_alloc | apply pw_below_drewN | apply below_drew1 | refine below_set ?_ GE402.out) | exact HB.out)⟩⟩
 case round =>
  clear H'
  try clear p2
  try clear hcz3_0
  try clear hcz3_1
  try clear hcz3_2
  try clear hfz3_0
  try clear hfz3_1
  try clear hfz3_2
  obtain ⟨x4_1, x5_1, x11_1, rfl, rfl, rfl, HA, HK1, BK402, HB⟩ := hrel
  cases gk with
  | zero => exact absurd HA.out (by simp [impl_open.l0])
  | succ k1 =>
   have H := HA.out
   clear HA
   simp only [impl_open.l0] at H
   by_cases c4 : x11_1 < (l0_2.length : Int)
   {
   rw [if_pos c4] at H
   have c4b0 := decide_eq_true c4
   clear c4
   by_cases c5 : 0 ≤ x11_1
   {
   rw [if_pos c5] at H
   have c5b0 := decide_eq_true c5
   clear c5
   by_cases c6 : x11_1 < (l0_2.length : Int)
   {
   rw [if_pos c6] at H
   have c6b0 := decide_eq_true c6
   clear c6
   by_cases c7 : (rd l0_2 x11_1) = 0
   {
   rw [if_pos c7] at H
   have c7b0 := beq_iff_eq.mpr c7
   have c7b1 := bne_eq_false_iff_eq.mpr c7
   clear c7
   have H' := aM H
   clear H
   have p403 : 0 ≤ (x11_1 : Int) := of_decide_eq_true qz2
   have q403 : x11_1 < (l0_2.length : Int) := of_decide_eq_true qz2
   obtain ⟨ad403, e403, hx403_0⟩ := Kd.at_int HR0_2.out x11_1 p403 q403
   cases e403
   replace hx403_0 := pw_cell_below HB.out hx403_0
   replace p403 := eq_true p403
   replace q403 := eq_true q403
   go_wp2
   go_roundg k1
   case measure => have := HK1.out; omega
   case rel => exact ⟨(x4_1), (x5_1), (wrap64 (x11_1 + 1)), qz5, qz5, qz5, H', ⟨by have := HK1.out; omega⟩, ⟨bk_ BK402.out⟩, ⟨by repeat (first | (with_reducible first | exact HB.out | apply below_alloc | apply pw_below_drewN | apply below_drew1 | refine below_set ?_ GE402.out) | exact HB.out)⟩⟩
   }
   {
   rw [if_neg c7] at H
   have c7b0 := beq_eq_false_iff_ne.mpr c7
   have c7b1 := bne_iff_ne.mpr c7
   by_cases c8 : x4_1 = 0
   {
   rw [if_pos c8] at H
   have c8b0 := beq_iff_eq.mpr c8
   have c8b1 := bne_eq_false_iff_eq.mpr c8
   clear c8
   have H' := aM H
   clear H
   have p403 : 0 ≤ (x11_1 : Int) := of_decide_eq_true qz2
   have q403 : x11_1 < (l0_2.length : Int) := of_decide_eq_true qz2
   obtain ⟨ad403, e403, hx403_0⟩ := Kd.at_int HR0_2.out x11_1 p403 q403
   cases e403
   replace hx403_0 := pw_cell_below HB.out hx403_0
   replace p403 := eq_true p403
   replace q403 := eq_true q403
   go_wp2
   go_roundg k1
   case measure => have := HK1.out; omega
   case rel => exact ⟨(wrap64 (x4_1 + 1)), (x11_1), (wrap64 (x11_1 + 1)), qz5, qz5, qz5, H', ⟨by have := HK1.out; omega⟩, ⟨bk_ BK402.out⟩, ⟨by repeat (first | (with_reducible first | exact HB.out | apply below_alloc | apply pw_below_drewN | apply below_drew1 | refine below_set ?_ GE402.out) | exact HB.out)⟩⟩
   }
   {
   rw [if_neg c8] at H
   have c8b0 := beq_eq_false_iff_ne.mpr c8
   have c8b1 := bne_iff_ne.mpr c8
   have H' := aM H
   clear H
   have p403 : 0 ≤ (x11_1 : Int) := of_decide_eq_true qz2
   have q403 : x11_1 < (l0_2.length : Int) := of_decide_eq_true qz2
   obtain ⟨ad403, e403, hx403_0⟩ := Kd.at_int HR0_2.out x11_1 p403 q403
   cases e403
   replace hx403_0 := pw_cell_below HB.out hx403_0
   replace p403 := eq_true p403
   replace q403 := eq_true q403
   go_wp2
   go_roundg k1
   case measure => have := HK1.out; omega
   case rel => exact ⟨(wrap64 (x4_1 + 1)), (x5_1), (wrap64 (x11_1 + 1)), qz5, qz5, qz5, H', ⟨by have := HK1.out; omega⟩, ⟨bk_ BK402.out⟩, ⟨by repeat (first | (with_reducible first | exact HB.out | apply below_alloc | apply pw_below_drewN | apply below_drew1 | refine below_set ?_ GE402.out) | exact HB.out)⟩⟩
   }
   }
   }
   {
   rw [if_neg c6] at H
   exact absurd H (by simp)
   }
   }
   {
   rw [if_neg c5] at H
   exact absurd H (by simp)
   }
   }
   {
   rw [if_neg c4] at H
   have c4b0 := decide_eq_false c4
   clear c4
   simp only [Option.some.injEq, Prod.mk.injEq] at H
   obtain ⟨rfl, rfl⟩ := H
   go_wp2
   go_ret2
   exact ⟨by first | rfl | (simp [errW_none, errW_some] <;> rfl) | (simp [*, errW_none, errW_some] <;> rfl), by repeat (first | (with_reducible first | exact HB.out | apply below_alloc | apply pw_below_drewN | apply below_drew1 | refine below_set ?_ GE402.out) | exact HB.out)⟩

   }
/-! ### impl_in: function 42 -/
def impl_in.f (a0 : Int) (a1 : Int) (a2 : Int) : Option (Bool) := if a0 ≥ a1 then (some (decide (a0 ≤ a2))) else (some false)
set_option maxHeartbeats 8000000 in
set_option maxRecDepth 100000 in
theorem impl_in.calls (a0 : Int) (a1 : Int) (a2 : Int) (r : Bool) (w : World) (h : impl_in.f a0 a1 a2 = some r) :
  Calls Try.prog 42 #[.int .i64 a0, .int .i64 a1, .int .i64 a2] w fun e w' => e = .returned (.bool r) ∧ Drawn0 w w' := by
 have H : (if a0 ≥ a1 then (some (decide (a0 ≤ a2))) else (some false)) = some r := h
 clear h
 by_cases c4 : a0 ≥ a1
 {
 rw [if_pos c4] at H
 have c4b0 := decide_eq_true c4
 clear c4
 obtain rfl := Option.some.inj H
 simp only [Option.some.injEq, Prod.mk.injEq] at H
 obtain ⟨rfl⟩ := H
 go_enter Try.func42, Try.ntmps42
 go_wp2
 go_ret
 exact ⟨by first | rfl | (simp; done) | (simp [*]; done), by repeat (first | exact Drawn0.refl _ | apply Drawn0.step)⟩
 }
 {
 rw [if_neg c4] at H
 have c4b0 := decide_eq_false c4
 clear c4
 obtain rfl := Option.some.inj H
 simp only [Option.some.injEq, Prod.mk.injEq] at H
 obtain ⟨rfl⟩ := H
 go_enter Try.func42, Try.ntmps42
 go_wp2
 go_ret
 exact ⟨by first | rfl | (simp; done) | (simp [*]; done), by repeat (first | exact Drawn0.refl _ | apply Drawn0.step)⟩

 }
end Go.Proofs.Ytbebfhlejnidkaa.PFnSound
