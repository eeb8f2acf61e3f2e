-- Made by a program of this session out of the translation. Lean checks it.
import Derived.Test.YteajnkondkfmgaaPFnHeldx0
import Derived.Test.YteajnkondkfmgaaPFnHeldx2
import Derived.Test.YteajnkondkfmgaaPFnHeldx3
import Derived.Test.YteajnkondkfmgaaPFnHeldx5
namespace Go.Proofs.Yteajnkondkfmgaa.PFnHeld
open Go.RowKit Go.Proofs.YteajnkondkfmgaaW.PrintWords Go.Proofs.YteajnkondkfmgaaW.PrintLast Go.Proofs.YteajnkondkfmgaaW.PrintMore
attribute [local go_sem] max2_int min2_int max_two min_two max_three min_three max_four min_four   -- for this text's walks alone
set_option linter.unusedVariables false
set_option linter.unusedSimpArgs false

/-! ### spec_l5DrawAny: function 76 -/
def spec_l5DrawAny.f (k : Nat) (s0_0 : List Int) (s0_1 : Int) (s0_2 : Int) : Option ((List (S79)) × Int × Int) := (spec_l5Draw.f k s0_0 s0_1 s0_2).bind fun bt206 => ((spec_l1Once.f s0_0 bt206.2.1 bt206.2.2 8).bind fun bt212 => (if bt212.1 = true then ((spec_l5Bend.f k s0_0 bt212.2.1 bt212.2.2 bt206.1).bind fun bt215 => (some (bt215.1, bt215.2.1, bt215.2.2))) else (some (bt206.1, bt212.2.1, bt212.2.2))))
theorem spec_l5DrawAny.mono : ∀ a0 a1 a2 k, LeO (spec_l5DrawAny.f k a0 a1 a2) (spec_l5DrawAny.f (k + 1) a0 a1 a2) := by
 intro a0 a1 a2 k
 unfold spec_l5DrawAny.f
 repeat' first
  | (with_reducible first | exact spec_l5Bend.mono _ _ _ _ _ | exact spec_l5Draw.mono _ _ _ _ | exact LeO.refl _ | exact LeO.none _ | refine LeO.ite ?_ ?_ | refine LeO.bind ?_ (fun _ => ?_))
  | exact spec_l5Bend.mono _ _ _ _ _
  | exact spec_l5Draw.mono _ _ _ _
  | exact LeO.none _
  | refine LeO.ite ?_ ?_
  | refine LeO.bind ?_ (fun _ => ?_)
set_option maxHeartbeats 8000000 in
set_option maxRecDepth 100000 in
theorem spec_l5DrawAny.calls (k : Nat) (g : Nat) (s0_0 : List Int) (s0_1 : Int) (s0_2 : Int) (r1 : List (S79)) (r2 : Int) (r3 : Int) (w0 w : World) (hI : IsS122 w0 w g s0_0 s0_1 s0_2) (hB : Below w0.heap.size w0 w) (h : spec_l5DrawAny.f k s0_0 s0_1 s0_2 = some (r1, r2, r3)) :
  Calls Try.prog 76 #[.pointer (some ⟨g, 0, none⟩)] w fun e w' => ∃ v0_ : Value, e = .returned (.agg #[v0_]) ∧ Kd.N k79 79 w' w.heap.size (fun k_ => (w.heap.size ≤ k_)) v0_ r1 ∧ IsS122 w0 w' g s0_0 r2 r3 ∧ Below w0.heap.size w0 w' ∧ KeepBut w w' g none := by
 have hu26 := Try.underlying26
 have HI0 := aM hI
 have HK := aM (KeepBut.refl w g none)
 have HL := aM hB.size
 clear hI
 have HW0 := aM hB.size
 have HB := aM hB
 clear hB
 have H : ((spec_l5Draw.f k s0_0 s0_1 s0_2).bind fun bt206 => ((spec_l1Once.f s0_0 bt206.2.1 bt206.2.2 8).bind fun bt212 => (if bt212.1 = true then ((spec_l5Bend.f k s0_0 bt212.2.1 bt212.2.2 bt206.1).bind fun bt215 => (some (bt215.1, bt215.2.1, bt215.2.2))) else (some (bt206.1, bt212.2.1, bt212.2.2))))) = some (r1, r2, r3) := h
 clear h
 replace H := Option.bind_eq_some_iff.mp H
 obtain ⟨⟨t206, t209, t210⟩, A20, H⟩ := H
 replace H : ((spec_l1Once.f s0_0 t209 t210 8).bind fun bt212 => (if bt212.1 = true then ((spec_l5Bend.f k s0_0 bt212.2.1 bt212.2.2 t206).bind fun bt215 => (some (bt215.1, bt215.2.1, bt215.2.2))) else (some (t206, bt212.2.1, bt212.2.2)))) = some (r1, r2, r3) := H
 have A2 := aM A20
 clear A20
 replace H := Option.bind_eq_some_iff.mp H
 obtain ⟨⟨t212, t213, t214⟩, A30, H⟩ := H
 replace H : (if t212 = true then ((spec_l5Bend.f k s0_0 t213 t214 t206).bind fun bt215 => (some (bt215.1, bt215.2.1, bt215.2.2))) else (some (t206, t213, t214))) = some (r1, r2, r3) := H
 have A3 := aM A30
 clear A30
 by_cases c4 : t212 = true
 {
 subst c4
 rw [if_pos rfl] at H
 replace H := Option.bind_eq_some_iff.mp H
 obtain ⟨⟨t215, t218, t219⟩, A50, H⟩ := H
 replace H : (some (t215, t218, t219)) = some (r1, r2, r3) := H
 have A5 := aM A50
 clear A50
 simp only [Option.some.injEq, Prod.mk.injEq] at H
 obtain ⟨rfl, rfl, rfl⟩ := H
 go_enter Try.func76, Try.ntmps76
 go_wp2_with (first | ((with_reducible refine gate_dst (N := 2) rfl ?_); refine bx_ 2 #[.slice none 0 0] 26 ?_; intro gb205 hg w6 hbox hb; have n0_ := aM (IsS122.below qz30 hb); have n1_ := aM (KeepBut.trans qz7 (KeepBut.of_below hb g none) (.inl rfl)); have n2_ := aM (below_step qz31 hb); have n3_ := aM (hbox); have n4_ := aM ((by rw [hg]; exact (keep_size (w := w) (g := g) (row := none) qz7) : w.heap.size ≤ gb205)); have n5_ := aM ((Nat.le_trans HW0.out (by rw [hg]; exact (keep_size (w := w) (g := g) (row := none) qz7) : w.heap.size ≤ gb205) : w0.heap.size ≤ gb205)); have n6_ := aM ((by rw [hg]; exact Nat.ne_of_lt (IsS122.lt (show IsS122 w0 _ g s0_0 s0_1 s0_2 from by repeat (first | (with_reducible first | exact HI0.out | apply IsS122.alloc | apply IsS122.drewN | apply IsS122.drew | apply IsS122.set_1 | apply IsS122.set_2) | exact HI0.out))) : g ≠ gb205)); have n7_ := aM ((by rw [hg]; exact Nat.ne_of_gt (IsS122.lt (show IsS122 w0 _ g s0_0 s0_1 s0_2 from by repeat (first | (with_reducible first | exact HI0.out | apply IsS122.alloc | apply IsS122.drewN | apply IsS122.drew | apply IsS122.set_1 | apply IsS122.set_2) | exact HI0.out))) : gb205 ≠ g)); clear HI0 HK HB; have HI0 := n0_; have HK := n1_; have HB := n2_; have BK205 := n3_; have GW205 := n4_; have GE205 := n5_; have NB0_205 := n6_; have NB205_0 := n7_; clear n0_ n1_ n2_ n3_ n4_ n5_ n6_ n7_; clear hb hbox hg) | ((with_reducible refine gate_callee (f := 101) rfl ?_); refine goesL_ (some 5) rfl rfl Try.func101 (by kernel_rfl) rfl #[.pointer (some ⟨g, 0, none⟩)] rfl qz1 ?_; (with_reducible refine (spec_l5Draw.calls k g s0_0 s0_1 s0_2 t206 t209 t210 w0 _ ?side1 ?side2 A2.out).mono ?_); (case side1 => exact qz69); (case side2 => exact qz112); rintro e w7 ⟨v207, rfl, ho0, hi, hb, hk⟩; refine ⟨_, rfl, ?_⟩; have n0_ := aM (KeepBut.blk hk (bk_ BK205.out) NB205_0.out (by simp)); have n1_ := aM (Kd.N_lower (Kd.N_mono (ok' := fun k_ => (w.heap.size ≤ k_) ∧ k_ ≠ gb205 ∧ k_ ≠ g) (Kd.S_N (Kd.S_bound ho0)) (fun k_ hk_ => ⟨(Nat.le_trans (keep_size (w := w) (g := g) (row := none) qz25) hk_.2.1), (Kd.freshB (bk_ BK205.out) k_ hk_.2.1), (IsS122.fresh qz69 k_ hk_.2.1)⟩)) (keep_size (w := w) (g := g) (row := none) qz25)); have n2_ := aM (KeepBut.trans qz25 hk (.inl rfl)); have n3_ := aM (hb); have n4_ := aM (hi); clear BK205 HK HB HI0; have BK205 := n0_; have HO208 := n1_; have HK := n2_; have HB := n3_; have HI0 := n4_; clear n0_ n1_ n2_ n3_ n4_; (try clear hb); (try clear hb2); (try clear hk); (try clear hi); (try clear ho0)) | ((with_reducible refine gate_dst (N := 3) rfl ?_); refine bx_ 3 #[.slice none 0 0] 26 ?_; intro gb211 hg w8 hbox hb; have n0_ := aM (Kd.N_below (Kd.N_elderB qz81 gb211 (Nat.le_of_eq hg.symm)) hb); have n1_ := aM (IsS122.below qz69 hb); have n2_ := aM (blk_below (bk_ BK205.out) hb); have n3_ := aM (KeepBut.trans qz25 (KeepBut.of_below hb g none) (.inl rfl)); have n4_ := aM (below_step qz112 hb); have n5_ := aM (hbox); have n6_ := aM ((by rw [hg]; exact (keep_size (w := w) (g := g) (row := none) qz25) : w.heap.size ≤ gb211)); have n7_ := aM ((Nat.le_trans HW0.out (by rw [hg]; exact (keep_size (w := w) (g := g) (row := none) qz25) : w.heap.size ≤ gb211) : w0.heap.size ≤ gb211)); have n8_ := aM ((by rw [hg]; exact Nat.ne_of_lt (blk_lt (bk_ BK205.out)) : gb205 ≠ gb211)); have n9_ := aM ((by rw [hg]; exact Nat.ne_of_gt (blk_lt (bk_ BK205.out)) : gb211 ≠ gb205)); have n10_ := aM ((by rw [hg]; exact Nat.ne_of_lt (IsS122.lt (show IsS122 w0 _ g s0_0 t209 t210 from by repeat (first | (with_reducible first | exact HI0.out | apply IsS122.alloc | apply IsS122.drewN | apply IsS122.drew | apply IsS122.set_1 | apply IsS122.set_2 | refine IsS122.far ?_ NB0_205.out _) | exact HI0.out))) : g ≠ gb211)); have n11_ := aM ((by rw [hg]; exact Nat.ne_of_gt (IsS122.lt (show IsS122 w0 _ g s0_0 t209 t210 from by repeat (first | (with_reducible first | exact HI0.out | apply IsS122.alloc | apply IsS122.drewN | apply IsS122.drew | apply IsS122.set_1 | apply IsS122.set_2 | refine IsS122.far ?_ NB0_205.out _) | exact HI0.out))) : gb211 ≠ g)); clear HO208 HI0 BK205 HK HB; have HO208 := n0_; have HI0 := n1_; have BK205 := n2_; have HK := n3_; have HB := n4_; have BK211 := n5_; have GW211 := n6_; have GE211 := n7_; have NB205_211 := n8_; have NB211_205 := n9_; have NB0_211 := n10_; have NB211_0 := n11_; clear n0_ n1_ n2_ n3_ n4_ n5_ n6_ n7_ n8_ n9_ n10_ n11_; clear hb hbox hg; obtain ⟨Ao9, co9, eo9⟩ := Kd.N_slice HO208.out; subst eo9; have hnb10 := NB211_205.out; have hnc10 := NB205_211.out; have hnb11 := NB211_0.out; have hnc11 := NB0_211.out; have hcz12_0 := bc0_ BK211.out; have hfz12_0 := blk_frozen BK211.out 0) | ((with_reducible refine gate_callee (f := 102) rfl ?_); refine goesL_ (some 7) rfl rfl Try.func102 (by kernel_rfl) rfl #[.pointer (some ⟨g, 0, none⟩), .int .i64 8] rfl qz1 ?_; (with_reducible refine (spec_l1Once.calls g s0_0 t209 t210 8 true t213 t214 w0 _ ?side1 ?side2 A3.out).mono ?_); (case side1 => exact qz75); (case side2 => exact qz79); rintro e w13 ⟨rfl, hi, hb, hk⟩; refine ⟨_, rfl, ?_⟩; have n0_ := aM (KeepBut.blk hk (g' := gb205) (o := .cells #[.slice none 0 0] 26 (0, 0)) (by (with_reducible repeat (first | refine blk_drewN ?_ _ | refine blk_drew ?_ | refine blk_alloc ?_ _)); refine blk_far ?_ NB205_211.out _; exact bk_ BK205.out) NB205_0.out (by simp)); have n1_ := aM (Kd.N_mono (Kd.N_keep (Kd.N_mono (ok := fun k_ => ((((w.heap.size ≤ k_)) ∧ (k_ ≠ gb205 ∧ k_ ≠ g)) ∧ k_ ≠ gb211)) (by (with_reducible repeat (first | apply Kd.N_alloc | apply Kd.N_drewN | apply Kd.N_drew)); exact (Kd.N_mono (Kd.N_far (p := ⟨gb211, 0, none⟩) (Kd.N_mono HO208.out (fun k_ hk => (⟨hk, hk.2⟩ : _ ∧ k_ ≠ gb211))) (fun _ hk => hk.2) (.slice Ao9 t206.length co9)) (fun _ h_ => h_.1))) (fun k_ hk_ => (⟨hk_, hk_.1.2.2⟩ : _ ∧ k_ ≠ g))) hk (fun _ h => h.2)) (fun _ h => h.1)); have n2_ := aM (KeepBut.blk hk (g' := gb211) (o := .cells #[.slice Ao9 t206.length co9] 26 (0, 0)) (by (with_reducible repeat (first | refine blk_drewN ?_ _ | refine blk_drew ?_ | refine blk_alloc ?_ _)); refine blk_put (cs := #[.slice none 0 0]) ?_ 0 _ rfl; exact bk_ BK211.out) NB211_0.out (by simp)); have n3_ := aM (KeepBut.trans qz59 hk (.inl rfl)); have n4_ := aM (hb); have n5_ := aM (hi); clear BK205 HO208 BK211 HK HB HI0; have BK205 := n0_; have HO208 := n1_; have BK211 := n2_; have HK := n3_; have HB := n4_; have HI0 := n5_; clear n0_ n1_ n2_ n3_ n4_ n5_; (try clear hb); (try clear hb2); (try clear hk); (try clear hi); have hcz14_0 := bc0_ BK211.out; have hfz14_0 := blk_frozen BK211.out 0) | ((with_reducible refine gate_callee (f := 103) rfl ?_); refine goesL_ (some 10) rfl rfl Try.func103 (by kernel_rfl) rfl #[.pointer (some ⟨g, 0, none⟩), .agg #[.slice Ao9 t206.length co9]] rfl qz1 ?_; (with_reducible refine (spec_l5Bend.calls k g s0_0 t213 t214 _ _ t206 t215 t218 t219 w0 _ ?side1 ?side2 ?side3 ?side4 A5.out).mono ?_); (case side1 => exact qz75); (case side2 => exact qz79); (case side3 => exact Kd.C_foot_ownV (base := 0) (Kd.N_V (Kd.N_mono (ok := fun k_ => ((((w.heap.size ≤ k_)) ∧ (k_ ≠ gb205 ∧ k_ ≠ g)) ∧ k_ ≠ gb211)) qz81 (fun k_ hk_ => (⟨hk_, hk_.1.2.2⟩ : _ ∧ k_ ≠ g)))) (fun _ h_ => h_.2)); (case side4 => exact (Kd.N_reads' HO208.out).2.1); rintro e w15 ⟨v216, rfl, ho0, hi, hb, hk⟩; refine ⟨_, rfl, ?_⟩; have n0_ := aM (KeepBut.blk hk (bk_ BK205.out) NB205_0.out (by simp)); have n1_ := aM (Kd.N_mono (Kd.N_told (Kd.N_oldK (Kd.N_mono (ok := fun k_ => ((((w.heap.size ≤ k_)) ∧ (k_ ≠ gb205 ∧ k_ ≠ g)) ∧ k_ ≠ gb211)) qz81 (fun k_ hk_ => (⟨hk_, hk_.1.2.2⟩ : _ ∧ k_ ≠ g))) hk) (Kd.N_base ho0)) (fun _ h_ => h_.1)); have n2_ := aM (KeepBut.blk hk (bk_ BK211.out) NB211_0.out (by simp)); have n3_ := aM (Kd.N_lower (Kd.N_mono (ok' := fun k_ => (w.heap.size ≤ k_) ∧ some k_ ≠ (.slice Ao9 t206.length co9 : Value).ownBlock ∧ k_ ≠ gb205 ∧ k_ ≠ gb211 ∧ k_ ≠ g) ho0 (fun k_ hk_ => ⟨(Nat.le_trans (keep_size (w := w) (g := g) (row := none) qz59) hk_), (Kd.fresh' (Kd.N_lt qz81) k_ hk_), (Kd.freshB (bk_ BK205.out) k_ hk_), (Kd.freshB (bk_ BK211.out) k_ hk_), (IsS122.fresh qz75 k_ hk_)⟩)) (keep_size (w := w) (g := g) (row := none) qz59)); have n4_ := aM (KeepBut.trans qz59 hk (.inl rfl)); have n5_ := aM (hb); have n6_ := aM (hi); clear BK205 HO208 BK211 HK HB HI0; have BK205 := n0_; have HO208 := n1_; have BK211 := n2_; have HO217 := n3_; have HK := n4_; have HB := n5_; have HI0 := n6_; clear n0_ n1_ n2_ n3_ n4_ n5_ n6_; (try clear hb); (try clear hb2); (try clear hk); (try clear hi); (try clear ho0); obtain ⟨Ao16, co16, eo16⟩ := Kd.N_slice HO217.out; subst eo16; have hcz17_0 := bc0_ BK211.out; have hfz17_0 := blk_frozen BK211.out 0; have hnb18 := NB205_0.out; have hnc18 := NB0_205.out; have hcz19_0 := bc0_ BK205.out; have hfz19_0 := blk_frozen BK205.out 0))
 refine bodyPost_ret (results_cell_row rfl _ _ gb205 26 #[.slice Ao16 t215.length co16] (0, 0) _ rfl (by (with_reducible repeat (first | refine blk_drewN ?_ _ | refine blk_drew ?_ | refine blk_alloc ?_ _)); refine blk_put (cs := #[.slice none 0 0]) ?_ 0 _ rfl; (with_reducible repeat (first | refine blk_drewN ?_ _ | refine blk_drew ?_ | refine blk_alloc ?_ _)); refine blk_far ?_ NB205_211.out _; exact bk_ BK205.out) Try.underlying26 rfl (by kernel_rfl)) rfl ?_
 exact ⟨_, by first | rfl | (simp [errW_none, errW_some] <;> rfl) | (simp [*, errW_none, errW_some] <;> rfl), by (with_reducible repeat (first | apply Kd.N_alloc | apply Kd.N_drewN | apply Kd.N_drew)); exact Kd.N_mono (Kd.N_far (p := ⟨gb205, 0, none⟩) (Kd.N_far (p := ⟨gb211, 0, none⟩) (Kd.N_mono (Kd.N_mono HO217.out (fun k_ hk => (⟨hk, hk.2.2.2.1⟩ : _ ∧ k_ ≠ gb211))) (fun k_ hk => (⟨hk, hk.1.2.2.1⟩ : _ ∧ k_ ≠ gb205))) (fun _ hk => hk.1.2) (.slice Ao16 t215.length co16)) (fun _ hk => hk.2) (.slice Ao16 t215.length co16)) (fun _ hk => hk.1.1.1), by repeat (first | (with_reducible first | exact HI0.out | apply IsS122.alloc | apply IsS122.drewN | apply IsS122.drew | apply IsS122.set_1 | apply IsS122.set_2 | refine IsS122.far ?_ NB0_205.out _ | refine IsS122.far ?_ NB0_211.out _) | exact HI0.out), by repeat (first | (with_reducible first | exact HB.out | apply below_alloc | apply pw_below_drewN | apply below_drew1 | refine below_set ?_ (IsS122.ge HI0.out) | refine below_set ?_ GE205.out | refine below_set ?_ GE211.out) | exact HB.out), by repeat (first | (with_reducible first | exact HK.out | apply KeepBut.set_ | apply keep_drewN | apply keep_drew | apply keep_alloc | refine keep_far ?_ GW205.out _ | refine keep_far ?_ GW211.out _) | exact HK.out)⟩
 }
 {
 replace c4 := Bool.eq_false_iff.mpr c4
 subst c4
 rw [if_neg (show ¬ (false = true) by decide)] at H
 simp only [Option.some.injEq, Prod.mk.injEq] at H
 obtain ⟨rfl, rfl, rfl⟩ := H
 go_enter Try.func76, Try.ntmps76
 go_wp2_with (first | ((with_reducible refine gate_dst (N := 2) rfl ?_); refine bx_ 2 #[.slice none 0 0] 26 ?_; intro gb205 hg w20 hbox hb; have n0_ := aM (IsS122.below qz30 hb); have n1_ := aM (KeepBut.trans qz7 (KeepBut.of_below hb g none) (.inl rfl)); have n2_ := aM (below_step qz31 hb); have n3_ := aM (hbox); have n4_ := aM ((by rw [hg]; exact (keep_size (w := w) (g := g) (row := none) qz7) : w.heap.size ≤ gb205)); have n5_ := aM ((Nat.le_trans HW0.out (by rw [hg]; exact (keep_size (w := w) (g := g) (row := none) qz7) : w.heap.size ≤ gb205) : w0.heap.size ≤ gb205)); have n6_ := aM ((by rw [hg]; exact Nat.ne_of_lt (IsS122.lt (show IsS122 w0 _ g s0_0 s0_1 s0_2 from by repeat (first | (with_reducible first | exact HI0.out | apply IsS122.alloc | apply IsS122.drewN | apply IsS122.drew | apply IsS122.set_1 | apply IsS122.set_2) | exact HI0.out))) : g ≠ gb205)); have n7_ := aM ((by rw [hg]; exact Nat.ne_of_gt (IsS122.lt (show IsS122 w0 _ g s0_0 s0_1 s0_2 from by repeat (first | (with_reducible first | exact HI0.out | apply IsS122.alloc | apply IsS122.drewN | apply IsS122.drew | apply IsS122.set_1 | apply IsS122.set_2) | exact HI0.out))) : gb205 ≠ g)); clear HI0 HK HB; have HI0 := n0_; have HK := n1_; have HB := n2_; have BK205 := n3_; have GW205 := n4_; have GE205 := n5_; have NB0_205 := n6_; have NB205_0 := n7_; clear n0_ n1_ n2_ n3_ n4_ n5_ n6_ n7_; clear hb hbox hg) | ((with_reducible refine gate_callee (f := 101) rfl ?_); refine goesL_ (some 5) rfl rfl Try.func101 (by kernel_rfl) rfl #[.pointer (some ⟨g, 0, none⟩)] rfl qz1 ?_; (with_reducible refine (spec_l5Draw.calls k g s0_0 s0_1 s0_2 t206 t209 t210 w0 _ ?side1 ?side2 A2.out).mono ?_); (case side1 => exact qz69); (case side2 => exact qz112); rintro e w21 ⟨v207, rfl, ho0, hi, hb, hk⟩; refine ⟨_, rfl, ?_⟩; have n0_ := aM (KeepBut.blk hk (bk_ BK205.out) NB205_0.out (by simp)); have n1_ := aM (Kd.N_lower (Kd.N_mono (ok' := fun k_ => (w.heap.size ≤ k_) ∧ k_ ≠ gb205 ∧ k_ ≠ g) (Kd.S_N (Kd.S_bound ho0)) (fun k_ hk_ => ⟨(Nat.le_trans (keep_size (w := w) (g := g) (row := none) qz25) hk_.2.1), (Kd.freshB (bk_ BK205.out) k_ hk_.2.1), (IsS122.fresh qz69 k_ hk_.2.1)⟩)) (keep_size (w := w) (g := g) (row := none) qz25)); have n2_ := aM (KeepBut.trans qz25 hk (.inl rfl)); have n3_ := aM (hb); have n4_ := aM (hi); clear BK205 HK HB HI0; have BK205 := n0_; have HO208 := n1_; have HK := n2_; have HB := n3_; have HI0 := n4_; clear n0_ n1_ n2_ n3_ n4_; (try clear hb); (try clear hb2); (try clear hk); (try clear hi); (try clear ho0)) | ((with_reducible refine gate_dst (N := 3) rfl ?_); refine bx_ 3 #[.slice none 0 0] 26 ?_; intro gb211 hg w22 hbox hb; have n0_ := aM (Kd.N_below (Kd.N_elderB qz81 gb211 (Nat.le_of_eq hg.symm)) hb); have n1_ := aM (IsS122.below qz69 hb); have n2_ := aM (blk_below (bk_ BK205.out) hb); have n3_ := aM (KeepBut.trans qz25 (KeepBut.of_below hb g none) (.inl rfl)); have n4_ := aM (below_step qz112 hb); have n5_ := aM (hbox); have n6_ := aM ((by rw [hg]; exact (keep_size (w := w) (g := g) (row := none) qz25) : w.heap.size ≤ gb211)); have n7_ := aM ((Nat.le_trans HW0.out (by rw [hg]; exact (keep_size (w := w) (g := g) (row := none) qz25) : w.heap.size ≤ gb211) : w0.heap.size ≤ gb211)); have n8_ := aM ((by rw [hg]; exact Nat.ne_of_lt (blk_lt (bk_ BK205.out)) : gb205 ≠ gb211)); have n9_ := aM ((by rw [hg]; exact Nat.ne_of_gt (blk_lt (bk_ BK205.out)) : gb211 ≠ gb205)); have n10_ := aM ((by rw [hg]; exact Nat.ne_of_lt (IsS122.lt (show IsS122 w0 _ g s0_0 t209 t210 from by repeat (first | (with_reducible first | exact HI0.out | apply IsS122.alloc | apply IsS122.drewN | apply IsS122.drew | apply IsS122.set_1 | apply IsS122.set_2 | refine IsS122.far ?_ NB0_205.out _) | exact HI0.out))) : g ≠ gb211)); have n11_ := aM ((by rw [hg]; exact Nat.ne_of_gt (IsS122.lt (show IsS122 w0 _ g s0_0 t209 t210 from by repeat (first | (with_reducible first | exact HI0.out | apply IsS122.alloc | apply IsS122.drewN | apply IsS122.drew | apply IsS122.set_1 | apply IsS122.set_2 | refine IsS122.far ?_ NB0_205.out _) | exact HI0.out))) : gb211 ≠ g)); clear HO208 HI0 BK205 HK HB; have HO208 := n0_; have HI0 := n1_; have BK205 := n2_; have HK := n3_; have HB := n4_; have BK211 := n5_; have GW211 := n6_; have GE211 := n7_; have NB205_211 := n8_; have NB211_205 := n9_; have NB0_211 := n10_; have NB211_0 := n11_; clear n0_ n1_ n2_ n3_ n4_ n5_ n6_ n7_ n8_ n9_ n10_ n11_; clear hb hbox hg; obtain ⟨Ao23, co23, eo23⟩ := Kd.N_slice HO208.out; subst eo23; have hnb24 := NB211_205.out; have hnc24 := NB205_211.out; have hnb25 := NB211_0.out; have hnc25 := NB0_211.out; have hcz26_0 := bc0_ BK211.out; have hfz26_0 := blk_frozen BK211.out 0) | ((with_reducible refine gate_callee (f := 102) rfl ?_); refine goesL_ (some 7) rfl rfl Try.func102 (by kernel_rfl) rfl #[.pointer (some ⟨g, 0, none⟩), .int .i64 8] rfl qz1 ?_; (with_reducible refine (spec_l1Once.calls g s0_0 t209 t210 8 false t213 t214 w0 _ ?side1 ?side2 A3.out).mono ?_); (case side1 => exact qz75); (case side2 => exact qz79); rintro e w27 ⟨rfl, hi, hb, hk⟩; refine ⟨_, rfl, ?_⟩; have n0_ := aM (KeepBut.blk hk (g' := gb205) (o := .cells #[.slice none 0 0] 26 (0, 0)) (by (with_reducible repeat (first | refine blk_drewN ?_ _ | refine blk_drew ?_ | refine blk_alloc ?_ _)); refine blk_far ?_ NB205_211.out _; exact bk_ BK205.out) NB205_0.out (by simp)); have n1_ := aM (Kd.N_mono (Kd.N_keep (Kd.N_mono (ok := fun k_ => ((((w.heap.size ≤ k_)) ∧ (k_ ≠ gb205 ∧ k_ ≠ g)) ∧ k_ ≠ gb211)) (by (with_reducible repeat (first | apply Kd.N_alloc | apply Kd.N_drewN | apply Kd.N_drew)); exact (Kd.N_mono (Kd.N_far (p := ⟨gb211, 0, none⟩) (Kd.N_mono HO208.out (fun k_ hk => (⟨hk, hk.2⟩ : _ ∧ k_ ≠ gb211))) (fun _ hk => hk.2) (.slice Ao23 t206.length co23)) (fun _ h_ => h_.1))) (fun k_ hk_ => (⟨hk_, hk_.1.2.2⟩ : _ ∧ k_ ≠ g))) hk (fun _ h => h.2)) (fun _ h => h.1)); have n2_ := aM (KeepBut.blk hk (g' := gb211) (o := .cells #[.slice Ao23 t206.length co23] 26 (0, 0)) (by (with_reducible repeat (first | refine blk_drewN ?_ _ | refine blk_drew ?_ | refine blk_alloc ?_ _)); refine blk_put (cs := #[.slice none 0 0]) ?_ 0 _ rfl; exact bk_ BK211.out) NB211_0.out (by simp)); have n3_ := aM (KeepBut.trans qz59 hk (.inl rfl)); have n4_ := aM (hb); have n5_ := aM (hi); clear BK205 HO208 BK211 HK HB HI0; have BK205 := n0_; have HO208 := n1_; have BK211 := n2_; have HK := n3_; have HB := n4_; have HI0 := n5_; clear n0_ n1_ n2_ n3_ n4_ n5_; (try clear hb); (try clear hb2); (try clear hk); (try clear hi); have hcz28_0 := bc0_ BK211.out; have hfz28_0 := blk_frozen BK211.out 0; have hnb29 := NB205_0.out; have hnc29 := NB0_205.out; have hcz30_0 := bc0_ BK205.out; have hfz30_0 := blk_frozen BK205.out 0))
 refine bodyPost_ret (results_cell_row rfl _ _ gb205 26 #[.slice Ao23 t206.length co23] (0, 0) _ rfl (by (with_reducible repeat (first | refine blk_drewN ?_ _ | refine blk_drew ?_ | refine blk_alloc ?_ _)); refine blk_put (cs := #[.slice none 0 0]) ?_ 0 _ rfl; exact bk_ BK205.out) Try.underlying26 rfl (by kernel_rfl)) rfl ?_
 exact ⟨_, by first | rfl | (simp [errW_none, errW_some] <;> rfl) | (simp [*, errW_none, errW_some] <;> rfl), by (with_reducible repeat (first | apply Kd.N_alloc | apply Kd.N_drewN | apply Kd.N_drew)); exact Kd.N_mono (Kd.N_far (p := ⟨gb205, 0, none⟩) (Kd.N_mono HO208.out (fun k_ hk => (⟨hk, hk.1.2.1⟩ : _ ∧ k_ ≠ gb205))) (fun _ hk => hk.2) (.slice Ao23 t206.length co23)) (fun _ hk => hk.1.1.1), by repeat (first | (with_reducible first | exact HI0.out | apply IsS122.alloc | apply IsS122.drewN | apply IsS122.drew | apply IsS122.set_1 | apply IsS122.set_2 | refine IsS122.far ?_ NB0_205.out _ | refine IsS122.far ?_ NB0_211.out _) | exact HI0.out), by repeat (first | (with_reducible first | exact HB.out | apply below_alloc | apply pw_below_drewN | apply below_drew1 | refine below_set ?_ (IsS122.ge HI0.out) | refine below_set ?_ GE205.out | refine below_set ?_ GE211.out) | exact HB.out), by repeat (first | (with_reducible first | exact HK.out | apply KeepBut.set_ | apply keep_drewN | apply keep_drew | apply keep_alloc | refine keep_far ?_ GW205.out _ | refine keep_far ?_ GW211.out _) | exact HK.out)⟩

 }
/-! ### spec_l5Draw4: function 59 -/
def spec_l5Draw4.f (k : Nat) (l0 : List Int) : Option ((List (S79)) × Int × Int × Int) := (spec_l1New.f k l0).bind fun bt221 => ((spec_l5DrawAny.f k bt221.1 bt221.2.1 bt221.2.2).bind fun bt225 => ((spec_l1Int.f bt221.1 bt225.2.1 bt225.2.2 (([10, 20, 30, 40, 50, 7] : List Int))).bind fun bt234 => ((spec_l1Int.f bt221.1 bt234.2.1 bt234.2.2 (([1, 2, 3, 4, 5, 0, 51, 7] : List Int))).bind fun bt240 => ((spec_l1Int.f bt221.1 bt240.2.1 bt240.2.2 (([1, 1, 2, 3, 5, 0, 1000, 1001] : List Int))).bind fun bt246 => (some (bt225.1, bt234.1, bt240.1, bt246.1))))))
theorem spec_l5Draw4.mono : ∀ a0 k, LeO (spec_l5Draw4.f k a0) (spec_l5Draw4.f (k + 1) a0) := by
 intro a0 k
 unfold spec_l5Draw4.f
 repeat' first
  | (with_reducible first | exact spec_l1New.mono _ _ | exact spec_l5DrawAny.mono _ _ _ _ | exact LeO.refl _ | exact LeO.none _ | refine LeO.ite ?_ ?_ | refine LeO.bind ?_ (fun _ => ?_))
  | exact spec_l1New.mono _ _
  | exact spec_l5DrawAny.mono _ _ _ _
  | exact LeO.none _
  | refine LeO.ite ?_ ?_
  | refine LeO.bind ?_ (fun _ => ?_)
def spec_l5Draw4.T3 : Bool × List (List Nat × List Nat) := (true, [([], []), ([], []), ([], []), ([1, 2], [1, 2]), ([], []), ([], []), ([4, 5, 3], [4, 5]), ([], []), ([], []), ([7, 8, 6], [7, 8]), ([0, 9, 0], [0]), ([3, 10, 0, 1, 2, 3, 10], [3]), ([6, 11, 0, 1, 2, 3, 4, 5, 6, 10, 11], [6]), ([9, 12, 0, 1, 2, 3, 4, 5, 6, 7, 8, 9, 10, 11, 12], [9])])
def spec_l5Draw4.B3 : List Nat := [0, 0, 0, 6, 0, 0, 62, 0, 0, 510, 1023, 2047, 4095, 8191]
theorem spec_l5Draw4.tab3 : rtab .any (opsOf Try.f59 3) = spec_l5Draw4.T3 := by kernel_rfl
theorem spec_l5Draw4.bits3 : waitsOk spec_l5Draw4.T3.2 spec_l5Draw4.B3 = true := by kernel_rfl
set_option maxHeartbeats 8000000 in
set_option maxRecDepth 100000 in
theorem spec_l5Draw4.calls (k : Nat) (A0 : Option Addr) (c0 : Nat) (l0 : List Int) (r1 : List (S79)) (r2 : Int) (r3 : Int) (r4 : Int) (w : World) (hr0 : Kd.C (Kd.int .u8) w A0 l0.length l0) (hc0 : l0.length ≤ c0) (h : spec_l5Draw4.f k l0 = some (r1, r2, r3, r4)) :
  Calls Try.prog 59 #[.slice A0 l0.length c0] w fun e w' => ∃ v0_ : Value, e = .returned (.tuple #[.agg #[v0_], .int .i64 r2, .int .i64 r3, .int .i64 r4]) ∧ Kd.N k79 79 w' w.heap.size (fun k_ => (w.heap.size ≤ k_)) v0_ r1 ∧ Below w.heap.size w w' := by
 have hu26 := Try.underlying26
 have HR0 := aM hr0
 have HC0 := aM hc0
 clear hr0 hc0
 have HB := aM (Below.refl w.heap.size w)
 have H : ((spec_l1New.f k l0).bind fun bt221 => ((spec_l5DrawAny.f k bt221.1 bt221.2.1 bt221.2.2).bind fun bt225 => ((spec_l1Int.f bt221.1 bt225.2.1 bt225.2.2 (([10, 20, 30, 40, 50, 7] : List Int))).bind fun bt234 => ((spec_l1Int.f bt221.1 bt234.2.1 bt234.2.2 (([1, 2, 3, 4, 5, 0, 51, 7] : List Int))).bind fun bt240 => ((spec_l1Int.f bt221.1 bt240.2.1 bt240.2.2 (([1, 1, 2, 3, 5, 0, 1000, 1001] : List Int))).bind fun bt246 => (some (bt225.1, bt234.1, bt240.1, bt246.1))))))) = some (r1, r2, r3, r4) := h
 clear h
 replace H := Option.bind_eq_some_iff.mp H
 obtain ⟨⟨t221, t222, t223⟩, A20, H⟩ := H
 replace H : ((spec_l5DrawAny.f k t221 t222 t223).bind fun bt225 => ((spec_l1Int.f t221 bt225.2.1 bt225.2.2 (([10, 20, 30, 40, 50, 7] : List Int))).bind fun bt234 => ((spec_l1Int.f t221 bt234.2.1 bt234.2.2 (([1, 2, 3, 4, 5, 0, 51, 7] : List Int))).bind fun bt240 => ((spec_l1Int.f t221 bt240.2.1 bt240.2.2 (([1, 1, 2, 3, 5, 0, 1000, 1001] : List Int))).bind fun bt246 => (some (bt225.1, bt234.1, bt240.1, bt246.1)))))) = some (r1, r2, r3, r4) := H
 have A2 := aM A20
 clear A20
 replace H := Option.bind_eq_some_iff.mp H
 obtain ⟨⟨t225, t228, t229⟩, A30, H⟩ := H
 replace H : ((spec_l1Int.f t221 t228 t229 (([10, 20, 30, 40, 50, 7] : List Int))).bind fun bt234 => ((spec_l1Int.f t221 bt234.2.1 bt234.2.2 (([1, 2, 3, 4, 5, 0, 51, 7] : List Int))).bind fun bt240 => ((spec_l1Int.f t221 bt240.2.1 bt240.2.2 (([1, 1, 2, 3, 5, 0, 1000, 1001] : List Int))).bind fun bt246 => (some (t225, bt234.1, bt240.1, bt246.1))))) = some (r1, r2, r3, r4) := H
 have A3 := aM A30
 clear A30
 obtain ⟨y231, hy231⟩ : ∃ y_ : List Int, y_ = (([10, 20, 30, 40, 50, 7] : List Int)) := ⟨_, rfl⟩
 replace H : ((spec_l1Int.f t221 t228 t229 y231).bind fun bt234 => ((spec_l1Int.f t221 bt234.2.1 bt234.2.2 (([1, 2, 3, 4, 5, 0, 51, 7] : List Int))).bind fun bt240 => ((spec_l1Int.f t221 bt240.2.1 bt240.2.2 (([1, 1, 2, 3, 5, 0, 1000, 1001] : List Int))).bind fun bt246 => (some (t225, bt234.1, bt240.1, bt246.1))))) = some (r1, r2, r3, r4) := by first | (rw [hy231]; with_reducible exact H) | (have H2_ := (Option.bind_some _ _).symm.trans H; rw [hy231]; with_reducible exact H2_) | (have H2_ := (Option.bind_some _ _).symm.trans H; with_reducible exact H2_) | with_reducible exact H | (rw [hy231]; exact H) | exact H
 have Ny231 := aM hy231
 clear hy231
 replace H := Option.bind_eq_some_iff.mp H
 obtain ⟨⟨t234, t235, t236⟩, A40, H⟩ := H
 replace H : ((spec_l1Int.f t221 t235 t236 (([1, 2, 3, 4, 5, 0, 51, 7] : List Int))).bind fun bt240 => ((spec_l1Int.f t221 bt240.2.1 bt240.2.2 (([1, 1, 2, 3, 5, 0, 1000, 1001] : List Int))).bind fun bt246 => (some (t225, t234, bt240.1, bt246.1)))) = some (r1, r2, r3, r4) := H
 have A4 := aM A40
 clear A40
 obtain ⟨y237, hy237⟩ : ∃ y_ : List Int, y_ = (([1, 2, 3, 4, 5, 0, 51, 7] : List Int)) := ⟨_, rfl⟩
 replace H : ((spec_l1Int.f t221 t235 t236 y237).bind fun bt240 => ((spec_l1Int.f t221 bt240.2.1 bt240.2.2 (([1, 1, 2, 3, 5, 0, 1000, 1001] : List Int))).bind fun bt246 => (some (t225, t234, bt240.1, bt246.1)))) = some (r1, r2, r3, r4) := by first | (rw [hy237]; with_reducible exact H) | (have H2_ := (Option.bind_some _ _).symm.trans H; rw [hy237]; with_reducible exact H2_) | (have H2_ := (Option.bind_some _ _).symm.trans H; with_reducible exact H2_) | with_reducible exact H | (rw [hy237]; exact H) | exact H
 have Ny237 := aM hy237
 clear hy237
 replace H := Option.bind_eq_some_iff.mp H
 obtain ⟨⟨t240, t241, t242⟩, A50, H⟩ := H
 replace H : ((spec_l1Int.f t221 t241 t242 (([1, 1, 2, 3, 5, 0, 1000, 1001] : List Int))).bind fun bt246 => (some (t225, t234, t240, bt246.1))) = some (r1, r2, r3, r4) := H
 have A5 := aM A50
 clear A50
 obtain ⟨y243, hy243⟩ : ∃ y_ : List Int, y_ = (([1, 1, 2, 3, 5, 0, 1000, 1001] : List Int)) := ⟨_, rfl⟩
 replace H : ((spec_l1Int.f t221 t241 t242 y243).bind fun bt246 => (some (t225, t234, t240, bt246.1))) = some (r1, r2, r3, r4) := by first | (rw [hy243]; with_reducible exact H) | (have H2_ := (Option.bind_some _ _).symm.trans H; rw [hy243]; with_reducible exact H2_) | (have H2_ := (Option.bind_some _ _).symm.trans H; with_reducible exact H2_) | with_reducible exact H | (rw [hy243]; exact H) | exact H
 have Ny243 := aM hy243
 clear hy243
 replace H := Option.bind_eq_some_iff.mp H
 obtain ⟨⟨t246, t247, t248⟩, A60, H⟩ := H
 replace H : (some (t225, t234, t240, t246)) = some (r1, r2, r3, r4) := H
 have A6 := aM A60
 clear A60
 simp only [Option.some.injEq, Prod.mk.injEq] at H
 obtain ⟨rfl, rfl, rfl, rfl⟩ := H
 go_enter Try.func59, Try.ntmps59
 try go_wp2_with (first | ((with_reducible refine gate_dst (N := 2) rfl ?_); refine bx_ 2 #[.slice none 0 0] 26 ?_; intro gb220 hg w7 hbox hb; have n0_ := aM (below_step qz2 hb); have n1_ := aM (hbox); have n2_ := aM ((by rw [hg]; exact (below_size qz2) : w.heap.size ≤ gb220)); have n3_ := aM ((by rw [hg]; exact (below_size qz2) : w.heap.size ≤ gb220)); clear HB; have HB := n0_; have BK220 := n1_; have GW220 := n2_; have GE220 := n3_; clear n0_ n1_ n2_ n3_; clear hb hbox hg) | ((with_reducible refine gate_callee (f := 75) rfl ?_); refine goesL_ (some 9) rfl rfl Try.func75 (by kernel_rfl) rfl #[.slice A0 l0.length c0] rfl qz1 ?_; (with_reducible refine (spec_l1New.calls k _ _ l0 t221 t222 t223 w _ ?side1 ?side2 ?side3 A2.out).mono ?_); (case side1 => repeat (first | (with_reducible first | exact HB.out | apply below_alloc | apply pw_below_drewN | apply below_drew1 | refine below_set ?_ GE220.out) | exact HB.out)); (case side2 => exact HR0.out); (case side3 => exact HC0.out); rintro e w8 ⟨g224, rfl, hi, hb, hb2⟩; refine ⟨_, rfl, ?_⟩; have n0_ := aM (blk_below (bk_ BK220.out) hb2); have n1_ := aM (hb); have n2_ := aM (hi); have n3_ := aM (IsS122.ne_blk hi (blk_below (bk_ BK220.out) hb2) (by decide)); have n4_ := aM (Ne.symm (IsS122.ne_blk hi (blk_below (bk_ BK220.out) hb2) (by decide))); clear BK220 HB; have BK220 := n0_; have HB := n1_; have HI224 := n2_; have NB224_220 := n3_; have NB220_224 := n4_; clear n0_ n1_ n2_ n3_ n4_; (try clear hb); (try clear hb2); (try clear hk); (try clear hi)) | ((with_reducible refine gate_callee (f := 76) rfl ?_); refine goesL_ (some 11) rfl rfl Try.func76 (by kernel_rfl) rfl #[.pointer (some ⟨g224, 0, none⟩)] rfl qz1 ?_; (with_reducible refine (spec_l5DrawAny.calls k g224 t221 t222 t223 t225 t228 t229 w _ ?side1 ?side2 A3.out).mono ?_); (case side1 => exact qz111); (case side2 => exact qz61); rintro e w9 ⟨v226, rfl, ho0, hi, hb, hk⟩; refine ⟨_, rfl, ?_⟩; have n0_ := aM (KeepBut.blk hk (bk_ BK220.out) NB220_224.out (by simp)); have n1_ := aM (Kd.N_lower (Kd.N_mono (ok' := fun k_ => (w.heap.size ≤ k_) ∧ k_ ≠ gb220 ∧ k_ ≠ g224) ho0 (fun k_ hk_ => ⟨(Nat.le_trans (below_size qz61) hk_), (Kd.freshB (bk_ BK220.out) k_ hk_), (IsS122.fresh qz111 k_ hk_)⟩)) (below_size qz61)); have n2_ := aM (hb); have n3_ := aM (hi); clear BK220 HB HI224; have BK220 := n0_; have HO227 := n1_; have HB := n2_; have HI224 := n3_; clear n0_ n1_ n2_ n3_; (try clear hb); (try clear hb2); (try clear hk); (try clear hi); (try clear ho0)) | ((with_reducible refine gate_dst (N := 7) rfl ?_); refine bx_ 7 #[.slice none 0 0] 26 ?_; intro gb230 hg w10 hbox hb; have n0_ := aM (Kd.N_below (Kd.N_elderB qz44 gb230 (Nat.le_of_eq hg.symm)) hb); have n1_ := aM (blk_below (bk_ BK220.out) hb); have n2_ := aM (IsS122.below qz111 hb); have n3_ := aM (below_step qz61 hb); have n4_ := aM (hbox); have n5_ := aM ((by rw [hg]; exact (below_size qz61) : w.heap.size ≤ gb230)); have n6_ := aM ((by rw [hg]; exact (below_size qz61) : w.heap.size ≤ gb230)); have n7_ := aM ((by rw [hg]; exact Nat.ne_of_lt (blk_lt (bk_ BK220.out)) : gb220 ≠ gb230)); have n8_ := aM ((by rw [hg]; exact Nat.ne_of_gt (blk_lt (bk_ BK220.out)) : gb230 ≠ gb220)); have n9_ := aM ((by rw [hg]; exact Nat.ne_of_lt (IsS122.lt (show IsS122 w _ g224 t221 t228 t229 from by repeat (first | (with_reducible first | exact HI224.out | apply IsS122.alloc | apply IsS122.drewN | apply IsS122.drew | apply IsS122.set_1 | apply IsS122.set_2 | refine IsS122.far ?_ NB224_220.out _) | exact HI224.out))) : g224 ≠ gb230)); have n10_ := aM ((by rw [hg]; exact Nat.ne_of_gt (IsS122.lt (show IsS122 w _ g224 t221 t228 t229 from by repeat (first | (with_reducible first | exact HI224.out | apply IsS122.alloc | apply IsS122.drewN | apply IsS122.drew | apply IsS122.set_1 | apply IsS122.set_2 | refine IsS122.far ?_ NB224_220.out _) | exact HI224.out))) : gb230 ≠ g224)); clear HO227 BK220 HI224 HB; have HO227 := n0_; have BK220 := n1_; have HI224 := n2_; have HB := n3_; have BK230 := n4_; have GW230 := n5_; have GE230 := n6_; have NB220_230 := n7_; have NB230_220 := n8_; have NB224_230 := n9_; have NB230_224 := n10_; clear n0_ n1_ n2_ n3_ n4_ n5_ n6_ n7_ n8_ n9_ n10_; clear hb hbox hg; obtain ⟨Ao11, co11, eo11⟩ := Kd.N_slice HO227.out; subst eo11; have hnb12 := NB230_220.out; have hnc12 := NB220_230.out; have hnb13 := NB230_224.out; have hnc13 := NB224_230.out; have hcz14_0 := bc0_ BK230.out; have hfz14_0 := blk_frozen BK230.out 0))
 generalize hq_ : (w10.setCell ⟨gb230, 0, none⟩ (.slice Ao11 t225.length co11)) = w15
 have n0_ : Aside0 (Kd.N k79 79 w15 w.heap.size (fun k_ => (w.heap.size ≤ k_) ∧ k_ ≠ gb220 ∧ k_ ≠ g224 ∧ k_ ≠ gb230) (.slice Ao11 t225.length co11) t225) := ⟨by rw [← hq_]; exact (by (with_reducible repeat (first | apply Kd.N_alloc | apply Kd.N_drewN | apply Kd.N_drew)); exact Kd.N_mono (Kd.N_far (p := ⟨gb230, 0, none⟩) (Kd.N_mono HO227.out (fun k_ hk => (⟨hk, hk.2⟩ : _ ∧ k_ ≠ gb230))) (fun _ hk => hk.2) (.slice Ao11 t225.length co11)) (fun _ hk => ⟨hk.1.1.1, ⟨hk.1.1.2.1, ⟨hk.1.1.2.2, hk.1.2⟩⟩⟩))⟩
 have n1_ : Aside0 (w15.heap[gb220]? = some (.cells #[.slice none 0 0] 26 (0, 0))) := ⟨by rw [← hq_]; exact (by (with_reducible repeat (first | refine blk_drewN ?_ _ | refine blk_drew ?_ | refine blk_alloc ?_ _)); refine blk_far ?_ NB220_230.out _; exact bk_ BK220.out)⟩
 have n2_ : Aside0 (w15.heap[gb230]? = some (.cells #[.slice Ao11 t225.length co11] 26 (0, 0))) := ⟨by rw [← hq_]; exact (by (with_reducible repeat (first | refine blk_drewN ?_ _ | refine blk_drew ?_ | refine blk_alloc ?_ _)); refine blk_put (cs := #[.slice none 0 0]) ?_ 0 _ rfl; exact bk_ BK230.out)⟩
 have n3_ : Aside0 (IsS122 w w15 g224 t221 t228 t229) := ⟨by rw [← hq_]; exact qz36⟩
 have n4_ : Aside0 (Below w.heap.size w w15) := ⟨by rw [← hq_]; exact qz27⟩
 (try clear HO227)
 (try clear BK220)
 (try clear BK230)
 (try clear HI224)
 (try clear HB)
 clear hq_
 have HO227 := n0_
 have BK220 := n1_
 have BK230 := n2_
 have HI224 := n3_
 have HB := n4_
 clear n0_ n1_ n2_ n3_ n4_
 have n0_ := aM (Kd.N_drew HO227.out)
 have n1_ := aM (blk_drew BK220.out)
 have n2_ := aM (blk_drew BK230.out)
 have n3_ := aM (IsS122.drew HI224.out)
 have n4_ := aM (below_drew1 HB.out)
 clear HO227
 clear BK220
 clear BK230
 clear HI224
 clear HB
 have HO227 := n0_
 have BK220 := n1_
 have BK230 := n2_
 have HI224 := n3_
 have HB := n4_
 clear n0_ n1_ n2_ n3_ n4_
 refine start_ (n := 14) (S := fun w' => True) (ds := []) #[false, false, false, false, false, false, false, false, false, false, false, false, false, false] (by kernel_rfl) rfl rfl trivial (fun hHeld => ?_); refine with_tabW spec_l5Draw4.tab3 spec_l5Draw4.bits3 (fun HT_ HW_ => ?_)
 generalize w15.drew = w16 at HO227 BK220 BK230 HI224 HB hHeld ⊢
 refine pI_ 1 13 (bqz 14 2) ?_
 refine pI_ 4 16 (bqz 14 18) ?_
 refine pI_ 7 19 (bqz 14 146) ?_
 refine inv_at [0, 2, 3, 5, 6, 8, 9, 10, 11, 12, 13] (fun a0_ b a w' => ∃ (v232 : Value) (v238 : Value) (v244 : Value), a = putSel a0_ b [(0, 12, .agg #[.slice Ao11 t225.length co11]), (2, 14, v232), (3, 15, .int .i64 t234), (5, 17, v238), (6, 18, .int .i64 t240), (8, 20, v244), (9, 21, .int .i64 t246), (11, 3, .int .i64 t234), (12, 4, .int .i64 t240), (13, 5, .int .i64 t246)] ∧ (Kd.N k79 79 w' w.heap.size (fun k_ => (w.heap.size ≤ k_) ∧ k_ ≠ gb220 ∧ k_ ≠ g224 ∧ k_ ≠ gb230) (.slice Ao11 t225.length co11) t225) ∧ (b 10 = false → w'.heap[gb220]? = some (.cells #[.slice none 0 0] 26 (0, 0))) ∧ (w'.heap[gb230]? = some (.cells #[.slice Ao11 t225.length co11] 26 (0, 0))) ∧ (b 3 = false → IsS122 w w' g224 t221 t228 t229) ∧ (Below w.heap.size w w') ∧ (b 2 = true → Kd.R (Kd.int .i64) 3 w' w.heap.size (fun k_ => (w.heap.size ≤ k_)) v232 y231) ∧ (b 3 = true → b 6 = false → IsS122 w w' g224 t221 t235 t236) ∧ (b 5 = true → Kd.R (Kd.int .i64) 3 w' w.heap.size (fun k_ => (w.heap.size ≤ k_)) v238 y237) ∧ (b 6 = true → b 9 = false → IsS122 w w' g224 t221 t241 t242) ∧ (b 8 = true → Kd.R (Kd.int .i64) 3 w' w.heap.size (fun k_ => (w.heap.size ≤ k_)) v244 y243) ∧ (b 9 = true → IsS122 w w' g224 t221 t247 t248) ∧ (b 10 = true → w'.heap[gb220]? = some (.cells #[.slice Ao11 t225.length co11] 26 (0, 0)))) HT_.out HW_.out (by kernel_rfl) (by kernel_rfl) ?_ ?_ ?_
 {
 exact ⟨.bool false, .bool false, .bool false, by simp only [putSel, Bool.false_eq_true, if_false], HO227.out, fun _ => BK220.out, BK230.out, fun _ => HI224.out, HB.out, fun h_ => absurd h_ (by decide), fun h_ => absurd h_ (by decide), fun h_ => absurd h_ (by decide), fun h_ => absurd h_ (by decide), fun h_ => absurd h_ (by decide), fun h_ => absurd h_ (by decide), fun h_ => absurd h_ (by decide)⟩
 }
 {
 skip
 clear BK220 BK230 HB HI224 HO227
 refine steps_cons ?_ ?_
 {
 rintro b a w' ⟨v232, v238, v244, ha, Q_HO227, Q_BK220, Q_BK230, Q_HI224, Q_HB, Q_HO233, Q_HI224_e3, Q_HO239, Q_HI224_e6, Q_HO245, Q_HI224_e9, Q_BK220_e10⟩ hb_ hon hoff
 refine ⟨_, rfl, fun K hK => ?_⟩
 have e7 : a.tmps[7]? = some (.pointer (some ⟨gb230, 0, none⟩)) := by rw [ha]; exact (putSel_off rfl).trans rfl
 replace ha := aM ha
 have HO227 := aM Q_HO227
 have BK220 := aM (Q_BK220 (hoff 10 (by kernel_rfl)))
 have BK230 := aM Q_BK230
 have HB := aM Q_HB
 have hc0_ : w'.cell? ⟨gb230, 0, none⟩ = some (.slice Ao11 t225.length co11) := (blk_cell BK230.out 0).trans rfl
 refine value_ (w1 := w') (v := .agg #[.slice Ao11 t225.length co11]) (by rfl) rfl ?_ ?_
 {
 go_simp
 (try simp only [i64_w])
 try rfl
 }
 refine hK.out _ _ ⟨v232, v238, v244, (by rw [ha.out]; exact putSel_upk 0 hb_ rfl rfl rfl), Q_HO227, Q_BK220, Q_BK230, Q_HI224, Q_HB, Q_HO233, Q_HI224_e3, Q_HO239, Q_HI224_e6, Q_HO245, Q_HI224_e9, fun h0_ => absurd ((hoff 10 (by kernel_rfl)).symm.trans h0_) (by decide)⟩
 }
 refine steps_cons ?_ ?_
 {
 rintro b a w' ⟨v232, v238, v244, ha, Q_HO227, Q_BK220, Q_BK230, Q_HI224, Q_HB, Q_HO233, Q_HI224_e3, Q_HO239, Q_HI224_e6, Q_HO245, Q_HI224_e9, Q_BK220_e10⟩ hb_ hon hoff
 refine ⟨_, rfl, fun K hK => ?_⟩
 replace ha := aM ha
 have HO227 := aM Q_HO227
 have BK220 := aM (Q_BK220 (hoff 10 (by kernel_rfl)))
 have BK230 := aM Q_BK230
 have HI224 := aM (Q_HI224 (hoff 3 (by kernel_rfl)))
 have HB := aM Q_HB
 refine Kd.R_lit_step (Kd.int .i64) _ 3 ?hg (N := 14) ?hd (xs := ([10, 20, 30, 40, 50, 7] : List Int)) (inner := [.int .i64 10, .int .i64 20, .int .i64 30, .int .i64 40, .int .i64 50, .int .i64 7]) (ok := fun _ => True) (okp := fun _ => True) ?hr ?hp (fun _ hk => hk) trivial (Below.refl _ _) (Nat.le_refl _) (by simp) ?_; (case hd => rfl); (case hg => rfl); (case hr => exact qz87); (case hp => exact (Reps.one (show Kd.M (Kd.int .i64) _ _ _ 10 [.int .i64 10] from rfl) (Reps.one (show Kd.M (Kd.int .i64) _ _ _ 20 [.int .i64 20] from rfl) (Reps.one (show Kd.M (Kd.int .i64) _ _ _ 30 [.int .i64 30] from rfl) (Reps.one (show Kd.M (Kd.int .i64) _ _ _ 40 [.int .i64 40] from rfl) (Reps.one (show Kd.M (Kd.int .i64) _ _ _ 50 [.int .i64 50] from rfl) (Reps.one (show Kd.M (Kd.int .i64) _ _ _ 7 [.int .i64 7] from rfl) (Reps.none _ _))))))))
 intro v232 w17 ho18 hb hg_ hnew_
 clear hg_ hnew_
 (first | rw [← Ny231.out] at ho18 | (simp only [Int.reduceToNat] at ho18; rw [← Ny231.out] at ho18))
 have n0_ := aM (Kd.N_below qz44 hb)
 have n1_ := aM (Kd.R_lower (Kd.R_newM (M := fun k_ => (w.heap.size ≤ k_)) ho18 (below_size qz27) (fun k_ h_ => h_)) (below_size qz27))
 have n2_ := aM (blk_below (bk_ BK220.out) hb)
 have n3_ := aM (IsS122.below qz36 hb)
 have n4_ := aM (blk_below (bk_ BK230.out) hb)
 have n5_ := aM (below_step qz27 hb)
 have z_HO239 := fun (h0_ : b 5 = true) => (show Kd.R (Kd.int .i64) 3 w17 w.heap.size (fun k_ => (w.heap.size ≤ k_)) v238 y237 from by first | exact (Kd.R_elder' qz74 (Kd.R_base ho18) hb) | exact Kd.R_mono (Kd.R_elder' qz74 (Kd.R_base ho18) hb) (fun _ h_ => by first | trivial | exact h_ | exact h_.1))
 have z_HO245 := fun (h0_ : b 8 = true) => (show Kd.R (Kd.int .i64) 3 w17 w.heap.size (fun k_ => (w.heap.size ≤ k_)) v244 y243 from by first | exact (Kd.R_elder' qz67 (Kd.R_base ho18) hb) | exact Kd.R_mono (Kd.R_elder' qz67 (Kd.R_base ho18) hb) (fun _ h_ => by first | trivial | exact h_ | exact h_.1))
 clear HO227
 clear BK220
 clear HI224
 clear BK230
 clear HB
 have HO227 := n0_
 have HO233 := n1_
 have BK220 := n2_
 have HI224 := n3_
 have BK230 := n4_
 have HB := n5_
 clear n0_ n1_ n2_ n3_ n4_ n5_
 clear hb ho18
 refine hK.out _ _ ⟨v232, v238, v244, (by rw [ha.out]; exact putSel_upk 1 hb_ rfl rfl rfl), qz44, fun _ => (bk_ BK220.out), (bk_ BK230.out), fun _ => qz36, qz27, fun _ => (by (with_reducible repeat (first | apply Kd.R_alloc | apply Kd.R_drewN | apply Kd.R_drew)); exact Kd.R_mono HO233.out (fun _ hk => hk.1)), fun h0_ _ => absurd ((hoff 3 (by kernel_rfl)).symm.trans h0_) (by decide), z_HO239, fun h0_ _ => absurd ((hoff 6 (by kernel_rfl)).symm.trans h0_) (by decide), z_HO245, fun h0_ => absurd ((hoff 9 (by kernel_rfl)).symm.trans h0_) (by decide), fun h0_ => absurd ((hoff 10 (by kernel_rfl)).symm.trans h0_) (by decide)⟩
 }
 refine steps_cons ?_ ?_
 {
 rintro b a w' ⟨v232, v238, v244, ha, Q_HO227, Q_BK220, Q_BK230, Q_HI224, Q_HB, Q_HO233, Q_HI224_e3, Q_HO239, Q_HI224_e6, Q_HO245, Q_HI224_e9, Q_BK220_e10⟩ hb_ hon hoff
 refine ⟨_, rfl, fun K hK => ?_⟩
 have e13 : a.tmps[13]? = some (.pointer (some ⟨g224, 0, none⟩)) := by rw [ha]; exact (putSel_off rfl).trans rfl
 have e14 : a.tmps[14]? = some (v232) := by rw [ha]; exact putSel_on (e := (2, 14, v232)) 1 rfl rfl (hon 2 (by kernel_rfl)) rfl
 replace ha := aM ha
 have HO227 := aM Q_HO227
 have BK220 := aM (Q_BK220 (hoff 10 (by kernel_rfl)))
 have BK230 := aM Q_BK230
 have HI224 := aM (Q_HI224 hb_)
 have HB := aM Q_HB
 have HO233 := aM (Q_HO233 (hon 2 (by kernel_rfl)))
 obtain ⟨Ao20, co20, eo20⟩ := Kd.R_slice HO233.out
 (first | subst eo20 | (injection eo20 with f1_ f2_ f3_; have f4_ := f1_.symm; have f5_ := f3_.symm; clear f1_ f2_ f3_; subst f4_; subst f5_))
 refine goes_ Try.func92 (by kernel_rfl) rfl #[.pointer (some ⟨g224, 0, none⟩), .slice Ao20 y231.length co20] (by rfl) rfl rfl (by first | (simp only [List.map_toArray, List.map_cons, List.map_nil, Act.eval, Array.getD_eq_getD_getElem?, Option.getD_some, e13, e14]; done) | (simp only [List.map_toArray, List.map_cons, List.map_nil, Act.eval, Array.getD_eq_getD_getElem?, Option.getD_some, e13, e14]; rfl)) ?_
 with_reducible refine (spec_l1Int.calls g224 t221 t228 t229 _ _ y231 t234 t235 t236 w _ ?side1 ?side2 ?side3 ?side4 ?side5 A4.out).mono ?_
 (case side1 => exact qz36)
 (case side2 => exact qz27)
 (case side3 => repeat (first | exact (Kd.R_reads' HO233.out).2.2 | (with_reducible refine Kd.C_alloc ?_ _) | (with_reducible refine Kd.C_drewN ?_ _) | (with_reducible refine Kd.C_drew ?_)))
 (case side4 => exact (Kd.R_reads' HO233.out).2.1)
 (case side5 => exact far_slice (IsS122.own_ne HI224.out HO233.out (by decide)))
 rintro e w21 ⟨rfl, hi, hb, hk⟩
 refine ⟨_, rfl, ?_⟩
 have n0_ := aM (KeepBut.blk hk (bk_ BK220.out) NB220_224.out (by simp))
 have n1_ := aM (Kd.N_mono (Kd.N_keep (Kd.N_mono (ok := fun k_ => (((w.heap.size ≤ k_)) ∧ (k_ ≠ gb220 ∧ (k_ ≠ g224 ∧ k_ ≠ gb230)))) qz44 (fun k_ hk_ => (⟨hk_, hk_.2.2.1⟩ : _ ∧ k_ ≠ g224))) hk (fun _ h => h.2)) (fun _ h => h.1))
 have n2_ := aM (KeepBut.blk hk (bk_ BK230.out) NB230_224.out (by simp))
 have n3_ := aM (Kd.R_mono (Kd.R_keep (IsS122.apart (show IsS122 w _ g224 t221 t228 t229 from by repeat (first | (with_reducible first | exact HI224.out | apply IsS122.alloc | apply IsS122.drewN | apply IsS122.drew | apply IsS122.set_1 | apply IsS122.set_2 | refine IsS122.far ?_ NB224_220.out _ | refine IsS122.far ?_ NB224_230.out _) | exact HI224.out)) (rr_ HO233.out) (by decide)) hk (fun _ h => h.2)) (fun _ h => h.1))
 have n4_ := aM (hb)
 have n5_ := aM (hi)
 have z_HO239 := fun (h0_ : b 5 = true) => (show Kd.R (Kd.int .i64) 3 w21 w.heap.size (fun k_ => (w.heap.size ≤ k_)) v238 y237 from by first | exact (Kd.R_mono (Kd.R_keep (IsS122.apart (show IsS122 w _ g224 t221 t228 t229 from by repeat (first | (with_reducible first | exact HI224.out | apply IsS122.alloc | apply IsS122.drewN | apply IsS122.drew | apply IsS122.set_1 | apply IsS122.set_2 | refine IsS122.far ?_ NB224_220.out _ | refine IsS122.far ?_ NB224_230.out _) | exact HI224.out)) qz74 (by decide)) hk (fun _ h => h.2)) (fun _ h => h.1)) | exact Kd.R_mono (Kd.R_mono (Kd.R_keep (IsS122.apart (show IsS122 w _ g224 t221 t228 t229 from by repeat (first | (with_reducible first | exact HI224.out | apply IsS122.alloc | apply IsS122.drewN | apply IsS122.drew | apply IsS122.set_1 | apply IsS122.set_2 | refine IsS122.far ?_ NB224_220.out _ | refine IsS122.far ?_ NB224_230.out _) | exact HI224.out)) qz74 (by decide)) hk (fun _ h => h.2)) (fun _ h => h.1)) (fun _ h_ => by first | trivial | exact h_ | exact h_.1))
 have z_HO245 := fun (h0_ : b 8 = true) => (show Kd.R (Kd.int .i64) 3 w21 w.heap.size (fun k_ => (w.heap.size ≤ k_)) v244 y243 from by first | exact (Kd.R_mono (Kd.R_keep (IsS122.apart (show IsS122 w _ g224 t221 t228 t229 from by repeat (first | (with_reducible first | exact HI224.out | apply IsS122.alloc | apply IsS122.drewN | apply IsS122.drew | apply IsS122.set_1 | apply IsS122.set_2 | refine IsS122.far ?_ NB224_220.out _ | refine IsS122.far ?_ NB224_230.out _) | exact HI224.out)) qz67 (by decide)) hk (fun _ h => h.2)) (fun _ h => h.1)) | exact Kd.R_mono (Kd.R_mono (Kd.R_keep (IsS122.apart (show IsS122 w _ g224 t221 t228 t229 from by repeat (first | (with_reducible first | exact HI224.out | apply IsS122.alloc | apply IsS122.drewN | apply IsS122.drew | apply IsS122.set_1 | apply IsS122.set_2 | refine IsS122.far ?_ NB224_220.out _ | refine IsS122.far ?_ NB224_230.out _) | exact HI224.out)) qz67 (by decide)) hk (fun _ h => h.2)) (fun _ h => h.1)) (fun _ h_ => by first | trivial | exact h_ | exact h_.1))
 clear BK220
 clear HO227
 clear BK230
 clear HO233
 clear HB
 clear HI224
 have BK220 := n0_
 have HO227 := n1_
 have BK230 := n2_
 have HO233 := n3_
 have HB := n4_
 have HI224 := n5_
 clear n0_ n1_ n2_ n3_ n4_ n5_
 (try clear hb)
 (try clear hb2)
 (try clear hk)
 (try clear hi)
 refine hK.out _ _ ⟨.slice Ao20 y231.length co20, v238, v244, (by rw [ha.out]; exact putSel_upk 2 hb_ rfl rfl rfl), qz44, fun _ => (bk_ BK220.out), (bk_ BK230.out), fun h0_ => absurd ((up_self b 3).symm.trans h0_) (by decide), qz27, fun _ => (rr_ HO233.out), fun _ _ => qz36, z_HO239, fun h0_ _ => absurd ((hoff 6 (by kernel_rfl)).symm.trans h0_) (by decide), z_HO245, fun h0_ => absurd ((hoff 9 (by kernel_rfl)).symm.trans h0_) (by decide), fun h0_ => absurd ((hoff 10 (by kernel_rfl)).symm.trans h0_) (by decide)⟩
 }
 refine steps_cons ?_ ?_
 {
 rintro b a w' ⟨v232, v238, v244, ha, Q_HO227, Q_BK220, Q_BK230, Q_HI224, Q_HB, Q_HO233, Q_HI224_e3, Q_HO239, Q_HI224_e6, Q_HO245, Q_HI224_e9, Q_BK220_e10⟩ hb_ hon hoff
 refine ⟨_, rfl, fun K hK => ?_⟩
 replace ha := aM ha
 have HO227 := aM Q_HO227
 have BK220 := aM (Q_BK220 (hoff 10 (by kernel_rfl)))
 have BK230 := aM Q_BK230
 have HB := aM Q_HB
 refine Kd.R_lit_step (Kd.int .i64) _ 3 ?hg (N := 17) ?hd (xs := ([1, 2, 3, 4, 5, 0, 51, 7] : List Int)) (inner := [.int .i64 1, .int .i64 2, .int .i64 3, .int .i64 4, .int .i64 5, .int .i64 0, .int .i64 51, .int .i64 7]) (ok := fun _ => True) (okp := fun _ => True) ?hr ?hp (fun _ hk => hk) trivial (Below.refl _ _) (Nat.le_refl _) (by simp) ?_; (case hd => rfl); (case hg => rfl); (case hr => exact qz87); (case hp => exact (Reps.one (show Kd.M (Kd.int .i64) _ _ _ 1 [.int .i64 1] from rfl) (Reps.one (show Kd.M (Kd.int .i64) _ _ _ 2 [.int .i64 2] from rfl) (Reps.one (show Kd.M (Kd.int .i64) _ _ _ 3 [.int .i64 3] from rfl) (Reps.one (show Kd.M (Kd.int .i64) _ _ _ 4 [.int .i64 4] from rfl) (Reps.one (show Kd.M (Kd.int .i64) _ _ _ 5 [.int .i64 5] from rfl) (Reps.one (show Kd.M (Kd.int .i64) _ _ _ 0 [.int .i64 0] from rfl) (Reps.one (show Kd.M (Kd.int .i64) _ _ _ 51 [.int .i64 51] from rfl) (Reps.one (show Kd.M (Kd.int .i64) _ _ _ 7 [.int .i64 7] from rfl) (Reps.none _ _))))))))))
 intro v238 w17 ho18 hb hg_ hnew_
 clear hg_ hnew_
 (first | rw [← Ny237.out] at ho18 | (simp only [Int.reduceToNat] at ho18; rw [← Ny237.out] at ho18))
 have n0_ := aM (Kd.N_below qz44 hb)
 have n1_ := aM (Kd.R_lower (Kd.R_newM (M := fun k_ => (w.heap.size ≤ k_)) ho18 (below_size qz40) (fun k_ h_ => h_)) (below_size qz40))
 have n2_ := aM (blk_below (bk_ BK220.out) hb)
 have n4_ := aM (blk_below (bk_ BK230.out) hb)
 have n5_ := aM (below_step qz40 hb)
 have z_HI224 := fun (h0_ : b 3 = false) => (show IsS122 w w17 g224 t221 t228 t229 from by first | exact (IsS122.below qz108 hb))
 have z_HO233 := fun (h0_ : b 2 = true) => (show Kd.R (Kd.int .i64) 3 w17 w.heap.size (fun k_ => (w.heap.size ≤ k_)) v232 y231 from by first | exact (Kd.R_elder' qz100 (Kd.R_base ho18) hb) | exact Kd.R_mono (Kd.R_elder' qz100 (Kd.R_base ho18) hb) (fun _ h_ => by first | trivial | exact h_ | exact h_.1))
 have z_HI224_e3 := fun (h0_ : b 3 = true) (h1_ : b 6 = false) => (show IsS122 w w17 g224 t221 t235 t236 from by first | exact (IsS122.below qz106 hb))
 have z_HO245 := fun (h0_ : b 8 = true) => (show Kd.R (Kd.int .i64) 3 w17 w.heap.size (fun k_ => (w.heap.size ≤ k_)) v244 y243 from by first | exact (Kd.R_elder' qz67 (Kd.R_base ho18) hb) | exact Kd.R_mono (Kd.R_elder' qz67 (Kd.R_base ho18) hb) (fun _ h_ => by first | trivial | exact h_ | exact h_.1))
 clear HO227
 clear BK220
 clear BK230
 clear HB
 have HO227 := n0_
 have HO239 := n1_
 have BK220 := n2_
 have BK230 := n4_
 have HB := n5_
 clear n0_ n1_ n2_ n4_ n5_
 clear hb ho18
 refine hK.out _ _ ⟨v232, v238, v244, (by rw [ha.out]; exact putSel_upk 3 hb_ rfl rfl rfl), qz44, fun _ => (bk_ BK220.out), (bk_ BK230.out), z_HI224, qz40, z_HO233, z_HI224_e3, fun _ => (by (with_reducible repeat (first | apply Kd.R_alloc | apply Kd.R_drewN | apply Kd.R_drew)); exact Kd.R_mono HO239.out (fun _ hk => hk.1)), fun h0_ _ => absurd ((hoff 6 (by kernel_rfl)).symm.trans h0_) (by decide), z_HO245, fun h0_ => absurd ((hoff 9 (by kernel_rfl)).symm.trans h0_) (by decide), fun h0_ => absurd ((hoff 10 (by kernel_rfl)).symm.trans h0_) (by decide)⟩
 }
 refine steps_cons ?_ ?_
 {
 rintro b a w' ⟨v232, v238, v244, ha, Q_HO227, Q_BK220, Q_BK230, Q_HI224, Q_HB, Q_HO233, Q_HI224_e3, Q_HO239, Q_HI224_e6, Q_HO245, Q_HI224_e9, Q_BK220_e10⟩ hb_ hon hoff
 refine ⟨_, rfl, fun K hK => ?_⟩
 have e16 : a.tmps[16]? = some (.pointer (some ⟨g224, 0, none⟩)) := by rw [ha]; exact (putSel_off rfl).trans rfl
 have e17 : a.tmps[17]? = some (v238) := by rw [ha]; exact putSel_on (e := (5, 17, v238)) 3 rfl rfl (hon 5 (by kernel_rfl)) rfl
 replace ha := aM ha
 have HO227 := aM Q_HO227
 have BK220 := aM (Q_BK220 (hoff 10 (by kernel_rfl)))
 have BK230 := aM Q_BK230
 have HB := aM Q_HB
 have HO233 := aM (Q_HO233 (hon 2 (by kernel_rfl)))
 have HI224 := aM (Q_HI224_e3 (hon 3 (by kernel_rfl)) hb_)
 have HO239 := aM (Q_HO239 (hon 5 (by kernel_rfl)))
 obtain ⟨Ao24, co24, eo24⟩ := Kd.R_slice HO239.out
 (first | subst eo24 | (injection eo24 with f1_ f2_ f3_; have f4_ := f1_.symm; have f5_ := f3_.symm; clear f1_ f2_ f3_; subst f4_; subst f5_))
 refine goes_ Try.func92 (by kernel_rfl) rfl #[.pointer (some ⟨g224, 0, none⟩), .slice Ao24 y237.length co24] (by rfl) rfl rfl (by first | (simp only [List.map_toArray, List.map_cons, List.map_nil, Act.eval, Array.getD_eq_getD_getElem?, Option.getD_some, e16, e17]; done) | (simp only [List.map_toArray, List.map_cons, List.map_nil, Act.eval, Array.getD_eq_getD_getElem?, Option.getD_some, e16, e17]; rfl)) ?_
 with_reducible refine (spec_l1Int.calls g224 t221 t235 t236 _ _ y237 t240 t241 t242 w _ ?side1 ?side2 ?side3 ?side4 ?side5 A5.out).mono ?_
 (case side1 => exact qz36)
 (case side2 => exact qz27)
 (case side3 => repeat (first | exact (Kd.R_reads' HO239.out).2.2 | (with_reducible refine Kd.C_alloc ?_ _) | (with_reducible refine Kd.C_drewN ?_ _) | (with_reducible refine Kd.C_drew ?_)))
 (case side4 => exact (Kd.R_reads' HO239.out).2.1)
 (case side5 => exact far_slice (IsS122.own_ne HI224.out HO239.out (by decide)))
 rintro e w25 ⟨rfl, hi, hb, hk⟩
 refine ⟨_, rfl, ?_⟩
 have n0_ := aM (KeepBut.blk hk (bk_ BK220.out) NB220_224.out (by simp))
 have n1_ := aM (Kd.N_mono (Kd.N_keep (Kd.N_mono (ok := fun k_ => (((w.heap.size ≤ k_)) ∧ (k_ ≠ gb220 ∧ (k_ ≠ g224 ∧ k_ ≠ gb230)))) qz44 (fun k_ hk_ => (⟨hk_, hk_.2.2.1⟩ : _ ∧ k_ ≠ g224))) hk (fun _ h => h.2)) (fun _ h => h.1))
 have n2_ := aM (KeepBut.blk hk (bk_ BK230.out) NB230_224.out (by simp))
 have n3_ := aM (Kd.R_mono (Kd.R_keep (IsS122.apart (show IsS122 w _ g224 t221 t235 t236 from by repeat (first | (with_reducible first | exact HI224.out | apply IsS122.alloc | apply IsS122.drewN | apply IsS122.drew | apply IsS122.set_1 | apply IsS122.set_2 | refine IsS122.far ?_ NB224_220.out _ | refine IsS122.far ?_ NB224_230.out _) | exact HI224.out)) (rr_ HO233.out) (by decide)) hk (fun _ h => h.2)) (fun _ h => h.1))
 have n4_ := aM (Kd.R_mono (Kd.R_keep (IsS122.apart (show IsS122 w _ g224 t221 t235 t236 from by repeat (first | (with_reducible first | exact HI224.out | apply IsS122.alloc | apply IsS122.drewN | apply IsS122.drew | apply IsS122.set_1 | apply IsS122.set_2 | refine IsS122.far ?_ NB224_220.out _ | refine IsS122.far ?_ NB224_230.out _) | exact HI224.out)) (rr_ HO239.out) (by decide)) hk (fun _ h => h.2)) (fun _ h => h.1))
 have n5_ := aM (hb)
 have n6_ := aM (hi)
 have z_HO245 := fun (h0_ : b 8 = true) => (show Kd.R (Kd.int .i64) 3 w25 w.heap.size (fun k_ => (w.heap.size ≤ k_)) v244 y243 from by first | exact (Kd.R_mono (Kd.R_keep (IsS122.apart (show IsS122 w _ g224 t221 t235 t236 from by repeat (first | (with_reducible first | exact HI224.out | apply IsS122.alloc | apply IsS122.drewN | apply IsS122.drew | apply IsS122.set_1 | apply IsS122.set_2 | refine IsS122.far ?_ NB224_220.out _ | refine IsS122.far ?_ NB224_230.out _) | exact HI224.out)) qz67 (by decide)) hk (fun _ h => h.2)) (fun _ h => h.1)) | exact Kd.R_mono (Kd.R_mono (Kd.R_keep (IsS122.apart (show IsS122 w _ g224 t221 t235 t236 from by repeat (first | (with_reducible first | exact HI224.out | apply IsS122.alloc | apply IsS122.drewN | apply IsS122.drew | apply IsS122.set_1 | apply IsS122.set_2 | refine IsS122.far ?_ NB224_220.out _ | refine IsS122.far ?_ NB224_230.out _) | exact HI224.out)) qz67 (by decide)) hk (fun _ h => h.2)) (fun _ h => h.1)) (fun _ h_ => by first | trivial | exact h_ | exact h_.1))
 clear BK220
 clear HO227
 clear BK230
 clear HO233
 clear HO239
 clear HB
 clear HI224
 have BK220 := n0_
 have HO227 := n1_
 have BK230 := n2_
 have HO233 := n3_
 have HO239 := n4_
 have HB := n5_
 have HI224 := n6_
 clear n0_ n1_ n2_ n3_ n4_ n5_ n6_
 (try clear hb)
 (try clear hb2)
 (try clear hk)
 (try clear hi)
 refine hK.out _ _ ⟨v232, .slice Ao24 y237.length co24, v244, (by rw [ha.out]; exact putSel_upk 4 hb_ rfl rfl rfl), qz44, fun _ => (bk_ BK220.out), (bk_ BK230.out), fun h0_ => absurd ((hon 3 (by kernel_rfl)).symm.trans h0_) (by decide), qz27, fun _ => (rr_ HO233.out), fun _ h1_ => absurd ((up_self b 6).symm.trans h1_) (by decide), fun _ => (rr_ HO239.out), fun _ _ => qz36, z_HO245, fun h0_ => absurd ((hoff 9 (by kernel_rfl)).symm.trans h0_) (by decide), fun h0_ => absurd ((hoff 10 (by kernel_rfl)).symm.trans h0_) (by decide)⟩
 }
 refine steps_cons ?_ ?_
 {
 rintro b a w' ⟨v232, v238, v244, ha, Q_HO227, Q_BK220, Q_BK230, Q_HI224, Q_HB, Q_HO233, Q_HI224_e3, Q_HO239, Q_HI224_e6, Q_HO245, Q_HI224_e9, Q_BK220_e10⟩ hb_ hon hoff
 refine ⟨_, rfl, fun K hK => ?_⟩
 replace ha := aM ha
 have HO227 := aM Q_HO227
 have BK220 := aM (Q_BK220 (hoff 10 (by kernel_rfl)))
 have BK230 := aM Q_BK230
 have HB := aM Q_HB
 refine Kd.R_lit_step (Kd.int .i64) _ 3 ?hg (N := 20) ?hd (xs := ([1, 1, 2, 3, 5, 0, 1000, 1001] : List Int)) (inner := [.int .i64 1, .int .i64 1, .int .i64 2, .int .i64 3, .int .i64 5, .int .i64 0, .int .i64 1000, .int .i64 1001]) (ok := fun _ => True) (okp := fun _ => True) ?hr ?hp (fun _ hk => hk) trivial (Below.refl _ _) (Nat.le_refl _) (by simp) ?_; (case hd => rfl); (case hg => rfl); (case hr => exact qz87); (case hp => exact (Reps.one (show Kd.M (Kd.int .i64) _ _ _ 1 [.int .i64 1] from rfl) (Reps.one (show Kd.M (Kd.int .i64) _ _ _ 1 [.int .i64 1] from rfl) (Reps.one (show Kd.M (Kd.int .i64) _ _ _ 2 [.int .i64 2] from rfl) (Reps.one (show Kd.M (Kd.int .i64) _ _ _ 3 [.int .i64 3] from rfl) (Reps.one (show Kd.M (Kd.int .i64) _ _ _ 5 [.int .i64 5] from rfl) (Reps.one (show Kd.M (Kd.int .i64) _ _ _ 0 [.int .i64 0] from rfl) (Reps.one (show Kd.M (Kd.int .i64) _ _ _ 1000 [.int .i64 1000] from rfl) (Reps.one (show Kd.M (Kd.int .i64) _ _ _ 1001 [.int .i64 1001] from rfl) (Reps.none _ _))))))))))
 intro v244 w17 ho18 hb hg_ hnew_
 clear hg_ hnew_
 (first | rw [← Ny243.out] at ho18 | (simp only [Int.reduceToNat] at ho18; rw [← Ny243.out] at ho18))
 have n0_ := aM (Kd.N_below qz44 hb)
 have n1_ := aM (Kd.R_lower (Kd.R_newM (M := fun k_ => (w.heap.size ≤ k_)) ho18 (below_size qz40) (fun k_ h_ => h_)) (below_size qz40))
 have n2_ := aM (blk_below (bk_ BK220.out) hb)
 have n4_ := aM (blk_below (bk_ BK230.out) hb)
 have n5_ := aM (below_step qz40 hb)
 have z_HI224 := fun (h0_ : b 3 = false) => (show IsS122 w w17 g224 t221 t228 t229 from by first | exact (IsS122.below qz108 hb))
 have z_HO233 := fun (h0_ : b 2 = true) => (show Kd.R (Kd.int .i64) 3 w17 w.heap.size (fun k_ => (w.heap.size ≤ k_)) v232 y231 from by first | exact (Kd.R_elder' qz100 (Kd.R_base ho18) hb) | exact Kd.R_mono (Kd.R_elder' qz100 (Kd.R_base ho18) hb) (fun _ h_ => by first | trivial | exact h_ | exact h_.1))
 have z_HI224_e3 := fun (h0_ : b 3 = true) (h1_ : b 6 = false) => (show IsS122 w w17 g224 t221 t235 t236 from by first | exact (IsS122.below qz106 hb))
 have z_HO239 := fun (h0_ : b 5 = true) => (show Kd.R (Kd.int .i64) 3 w17 w.heap.size (fun k_ => (w.heap.size ≤ k_)) v238 y237 from by first | exact (Kd.R_elder' qz74 (Kd.R_base ho18) hb) | exact Kd.R_mono (Kd.R_elder' qz74 (Kd.R_base ho18) hb) (fun _ h_ => by first | trivial | exact h_ | exact h_.1))
 have z_HI224_e6 := fun (h0_ : b 6 = true) (h1_ : b 9 = false) => (show IsS122 w w17 g224 t221 t241 t242 from by first | exact (IsS122.below (by repeat (first | (with_reducible first | exact (Q_HI224_e6 h0_ h1_) | apply IsS122.alloc | apply IsS122.drewN | apply IsS122.drew | apply IsS122.set_1 | apply IsS122.set_2 | refine IsS122.far ?_ NB224_220.out _ | refine IsS122.far ?_ NB224_230.out _) | exact (Q_HI224_e6 h0_ h1_))) hb))
 clear HO227
 clear BK220
 clear BK230
 clear HB
 have HO227 := n0_
 have HO245 := n1_
 have BK220 := n2_
 have BK230 := n4_
 have HB := n5_
 clear n0_ n1_ n2_ n4_ n5_
 clear hb ho18
 refine hK.out _ _ ⟨v232, v238, v244, (by rw [ha.out]; exact putSel_upk 5 hb_ rfl rfl rfl), qz44, fun _ => (bk_ BK220.out), (bk_ BK230.out), z_HI224, qz40, z_HO233, z_HI224_e3, z_HO239, z_HI224_e6, fun _ => (by (with_reducible repeat (first | apply Kd.R_alloc | apply Kd.R_drewN | apply Kd.R_drew)); exact Kd.R_mono HO245.out (fun _ hk => hk.1)), fun h0_ => absurd ((hoff 9 (by kernel_rfl)).symm.trans h0_) (by decide), fun h0_ => absurd ((hoff 10 (by kernel_rfl)).symm.trans h0_) (by decide)⟩
 }
 refine steps_cons ?_ ?_
 {
 rintro b a w' ⟨v232, v238, v244, ha, Q_HO227, Q_BK220, Q_BK230, Q_HI224, Q_HB, Q_HO233, Q_HI224_e3, Q_HO239, Q_HI224_e6, Q_HO245, Q_HI224_e9, Q_BK220_e10⟩ hb_ hon hoff
 refine ⟨_, rfl, fun K hK => ?_⟩
 have e19 : a.tmps[19]? = some (.pointer (some ⟨g224, 0, none⟩)) := by rw [ha]; exact (putSel_off rfl).trans rfl
 have e20 : a.tmps[20]? = some (v244) := by rw [ha]; exact putSel_on (e := (8, 20, v244)) 5 rfl rfl (hon 8 (by kernel_rfl)) rfl
 replace ha := aM ha
 have HO227 := aM Q_HO227
 have BK220 := aM (Q_BK220 (hoff 10 (by kernel_rfl)))
 have BK230 := aM Q_BK230
 have HB := aM Q_HB
 have HO233 := aM (Q_HO233 (hon 2 (by kernel_rfl)))
 have HO239 := aM (Q_HO239 (hon 5 (by kernel_rfl)))
 have HI224 := aM (Q_HI224_e6 (hon 6 (by kernel_rfl)) hb_)
 have HO245 := aM (Q_HO245 (hon 8 (by kernel_rfl)))
 obtain ⟨Ao28, co28, eo28⟩ := Kd.R_slice HO245.out
 (first | subst eo28 | (injection eo28 with f1_ f2_ f3_; have f4_ := f1_.symm; have f5_ := f3_.symm; clear f1_ f2_ f3_; subst f4_; subst f5_))
 refine goes_ Try.func92 (by kernel_rfl) rfl #[.pointer (some ⟨g224, 0, none⟩), .slice Ao28 y243.length co28] (by rfl) rfl rfl (by first | (simp only [List.map_toArray, List.map_cons, List.map_nil, Act.eval, Array.getD_eq_getD_getElem?, Option.getD_some, e19, e20]; done) | (simp only [List.map_toArray, List.map_cons, List.map_nil, Act.eval, Array.getD_eq_getD_getElem?, Option.getD_some, e19, e20]; rfl)) ?_
 with_reducible refine (spec_l1Int.calls g224 t221 t241 t242 _ _ y243 t246 t247 t248 w _ ?side1 ?side2 ?side3 ?side4 ?side5 A6.out).mono ?_
 (case side1 => exact qz36)
 (case side2 => exact qz27)
 (case side3 => repeat (first | exact (Kd.R_reads' HO245.out).2.2 | (with_reducible refine Kd.C_alloc ?_ _) | (with_reducible refine Kd.C_drewN ?_ _) | (with_reducible refine Kd.C_drew ?_)))
 (case side4 => exact (Kd.R_reads' HO245.out).2.1)
 (case side5 => exact far_slice (IsS122.own_ne HI224.out HO245.out (by decide)))
 rintro e w29 ⟨rfl, hi, hb, hk⟩
 refine ⟨_, rfl, ?_⟩
 have n0_ := aM (KeepBut.blk hk (bk_ BK220.out) NB220_224.out (by simp))
 have n1_ := aM (Kd.N_mono (Kd.N_keep (Kd.N_mono (ok := fun k_ => (((w.heap.size ≤ k_)) ∧ (k_ ≠ gb220 ∧ (k_ ≠ g224 ∧ k_ ≠ gb230)))) qz44 (fun k_ hk_ => (⟨hk_, hk_.2.2.1⟩ : _ ∧ k_ ≠ g224))) hk (fun _ h => h.2)) (fun _ h => h.1))
 have n2_ := aM (KeepBut.blk hk (bk_ BK230.out) NB230_224.out (by simp))
 have n3_ := aM (Kd.R_mono (Kd.R_keep (IsS122.apart (show IsS122 w _ g224 t221 t241 t242 from by repeat (first | (with_reducible first | exact HI224.out | apply IsS122.alloc | apply IsS122.drewN | apply IsS122.drew | apply IsS122.set_1 | apply IsS122.set_2 | refine IsS122.far ?_ NB224_220.out _ | refine IsS122.far ?_ NB224_230.out _) | exact HI224.out)) (rr_ HO233.out) (by decide)) hk (fun _ h => h.2)) (fun _ h => h.1))
 have n4_ := aM (Kd.R_mono (Kd.R_keep (IsS122.apart (show IsS122 w _ g224 t221 t241 t242 from by repeat (first | (with_reducible first | exact HI224.out | apply IsS122.alloc | apply IsS122.drewN | apply IsS122.drew | apply IsS122.set_1 | apply IsS122.set_2 | refine IsS122.far ?_ NB224_220.out _ | refine IsS122.far ?_ NB224_230.out _) | exact HI224.out)) (rr_ HO239.out) (by decide)) hk (fun _ h => h.2)) (fun _ h => h.1))
 have n5_ := aM (Kd.R_mono (Kd.R_keep (IsS122.apart (show IsS122 w _ g224 t221 t241 t242 from by repeat (first | (with_reducible first | exact HI224.out | apply IsS122.alloc | apply IsS122.drewN | apply IsS122.drew | apply IsS122.set_1 | apply IsS122.set_2 | refine IsS122.far ?_ NB224_220.out _ | refine IsS122.far ?_ NB224_230.out _) | exact HI224.out)) (rr_ HO245.out) (by decide)) hk (fun _ h => h.2)) (fun _ h => h.1))
 have n6_ := aM (hb)
 have n7_ := aM (hi)
 clear BK220
 clear HO227
 clear BK230
 clear HO233
 clear HO239
 clear HO245
 clear HB
 clear HI224
 have BK220 := n0_
 have HO227 := n1_
 have BK230 := n2_
 have HO233 := n3_
 have HO239 := n4_
 have HO245 := n5_
 have HB := n6_
 have HI224 := n7_
 clear n0_ n1_ n2_ n3_ n4_ n5_ n6_ n7_
 (try clear hb)
 (try clear hb2)
 (try clear hk)
 (try clear hi)
 refine hK.out _ _ ⟨v232, v238, .slice Ao28 y243.length co28, (by rw [ha.out]; exact putSel_upk 6 hb_ rfl rfl rfl), qz44, fun _ => (bk_ BK220.out), (bk_ BK230.out), fun h0_ => absurd ((hon 3 (by kernel_rfl)).symm.trans h0_) (by decide), qz27, fun _ => (rr_ HO233.out), fun _ h1_ => absurd ((hon 6 (by kernel_rfl)).symm.trans h1_) (by decide), fun _ => (rr_ HO239.out), fun _ h1_ => absurd ((up_self b 9).symm.trans h1_) (by decide), fun _ => (rr_ HO245.out), fun _ => qz36, fun h0_ => absurd ((hoff 10 (by kernel_rfl)).symm.trans h0_) (by decide)⟩
 }
 refine steps_cons ?_ ?_
 {
 rintro b a w' ⟨v232, v238, v244, ha, Q_HO227, Q_BK220, Q_BK230, Q_HI224, Q_HB, Q_HO233, Q_HI224_e3, Q_HO239, Q_HI224_e6, Q_HO245, Q_HI224_e9, Q_BK220_e10⟩ hb_ hon hoff
 refine ⟨_, rfl, fun K hK => ?_⟩
 have e2 : a.tmps[2]? = some (.pointer (some ⟨gb220, 0, none⟩)) := by rw [ha]; exact (putSel_off rfl).trans rfl
 have e12 : a.tmps[12]? = some (.agg #[.slice Ao11 t225.length co11]) := by rw [ha]; exact putSel_on (e := (0, 12, .agg #[.slice Ao11 t225.length co11])) 0 rfl rfl (hon 0 (by kernel_rfl)) rfl
 replace ha := aM ha
 have HO227 := aM Q_HO227
 have BK220 := aM (Q_BK220 hb_)
 have BK230 := aM Q_BK230
 have HB := aM Q_HB
 have HO233 := aM (Q_HO233 (hon 2 (by kernel_rfl)))
 have HO239 := aM (Q_HO239 (hon 5 (by kernel_rfl)))
 have HO245 := aM (Q_HO245 (hon 8 (by kernel_rfl)))
 have HI224 := aM (Q_HI224_e9 (hon 9 (by kernel_rfl)))
 have hs30 : w'.cell? ⟨gb220, 0, none⟩ = some (.slice none 0 0) := (blk_cell BK220.out 0).trans rfl
 have hfs30 := blk_frozen BK220.out 0
 have hns30_1 := NB230_220.out
 have hms30_1 := NB220_230.out
 refine skip_ (w1 := ?_) (by rfl) rfl ?_ ?_
 rotate_left
 {
 go_simp
 rfl
 }
 refine hK.out _ _ ⟨v232, v238, v244, (by rw [ha.out]; exact putSel_none (v := undef) rfl), (by (with_reducible repeat (first | apply Kd.N_alloc | apply Kd.N_drewN | apply Kd.N_drew)); exact Kd.N_mono (Kd.N_far (p := ⟨gb220, 0, none⟩) (Kd.N_mono HO227.out (fun k_ hk => (⟨hk, hk.2.1⟩ : _ ∧ k_ ≠ gb220))) (fun _ hk => hk.2) (.slice Ao11 t225.length co11)) (fun _ hk => ⟨hk.1.1, ⟨hk.1.2.1, ⟨hk.1.2.2.1, hk.1.2.2.2⟩⟩⟩)), fun h0_ => absurd ((up_self b 10).symm.trans h0_) (by decide), (by (with_reducible repeat (first | refine blk_drewN ?_ _ | refine blk_drew ?_ | refine blk_alloc ?_ _)); refine blk_far ?_ NB230_220.out _; exact bk_ BK230.out), fun h0_ => absurd ((hon 3 (by kernel_rfl)).symm.trans h0_) (by decide), qz27, fun _ => (by (with_reducible repeat (first | apply Kd.R_alloc | apply Kd.R_drewN | apply Kd.R_drew)); exact Kd.R_mono (Kd.R_far (p := ⟨gb220, 0, none⟩) (Kd.R_types HO233.out BK220.out (by decide)) (fun _ hk => hk.2) (.slice Ao11 t225.length co11)) (fun _ hk => by first | exact ⟨hk.1.1, ⟨hk.1.2.1, hk.1.2.2⟩⟩ | exact hk.1.1 | exact hk.1)), fun _ h1_ => absurd ((hon 6 (by kernel_rfl)).symm.trans h1_) (by decide), fun _ => (by (with_reducible repeat (first | apply Kd.R_alloc | apply Kd.R_drewN | apply Kd.R_drew)); exact Kd.R_mono (Kd.R_far (p := ⟨gb220, 0, none⟩) (Kd.R_types HO239.out BK220.out (by decide)) (fun _ hk => hk.2) (.slice Ao11 t225.length co11)) (fun _ hk => by first | exact ⟨hk.1.1, ⟨hk.1.2.1, hk.1.2.2⟩⟩ | exact hk.1.1 | exact hk.1)), fun _ h1_ => absurd ((hon 9 (by kernel_rfl)).symm.trans h1_) (by decide), fun _ => (by (with_reducible repeat (first | apply Kd.R_alloc | apply Kd.R_drewN | apply Kd.R_drew)); exact Kd.R_mono (Kd.R_far (p := ⟨gb220, 0, none⟩) (Kd.R_types HO245.out BK220.out (by decide)) (fun _ hk => hk.2) (.slice Ao11 t225.length co11)) (fun _ hk => by first | exact ⟨hk.1.1, ⟨hk.1.2.1, hk.1.2.2⟩⟩ | exact hk.1.1 | exact hk.1)), fun _ => qz36, fun _ => (by (with_reducible repeat (first | refine blk_drewN ?_ _ | refine blk_drew ?_ | refine blk_alloc ?_ _)); refine blk_put (cs := #[.slice none 0 0]) ?_ 0 _ rfl; exact bk_ BK220.out)⟩
 }
 refine steps_cons ?_ ?_
 {
 rintro b a w' ⟨v232, v238, v244, ha, Q_HO227, Q_BK220, Q_BK230, Q_HI224, Q_HB, Q_HO233, Q_HI224_e3, Q_HO239, Q_HI224_e6, Q_HO245, Q_HI224_e9, Q_BK220_e10⟩ hb_ hon hoff
 refine ⟨_, rfl, fun K hK => ?_⟩
 have e15 : a.tmps[15]? = some (.int .i64 t234) := by rw [ha]; exact putSel_on (e := (3, 15, .int .i64 t234)) 2 rfl rfl (hon 3 (by kernel_rfl)) rfl
 replace ha := aM ha
 have HO227 := aM Q_HO227
 have BK230 := aM Q_BK230
 have HB := aM Q_HB
 have HO233 := aM (Q_HO233 (hon 2 (by kernel_rfl)))
 have HO239 := aM (Q_HO239 (hon 5 (by kernel_rfl)))
 have HO245 := aM (Q_HO245 (hon 8 (by kernel_rfl)))
 have HI224 := aM (Q_HI224_e9 (hon 9 (by kernel_rfl)))
 have BK220 := aM (Q_BK220_e10 (hon 10 (by kernel_rfl)))
 refine value_ (w1 := w') (v := .int .i64 t234) (by rfl) rfl ?_ ?_
 {
 go_simp
 (try simp only [i64_w])
 try rfl
 }
 refine hK.out _ _ ⟨v232, v238, v244, (by rw [ha.out]; exact putSel_upk 7 hb_ rfl rfl rfl), Q_HO227, fun h0_ => absurd ((hon 10 (by kernel_rfl)).symm.trans h0_) (by decide), Q_BK230, fun h0_ => absurd ((hon 3 (by kernel_rfl)).symm.trans h0_) (by decide), Q_HB, Q_HO233, fun _ h1_ => absurd ((hon 6 (by kernel_rfl)).symm.trans h1_) (by decide), Q_HO239, fun _ h1_ => absurd ((hon 9 (by kernel_rfl)).symm.trans h1_) (by decide), Q_HO245, Q_HI224_e9, Q_BK220_e10⟩
 }
 refine steps_cons ?_ ?_
 {
 rintro b a w' ⟨v232, v238, v244, ha, Q_HO227, Q_BK220, Q_BK230, Q_HI224, Q_HB, Q_HO233, Q_HI224_e3, Q_HO239, Q_HI224_e6, Q_HO245, Q_HI224_e9, Q_BK220_e10⟩ hb_ hon hoff
 refine ⟨_, rfl, fun K hK => ?_⟩
 have e18 : a.tmps[18]? = some (.int .i64 t240) := by rw [ha]; exact putSel_on (e := (6, 18, .int .i64 t240)) 4 rfl rfl (hon 6 (by kernel_rfl)) rfl
 replace ha := aM ha
 have HO227 := aM Q_HO227
 have BK230 := aM Q_BK230
 have HB := aM Q_HB
 have HO233 := aM (Q_HO233 (hon 2 (by kernel_rfl)))
 have HO239 := aM (Q_HO239 (hon 5 (by kernel_rfl)))
 have HO245 := aM (Q_HO245 (hon 8 (by kernel_rfl)))
 have HI224 := aM (Q_HI224_e9 (hon 9 (by kernel_rfl)))
 have BK220 := aM (Q_BK220_e10 (hon 10 (by kernel_rfl)))
 refine value_ (w1 := w') (v := .int .i64 t240) (by rfl) rfl ?_ ?_
 {
 go_simp
 (try simp only [i64_w])
 try rfl
 }
 refine hK.out _ _ ⟨v232, v238, v244, (by rw [ha.out]; exact putSel_upk 8 hb_ rfl rfl rfl), Q_HO227, fun h0_ => absurd ((hon 10 (by kernel_rfl)).symm.trans h0_) (by decide), Q_BK230, fun h0_ => absurd ((hon 3 (by kernel_rfl)).symm.trans h0_) (by decide), Q_HB, Q_HO233, fun _ h1_ => absurd ((hon 6 (by kernel_rfl)).symm.trans h1_) (by decide), Q_HO239, fun _ h1_ => absurd ((hon 9 (by kernel_rfl)).symm.trans h1_) (by decide), Q_HO245, Q_HI224_e9, Q_BK220_e10⟩
 }
 refine steps_cons ?_ ?_
 {
 rintro b a w' ⟨v232, v238, v244, ha, Q_HO227, Q_BK220, Q_BK230, Q_HI224, Q_HB, Q_HO233, Q_HI224_e3, Q_HO239, Q_HI224_e6, Q_HO245, Q_HI224_e9, Q_BK220_e10⟩ hb_ hon hoff
 refine ⟨_, rfl, fun K hK => ?_⟩
 have e21 : a.tmps[21]? = some (.int .i64 t246) := by rw [ha]; exact putSel_on (e := (9, 21, .int .i64 t246)) 6 rfl rfl (hon 9 (by kernel_rfl)) rfl
 replace ha := aM ha
 have HO227 := aM Q_HO227
 have BK230 := aM Q_BK230
 have HB := aM Q_HB
 have HO233 := aM (Q_HO233 (hon 2 (by kernel_rfl)))
 have HO239 := aM (Q_HO239 (hon 5 (by kernel_rfl)))
 have HO245 := aM (Q_HO245 (hon 8 (by kernel_rfl)))
 have HI224 := aM (Q_HI224_e9 (hon 9 (by kernel_rfl)))
 have BK220 := aM (Q_BK220_e10 (hon 10 (by kernel_rfl)))
 refine value_ (w1 := w') (v := .int .i64 t246) (by rfl) rfl ?_ ?_
 {
 go_simp
 (try simp only [i64_w])
 try rfl
 }
 refine hK.out _ _ ⟨v232, v238, v244, (by rw [ha.out]; exact putSel_upk 9 hb_ rfl rfl rfl), Q_HO227, fun h0_ => absurd ((hon 10 (by kernel_rfl)).symm.trans h0_) (by decide), Q_BK230, fun h0_ => absurd ((hon 3 (by kernel_rfl)).symm.trans h0_) (by decide), Q_HB, Q_HO233, fun _ h1_ => absurd ((hon 6 (by kernel_rfl)).symm.trans h1_) (by decide), Q_HO239, fun _ h1_ => absurd ((hon 9 (by kernel_rfl)).symm.trans h1_) (by decide), Q_HO245, Q_HI224_e9, Q_BK220_e10⟩
 }
 exact steps_nil
 }
 rintro b a w30 hall ⟨v232, v238, v244, ha, Q_HO227, Q_BK220, Q_BK230, Q_HI224, Q_HB, Q_HO233, Q_HI224_e3, Q_HO239, Q_HI224_e6, Q_HO245, Q_HI224_e9, Q_BK220_e10⟩
 clear BK220 BK230 HB HI224 HO227
 have hb0_ := hall 0 (by kernel_rfl)
 have hb2_ := hall 2 (by kernel_rfl)
 have hb3_ := hall 3 (by kernel_rfl)
 have hb5_ := hall 5 (by kernel_rfl)
 have hb6_ := hall 6 (by kernel_rfl)
 have hb8_ := hall 8 (by kernel_rfl)
 have hb9_ := hall 9 (by kernel_rfl)
 have hb10_ := hall 10 (by kernel_rfl)
 have hb11_ := hall 11 (by kernel_rfl)
 have hb12_ := hall 12 (by kernel_rfl)
 have hb13_ := hall 13 (by kernel_rfl)
 subst ha
 simp only [putSel, hb0_, hb2_, hb3_, hb5_, hb6_, hb8_, hb9_, hb10_, hb11_, hb12_, hb13_, if_true, Act.put, List.setIfInBounds_toArray, List.set_cons_zero, List.set_cons_succ]
 have HO227 := aM Q_HO227
 clear Q_HO227
 clear Q_BK220
 have BK230 := aM Q_BK230
 clear Q_BK230
 clear Q_HI224
 have HB := aM Q_HB
 clear Q_HB
 have HO233 := aM (Q_HO233 hb2_)
 clear Q_HO233
 clear Q_HI224_e3
 have HO239 := aM (Q_HO239 hb5_)
 clear Q_HO239
 clear Q_HI224_e6
 have HO245 := aM (Q_HO245 hb8_)
 clear Q_HO245
 have HI224 := aM (Q_HI224_e9 hb9_)
 clear Q_HI224_e9
 have BK220 := aM (Q_BK220_e10 hb10_)
 clear Q_BK220_e10
 clear hall hb0_ hb2_ hb3_ hb5_ hb6_ hb8_ hb9_ hb10_ hb11_ hb12_ hb13_
 try go_wp2
 refine bodyPost_ret (results_list (rs := [.cell 2 26, .tmp 3, .tmp 4, .tmp 5]) rfl (by simp) (.cell gb220 26 #[.slice Ao11 t225.length co11] (0, 0) _ rfl (bk_ BK220.out) Try.underlying26 rfl (by kernel_rfl) (.tmp (.tmp (.tmp .nil))))) rfl ?_
 exact ⟨_, by first | rfl | (simp [errW_none, errW_some] <;> rfl) | (simp [*, errW_none, errW_some] <;> rfl), by (with_reducible repeat (first | apply Kd.N_alloc | apply Kd.N_drewN | apply Kd.N_drew)); exact Kd.N_mono HO227.out (fun _ hk => hk.1), by repeat (first | (with_reducible first | exact HB.out | apply below_alloc | apply pw_below_drewN | apply below_drew1 | refine below_set ?_ (IsS122.ge HI224.out) | refine below_set ?_ GE220.out | refine below_set ?_ GE230.out) | exact HB.out)⟩

/-! ### spec_DrawHold: function 16 -/
def spec_DrawHold.f (k : Nat) (l0 : List Int) : Option ((List (S79)) × Int × Int × Int) := (spec_l5Draw4.f k l0).bind fun bt250 => (some (bt250.1, bt250.2.1, bt250.2.2.1, bt250.2.2.2))
theorem spec_DrawHold.mono : ∀ a0 k, LeO (spec_DrawHold.f k a0) (spec_DrawHold.f (k + 1) a0) := by
 intro a0 k
 unfold spec_DrawHold.f
 repeat' first
  | (with_reducible first | exact spec_l5Draw4.mono _ _ | exact LeO.refl _ | exact LeO.none _ | refine LeO.ite ?_ ?_ | refine LeO.bind ?_ (fun _ => ?_))
  | exact spec_l5Draw4.mono _ _
  | exact LeO.none _
  | refine LeO.ite ?_ ?_
  | refine LeO.bind ?_ (fun _ => ?_)
set_option maxHeartbeats 8000000 in
set_option maxRecDepth 100000 in
theorem spec_DrawHold.calls (k : Nat) (A0 : Option Addr) (c0 : Nat) (l0 : List Int) (r1 : List (S79)) (r2 : Int) (r3 : Int) (r4 : Int) (w : World) (hr0 : Kd.C (Kd.int .u8) w A0 l0.length l0) (hc0 : l0.length ≤ c0) (h : spec_DrawHold.f k l0 = some (r1, r2, r3, r4)) :
  Calls Try.prog 16 #[.slice A0 l0.length c0] w fun e w' => ∃ v0_ : Value, e = .returned (.tuple #[.agg #[v0_], .int .i64 r2, .int .i64 r3, .int .i64 r4]) ∧ Kd.N k79 79 w' w.heap.size (fun k_ => (w.heap.size ≤ k_)) v0_ r1 ∧ Below w.heap.size w w' := by
 have hu26 := Try.underlying26
 have HR0 := aM hr0
 have HC0 := aM hc0
 clear hr0 hc0
 have HB := aM (Below.refl w.heap.size w)
 have H : ((spec_l5Draw4.f k l0).bind fun bt250 => (some (bt250.1, bt250.2.1, bt250.2.2.1, bt250.2.2.2))) = some (r1, r2, r3, r4) := h
 clear h
 replace H := Option.bind_eq_some_iff.mp H
 obtain ⟨⟨t250, t253, t254, t255⟩, A20, H⟩ := H
 replace H : (some (t250, t253, t254, t255)) = some (r1, r2, r3, r4) := H
 have A2 := aM A20
 clear A20
 simp only [Option.some.injEq, Prod.mk.injEq] at H
 obtain ⟨rfl, rfl, rfl, rfl⟩ := H
 go_enter Try.func16, Try.ntmps16
 go_wp2_with (first | ((with_reducible refine gate_dst (N := 2) rfl ?_); refine bx_ 2 #[.slice none 0 0] 26 ?_; intro gb249 hg w3 hbox hb; have n0_ := aM (below_step qz2 hb); have n1_ := aM (hbox); have n2_ := aM ((by rw [hg]; exact (below_size qz2) : w.heap.size ≤ gb249)); have n3_ := aM ((by rw [hg]; exact (below_size qz2) : w.heap.size ≤ gb249)); clear HB; have HB := n0_; have BK249 := n1_; have GW249 := n2_; have GE249 := n3_; clear n0_ n1_ n2_ n3_; clear hb hbox hg) | ((with_reducible refine gate_callee (f := 59) rfl ?_); refine goesL_ (some 7) rfl rfl Try.func59 (by kernel_rfl) rfl #[.slice A0 l0.length c0] rfl qz1 ?_; (with_reducible refine (spec_l5Draw4.calls k _ _ l0 t250 t253 t254 t255 _ ?side1 ?side2 A2.out).mono ?_); (case side1 => repeat (first | exact (Kd.C_below HR0.out HB.out) | (with_reducible refine Kd.C_alloc ?_ _) | (with_reducible refine Kd.C_drewN ?_ _) | (with_reducible refine Kd.C_drew ?_))); (case side2 => exact HC0.out); rintro e w4 ⟨v251, rfl, ho0, hb⟩; refine ⟨_, rfl, ?_⟩; have n0_ := aM (Kd.N_lower (Kd.N_mono (ok' := fun k_ => (w.heap.size ≤ k_) ∧ k_ ≠ gb249) ho0 (fun k_ hk_ => ⟨(Nat.le_trans (below_size qz95) hk_), (Kd.freshB (bk_ BK249.out) k_ hk_)⟩)) (below_size qz95)); have n1_ := aM (blk_below (bk_ BK249.out) hb); have n2_ := aM (below_step qz95 hb); clear BK249 HB; have HO252 := n0_; have BK249 := n1_; have HB := n2_; clear n0_ n1_ n2_; (try clear hb); (try clear hb2); (try clear hk); (try clear hi); (try clear ho0); obtain ⟨Ao5, co5, eo5⟩ := Kd.N_slice HO252.out; subst eo5; have hcz6_0 := bc0_ BK249.out; have hfz6_0 := blk_frozen BK249.out 0))
 refine bodyPost_ret (results_list (rs := [.cell 2 26, .tmp 3, .tmp 4, .tmp 5]) rfl (by simp) (.cell gb249 26 #[.slice Ao5 t250.length co5] (0, 0) _ rfl (by (with_reducible repeat (first | refine blk_drewN ?_ _ | refine blk_drew ?_ | refine blk_alloc ?_ _)); refine blk_put (cs := #[.slice none 0 0]) ?_ 0 _ rfl; exact bk_ BK249.out) Try.underlying26 rfl (by kernel_rfl) (.tmp (.tmp (.tmp .nil))))) rfl ?_
 exact ⟨_, by first | rfl | (simp [errW_none, errW_some] <;> rfl) | (simp [*, errW_none, errW_some] <;> rfl), by (with_reducible repeat (first | apply Kd.N_alloc | apply Kd.N_drewN | apply Kd.N_drew)); exact Kd.N_mono (Kd.N_far (p := ⟨gb249, 0, none⟩) (Kd.N_mono HO252.out (fun k_ hk => (⟨hk, hk.2⟩ : _ ∧ k_ ≠ gb249))) (fun _ hk => hk.2) (.slice Ao5 t250.length co5)) (fun _ hk => hk.1.1), by repeat (first | (with_reducible first | exact HB.out | apply below_alloc | apply pw_below_drewN | apply below_drew1 | refine below_set ?_ GE249.out) | exact HB.out)⟩

/-! ### impl_in: function 64 -/
def impl_in.f (a0 : Int) (a1 : Int) (a2 : Int) : Option (Bool) := if a0 ≥ a1 then (some (decide (a0 ≤ a2))) else (some false)
set_option maxHeartbeats 8000000 in
set_option maxRecDepth 100000 in
theorem impl_in.calls (a0 : Int) (a1 : Int) (a2 : Int) (r : Bool) (w : World) (h : impl_in.f a0 a1 a2 = some r) :
  Calls Try.prog 64 #[.int .i64 a0, .int .i64 a1, .int .i64 a2] w fun e w' => e = .returned (.bool r) ∧ Drawn0 w w' := by
 have H : (if a0 ≥ a1 then (some (decide (a0 ≤ a2))) else (some false)) = some r := h
 clear h
 by_cases c4 : a0 ≥ a1
 {
 rw [if_pos c4] at H
 have c4b0 := decide_eq_true c4
 clear c4
 obtain rfl := Option.some.inj H
 simp only [Option.some.injEq, Prod.mk.injEq] at H
 obtain ⟨rfl⟩ := H
 go_enter Try.func64, Try.ntmps64
 go_wp2
 go_ret
 exact ⟨by first | rfl | (simp; done) | (simp [*]; done), by repeat (first | exact Drawn0.refl _ | apply Drawn0.step)⟩
 }
 {
 rw [if_neg c4] at H
 have c4b0 := decide_eq_false c4
 clear c4
 obtain rfl := Option.some.inj H
 simp only [Option.some.injEq, Prod.mk.injEq] at H
 obtain ⟨rfl⟩ := H
 go_enter Try.func64, Try.ntmps64
 go_wp2
 go_ret
 exact ⟨by first | rfl | (simp; done) | (simp [*]; done), by repeat (first | exact Drawn0.refl _ | apply Drawn0.step)⟩

 }
/-! ### impl_copyStock: function 65 -/
def impl_copyStock.l0 : Nat → List (S79) → Int → Int → List (S79) → Option ((List (S79)))
 | 0, _, _, _, _ => none
 | k + 1, x7, x8, x9, x259000 => if x9 < x8 then (if 0 ≤ x9 then (if x9 < (x7.length : Int) then (if ([] : List (S72)).length + ((rd_T79 x7 x9).f2).length < 5864062014805 then (if x259000.length < 3518437208883 then (impl_copyStock.l0 k x7 x8 (wrap64 (x9 + 1)) (x259000 ++ [(⟨(rd_T79 x7 x9).f0, (rd_T79 x7 x9).f1, (([] : List (S72)) ++ ((rd_T79 x7 x9).f2))⟩ : S79)])) else (none)) else (none)) else (none)) else (none)) else (some x259000)
def impl_copyStock.f (k : Nat) (l0_0 : List (S79)) : Option ((List (S79))) := impl_copyStock.l0 k l0_0 (l0_0.length : Int) 0 ([] : List (S79))
theorem impl_copyStock.mono_l : ∀ k, (∀ y0 y1 y2 y3, LeO (impl_copyStock.l0 k y0 y1 y2 y3) (impl_copyStock.l0 (k + 1) y0 y1 y2 y3))
 | 0 => fun _ _ _ _ r h => by simp [impl_copyStock.l0] at h
 | k + 1 => by
  have ih0 := impl_copyStock.mono_l k
  {
  intro y0 y1 y2 y3
  unfold impl_copyStock.l0
  repeat' first
  | (with_reducible first | exact ih0 _ _ _ _ | exact LeO.refl _ | exact LeO.none _ | refine LeO.ite ?_ ?_ | refine LeO.bind ?_ (fun _ => ?_))
  | exact ih0 _ _ _ _
  | exact LeO.none _
  | refine LeO.ite ?_ ?_
  | refine LeO.bind ?_ (fun _ => ?_)
  }
theorem impl_copyStock.mono : ∀ a0 k, LeO (impl_copyStock.f k a0) (impl_copyStock.f (k + 1) a0) := by
 intro a0 k
 have ih0 := impl_copyStock.mono_l k
 unfold impl_copyStock.f
 repeat' first
  | (with_reducible first | exact ih0 _ _ _ _ | exact LeO.refl _ | exact LeO.none _ | refine LeO.ite ?_ ?_ | refine LeO.bind ?_ (fun _ => ?_))
  | exact ih0 _ _ _ _
  | exact LeO.none _
  | refine LeO.ite ?_ ?_
  | refine LeO.bind ?_ (fun _ => ?_)
set_option maxHeartbeats 8000000 in
set_option maxRecDepth 100000 in
theorem impl_copyStock.calls (k : Nat) (A0_0 : Option Addr) (c0_0 : Nat) (l0_0 : List (S79)) (r : List (S79)) (w : World) (hr0_0 : Kd.C k79 w A0_0 l0_0.length l0_0) (hc0_0 : l0_0.length ≤ c0_0) (h : impl_copyStock.f k l0_0 = some r) :
  Calls Try.prog 65 #[.agg #[.slice A0_0 l0_0.length c0_0]] w fun e w' => ∃ v0_ : Value, e = .returned (.agg #[v0_]) ∧ Kd.S k79 79 w' w.heap.size (fun _ => True) v0_ r ∧ Below w.heap.size w w' := by
 have hu26 := Try.underlying26
 have hu79 := Try.underlying79
 have HR0_0 := aM hr0_0
 have HC0_0 := aM hc0_0
 clear hr0_0 hc0_0
 have HB := aM (Below.refl w.heap.size w)
 have H : (impl_copyStock.l0 k l0_0 (l0_0.length : Int) 0 ([] : List (S79))) = some r := h
 clear h
 have H' := aM H
 clear H
 go_enter Try.func65, Try.ntmps65
 go_wp2_with (first | ((with_reducible refine gate_dst (N := 1) rfl ?_); refine bx_ 1 #[.slice A0_0 l0_0.length c0_0] 26 ?_; intro gb256 hg w2 hbox hb; have n0_ := aM (below_step qz2 hb); have n1_ := aM (hbox); have n2_ := aM ((by rw [hg]; exact (below_size qz2) : w.heap.size ≤ gb256)); have n3_ := aM ((by rw [hg]; exact (below_size qz2) : w.heap.size ≤ gb256)); clear HB; have HB := n0_; have BK256 := n1_; have GW256 := n2_; have GE256 := n3_; clear n0_ n1_ n2_ n3_; clear hb hbox hg) | ((with_reducible refine gate_dst (N := 2) rfl ?_); refine bx_ 2 #[.slice none 0 0] 26 ?_; intro gb257 hg w3 hbox hb; have n0_ := aM (blk_below (bk_ BK256.out) hb); have n1_ := aM (below_step qz96 hb); have n2_ := aM (hbox); have n3_ := aM ((by rw [hg]; exact (below_size qz96) : w.heap.size ≤ gb257)); have n4_ := aM ((by rw [hg]; exact (below_size qz96) : w.heap.size ≤ gb257)); have n5_ := aM ((by rw [hg]; exact Nat.ne_of_lt (blk_lt (bk_ BK256.out)) : gb256 ≠ gb257)); have n6_ := aM ((by rw [hg]; exact Nat.ne_of_gt (blk_lt (bk_ BK256.out)) : gb257 ≠ gb256)); clear BK256 HB; have BK256 := n0_; have HB := n1_; have BK257 := n2_; have GW257 := n3_; have GE257 := n4_; have NB256_257 := n5_; have NB257_256 := n6_; clear n0_ n1_ n2_ n3_ n4_ n5_ n6_; clear hb hbox hg) | ((with_reducible refine gate_dst (N := 3) rfl ?_); refine bx_ 3 #[.slice none 0 0] 26 ?_; intro gb258 hg w4 hbox hb; have n0_ := aM (blk_below (bk_ BK256.out) hb); have n1_ := aM (blk_below (bk_ BK257.out) hb); have n2_ := aM (below_step qz85 hb); have n3_ := aM (hbox); have n4_ := aM ((by rw [hg]; exact (below_size qz85) : w.heap.size ≤ gb258)); have n5_ := aM ((by rw [hg]; exact (below_size qz85) : w.heap.size ≤ gb258)); have n6_ := aM ((by rw [hg]; exact Nat.ne_of_lt (blk_lt (bk_ BK256.out)) : gb256 ≠ gb258)); have n7_ := aM ((by rw [hg]; exact Nat.ne_of_gt (blk_lt (bk_ BK256.out)) : gb258 ≠ gb256)); have n8_ := aM ((by rw [hg]; exact Nat.ne_of_lt (blk_lt (bk_ BK257.out)) : gb257 ≠ gb258)); have n9_ := aM ((by rw [hg]; exact Nat.ne_of_gt (blk_lt (bk_ BK257.out)) : gb258 ≠ gb257)); clear BK256 BK257 HB; have BK256 := n0_; have BK257 := n1_; have HB := n2_; have BK258 := n3_; have GW258 := n4_; have GE258 := n5_; have NB256_258 := n6_; have NB258_256 := n7_; have NB257_258 := n8_; have NB258_257 := n9_; clear n0_ n1_ n2_ n3_ n4_ n5_ n6_ n7_ n8_ n9_; clear hb hbox hg; have hnb5 := NB256_257.out; have hnc5 := NB257_256.out; have hnb6 := NB256_258.out; have hnc6 := NB258_256.out; have hcz7_0 := bc0_ BK256.out; have hfz7_0 := blk_frozen BK256.out 0))
 go_loopg [9] k (fun kq v9 w' => ∃ (x9_1 : Int) (x259000_1 : List (S79)) (u259000 : Value), v9 = .int .i64 x9_1 ∧ Aside0 (impl_copyStock.l0 kq l0_0 (l0_0.length : Int) x9_1 x259000_1 = some r) ∧ Aside0 (kq ≤ k) ∧ Aside0 (Kd.S k79 79 w' w.heap.size (fun _ => True) u259000 x259000_1) ∧ Aside0 (w'.heap[gb256]? = some (.cells #[(.slice A0_0 l0_0.length c0_0)] 26 (0, 0))) ∧ Aside0 (w'.heap[gb257]? = some (.cells #[(.slice none 0 0)] 26 (0, 0))) ∧ Aside0 (w'.heap[gb258]? = some (.cells #[u259000] 26 (0, 0))) ∧ Aside0 (Below w.heap.size w w'))
 case atStart => exact ⟨(0), (([] : List (S79))), (.slice none 0 0), qz13, H', ⟨Nat.le_refl _⟩, ⟨by first | exact Kd.S_nil _ _ _ _ _ | exact Kd.N_nil _ _ _ _ _ | exact Kd.V_nil _ _ _ _ _ | exact Kd.Q_nil _ _ _ _ _ | exact Kd.R_nil _ _ _ _ _⟩, ⟨bk_ BK256.out⟩, ⟨bk_ BK257.out⟩, ⟨bk_ BK258.out⟩, ⟨by repeat (first | (with_reducible first | exact HB.out | apply below_alloc | apply pw_below_drewN | apply below_drew1 | refine below_set ?_ GE256.out | refine below_set ?_ GE257.out | refine below_set ?_ GE258.out) | exact HB.out)⟩⟩
 case round =>
  clear H'
  try clear p2
  try clear c5
  try clear c6
  try clear hcz7_0
  try clear hfz7_0
  obtain ⟨x9_1, x259000_1, u259000, rfl, HA, HK1, HO_259000, BK256, BK257, BK258, HB⟩ := hrel
  cases gk with
  | zero => exact absurd HA.out (by simp [impl_copyStock.l0])
  | succ k1 =>
   have H := HA.out
   clear HA
   simp only [impl_copyStock.l0] at H
   by_cases c8 : x9_1 < (l0_0.length : Int)
   {
   rw [if_pos c8] at H
   have c8b0 := decide_eq_true c8
   clear c8
   by_cases c9 : 0 ≤ x9_1
   {
   rw [if_pos c9] at H
   have c9b0 := decide_eq_true c9
   clear c9
   by_cases c10 : x9_1 < (l0_0.length : Int)
   {
   rw [if_pos c10] at H
   have c10b0 := decide_eq_true c10
   clear c10
   by_cases c11 : ([] : List (S72)).length + ((rd_T79 l0_0 x9_1).f2).length < 5864062014805
   {
   rw [if_pos c11] at H
   have LMc11 := aM c11
   clear c11
   obtain ⟨y261, hy261⟩ : ∃ y_ : List (S72), y_ = (([] : List (S72)) ++ ((rd_T79 l0_0 x9_1).f2)) := ⟨_, rfl⟩
   replace H : (if x259000_1.length < 3518437208883 then (impl_copyStock.l0 k1 l0_0 (l0_0.length : Int) (wrap64 (x9_1 + 1)) (x259000_1 ++ [(⟨(rd_T79 l0_0 x9_1).f0, (rd_T79 l0_0 x9_1).f1, y261⟩ : S79)])) else (none)) = some r := by first | (rw [hy261]; with_reducible exact H) | (have H2_ := (Option.bind_some _ _).symm.trans H; rw [hy261]; with_reducible exact H2_) | (have H2_ := (Option.bind_some _ _).symm.trans H; with_reducible exact H2_) | with_reducible exact H | (rw [hy261]; exact H) | exact H
   have Ny261 := aM hy261
   clear hy261
   by_cases c12 : x259000_1.length < 3518437208883
   {
   rw [if_pos c12] at H
   have LMc12 := aM c12
   clear c12
   obtain ⟨y264, hy264⟩ : ∃ y_ : List (S79), y_ = (x259000_1 ++ [(⟨(rd_T79 l0_0 x9_1).f0, (rd_T79 l0_0 x9_1).f1, y261⟩ : S79)]) := ⟨_, rfl⟩
   replace H : (impl_copyStock.l0 k1 l0_0 (l0_0.length : Int) (wrap64 (x9_1 + 1)) y264) = some r := by first | (rw [hy264]; with_reducible exact H) | (have H2_ := (Option.bind_some _ _).symm.trans H; rw [hy264]; with_reducible exact H2_) | (have H2_ := (Option.bind_some _ _).symm.trans H; with_reducible exact H2_) | with_reducible exact H | (rw [hy264]; exact H) | exact H
   have Ny264 := aM hy264
   clear hy264
   have H' := aM H
   clear H
   have p259 : 0 ≤ (x9_1 : Int) := of_decide_eq_true qz4
   have q259 : x9_1 < (l0_0.length : Int) := of_decide_eq_true qz4
   obtain ⟨ad259, A259_2, c259_2, e259, hx259_0, hx259_1, hx259_2, hl259_2, hi259_2⟩ := at_T79 HR0_0.out x9_1 p259 q259
   cases e259
   replace hx259_0 := pw_cell_below HB.out hx259_0
   replace hx259_1 := pw_cell_below HB.out hx259_1
   replace hx259_2 := pw_cell_below HB.out hx259_2
   have HR259_2 := aM hi259_2
   have HC259_2 := aM hl259_2
   clear hi259_2 hl259_2
   replace p259 := eq_true p259
   replace q259 := eq_true q259
   go_wp2_with (first | ((with_reducible refine gate_dst (N := 5) rfl ?_); refine bx_ 5 #[.int .i64 0, .int .i64 0, .slice none 0 0] 79 ?_; intro gb260 hg w13 hbox hb; have n0_ := aM (Kd.S_below (Kd.S_elderB (rs_ HO_259000.out) gb260 (Nat.le_of_eq hg.symm)) hb); have n1_ := aM (blk_below (bk_ BK256.out) hb); have n2_ := aM (blk_below (bk_ BK257.out) hb); have n3_ := aM (blk_below (bk_ BK258.out) hb); have n4_ := aM (below_step qz77 hb); have n5_ := aM (hbox); have n6_ := aM ((by rw [hg]; exact (below_size qz77) : w.heap.size ≤ gb260)); have n7_ := aM ((by rw [hg]; exact (below_size qz77) : w.heap.size ≤ gb260)); have n8_ := aM ((by rw [hg]; exact Nat.ne_of_lt (blk_lt (bk_ BK256.out)) : gb256 ≠ gb260)); have n9_ := aM ((by rw [hg]; exact Nat.ne_of_gt (blk_lt (bk_ BK256.out)) : gb260 ≠ gb256)); have n10_ := aM ((by rw [hg]; exact Nat.ne_of_lt (blk_lt (bk_ BK257.out)) : gb257 ≠ gb260)); have n11_ := aM ((by rw [hg]; exact Nat.ne_of_gt (blk_lt (bk_ BK257.out)) : gb260 ≠ gb257)); have n12_ := aM ((by rw [hg]; exact Nat.ne_of_lt (blk_lt (bk_ BK258.out)) : gb258 ≠ gb260)); have n13_ := aM ((by rw [hg]; exact Nat.ne_of_gt (blk_lt (bk_ BK258.out)) : gb260 ≠ gb258)); clear HO_259000 BK256 BK257 BK258 HB; have HO_259000 := n0_; have BK256 := n1_; have BK257 := n2_; have BK258 := n3_; have HB := n4_; have BK260 := n5_; have GW260 := n6_; have GE260 := n7_; have NB256_260 := n8_; have NB260_256 := n9_; have NB257_260 := n10_; have NB260_257 := n11_; have NB258_260 := n12_; have NB260_258 := n13_; clear n0_ n1_ n2_ n3_ n4_ n5_ n6_ n7_ n8_ n9_ n10_ n11_ n12_ n13_; clear hb hbox hg; have hnb14 := NB260_256.out; have hnc14 := NB256_260.out; have hnb15 := NB260_257.out; have hnc15 := NB257_260.out; have hnb16 := NB260_258.out; have hnc16 := NB258_260.out; obtain ⟨hcz17_0, hcz17_1, hcz17_2, hfz17_0, hfz17_1, hfz17_2⟩ := b6_ BK260.out) | ((with_reducible refine gate_builtin (b := .append) (xs := #[.const (.slice none 0 0), .tmp 14]) rfl ?_); at_builtin; refine Kd.R_append_rows k72 (w0 := w) w.heap.size rfl (.const (.slice none 0 0)) (.tmp 14) 77 72 (.agg #[(.int .i64 0), (.int .i64 0), (.int .i64 0)]) 24 rfl Try.underlying77 info72 rfl (by decide) (by omega) (.slice none 0 0) ([] : List (S72)) ((rd_T79 l0_0 x9_1).f2) _ _ _ (fun _ => True) (fun _ => False) rfl rfl ?aO ?aR (fun _ _ h => h) (fun _ h => h.elim) ?aF ?aB ?aS ?aL ?_; (case aR => exact Kd.C_below HR259_2.out qz42); (case aB => exact qz42); (case aF => exact (fun _ _ => trivial)); (case aO => exact ((Kd.R_nil _ _ _ _ (fun _ => True)))); (case aS => exact (below_size qz42)); (case aL => have := LMc11.out; omega); intro v262 w18 ho hb hg hat; rw [← Ny261.out] at ho; have n0_ := aM (Kd.S_after (Kd.S_apart_nil (by (with_reducible repeat (first | apply Kd.S_alloc | apply Kd.S_drewN | apply Kd.S_drew)); exact (Kd.S_mono (Kd.S_far (p := ⟨gb260, 2, none⟩) (Kd.S_far (p := ⟨gb260, 1, none⟩) (Kd.S_far (p := ⟨gb260, 0, none⟩) (Kd.S_mono HO_259000.out (fun k_ hk => (⟨hk, hk.2⟩ : _ ∧ k_ ≠ gb260))) (fun _ hk => hk.2) (.int .i64 ((rd_T79 l0_0 x9_1).f0))) (fun _ hk => hk.2) (.int .i64 ((rd_T79 l0_0 x9_1).f1))) (fun _ hk => hk.2) (.slice A259_2 ((rd_T79 l0_0 x9_1).f2).length c259_2)) (fun _ h_ => h_.1)))) hg hat); have n1_ := aM (blk_grown (g := gb256) (o := .cells #[.slice (some ad259) l0_0.length c0_0] 26 (0, 0)) (by (with_reducible repeat (first | refine blk_drewN ?_ _ | refine blk_drew ?_ | refine blk_alloc ?_ _)); refine blk_far ?_ NB256_260.out _; (with_reducible repeat (first | refine blk_drewN ?_ _ | refine blk_drew ?_ | refine blk_alloc ?_ _)); refine blk_far ?_ NB256_260.out _; (with_reducible repeat (first | refine blk_drewN ?_ _ | refine blk_drew ?_ | refine blk_alloc ?_ _)); refine blk_far ?_ NB256_260.out _; exact bk_ BK256.out) hg (by simp [Value.ownBlock])); have n2_ := aM (blk_grown (g := gb257) (o := .cells #[.slice none 0 0] 26 (0, 0)) (by (with_reducible repeat (first | refine blk_drewN ?_ _ | refine blk_drew ?_ | refine blk_alloc ?_ _)); refine blk_far ?_ NB257_260.out _; (with_reducible repeat (first | refine blk_drewN ?_ _ | refine blk_drew ?_ | refine blk_alloc ?_ _)); refine blk_far ?_ NB257_260.out _; (with_reducible repeat (first | refine blk_drewN ?_ _ | refine blk_drew ?_ | refine blk_alloc ?_ _)); refine blk_far ?_ NB257_260.out _; exact bk_ BK257.out) hg (by simp [Value.ownBlock])); have n3_ := aM (blk_grown (g := gb258) (o := .cells #[u259000] 26 (0, 0)) (by (with_reducible repeat (first | refine blk_drewN ?_ _ | refine blk_drew ?_ | refine blk_alloc ?_ _)); refine blk_far ?_ NB258_260.out _; (with_reducible repeat (first | refine blk_drewN ?_ _ | refine blk_drew ?_ | refine blk_alloc ?_ _)); refine blk_far ?_ NB258_260.out _; (with_reducible repeat (first | refine blk_drewN ?_ _ | refine blk_drew ?_ | refine blk_alloc ?_ _)); refine blk_far ?_ NB258_260.out _; exact bk_ BK258.out) hg (by simp [Value.ownBlock])); have n4_ := aM (blk_grown (g := gb260) (o := .cells #[.int .i64 ((rd_T79 l0_0 x9_1).f0), .int .i64 ((rd_T79 l0_0 x9_1).f1), .slice A259_2 ((rd_T79 l0_0 x9_1).f2).length c259_2] 79 (0, 0)) (by (with_reducible repeat (first | refine blk_drewN ?_ _ | refine blk_drew ?_ | refine blk_alloc ?_ _)); refine blk_put (cs := #[.int .i64 ((rd_T79 l0_0 x9_1).f0), .int .i64 ((rd_T79 l0_0 x9_1).f1), .slice none 0 0]) ?_ 2 _ rfl; (with_reducible repeat (first | refine blk_drewN ?_ _ | refine blk_drew ?_ | refine blk_alloc ?_ _)); refine blk_put (cs := #[.int .i64 ((rd_T79 l0_0 x9_1).f0), .int .i64 0, .slice none 0 0]) ?_ 1 _ rfl; (with_reducible repeat (first | refine blk_drewN ?_ _ | refine blk_drew ?_ | refine blk_alloc ?_ _)); refine blk_put (cs := #[.int .i64 0, .int .i64 0, .slice none 0 0]) ?_ 0 _ rfl; exact bk_ BK260.out) hg (by simp [Value.ownBlock])); have n5_ := aM (hb); have n6_ := aM (ho); clear HO_259000 BK256 BK257 BK258 BK260 HB; have HO_259000 := n0_; have BK256 := n1_; have BK257 := n2_; have BK258 := n3_; have BK260 := n4_; have HB := n5_; have HO263 := n6_; clear n0_ n1_ n2_ n3_ n4_ n5_ n6_; clear ho hb hg hat; obtain ⟨Ao19, co19, eo19⟩ := Kd.R_slice HO263.out; subst eo19; obtain ⟨hcz20_0, hcz20_1, hcz20_2, hfz20_0, hfz20_1, hfz20_2⟩ := b6_ BK260.out) | ((with_reducible refine gate_store (t := 77) (p := 16) rfl ?_); refine store_event (t := 77) (p := 16) (v := ?vo_w21) (w1 := (w18.setCell ⟨gb260, 2, none⟩ (.slice Ao19 y261.length co19))) ?hg ?ho ?hn ?hr ?_; (case ho => rfl); (case hg => rfl); (case hn => rfl); (case hr => exact qz87); intro w21 hw; have n0_ : Aside0 (Kd.S k79 79 w21 w.heap.size (fun k_ => some k_ ≠ (.slice Ao19 y261.length co19 : Value).ownBlock ∧ k_ ≠ gb260) u259000 x259000_1) := ⟨(by rw [hw]; exact (by (with_reducible repeat (first | apply Kd.S_alloc | apply Kd.S_drewN | apply Kd.S_drew)); exact Kd.S_mono (Kd.S_far (p := ⟨gb260, 2, none⟩) (Kd.S_mono HO_259000.out (fun k_ hk => (⟨hk, hk.1.2⟩ : _ ∧ k_ ≠ gb260))) (fun _ hk => hk.2) (.slice Ao19 y261.length co19)) (fun _ hk => ⟨hk.1.2, hk.1.1.2⟩)))⟩; have n1_ : Aside0 (Kd.R k72 72 w21 w.heap.size (fun _ => True) (.slice Ao19 y261.length co19) y261) := ⟨(by rw [hw]; exact (by (with_reducible repeat (first | apply Kd.R_alloc | apply Kd.R_drewN | apply Kd.R_drew)); exact Kd.R_mono (Kd.R_far (p := ⟨gb260, 2, none⟩) (Kd.R_types HO263.out BK260.out (by decide)) (fun _ hk => hk.2) (.slice Ao19 y261.length co19)) (fun _ hk => trivial)))⟩; have n2_ : Aside0 (w21.heap[gb256]? = some (.cells #[.slice (some ad259) l0_0.length c0_0] 26 (0, 0))) := ⟨(by rw [hw]; exact (by (with_reducible repeat (first | refine blk_drewN ?_ _ | refine blk_drew ?_ | refine blk_alloc ?_ _)); refine blk_far ?_ NB256_260.out _; exact bk_ BK256.out))⟩; have n3_ : Aside0 (w21.heap[gb257]? = some (.cells #[.slice none 0 0] 26 (0, 0))) := ⟨(by rw [hw]; exact (by (with_reducible repeat (first | refine blk_drewN ?_ _ | refine blk_drew ?_ | refine blk_alloc ?_ _)); refine blk_far ?_ NB257_260.out _; exact bk_ BK257.out))⟩; have n4_ : Aside0 (w21.heap[gb258]? = some (.cells #[u259000] 26 (0, 0))) := ⟨(by rw [hw]; exact (by (with_reducible repeat (first | refine blk_drewN ?_ _ | refine blk_drew ?_ | refine blk_alloc ?_ _)); refine blk_far ?_ NB258_260.out _; exact bk_ BK258.out))⟩; have n5_ : Aside0 (w21.heap[gb260]? = some (.cells #[.int .i64 ((rd_T79 l0_0 x9_1).f0), .int .i64 ((rd_T79 l0_0 x9_1).f1), .slice Ao19 y261.length co19] 79 (0, 0))) := ⟨(by rw [hw]; exact (by (with_reducible repeat (first | refine blk_drewN ?_ _ | refine blk_drew ?_ | refine blk_alloc ?_ _)); refine blk_put (cs := #[.int .i64 ((rd_T79 l0_0 x9_1).f0), .int .i64 ((rd_T79 l0_0 x9_1).f1), .slice A259_2 ((rd_T79 l0_0 x9_1).f2).length c259_2]) ?_ 2 _ rfl; exact bk_ BK260.out))⟩; have n6_ : Aside0 (Below w.heap.size w w21) := ⟨(by rw [hw]; exact qz42)⟩; clear hw HO_259000 HO263 BK256 BK257 BK258 BK260 HB; have HO_259000 := n0_; have HO263 := n1_; have BK256 := n2_; have BK257 := n3_; have BK258 := n4_; have BK260 := n5_; have HB := n6_; clear n0_ n1_ n2_ n3_ n4_ n5_ n6_; have hnb22 := NB258_256.out; have hnc22 := NB256_258.out; have hnb23 := NB258_257.out; have hnc23 := NB257_258.out; have hcz24_0 := bc0_ BK258.out; have hfz24_0 := blk_frozen BK258.out 0; obtain ⟨hcz25_0, hcz25_1, hcz25_2, hfz25_0, hfz25_1, hfz25_2⟩ := b6_ BK260.out) | ((with_reducible refine gate_builtin (b := .append) (xs := #[.tmp 18, .tmp 20]) rfl ?_); at_builtin; refine Kd.S_append k79 (w0 := w) w.heap.size rfl (.tmp 18) (.tmp 20) 24 79 (.agg #[(.int .i64 0), (.int .i64 0), (.slice none 0 0)]) 40 rfl Try.underlying24 info79 rfl (by decide) (by omega) u259000 x259000_1 (⟨(rd_T79 l0_0 x9_1).f0, (rd_T79 l0_0 x9_1).f1, y261⟩ : S79) [.int .i64 ((rd_T79 l0_0 x9_1).f0), .int .i64 ((rd_T79 l0_0 x9_1).f1), .slice Ao19 y261.length co19] (fun k_ => k_ ≠ gb260) (fun k_ => some k_ = (.slice Ao19 y261.length co19 : Value).ownBlock) rfl rfl ?aP (fun k_ hk_ => ((Kd.R_mono (ok' := fun k_ => ((fun k_ => k_ ≠ gb260)) k_ ∧ some k_ ≠ (u259000 : Value).ownBlock) (Kd.R_types (Kd.R_apart' (HO263.out) (Kd.S_typed HO_259000.out) (by decide)) BK260.out (by decide)) (fun k_ hk => ⟨hk.2, hk.1.2⟩))).1 k_ hk_.symm) ?aF ?aO ?aB ?aS ?aL ?_; (case aP => exact k79_mkM _ _ _ (⟨(rd_T79 l0_0 x9_1).f0, (rd_T79 l0_0 x9_1).f1, y261⟩ : S79) (Kd.R_mono (Kd.R_tight rfl (Kd.R_mono (ok' := fun k_ => ((fun k_ => k_ ≠ gb260)) k_ ∧ some k_ ≠ (u259000 : Value).ownBlock) (Kd.R_types (Kd.R_apart' (HO263.out) (Kd.S_typed HO_259000.out) (by decide)) BK260.out (by decide)) (fun k_ hk => ⟨hk.2, hk.1.2⟩))) (fun _ h_ => h_))); (case aB => exact qz42); (case aF => exact (fun k_ hk => Kd.freshB (bk_ BK260.out) k_ hk)); (case aO => exact (by (with_reducible repeat (first | apply Kd.S_alloc | apply Kd.S_drewN | apply Kd.S_drew)); exact Kd.S_mono HO_259000.out (fun k_ hk => ⟨hk.2, fun e_ => hk.1 e_⟩))); (case aS => exact (below_size qz42)); (case aL => have := LMc12.out; omega); intro v265 w26 ho hb hg hat; rw [← Ny264.out] at ho; have n0_ := aM (blk_grown (bk_ BK256.out) hg (Kd.S_ne HO_259000.out BK256.out (by decide))); have n1_ := aM (blk_grown (bk_ BK257.out) hg (Kd.S_ne HO_259000.out BK257.out (by decide))); have n2_ := aM (blk_grown (bk_ BK258.out) hg (Kd.S_ne HO_259000.out BK258.out (by decide))); have n3_ := aM (blk_grown (bk_ BK260.out) hg (Kd.S_away HO_259000.out (fun _ hk => hk.2))); have n4_ := aM (hb); have n5_ := aM (ho); clear BK256 BK257 BK258 BK260 HB HO_259000 HO263; have BK256 := n0_; have BK257 := n1_; have BK258 := n2_; have BK260 := n3_; have HB := n4_; have HO266 := n5_; clear n0_ n1_ n2_ n3_ n4_ n5_; clear ho hb hg hat; obtain ⟨Ao27, co27, eo27⟩ := Kd.S_slice HO266.out; subst eo27; have hcz28_0 := bc0_ BK258.out; have hfz28_0 := blk_frozen BK258.out 0))
   go_roundg k1
   case measure => have := HK1.out; omega
   case rel => exact ⟨(wrap64 (x9_1 + 1)), (y264), (.slice Ao27 y264.length co27), qz13, H', ⟨by have := HK1.out; omega⟩, ⟨by (with_reducible repeat (first | apply Kd.S_alloc | apply Kd.S_drewN | apply Kd.S_drew)); exact Kd.S_mono (Kd.S_far (p := ⟨gb258, 0, none⟩) (Kd.S_types HO266.out BK258.out (by decide)) (fun _ hk => hk.2) (.slice Ao27 y264.length co27)) (fun _ hk => trivial)⟩, ⟨by (with_reducible repeat (first | refine blk_drewN ?_ _ | refine blk_drew ?_ | refine blk_alloc ?_ _)); refine blk_far ?_ NB256_258.out _; exact bk_ BK256.out⟩, ⟨by (with_reducible repeat (first | refine blk_drewN ?_ _ | refine blk_drew ?_ | refine blk_alloc ?_ _)); refine blk_far ?_ NB257_258.out _; exact bk_ BK257.out⟩, ⟨by (with_reducible repeat (first | refine blk_drewN ?_ _ | refine blk_drew ?_ | refine blk_alloc ?_ _)); refine blk_put (cs := #[u259000]) ?_ 0 _ rfl; exact bk_ BK258.out⟩, ⟨by repeat (first | (with_reducible first | exact HB.out | apply below_alloc | apply pw_below_drewN | apply below_drew1 | refine below_set ?_ GE256.out | refine below_set ?_ GE257.out | refine below_set ?_ GE258.out | refine below_set ?_ GE260.out) | exact HB.out)⟩⟩
   }
   {
   rw [if_neg c12] at H
   exact absurd H (by simp)
   }
   }
   {
   rw [if_neg c11] at H
   exact absurd H (by simp)
   }
   }
   {
   rw [if_neg c10] at H
   exact absurd H (by simp)
   }
   }
   {
   rw [if_neg c9] at H
   exact absurd H (by simp)
   }
   }
   {
   rw [if_neg c8] at H
   have c8b0 := decide_eq_false c8
   clear c8
   obtain rfl := Option.some.inj H
   simp only [Option.some.injEq, Prod.mk.injEq] at H
   obtain ⟨rfl⟩ := H
   have hnb29 := NB258_256.out
   have hnc29 := NB256_258.out
   have hnb30 := NB258_257.out
   have hnc30 := NB257_258.out
   have hcz31_0 := bc0_ BK258.out
   have hfz31_0 := blk_frozen BK258.out 0
   obtain ⟨Ao32, co32, eo32⟩ := Kd.S_slice HO_259000.out
   subst eo32
   have hnb33 := NB257_256.out
   have hnc33 := NB256_257.out
   have hcz34_0 := bc0_ BK257.out
   have hfz34_0 := blk_frozen BK257.out 0
   go_wp2
   refine bodyPost_ret (results_cell_row rfl _ _ gb257 26 #[.slice Ao32 x259000_1.length co32] (0, 0) _ rfl (by (with_reducible repeat (first | refine blk_drewN ?_ _ | refine blk_drew ?_ | refine blk_alloc ?_ _)); refine blk_put (cs := #[.slice none 0 0]) ?_ 0 _ rfl; exact bk_ BK257.out) Try.underlying26 rfl (by kernel_rfl)) rfl ?_
   exact ⟨_, by first | rfl | (simp [errW_none, errW_some] <;> rfl) | (simp [*, errW_none, errW_some] <;> rfl), by (with_reducible repeat (first | apply Kd.S_alloc | apply Kd.S_drewN | apply Kd.S_drew)); exact Kd.S_mono (Kd.S_far (p := ⟨gb257, 0, none⟩) (Kd.S_types HO_259000.out BK257.out (by decide)) (fun _ hk => hk.2) (.slice Ao32 x259000_1.length co32)) (fun _ hk => trivial), by repeat (first | (with_reducible first | exact HB.out | apply below_alloc | apply pw_below_drewN | apply below_drew1 | refine below_set ?_ GE256.out | refine below_set ?_ GE257.out | refine below_set ?_ GE258.out) | exact HB.out)⟩

   }
end Go.Proofs.Yteajnkondkfmgaa.PFnHeld
