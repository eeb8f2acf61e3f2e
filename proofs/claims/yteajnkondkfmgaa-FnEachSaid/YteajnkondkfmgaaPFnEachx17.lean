-- Made by a program of this session out of the translation. Lean checks it.
import Derived.Test.YteajnkondkfmgaaPFnEachx13
import Derived.Test.YteajnkondkfmgaaPFnEachx16
namespace Go.Proofs.Yteajnkondkfmgaa.PFnEach
open Go.RowKit Go.Proofs.YteajnkondkfmgaaW.PrintWords Go.Proofs.YteajnkondkfmgaaW.PrintLast Go.Proofs.YteajnkondkfmgaaW.PrintMore
attribute [local go_sem] max2_int min2_int max_two min_two max_three min_three max_four min_four   -- for this text's walks alone
set_option linter.unusedVariables false
set_option linter.unusedSimpArgs false

/-! ### spec_l5DrawAny: function 76 -/
def spec_l5DrawAny.f (k : Nat) (s0_0 : List Int) (s0_1 : Int) (s0_2 : Int) : Option ((List (S79)) × Int × Int) := (spec_l5Draw.f k s0_0 s0_1 s0_2).bind fun bt354 => ((spec_l1Once.f s0_0 bt354.2.1 bt354.2.2 8).bind fun bt360 => (if bt360.1 = true then ((spec_l5Bend.f k s0_0 bt360.2.1 bt360.2.2 bt354.1).bind fun bt363 => (some (bt363.1, bt363.2.1, bt363.2.2))) else (some (bt354.1, bt360.2.1, bt360.2.2))))
theorem spec_l5DrawAny.mono : ∀ a0 a1 a2 k, LeO (spec_l5DrawAny.f k a0 a1 a2) (spec_l5DrawAny.f (k + 1) a0 a1 a2) := by
 intro a0 a1 a2 k
 unfold spec_l5DrawAny.f
 have j0 := @spec_l5Bend.mono
 have j1 := @spec_l5Draw.mono
 exact qL
set_option maxHeartbeats 8000000 in
set_option maxRecDepth 100000 in
theorem spec_l5DrawAny.calls (k : Nat) (g : Nat) (s0_0 : List Int) (s0_1 : Int) (s0_2 : Int) (r1 : List (S79)) (r2 : Int) (r3 : Int) (w0 w : World) (hI : IsS122 w0 w g s0_0 s0_1 s0_2) (hB : Below w0.heap.size w0 w) (h : spec_l5DrawAny.f k s0_0 s0_1 s0_2 = some (r1, r2, r3)) :
  Calls Try.prog 76 #[.pointer (some ⟨g, 0, none⟩)] w fun e w' => ∃ v0_ : Value, e = .returned (.agg #[v0_]) ∧ Kd.N k79 79 w' w.heap.size (fun k_ => (w.heap.size ≤ k_)) v0_ r1 ∧ IsS122 w0 w' g s0_0 r2 r3 ∧ Below w0.heap.size w0 w' ∧ KeepBut w w' g none := by
 have hu26 := Try.underlying26
 have HI0 := aM hI
 have HK := aM (KeepBut.refl w g none)
 have HL := aM hB.size
 clear hI
 have HW0 := aM hB.size
 have HB := aM hB
 clear hB
 have H : ((spec_l5Draw.f k s0_0 s0_1 s0_2).bind fun bt354 => ((spec_l1Once.f s0_0 bt354.2.1 bt354.2.2 8).bind fun bt360 => (if bt360.1 = true then ((spec_l5Bend.f k s0_0 bt360.2.1 bt360.2.2 bt354.1).bind fun bt363 => (some (bt363.1, bt363.2.1, bt363.2.2))) else (some (bt354.1, bt360.2.1, bt360.2.2))))) = some (r1, r2, r3) := h
 clear h
 replace H := Option.bind_eq_some_iff.mp H
 obtain ⟨⟨t354, t357, t358⟩, A20, H⟩ := H
 replace H : ((spec_l1Once.f s0_0 t357 t358 8).bind fun bt360 => (if bt360.1 = true then ((spec_l5Bend.f k s0_0 bt360.2.1 bt360.2.2 t354).bind fun bt363 => (some (bt363.1, bt363.2.1, bt363.2.2))) else (some (t354, bt360.2.1, bt360.2.2)))) = some (r1, r2, r3) := H
 have A2 := aM A20
 clear A20
 replace H := Option.bind_eq_some_iff.mp H
 obtain ⟨⟨t360, t361, t362⟩, A30, H⟩ := H
 replace H : (if t360 = true then ((spec_l5Bend.f k s0_0 t361 t362 t354).bind fun bt363 => (some (bt363.1, bt363.2.1, bt363.2.2))) else (some (t354, t361, t362))) = some (r1, r2, r3) := H
 have A3 := aM A30
 clear A30
 by_cases c4 : t360 = true
 {
 subst c4
 rw [if_pos rfl] at H
 replace H := Option.bind_eq_some_iff.mp H
 obtain ⟨⟨t363, t366, t367⟩, A50, H⟩ := H
 replace H : (some (t363, t366, t367)) = some (r1, r2, r3) := H
 have A5 := aM A50
 clear A50
 simp only [Option.some.injEq, Prod.mk.injEq] at H
 obtain ⟨rfl, rfl, rfl⟩ := H
 go_enter Try.func76, Try.ntmps76
 go_wp2_with (first | ((with_reducible refine gate_dst (N := 2) rfl ?_); refine bx_ 2 #[.slice none 0 0] 26 ?_; intro gb353 hg w6 hbox hb; replace HB := bS_ hb; have BK353 := aM (hbox); have GW353 := aM (kz_ w g hg qz2); have GE353 := aM ((Nat.le_trans HW0.out (by rw [hg]; exact (keep_size (w := w) (g := g) (row := none) qz2) : w.heap.size ≤ gb353) : w0.heap.size ≤ gb353)); replace HK := aM (KeepBut.trans qz2 (KeepBut.of_below hb g none) (.inl rfl)); have NB0_353 := aM ((by rw [hg]; exact Nat.ne_of_lt (IsS122.lt (show IsS122 w0 _ g s0_0 s0_1 s0_2 from qz3)) : g ≠ gb353)); have NB353_0 := aM ((by rw [hg]; exact Nat.ne_of_gt (IsS122.lt (show IsS122 w0 _ g s0_0 s0_1 s0_2 from qz3)) : gb353 ≠ g)); replace HI0 := aM (IsS122.below qz3 hb); clear hb hbox hg) | ((with_reducible refine gate_callee (f := 101) rfl ?_); refine goesL_ (some 5) rfl rfl Try.func101 (by kernel_rfl) rfl #[.pointer (some ⟨g, 0, none⟩)] rfl qz4 ?_; (with_reducible refine (spec_l5Draw.calls k g s0_0 s0_1 s0_2 t354 t357 t358 w0 _ ?side1 ?side2 A2.out).mono ?_); (case side1 => exact qz3); (case side2 => exact qz1); rintro e w7 ⟨v355, rfl, ho0, hi, hb, hk⟩; refine ⟨_, rfl, ?_⟩; have HO356 := aM (Kd.N_lower (Kd.N_mono (ok' := fun k_ => (w.heap.size ≤ k_) ∧ k_ ≠ gb353 ∧ k_ ≠ g) (Kd.S_N (Kd.S_bound ho0)) (fun k_ hk_ => ⟨(Nat.le_trans (keep_size (w := w) (g := g) (row := none) qz2) hk_.2.1), (Kd.freshB (bk_ BK353.out) k_ hk_.2.1), (IsS122.fresh qz3 k_ hk_.2.1)⟩)) (keep_size (w := w) (g := g) (row := none) qz2)); replace BK353 := aM (KeepBut.blk hk (bk_ BK353.out) NB353_0.out (by simp)); replace HK := aM (KeepBut.trans qz2 hk (.inl rfl)); replace HB := aM (hb); replace HI0 := aM (hi); (try clear hb hk hi ho0)) | ((with_reducible refine gate_dst (N := 3) rfl ?_); refine bx_ 3 #[.slice none 0 0] 26 ?_; intro gb359 hg w8 hbox hb; replace HO356 := aM (Kd.N_below (Kd.N_elderB qz31 gb359 (Nat.le_of_eq hg.symm)) hb); replace HB := bS_ hb; have BK359 := aM (hbox); have GW359 := aM (kz_ w g hg qz2); have GE359 := aM ((Nat.le_trans HW0.out (by rw [hg]; exact (keep_size (w := w) (g := g) (row := none) qz2) : w.heap.size ≤ gb359) : w0.heap.size ≤ gb359)); replace HK := aM (KeepBut.trans qz2 (KeepBut.of_below hb g none) (.inl rfl)); obtain ⟨NB353_359, NB359_353⟩ := nb_ hg (bk_ BK353.out); replace BK353 := bB_ BK353 hb; have NB0_359 := aM ((by rw [hg]; exact Nat.ne_of_lt (IsS122.lt (show IsS122 w0 _ g s0_0 t357 t358 from qz3)) : g ≠ gb359)); have NB359_0 := aM ((by rw [hg]; exact Nat.ne_of_gt (IsS122.lt (show IsS122 w0 _ g s0_0 t357 t358 from qz3)) : gb359 ≠ g)); replace HI0 := aM (IsS122.below qz3 hb); clear hb hbox hg; obtain ⟨Ao9, co9, eo9⟩ := Kd.N_slice HO356.out; subst eo9; have hnb10 := NB359_353.out; have hnc10 := NB353_359.out; have hnb11 := NB359_0.out; have hnc11 := NB0_359.out; obtain ⟨hcz12_0, hfz12_0⟩ := bf_ BK359.out) | ((with_reducible refine gate_callee (f := 102) rfl ?_); refine goesL_ (some 7) rfl rfl Try.func102 (by kernel_rfl) rfl #[.pointer (some ⟨g, 0, none⟩), .int .i64 8] rfl qz4 ?_; (with_reducible refine (spec_l1Once.calls g s0_0 t357 t358 8 true t361 t362 w0 _ ?side1 ?side2 A3.out).mono ?_); (case side1 => exact qz3); (case side2 => exact qz1); rintro e w13 ⟨rfl, hi, hb, hk⟩; refine ⟨_, rfl, ?_⟩; replace BK353 := aM (KeepBut.blk hk (g' := gb353) (o := .cells #[.slice none 0 0] 26 (0, 0)) (bk2_ BK353.out) NB353_0.out (by simp)); replace HO356 := aM (Kd.N_mono (Kd.N_keep (Kd.N_mono (ok := fun k_ => ((((w.heap.size ≤ k_)) ∧ (k_ ≠ gb353 ∧ k_ ≠ g)) ∧ k_ ≠ gb359)) (by (with_reducible repeat (first | apply Kd.N_alloc | apply Kd.N_drewN | apply Kd.N_drew)); exact (Kd.N_mono (Kd.N_far (p := ⟨gb359, 0, none⟩) (Kd.N_mono HO356.out (fun k_ hk => (⟨hk, hk.2⟩ : _ ∧ k_ ≠ gb359))) (fun _ hk => hk.2) (.slice Ao9 t354.length co9)) (fun _ h_ => h_.1))) (fun k_ hk_ => (⟨hk_, hk_.1.2.2⟩ : _ ∧ k_ ≠ g))) hk (fun _ h => h.2)) (fun _ h => h.1)); replace BK359 := aM (KeepBut.blk hk (g' := gb359) (o := .cells #[.slice Ao9 t354.length co9] 26 (0, 0)) (by (with_reducible repeat (first | refine blk_drewN ?_ _ | refine blk_drew ?_ | refine blk_alloc ?_ _)); refine blk_put (cs := #[.slice none 0 0]) ?_ 0 _ rfl; exact bk_ BK359.out) NB359_0.out (by simp)); replace HK := aM (KeepBut.trans qz2 hk (.inl rfl)); replace HB := aM (hb); replace HI0 := aM (hi); (try clear hb hk hi); obtain ⟨hcz14_0, hfz14_0⟩ := bf_ BK359.out) | ((with_reducible refine gate_callee (f := 103) rfl ?_); refine goesL_ (some 10) rfl rfl Try.func103 (by kernel_rfl) rfl #[.pointer (some ⟨g, 0, none⟩), .agg #[.slice Ao9 t354.length co9]] rfl qz4 ?_; (with_reducible refine (spec_l5Bend.calls k g s0_0 t361 t362 _ _ t354 t363 t366 t367 w0 _ ?side1 ?side2 ?side3 ?side4 A5.out).mono ?_); (case side1 => exact qz3); (case side2 => exact qz1); (case side3 => exact Kd.C_foot_ownV (base := 0) (Kd.N_V (Kd.N_mono (ok := fun k_ => ((((w.heap.size ≤ k_)) ∧ (k_ ≠ gb353 ∧ k_ ≠ g)) ∧ k_ ≠ gb359)) qz31 (fun k_ hk_ => (⟨hk_, hk_.1.2.2⟩ : _ ∧ k_ ≠ g)))) (fun _ h_ => h_.2)); (case side4 => exact (Kd.N_reads' HO356.out).2.1); rintro e w15 ⟨v364, rfl, ho0, hi, hb, hk⟩; refine ⟨_, rfl, ?_⟩; have HO365 := aM (Kd.N_lower (Kd.N_mono (ok' := fun k_ => (w.heap.size ≤ k_) ∧ some k_ ≠ (.slice Ao9 t354.length co9 : Value).ownBlock ∧ k_ ≠ gb353 ∧ k_ ≠ gb359 ∧ k_ ≠ g) ho0 (fun k_ hk_ => ⟨(Nat.le_trans (keep_size (w := w) (g := g) (row := none) qz2) hk_), (Kd.fresh' (Kd.N_lt qz31) k_ hk_), (Kd.freshB (bk_ BK353.out) k_ hk_), (Kd.freshB (bk_ BK359.out) k_ hk_), (IsS122.fresh qz3 k_ hk_)⟩)) (keep_size (w := w) (g := g) (row := none) qz2)); replace BK353 := aM (KeepBut.blk hk (bk_ BK353.out) NB353_0.out (by simp)); replace HO356 := aM (Kd.N_mono (Kd.N_told (Kd.N_oldK (Kd.N_mono (ok := fun k_ => ((((w.heap.size ≤ k_)) ∧ (k_ ≠ gb353 ∧ k_ ≠ g)) ∧ k_ ≠ gb359)) qz31 (fun k_ hk_ => (⟨hk_, hk_.1.2.2⟩ : _ ∧ k_ ≠ g))) hk) (Kd.N_base ho0)) (fun _ h_ => h_.1)); replace BK359 := aM (KeepBut.blk hk (bk_ BK359.out) NB359_0.out (by simp)); replace HK := aM (KeepBut.trans qz2 hk (.inl rfl)); replace HB := aM (hb); replace HI0 := aM (hi); (try clear hb hk hi ho0); obtain ⟨Ao16, co16, eo16⟩ := Kd.N_slice HO365.out; subst eo16; obtain ⟨hcz17_0, hfz17_0⟩ := bf_ BK359.out; have hnb18 := NB353_0.out; have hnc18 := NB0_353.out; obtain ⟨hcz19_0, hfz19_0⟩ := bf_ BK353.out))
 refine bodyPost_ret (results_cell_row rfl _ _ gb353 26 #[.slice Ao16 t363.length co16] (0, 0) _ rfl (by (with_reducible repeat (first | refine blk_drewN ?_ _ | refine blk_drew ?_ | refine blk_alloc ?_ _)); refine blk_put (cs := #[.slice none 0 0]) ?_ 0 _ rfl; (with_reducible repeat (first | refine blk_drewN ?_ _ | refine blk_drew ?_ | refine blk_alloc ?_ _)); exact bk2_ BK353.out) Try.underlying26 rfl (by kernel_rfl)) rfl ?_
 exact ⟨_, qzw, by (with_reducible repeat (first | apply Kd.N_alloc | apply Kd.N_drewN | apply Kd.N_drew)); exact Kd.N_mono (Kd.N_far (p := ⟨gb353, 0, none⟩) (Kd.N_far (p := ⟨gb359, 0, none⟩) (Kd.N_mono (Kd.N_mono HO365.out (fun k_ hk => (⟨hk, hk.2.2.2.1⟩ : _ ∧ k_ ≠ gb359))) (fun k_ hk => (⟨hk, hk.1.2.2.1⟩ : _ ∧ k_ ≠ gb353))) (fun _ hk => hk.1.2) (.slice Ao16 t363.length co16)) (fun _ hk => hk.2) (.slice Ao16 t363.length co16)) (fun _ hk => hk.1.1.1), qz3, qz1, qz2⟩
 }
 {
 replace c4 := Bool.eq_false_iff.mpr c4
 subst c4
 rw [if_neg (show ¬ (false = true) by decide)] at H
 simp only [Option.some.injEq, Prod.mk.injEq] at H
 obtain ⟨rfl, rfl, rfl⟩ := H
 go_enter Try.func76, Try.ntmps76
 go_wp2_with (first | ((with_reducible refine gate_dst (N := 2) rfl ?_); refine bx_ 2 #[.slice none 0 0] 26 ?_; intro gb353 hg w20 hbox hb; replace HB := bS_ hb; have BK353 := aM (hbox); have GW353 := aM (kz_ w g hg qz2); have GE353 := aM ((Nat.le_trans HW0.out (by rw [hg]; exact (keep_size (w := w) (g := g) (row := none) qz2) : w.heap.size ≤ gb353) : w0.heap.size ≤ gb353)); replace HK := aM (KeepBut.trans qz2 (KeepBut.of_below hb g none) (.inl rfl)); have NB0_353 := aM ((by rw [hg]; exact Nat.ne_of_lt (IsS122.lt (show IsS122 w0 _ g s0_0 s0_1 s0_2 from qz3)) : g ≠ gb353)); have NB353_0 := aM ((by rw [hg]; exact Nat.ne_of_gt (IsS122.lt (show IsS122 w0 _ g s0_0 s0_1 s0_2 from qz3)) : gb353 ≠ g)); replace HI0 := aM (IsS122.below qz3 hb); clear hb hbox hg) | ((with_reducible refine gate_callee (f := 101) rfl ?_); refine goesL_ (some 5) rfl rfl Try.func101 (by kernel_rfl) rfl #[.pointer (some ⟨g, 0, none⟩)] rfl qz4 ?_; (with_reducible refine (spec_l5Draw.calls k g s0_0 s0_1 s0_2 t354 t357 t358 w0 _ ?side1 ?side2 A2.out).mono ?_); (case side1 => exact qz3); (case side2 => exact qz1); rintro e w21 ⟨v355, rfl, ho0, hi, hb, hk⟩; refine ⟨_, rfl, ?_⟩; have HO356 := aM (Kd.N_lower (Kd.N_mono (ok' := fun k_ => (w.heap.size ≤ k_) ∧ k_ ≠ gb353 ∧ k_ ≠ g) (Kd.S_N (Kd.S_bound ho0)) (fun k_ hk_ => ⟨(Nat.le_trans (keep_size (w := w) (g := g) (row := none) qz2) hk_.2.1), (Kd.freshB (bk_ BK353.out) k_ hk_.2.1), (IsS122.fresh qz3 k_ hk_.2.1)⟩)) (keep_size (w := w) (g := g) (row := none) qz2)); replace BK353 := aM (KeepBut.blk hk (bk_ BK353.out) NB353_0.out (by simp)); replace HK := aM (KeepBut.trans qz2 hk (.inl rfl)); replace HB := aM (hb); replace HI0 := aM (hi); (try clear hb hk hi ho0)) | ((with_reducible refine gate_dst (N := 3) rfl ?_); refine bx_ 3 #[.slice none 0 0] 26 ?_; intro gb359 hg w22 hbox hb; replace HO356 := aM (Kd.N_below (Kd.N_elderB qz31 gb359 (Nat.le_of_eq hg.symm)) hb); replace HB := bS_ hb; have BK359 := aM (hbox); have GW359 := aM (kz_ w g hg qz2); have GE359 := aM ((Nat.le_trans HW0.out (by rw [hg]; exact (keep_size (w := w) (g := g) (row := none) qz2) : w.heap.size ≤ gb359) : w0.heap.size ≤ gb359)); replace HK := aM (KeepBut.trans qz2 (KeepBut.of_below hb g none) (.inl rfl)); obtain ⟨NB353_359, NB359_353⟩ := nb_ hg (bk_ BK353.out); replace BK353 := bB_ BK353 hb; have NB0_359 := aM ((by rw [hg]; exact Nat.ne_of_lt (IsS122.lt (show IsS122 w0 _ g s0_0 t357 t358 from qz3)) : g ≠ gb359)); have NB359_0 := aM ((by rw [hg]; exact Nat.ne_of_gt (IsS122.lt (show IsS122 w0 _ g s0_0 t357 t358 from qz3)) : gb359 ≠ g)); replace HI0 := aM (IsS122.below qz3 hb); clear hb hbox hg; obtain ⟨Ao23, co23, eo23⟩ := Kd.N_slice HO356.out; subst eo23; have hnb24 := NB359_353.out; have hnc24 := NB353_359.out; have hnb25 := NB359_0.out; have hnc25 := NB0_359.out; obtain ⟨hcz26_0, hfz26_0⟩ := bf_ BK359.out) | ((with_reducible refine gate_callee (f := 102) rfl ?_); refine goesL_ (some 7) rfl rfl Try.func102 (by kernel_rfl) rfl #[.pointer (some ⟨g, 0, none⟩), .int .i64 8] rfl qz4 ?_; (with_reducible refine (spec_l1Once.calls g s0_0 t357 t358 8 false t361 t362 w0 _ ?side1 ?side2 A3.out).mono ?_); (case side1 => exact qz3); (case side2 => exact qz1); rintro e w27 ⟨rfl, hi, hb, hk⟩; refine ⟨_, rfl, ?_⟩; replace BK353 := aM (KeepBut.blk hk (g' := gb353) (o := .cells #[.slice none 0 0] 26 (0, 0)) (bk2_ BK353.out) NB353_0.out (by simp)); replace HO356 := aM (Kd.N_mono (Kd.N_keep (Kd.N_mono (ok := fun k_ => ((((w.heap.size ≤ k_)) ∧ (k_ ≠ gb353 ∧ k_ ≠ g)) ∧ k_ ≠ gb359)) (by (with_reducible repeat (first | apply Kd.N_alloc | apply Kd.N_drewN | apply Kd.N_drew)); exact (Kd.N_mono (Kd.N_far (p := ⟨gb359, 0, none⟩) (Kd.N_mono HO356.out (fun k_ hk => (⟨hk, hk.2⟩ : _ ∧ k_ ≠ gb359))) (fun _ hk => hk.2) (.slice Ao23 t354.length co23)) (fun _ h_ => h_.1))) (fun k_ hk_ => (⟨hk_, hk_.1.2.2⟩ : _ ∧ k_ ≠ g))) hk (fun _ h => h.2)) (fun _ h => h.1)); replace BK359 := aM (KeepBut.blk hk (g' := gb359) (o := .cells #[.slice Ao23 t354.length co23] 26 (0, 0)) (by (with_reducible repeat (first | refine blk_drewN ?_ _ | refine blk_drew ?_ | refine blk_alloc ?_ _)); refine blk_put (cs := #[.slice none 0 0]) ?_ 0 _ rfl; exact bk_ BK359.out) NB359_0.out (by simp)); replace HK := aM (KeepBut.trans qz2 hk (.inl rfl)); replace HB := aM (hb); replace HI0 := aM (hi); (try clear hb hk hi); obtain ⟨hcz28_0, hfz28_0⟩ := bf_ BK359.out; have hnb29 := NB353_0.out; have hnc29 := NB0_353.out; obtain ⟨hcz30_0, hfz30_0⟩ := bf_ BK353.out))
 refine bodyPost_ret (results_cell_row rfl _ _ gb353 26 #[.slice Ao23 t354.length co23] (0, 0) _ rfl (by (with_reducible repeat (first | refine blk_drewN ?_ _ | refine blk_drew ?_ | refine blk_alloc ?_ _)); refine blk_put (cs := #[.slice none 0 0]) ?_ 0 _ rfl; exact bk_ BK353.out) Try.underlying26 rfl (by kernel_rfl)) rfl ?_
 exact ⟨_, qzw, by (with_reducible repeat (first | apply Kd.N_alloc | apply Kd.N_drewN | apply Kd.N_drew)); exact Kd.N_mono (Kd.N_far (p := ⟨gb353, 0, none⟩) (Kd.N_mono HO356.out (fun k_ hk => (⟨hk, hk.1.2.1⟩ : _ ∧ k_ ≠ gb353))) (fun _ hk => hk.2) (.slice Ao23 t354.length co23)) (fun _ hk => hk.1.1.1), qz3, qz1, qz2⟩

 }
/-! ### spec_l6Items: function 104 -/
def spec_l6Items.l0 : Nat → List (S48) → Int → List Int → Int → Int → Option ((List (S48)) × Int × Int)
 | 0, _, _, _, _, _ => none
 | k + 1, x3, x4, x1000, x1001, x1002 => if x4 < 6 then ((spec_l1Once.f x1000 x1001 x1002 4).bind fun bt371 => (if bt371.1 = true then ((spec_l1Int.f x1000 bt371.2.1 bt371.2.2 (([1, 1, 1, 2, 3, 9] : List Int))).bind fun bt377 => (if x3.length < 8796093022208 then (spec_l6Items.l0 k (x3 ++ [(⟨x4, bt377.1⟩ : S48)]) (wrap64 (x4 + 1)) x1000 bt377.2.1 bt377.2.2) else (none))) else (spec_l6Items.l0 k x3 (wrap64 (x4 + 1)) x1000 bt371.2.1 bt371.2.2))) else (some (x3, x1001, x1002))
def spec_l6Items.f (k : Nat) (s0_0 : List Int) (s0_1 : Int) (s0_2 : Int) : Option ((List (S48)) × Int × Int) := spec_l6Items.l0 k (([] : List (S48))) 1 s0_0 s0_1 s0_2
theorem spec_l6Items.mono_l : ∀ k, (∀ y0 y1 y2 y3 y4, LeO (spec_l6Items.l0 k y0 y1 y2 y3 y4) (spec_l6Items.l0 (k + 1) y0 y1 y2 y3 y4))
 | 0 => fun _ _ _ _ _ r h => by simp [spec_l6Items.l0] at h
 | k + 1 => by
  have ih0 := spec_l6Items.mono_l k
  {
  intro y0 y1 y2 y3 y4
  unfold spec_l6Items.l0
  exact qL
  }
theorem spec_l6Items.mono : ∀ a0 a1 a2 k, LeO (spec_l6Items.f k a0 a1 a2) (spec_l6Items.f (k + 1) a0 a1 a2) := by
 intro a0 a1 a2 k
 have ih0 := spec_l6Items.mono_l k
 unfold spec_l6Items.f
 exact qL
set_option maxHeartbeats 8000000 in
set_option maxRecDepth 100000 in
theorem spec_l6Items.calls (k : Nat) (g : Nat) (s0_0 : List Int) (s0_1 : Int) (s0_2 : Int) (r1 : List (S48)) (r2 : Int) (r3 : Int) (w0 w : World) (hI : IsS122 w0 w g s0_0 s0_1 s0_2) (hB : Below w0.heap.size w0 w) (h : spec_l6Items.f k s0_0 s0_1 s0_2 = some (r1, r2, r3)) :
  Calls Try.prog 104 #[.pointer (some ⟨g, 0, none⟩)] w fun e w' => ∃ v0_ : Value, e = .returned (v0_) ∧ Kd.R k48 48 w' w.heap.size (fun _ => True) v0_ r1 ∧ IsS122 w0 w' g s0_0 r2 r3 ∧ Below w0.heap.size w0 w' ∧ KeepBut w w' g none := by
 have hu48 := Try.underlying48
 have HI0 := aM hI
 have HK := aM (KeepBut.refl w g none)
 have HL := aM hB.size
 clear hI
 have HW0 := aM hB.size
 have HB := aM hB
 clear hB
 have H : (spec_l6Items.l0 k (([] : List (S48))) 1 s0_0 s0_1 s0_2) = some (r1, r2, r3) := h
 clear h
 obtain ⟨y368, hy368⟩ : ∃ y_ : List (S48), y_ = (([] : List (S48))) := ⟨_, rfl⟩
 replace H : (spec_l6Items.l0 k y368 1 s0_0 s0_1 s0_2) = some (r1, r2, r3) := by first | (rw [hy368]; with_reducible exact H) | (have H2_ := (Option.bind_some _ _).symm.trans H; rw [hy368]; with_reducible exact H2_) | (have H2_ := (Option.bind_some _ _).symm.trans H; with_reducible exact H2_) | with_reducible exact H | (rw [hy368]; exact H) | exact H
 have Ny368 := aM hy368
 clear hy368
 have H' := aM H
 clear H
 go_enter Try.func104, Try.ntmps104
 go_wp2_with (first | ((with_reducible refine gate_dst (N := 5) rfl ?_); refine Kd.R_lit k48 _ 48 ?hg (N := 5) ?hd (xs := ([] : List (S48))) (inner := []) (ok := fun _ => True) (okp := fun _ => True) ?hr ?hp (fun _ hk => hk) trivial (Below.refl _ _) (Nat.le_refl _) (by simp) ?_; (case hd => rfl); (case hg => rfl); (case hr => exact qz23); (case hp => exact (Reps.none _ _)); intro v369 w2 ho3 hb hg_ hnew_; clear hg_ hnew_; (first | rw [← Ny368.out] at ho3 | (simp only [Int.reduceToNat] at ho3; rw [← Ny368.out] at ho3)); have HO370 := aM (Kd.R_lower ho3 (keep_size (w := w) (g := g) (row := none) qz2)); replace HK := aM (KeepBut.trans qz2 (KeepBut.of_below hb g none) (.inl rfl)); replace HB := bS_ hb; replace HI0 := aM (IsS122.below qz3 hb); clear hb ho3))
 go_loopg [3, 4] k (fun kq v3 v4 w' => ∃ (x3_1 : List (S48)) (x4_1 : Int) (x1001_1 : Int) (x1002_1 : Int), v4 = .int .i64 x4_1 ∧ Aside0 (spec_l6Items.l0 kq x3_1 x4_1 s0_0 x1001_1 x1002_1 = some (r1, r2, r3)) ∧ Aside0 (kq ≤ k) ∧ Aside0 (Kd.R k48 48 w' w.heap.size (fun _ => True) v3 x3_1) ∧ Aside0 (IsS122 w0 w' g s0_0 x1001_1 x1002_1) ∧ Aside0 (KeepBut w w' g none) ∧ Aside0 (Below w0.heap.size w0 w'))
 case atStart => exact ⟨(y368), (1), (s0_1), (s0_2), qz5, H', ⟨Nat.le_refl _⟩, ⟨rr_ HO370.out⟩, ⟨qz3⟩, ⟨qz2⟩, ⟨qz1⟩⟩
 case round =>
  clear H'
  try clear c1
  try clear p2
  obtain ⟨x3_1, x4_1, x1001_1, x1002_1, rfl, HA, HK1, HO_3, HI0, HK, HB⟩ := hrel
  cases gk with
  | zero => exact absurd HA.out (by simp [spec_l6Items.l0])
  | succ k1 =>
   have H := HA.out
   clear HA
   simp only [spec_l6Items.l0] at H
   by_cases c4 : x4_1 < 6
   {
   rw [if_pos c4] at H
   have c4b0 := decide_eq_true c4
   clear c4
   replace H := Option.bind_eq_some_iff.mp H
   obtain ⟨⟨t371, t372, t373⟩, A50, H⟩ := H
   replace H : (if t371 = true then ((spec_l1Int.f s0_0 t372 t373 (([1, 1, 1, 2, 3, 9] : List Int))).bind fun bt377 => (if x3_1.length < 8796093022208 then (spec_l6Items.l0 k1 (x3_1 ++ [(⟨x4_1, bt377.1⟩ : S48)]) (wrap64 (x4_1 + 1)) s0_0 bt377.2.1 bt377.2.2) else (none))) else (spec_l6Items.l0 k1 x3_1 (wrap64 (x4_1 + 1)) s0_0 t372 t373)) = some (r1, r2, r3) := H
   have A5 := aM A50
   clear A50
   by_cases c6 : t371 = true
   {
   subst c6
   rw [if_pos rfl] at H
   obtain ⟨y374, hy374⟩ : ∃ y_ : List Int, y_ = (([1, 1, 1, 2, 3, 9] : List Int)) := ⟨_, rfl⟩
   replace H : ((spec_l1Int.f s0_0 t372 t373 y374).bind fun bt377 => (if x3_1.length < 8796093022208 then (spec_l6Items.l0 k1 (x3_1 ++ [(⟨x4_1, bt377.1⟩ : S48)]) (wrap64 (x4_1 + 1)) s0_0 bt377.2.1 bt377.2.2) else (none))) = some (r1, r2, r3) := by first | (rw [hy374]; with_reducible exact H) | (have H2_ := (Option.bind_some _ _).symm.trans H; rw [hy374]; with_reducible exact H2_) | (have H2_ := (Option.bind_some _ _).symm.trans H; with_reducible exact H2_) | with_reducible exact H | (rw [hy374]; exact H) | exact H
   have Ny374 := aM hy374
   clear hy374
   replace H := Option.bind_eq_some_iff.mp H
   obtain ⟨⟨t377, t378, t379⟩, A70, H⟩ := H
   replace H : (if x3_1.length < 8796093022208 then (spec_l6Items.l0 k1 (x3_1 ++ [(⟨x4_1, t377⟩ : S48)]) (wrap64 (x4_1 + 1)) s0_0 t378 t379) else (none)) = some (r1, r2, r3) := H
   have A7 := aM A70
   clear A70
   by_cases c8 : x3_1.length < 8796093022208
   {
   rw [if_pos c8] at H
   have LMc8 := aM c8
   clear c8
   obtain ⟨y380, hy380⟩ : ∃ y_ : List (S48), y_ = (x3_1 ++ [(⟨x4_1, t377⟩ : S48)]) := ⟨_, rfl⟩
   replace H : (spec_l6Items.l0 k1 y380 (wrap64 (x4_1 + 1)) s0_0 t378 t379) = some (r1, r2, r3) := by first | (rw [hy380]; with_reducible exact H) | (have H2_ := (Option.bind_some _ _).symm.trans H; rw [hy380]; with_reducible exact H2_) | (have H2_ := (Option.bind_some _ _).symm.trans H; with_reducible exact H2_) | with_reducible exact H | (rw [hy380]; exact H) | exact H
   have Ny380 := aM hy380
   clear hy380
   have H' := aM H
   clear H
   go_wp2_with (first | ((with_reducible refine gate_callee (f := 102) rfl ?_); refine goesL_ (some 11) rfl rfl Try.func102 (by kernel_rfl) rfl #[.pointer (some ⟨g, 0, none⟩), .int .i64 4] rfl qz4 ?_; (with_reducible refine (spec_l1Once.calls g s0_0 x1001_1 x1002_1 4 true t372 t373 w0 _ ?side1 ?side2 A5.out).mono ?_); (case side1 => exact qz3); (case side2 => exact qz1); rintro e w9 ⟨rfl, hi, hb, hk⟩; refine ⟨_, rfl, ?_⟩; replace HO_3 := aM (Kd.R_mono (Kd.R_keep (IsS122.apart (show IsS122 w0 _ g s0_0 x1001_1 x1002_1 from qz3) (rr_ HO_3.out) (by decide)) hk (fun _ h => h.2)) (fun _ h => h.1)); replace HK := aM (KeepBut.trans qz2 hk (.inl rfl)); replace HB := aM (hb); replace HI0 := aM (hi); (try clear hb hk hi)) | ((with_reducible refine gate_dst (N := 15) rfl ?_); refine Kd.R_lit (Kd.int .i64) _ 3 ?hg (N := 15) ?hd (xs := ([1, 1, 1, 2, 3, 9] : List Int)) (inner := [.int .i64 1, .int .i64 1, .int .i64 1, .int .i64 2, .int .i64 3, .int .i64 9]) (ok := fun _ => True) (okp := fun _ => True) ?hr ?hp (fun _ hk => hk) trivial (Below.refl _ _) (Nat.le_refl _) (by simp) ?_; (case hd => rfl); (case hg => rfl); (case hr => exact qz23); (case hp => exact (Reps.one (show Kd.M (Kd.int .i64) _ _ _ 1 [.int .i64 1] from rfl) (Reps.one (show Kd.M (Kd.int .i64) _ _ _ 1 [.int .i64 1] from rfl) (Reps.one (show Kd.M (Kd.int .i64) _ _ _ 1 [.int .i64 1] from rfl) (Reps.one (show Kd.M (Kd.int .i64) _ _ _ 2 [.int .i64 2] from rfl) (Reps.one (show Kd.M (Kd.int .i64) _ _ _ 3 [.int .i64 3] from rfl) (Reps.one (show Kd.M (Kd.int .i64) _ _ _ 9 [.int .i64 9] from rfl) (Reps.none _ _)))))))); intro v375 w10 ho11 hb hg_ hnew_; clear hg_ hnew_; (first | rw [← Ny374.out] at ho11 | (simp only [Int.reduceToNat] at ho11; rw [← Ny374.out] at ho11)); replace HO_3 := aM (Kd.R_below (rr_ HO_3.out) hb); have HO376 := aM (Kd.R_lower ho11 (keep_size (w := w) (g := g) (row := none) qz2)); replace HK := aM (KeepBut.trans qz2 (KeepBut.of_below hb g none) (.inl rfl)); replace HB := bS_ hb; replace HI0 := aM (IsS122.below qz3 hb); clear hb ho11; obtain ⟨Ao12, co12, eo12⟩ := Kd.R_slice HO376.out; subst eo12) | ((with_reducible refine gate_callee (f := 92) rfl ?_); refine goesL_ (some 16) rfl rfl Try.func92 (by kernel_rfl) rfl #[.pointer (some ⟨g, 0, none⟩), .slice Ao12 y374.length co12] rfl qz4 ?_; (with_reducible refine (spec_l1Int.calls g s0_0 t372 t373 _ _ y374 t377 t378 t379 w0 _ ?side1 ?side2 ?side3 ?side4 ?side5 A7.out).mono ?_); (case side1 => exact qz3); (case side2 => exact qz1); (case side3 => repeat (first | exact (Kd.R_reads' HO376.out).2.2 | (with_reducible refine Kd.C_alloc ?_ _) | (with_reducible refine Kd.C_drewN ?_ _) | (with_reducible refine Kd.C_drew ?_))); (case side4 => exact (Kd.R_reads' HO376.out).2.1); (case side5 => exact far_slice (IsS122.own_ne HI0.out HO376.out (by decide))); rintro e w13 ⟨rfl, hi, hb, hk⟩; refine ⟨_, rfl, ?_⟩; replace HO_3 := aM (Kd.R_mono (Kd.R_keep (IsS122.apart (show IsS122 w0 _ g s0_0 t372 t373 from qz3) (rr_ HO_3.out) (by decide)) hk (fun _ h => h.2)) (fun _ h => h.1)); replace HO376 := aM (Kd.R_mono (Kd.R_keep (IsS122.apart (show IsS122 w0 _ g s0_0 t372 t373 from qz3) (rr_ HO376.out) (by decide)) hk (fun _ h => h.2)) (fun _ h => h.1)); replace HK := aM (KeepBut.trans qz2 hk (.inl rfl)); replace HB := aM (hb); replace HI0 := aM (hi); (try clear hb hk hi)) | ((with_reducible refine gate_builtin (b := .append) (xs := #[.tmp 12, .tmp 18]) rfl ?_); at_builtin; refine Kd.R_append k48 w.heap.size rfl (.tmp 12) (.tmp 18) 40 48 (.agg #[(.int .i64 0), (.int .i64 0)]) 16 rfl Try.underlying40 info48 rfl (by decide) (by omega) u3 x3_1 (⟨x4_1, t377⟩ : S48) [.int .i64 x4_1, .int .i64 t377] (fun _ => True) (fun _ => False) rfl rfl ?aP (fun _ hk => hk.elim) ?aF ?aO (Below.refl _ _) ?aS ?aL ?_; (case aP => exact k48_mkM _ _ _ (⟨x4_1, t377⟩ : S48)); (case aF => exact (fun _ _ => trivial)); (case aO => exact (rr_ HO_3.out)); (case aS => exact (keep_size (w := w) (g := g) (row := none) qz2)); (case aL => have := LMc8.out; omega); intro v381 w14 ho hb hg hat; rw [← Ny380.out] at ho; replace HO376 := aM (Kd.R_over' (rr_ HO376.out) (Kd.R_typed (rr_ HO_3.out)) (by decide) hg); replace HB := aM (below_weaken qz1 HL.out hb); replace HI0 := aM (IsS122.grown qz3 hg (IsS122.own_ne HI0.out HO_3.out (by decide))); replace HK := aM (KeepBut.trans qz2 (KeepBut.of_grown hg g) (Kd.R_base2 HO_3.out)); have HO382 := aM (ho); clear HO_3; clear ho hb hg hat))
   go_roundg k1
   case measure => have := HK1.out; omega
   case rel => exact ⟨(y380), (wrap64 (x4_1 + 1)), (t378), (t379), qz5, H', ⟨by have := HK1.out; omega⟩, ⟨rm_ HO382.out⟩, ⟨qz3⟩, ⟨qz2⟩, ⟨qz1⟩⟩
   }
   {
   exact an_ c8 H
   }
   }
   {
   replace c6 := Bool.eq_false_iff.mpr c6
   subst c6
   rw [if_neg (show ¬ (false = true) by decide)] at H
   have H' := aM H
   clear H
   go_wp2_with (first | ((with_reducible refine gate_callee (f := 102) rfl ?_); refine goesL_ (some 11) rfl rfl Try.func102 (by kernel_rfl) rfl #[.pointer (some ⟨g, 0, none⟩), .int .i64 4] rfl qz4 ?_; (with_reducible refine (spec_l1Once.calls g s0_0 x1001_1 x1002_1 4 false t372 t373 w0 _ ?side1 ?side2 A5.out).mono ?_); (case side1 => exact qz3); (case side2 => exact qz1); rintro e w15 ⟨rfl, hi, hb, hk⟩; refine ⟨_, rfl, ?_⟩; replace HO_3 := aM (Kd.R_mono (Kd.R_keep (IsS122.apart (show IsS122 w0 _ g s0_0 x1001_1 x1002_1 from qz3) (rr_ HO_3.out) (by decide)) hk (fun _ h => h.2)) (fun _ h => h.1)); replace HK := aM (KeepBut.trans qz2 hk (.inl rfl)); replace HB := aM (hb); replace HI0 := aM (hi); (try clear hb hk hi)))
   go_roundg k1
   case measure => have := HK1.out; omega
   case rel => exact ⟨(x3_1), (wrap64 (x4_1 + 1)), (t372), (t373), qz5, H', ⟨by have := HK1.out; omega⟩, ⟨rm_ HO_3.out⟩, ⟨qz3⟩, ⟨qz2⟩, ⟨qz1⟩⟩
   }
   }
   {
   rw [if_neg c4] at H
   have c4b0 := decide_eq_false c4
   clear c4
   simp only [Option.some.injEq, Prod.mk.injEq] at H
   obtain ⟨rfl, rfl, rfl⟩ := H
   go_wp2
   go_ret
   exact ⟨_, qzw, by (with_reducible repeat (first | apply Kd.R_alloc | apply Kd.R_drewN | apply Kd.R_drew)); exact HO_3.out, qz3, qz1, qz2⟩

   }
/-! ### spec_l6Draw: function 85 -/
def spec_l6Draw.f (k : Nat) (s0_0 : List Int) (s0_1 : Int) (s0_2 : Int) : Option ((List (S79)) × (List (S50)) × Int × Int) := (spec_l5DrawAny.f k s0_0 s0_1 s0_2).bind fun bt384 => ((spec_l6Items.f k s0_0 bt384.2.1 bt384.2.2).bind fun bt390 => ((spec_Picks.f k bt384.1 bt390.1).bind fun bt395 => ((spec_l1Once.f s0_0 bt390.2.1 bt390.2.2 4).bind fun bt399 => (if bt399.1 = true then ((spec_l1Int.f s0_0 bt399.2.1 bt399.2.2 (([10, 20, 7] : List Int))).bind fun bt405 => ((spec_l1Below.f s0_0 bt405.2.1 bt405.2.2 5).bind fun bt408 => ((spec_l1Below.f s0_0 bt408.2.1 bt408.2.2 4).bind fun bt411 => (if bt395.1.length < 5864062014805 then (some (bt384.1, (bt395.1 ++ [(⟨bt405.1, wrap64 (1 + bt408.1), bt411.1⟩ : S50)]), bt411.2.1, bt411.2.2)) else (none))))) else (some (bt384.1, bt395.1, bt399.2.1, bt399.2.2))))))
theorem spec_l6Draw.mono : ∀ a0 a1 a2 k, LeO (spec_l6Draw.f k a0 a1 a2) (spec_l6Draw.f (k + 1) a0 a1 a2) := by
 intro a0 a1 a2 k
 unfold spec_l6Draw.f
 have j0 := @spec_Picks.mono
 have j1 := @spec_l5DrawAny.mono
 have j2 := @spec_l6Items.mono
 exact qL
def spec_l6Draw.T2 : Bool × List (List Nat × List Nat) := (true, [([], []), ([], []), ([1], [1]), ([0, 2, 2], [0, 2]), ([3], [3]), ([4], [4]), ([4], [4]), ([5, 3, 0, 1, 2, 3, 4, 5], [5]), ([6, 7, 0, 1, 2, 3, 4, 5, 6, 7], [6])])
def spec_l6Draw.B2 : List Nat := [0, 0, 2, 7, 15, 31, 31, 63, 255]
theorem spec_l6Draw.tab2 : rtab .any (opsOf Try.f85 2) = spec_l6Draw.T2 := by kernel_rfl
theorem spec_l6Draw.bits2 : waitsOk spec_l6Draw.T2.2 spec_l6Draw.B2 = true := by kernel_rfl
set_option maxHeartbeats 8000000 in
set_option maxRecDepth 100000 in
theorem spec_l6Draw.calls (k : Nat) (g : Nat) (s0_0 : List Int) (s0_1 : Int) (s0_2 : Int) (r1 : List (S79)) (r2 : List (S50)) (r3 : Int) (r4 : Int) (w0 w : World) (hI : IsS122 w0 w g s0_0 s0_1 s0_2) (hB : Below w0.heap.size w0 w) (h : spec_l6Draw.f k s0_0 s0_1 s0_2 = some (r1, r2, r3, r4)) :
  Calls Try.prog 85 #[.pointer (some ⟨g, 0, none⟩)] w fun e w' => ∃ v0_ v1_ : Value, e = .returned (.tuple #[.agg #[v0_], v1_]) ∧ Kd.N k79 79 w' w.heap.size (fun k_ => (w.heap.size ≤ k_) ∧ some k_ ≠ (v1_ : Value).ownBlock) v0_ r1 ∧ Kd.R k50 50 w' w.heap.size (fun k_ => (w.heap.size ≤ k_)) v1_ r2 ∧ IsS122 w0 w' g s0_0 r3 r4 ∧ Below w0.heap.size w0 w' ∧ KeepBut w w' g none := by
 have hu26 := Try.underlying26
 have hu50 := Try.underlying50
 have HI0 := aM hI
 have HK := aM (KeepBut.refl w g none)
 have HL := aM hB.size
 clear hI
 have HW0 := aM hB.size
 have HB := aM hB
 clear hB
 have H : ((spec_l5DrawAny.f k s0_0 s0_1 s0_2).bind fun bt384 => ((spec_l6Items.f k s0_0 bt384.2.1 bt384.2.2).bind fun bt390 => ((spec_Picks.f k bt384.1 bt390.1).bind fun bt395 => ((spec_l1Once.f s0_0 bt390.2.1 bt390.2.2 4).bind fun bt399 => (if bt399.1 = true then ((spec_l1Int.f s0_0 bt399.2.1 bt399.2.2 (([10, 20, 7] : List Int))).bind fun bt405 => ((spec_l1Below.f s0_0 bt405.2.1 bt405.2.2 5).bind fun bt408 => ((spec_l1Below.f s0_0 bt408.2.1 bt408.2.2 4).bind fun bt411 => (if bt395.1.length < 5864062014805 then (some (bt384.1, (bt395.1 ++ [(⟨bt405.1, wrap64 (1 + bt408.1), bt411.1⟩ : S50)]), bt411.2.1, bt411.2.2)) else (none))))) else (some (bt384.1, bt395.1, bt399.2.1, bt399.2.2))))))) = some (r1, r2, r3, r4) := h
 clear h
 replace H := Option.bind_eq_some_iff.mp H
 obtain ⟨⟨t384, t387, t388⟩, A20, H⟩ := H
 replace H : ((spec_l6Items.f k s0_0 t387 t388).bind fun bt390 => ((spec_Picks.f k t384 bt390.1).bind fun bt395 => ((spec_l1Once.f s0_0 bt390.2.1 bt390.2.2 4).bind fun bt399 => (if bt399.1 = true then ((spec_l1Int.f s0_0 bt399.2.1 bt399.2.2 (([10, 20, 7] : List Int))).bind fun bt405 => ((spec_l1Below.f s0_0 bt405.2.1 bt405.2.2 5).bind fun bt408 => ((spec_l1Below.f s0_0 bt408.2.1 bt408.2.2 4).bind fun bt411 => (if bt395.1.length < 5864062014805 then (some (t384, (bt395.1 ++ [(⟨bt405.1, wrap64 (1 + bt408.1), bt411.1⟩ : S50)]), bt411.2.1, bt411.2.2)) else (none))))) else (some (t384, bt395.1, bt399.2.1, bt399.2.2)))))) = some (r1, r2, r3, r4) := H
 have A2 := aM A20
 clear A20
 replace H := Option.bind_eq_some_iff.mp H
 obtain ⟨⟨t390, t393, t394⟩, A30, H⟩ := H
 replace H : ((spec_Picks.f k t384 t390).bind fun bt395 => ((spec_l1Once.f s0_0 t393 t394 4).bind fun bt399 => (if bt399.1 = true then ((spec_l1Int.f s0_0 bt399.2.1 bt399.2.2 (([10, 20, 7] : List Int))).bind fun bt405 => ((spec_l1Below.f s0_0 bt405.2.1 bt405.2.2 5).bind fun bt408 => ((spec_l1Below.f s0_0 bt408.2.1 bt408.2.2 4).bind fun bt411 => (if bt395.1.length < 5864062014805 then (some (t384, (bt395.1 ++ [(⟨bt405.1, wrap64 (1 + bt408.1), bt411.1⟩ : S50)]), bt411.2.1, bt411.2.2)) else (none))))) else (some (t384, bt395.1, bt399.2.1, bt399.2.2))))) = some (r1, r2, r3, r4) := H
 have A3 := aM A30
 clear A30
 replace H := Option.bind_eq_some_iff.mp H
 obtain ⟨⟨t395, t398⟩, A40, H⟩ := H
 replace H : ((spec_l1Once.f s0_0 t393 t394 4).bind fun bt399 => (if bt399.1 = true then ((spec_l1Int.f s0_0 bt399.2.1 bt399.2.2 (([10, 20, 7] : List Int))).bind fun bt405 => ((spec_l1Below.f s0_0 bt405.2.1 bt405.2.2 5).bind fun bt408 => ((spec_l1Below.f s0_0 bt408.2.1 bt408.2.2 4).bind fun bt411 => (if t395.length < 5864062014805 then (some (t384, (t395 ++ [(⟨bt405.1, wrap64 (1 + bt408.1), bt411.1⟩ : S50)]), bt411.2.1, bt411.2.2)) else (none))))) else (some (t384, t395, bt399.2.1, bt399.2.2)))) = some (r1, r2, r3, r4) := H
 have A4 := aM A40
 clear A40
 replace H := Option.bind_eq_some_iff.mp H
 obtain ⟨⟨t399, t400, t401⟩, A50, H⟩ := H
 replace H : (if t399 = true then ((spec_l1Int.f s0_0 t400 t401 (([10, 20, 7] : List Int))).bind fun bt405 => ((spec_l1Below.f s0_0 bt405.2.1 bt405.2.2 5).bind fun bt408 => ((spec_l1Below.f s0_0 bt408.2.1 bt408.2.2 4).bind fun bt411 => (if t395.length < 5864062014805 then (some (t384, (t395 ++ [(⟨bt405.1, wrap64 (1 + bt408.1), bt411.1⟩ : S50)]), bt411.2.1, bt411.2.2)) else (none))))) else (some (t384, t395, t400, t401))) = some (r1, r2, r3, r4) := H
 have A5 := aM A50
 clear A50
 by_cases c6 : t399 = true
 {
 subst c6
 rw [if_pos rfl] at H
 obtain ⟨y402, hy402⟩ : ∃ y_ : List Int, y_ = (([10, 20, 7] : List Int)) := ⟨_, rfl⟩
 replace H : ((spec_l1Int.f s0_0 t400 t401 y402).bind fun bt405 => ((spec_l1Below.f s0_0 bt405.2.1 bt405.2.2 5).bind fun bt408 => ((spec_l1Below.f s0_0 bt408.2.1 bt408.2.2 4).bind fun bt411 => (if t395.length < 5864062014805 then (some (t384, (t395 ++ [(⟨bt405.1, wrap64 (1 + bt408.1), bt411.1⟩ : S50)]), bt411.2.1, bt411.2.2)) else (none))))) = some (r1, r2, r3, r4) := by first | (rw [hy402]; with_reducible exact H) | (have H2_ := (Option.bind_some _ _).symm.trans H; rw [hy402]; with_reducible exact H2_) | (have H2_ := (Option.bind_some _ _).symm.trans H; with_reducible exact H2_) | with_reducible exact H | (rw [hy402]; exact H) | exact H
 have Ny402 := aM hy402
 clear hy402
 replace H := Option.bind_eq_some_iff.mp H
 obtain ⟨⟨t405, t406, t407⟩, A70, H⟩ := H
 replace H : ((spec_l1Below.f s0_0 t406 t407 5).bind fun bt408 => ((spec_l1Below.f s0_0 bt408.2.1 bt408.2.2 4).bind fun bt411 => (if t395.length < 5864062014805 then (some (t384, (t395 ++ [(⟨t405, wrap64 (1 + bt408.1), bt411.1⟩ : S50)]), bt411.2.1, bt411.2.2)) else (none)))) = some (r1, r2, r3, r4) := H
 have A7 := aM A70
 clear A70
 replace H := Option.bind_eq_some_iff.mp H
 obtain ⟨⟨t408, t409, t410⟩, A80, H⟩ := H
 replace H : ((spec_l1Below.f s0_0 t409 t410 4).bind fun bt411 => (if t395.length < 5864062014805 then (some (t384, (t395 ++ [(⟨t405, wrap64 (1 + t408), bt411.1⟩ : S50)]), bt411.2.1, bt411.2.2)) else (none))) = some (r1, r2, r3, r4) := H
 have A8 := aM A80
 clear A80
 replace H := Option.bind_eq_some_iff.mp H
 obtain ⟨⟨t411, t412, t413⟩, A90, H⟩ := H
 replace H : (if t395.length < 5864062014805 then (some (t384, (t395 ++ [(⟨t405, wrap64 (1 + t408), t411⟩ : S50)]), t412, t413)) else (none)) = some (r1, r2, r3, r4) := H
 have A9 := aM A90
 clear A90
 by_cases c10 : t395.length < 5864062014805
 {
 rw [if_pos c10] at H
 have LMc10 := aM c10
 clear c10
 obtain ⟨y414, hy414⟩ : ∃ y_ : List (S50), y_ = (t395 ++ [(⟨t405, wrap64 (1 + t408), t411⟩ : S50)]) := ⟨_, rfl⟩
 replace H : (some (t384, y414, t412, t413)) = some (r1, r2, r3, r4) := by first | (rw [hy414]; with_reducible exact H) | (have H2_ := (Option.bind_some _ _).symm.trans H; rw [hy414]; with_reducible exact H2_) | (have H2_ := (Option.bind_some _ _).symm.trans H; with_reducible exact H2_) | with_reducible exact H | (rw [hy414]; exact H) | exact H
 have Ny414 := aM hy414
 clear hy414
 simp only [Option.some.injEq, Prod.mk.injEq] at H
 obtain ⟨rfl, rfl, rfl, rfl⟩ := H
 go_enter Try.func85, Try.ntmps85
 try go_wp2_with (first | ((with_reducible refine gate_dst (N := 2) rfl ?_); refine bx_ 2 #[.slice none 0 0] 26 ?_; intro gb383 hg w11 hbox hb; replace HB := bS_ hb; have BK383 := aM (hbox); have GW383 := aM (kz_ w g hg qz2); have GE383 := aM ((Nat.le_trans HW0.out (by rw [hg]; exact (keep_size (w := w) (g := g) (row := none) qz2) : w.heap.size ≤ gb383) : w0.heap.size ≤ gb383)); replace HK := aM (KeepBut.trans qz2 (KeepBut.of_below hb g none) (.inl rfl)); have NB0_383 := aM ((by rw [hg]; exact Nat.ne_of_lt (IsS122.lt (show IsS122 w0 _ g s0_0 s0_1 s0_2 from qz3)) : g ≠ gb383)); have NB383_0 := aM ((by rw [hg]; exact Nat.ne_of_gt (IsS122.lt (show IsS122 w0 _ g s0_0 s0_1 s0_2 from qz3)) : gb383 ≠ g)); replace HI0 := aM (IsS122.below qz3 hb); clear hb hbox hg) | ((with_reducible refine gate_callee (f := 76) rfl ?_); refine goesL_ (some 8) rfl rfl Try.func76 (by kernel_rfl) rfl #[.pointer (some ⟨g, 0, none⟩)] rfl qz4 ?_; (with_reducible refine (spec_l5DrawAny.calls k g s0_0 s0_1 s0_2 t384 t387 t388 w0 _ ?side1 ?side2 A2.out).mono ?_); (case side1 => exact qz3); (case side2 => exact qz1); rintro e w12 ⟨v385, rfl, ho0, hi, hb, hk⟩; refine ⟨_, rfl, ?_⟩; have HO386 := aM (Kd.N_lower (Kd.N_mono (ok' := fun k_ => (w.heap.size ≤ k_) ∧ k_ ≠ gb383 ∧ k_ ≠ g) ho0 (fun k_ hk_ => ⟨(Nat.le_trans (keep_size (w := w) (g := g) (row := none) qz2) hk_), (Kd.freshB (bk_ BK383.out) k_ hk_), (IsS122.fresh qz3 k_ hk_)⟩)) (keep_size (w := w) (g := g) (row := none) qz2)); replace BK383 := aM (KeepBut.blk hk (bk_ BK383.out) NB383_0.out (by simp)); replace HK := aM (KeepBut.trans qz2 hk (.inl rfl)); replace HB := aM (hb); replace HI0 := aM (hi); (try clear hb hk hi ho0)) | ((with_reducible refine gate_dst (N := 4) rfl ?_); refine bx_ 4 #[.slice none 0 0] 26 ?_; intro gb389 hg w13 hbox hb; replace HO386 := aM (Kd.N_below (Kd.N_elderB qz11 gb389 (Nat.le_of_eq hg.symm)) hb); replace HB := bS_ hb; have BK389 := aM (hbox); have GW389 := aM (kz_ w g hg qz2); have GE389 := aM ((Nat.le_trans HW0.out (by rw [hg]; exact (keep_size (w := w) (g := g) (row := none) qz2) : w.heap.size ≤ gb389) : w0.heap.size ≤ gb389)); replace HK := aM (KeepBut.trans qz2 (KeepBut.of_below hb g none) (.inl rfl)); obtain ⟨NB383_389, NB389_383⟩ := nb_ hg (bk_ BK383.out); replace BK383 := bB_ BK383 hb; have NB0_389 := aM ((by rw [hg]; exact Nat.ne_of_lt (IsS122.lt (show IsS122 w0 _ g s0_0 t387 t388 from qz3)) : g ≠ gb389)); have NB389_0 := aM ((by rw [hg]; exact Nat.ne_of_gt (IsS122.lt (show IsS122 w0 _ g s0_0 t387 t388 from qz3)) : gb389 ≠ g)); replace HI0 := aM (IsS122.below qz3 hb); clear hb hbox hg; obtain ⟨Ao14, co14, eo14⟩ := Kd.N_slice HO386.out; subst eo14; have hnb15 := NB389_383.out; have hnc15 := NB383_389.out; have hnb16 := NB389_0.out; have hnc16 := NB0_389.out; obtain ⟨hcz17_0, hfz17_0⟩ := bf_ BK389.out))
 generalize hq_ : (w13.setCell ⟨gb389, 0, none⟩ (.slice Ao14 t384.length co14)) = w18
 replace HO386 : Aside0 (Kd.N k79 79 w18 w.heap.size (fun k_ => (w.heap.size ≤ k_) ∧ k_ ≠ gb383 ∧ k_ ≠ g ∧ k_ ≠ gb389) (.slice Ao14 t384.length co14) t384) := ⟨by rw [← hq_]; exact (by (with_reducible repeat (first | apply Kd.N_alloc | apply Kd.N_drewN | apply Kd.N_drew)); exact Kd.N_mono (Kd.N_far (p := ⟨gb389, 0, none⟩) (Kd.N_mono HO386.out (fun k_ hk => (⟨hk, hk.2⟩ : _ ∧ k_ ≠ gb389))) (fun _ hk => hk.2) (.slice Ao14 t384.length co14)) (fun _ hk => ⟨hk.1.1.1, ⟨hk.1.1.2.1, ⟨hk.1.1.2.2, hk.1.2⟩⟩⟩))⟩
 replace BK383 : Aside0 (w18.heap[gb383]? = some (.cells #[.slice none 0 0] 26 (0, 0))) := ⟨by rw [← hq_]; exact (bk2_ BK383.out)⟩
 replace BK389 : Aside0 (w18.heap[gb389]? = some (.cells #[.slice Ao14 t384.length co14] 26 (0, 0))) := ⟨by rw [← hq_]; exact (by (with_reducible repeat (first | refine blk_drewN ?_ _ | refine blk_drew ?_ | refine blk_alloc ?_ _)); refine blk_put (cs := #[.slice none 0 0]) ?_ 0 _ rfl; exact bk_ BK389.out)⟩
 replace HK : Aside0 (KeepBut w w18 g none) := ⟨by rw [← hq_]; exact qz2⟩
 replace HB : Aside0 (Below w0.heap.size w0 w18) := ⟨by rw [← hq_]; exact qz1⟩
 replace HI0 : Aside0 (IsS122 w0 w18 g s0_0 t387 t388) := ⟨by rw [← hq_]; exact qz3⟩
 clear hq_
 replace HO386 := aM (Kd.N_drew HO386.out)
 replace BK383 := aM (blk_drew BK383.out)
 replace BK389 := aM (blk_drew BK389.out)
 replace HI0 := aM (IsS122.drew HI0.out)
 replace HK := aM (keep_drew HK.out)
 replace HB := aM (below_drew1 HB.out)
 refine start_ (n := 9) (S := fun w' => w'.cell? ⟨gb389, 0, none⟩ = some (.slice Ao14 t384.length co14)) (ds := []) #[false, false, false, false, false, false, false, false, false] (by kernel_rfl) rfl rfl ((blk_cell BK389.out 0).trans rfl) (fun hHeld => ?_); refine with_tabW spec_l6Draw.tab2 spec_l6Draw.bits2 (fun HT_ HW_ => ?_)
 generalize w18.drew = w19 at HO386 BK383 BK389 HI0 HK HB hHeld ⊢
 refine pI_ 1 11 (bqz 9 2) ?_
 refine take_ (i := 0) (N := some 10) (v := ?_) (a' := ?_) (bqz 9 3) rfl rfl qzb qzd (Or.inl ⟨by rfl, ?_⟩) hHeld ?_ ?_
 rotate_left
 {
 intro w' s0
 go_simp
 with_reducible rfl
 }
 rotate_left
 {
 simp only [qzs]
 rfl
 }
 refine one_ (i := 2) (N := some 12) (bqz 9 7) rfl rfl qzc (by decide) (fun K hK => ?_)
 refine goes_ Try.func104 (by kernel_rfl) rfl #[.pointer (some ⟨g, 0, none⟩)] (by rfl) rfl rfl qz4 ?_
 with_reducible refine (spec_l6Items.calls k g s0_0 t387 t388 t390 t393 t394 w0 _ ?side1 ?side2 A3.out).mono ?_
 (case side1 => exact qz3)
 (case side2 => exact qz1)
 rintro e w20 ⟨v391, rfl, ho0, hi, hb, hk⟩
 refine ⟨_, rfl, ?_⟩
 replace BK383 := aM (KeepBut.blk hk (bk_ BK383.out) NB383_0.out (by simp))
 replace HO386 := aM (Kd.N_mono (Kd.N_told (Kd.N_oldK (Kd.N_mono (ok := fun k_ => (((w.heap.size ≤ k_)) ∧ (k_ ≠ gb383 ∧ (k_ ≠ g ∧ k_ ≠ gb389)))) qz11 (fun k_ hk_ => (⟨hk_, hk_.2.2.1⟩ : _ ∧ k_ ≠ g))) hk) (Kd.R_base ho0)) (fun _ h_ => h_.1))
 replace BK389 := aM (KeepBut.blk hk (bk_ BK389.out) NB389_0.out (by simp))
 have HO392 := aM (Kd.R_lower (Kd.R_newM (M := fun k_ => (w.heap.size ≤ k_)) ho0 (keep_size (w := w) (g := g) (row := none) qz2) (fun k_ h_ => h_)) (keep_size (w := w) (g := g) (row := none) qz2))
 replace HK := aM (KeepBut.trans qz2 hk (.inl rfl))
 replace HB := aM (hb)
 replace HI0 := aM (hi)
 (try clear hb)
 (try clear hb2)
 (try clear hk)
 (try clear hi)
 (try clear ho0)
 obtain ⟨Ao21, co21, eo21⟩ := Kd.R_slice HO392.out
 (first | subst eo21 | (injection eo21 with f1_ f2_ f3_; have f4_ := f1_.symm; have f5_ := f3_.symm; clear f1_ f2_ f3_; subst f4_; subst f5_))
 refine hK.out _ _ ((blk_cell BK389.out 0).trans rfl) (fun hHeld => ?_)
 clear hK K
 refine nm_ 12 ?_
 refine one_ (i := 3) (N := some 13) (bqz 9 15) rfl rfl qzc (by decide) (fun K hK => ?_)
 refine goes_ Try.func54 (by kernel_rfl) rfl #[.agg #[.slice Ao14 t384.length co14], .slice Ao21 t390.length co21] (by rfl) rfl rfl qz4 ?_
 with_reducible refine (spec_Picks.calls k _ _ t384 _ _ t390 t395 t398 _ ?side1 ?side2 ?side3 ?side4 A4.out).mono ?_
 (case side1 => repeat (first | exact (Kd.N_reads' HO386.out).2.2 | (with_reducible refine Kd.C_alloc ?_ _) | (with_reducible refine Kd.C_drewN ?_ _) | (with_reducible refine Kd.C_drew ?_)))
 (case side2 => exact (Kd.N_reads' HO386.out).2.1)
 (case side3 => repeat (first | exact (Kd.R_reads' HO392.out).2.2 | (with_reducible refine Kd.C_alloc ?_ _) | (with_reducible refine Kd.C_drewN ?_ _) | (with_reducible refine Kd.C_drew ?_)))
 (case side4 => exact (Kd.R_reads' HO392.out).2.1)
 rintro e w22 ⟨v396, rfl, ho0, hb⟩
 refine ⟨_, rfl, ?_⟩
 replace HO386 := aM (Kd.N_elder' qz11 (Kd.R_base ho0) hb)
 replace HO392 := aM (Kd.R_below (rr_ HO392.out) hb)
 have HO397 := aM (Kd.R_lower (Kd.R_newM (M := fun k_ => (w.heap.size ≤ k_)) ho0 (keep_size (w := w) (g := g) (row := none) qz2) (fun k_ h_ => h_)) (keep_size (w := w) (g := g) (row := none) qz2))
 replace BK383 := bB_ BK383 hb
 replace BK389 := bB_ BK389 hb
 replace HK := aM (KeepBut.trans qz2 (KeepBut.of_below hb g none) (.inl rfl))
 replace HB := bS_ hb
 replace HI0 := aM (IsS122.below qz3 hb)
 (try clear hb)
 (try clear hb2)
 (try clear hk)
 (try clear hi)
 (try clear ho0)
 refine hK.out _ _ ((blk_cell BK389.out 0).trans rfl) (fun hHeld => ?_)
 clear hK K
 refine nm_ 13 ?_
 refine pI_ 4 9 (bqz 9 31) ?_
 refine jI_ 5 14 ?_
 refine jI_ 6 15 ?_
 refine jI_ 7 5 ?_
 refine jI_ 8 6 ?_
 refine done_ (done_of HT_.out (by kernel_rfl)) ?_
 try go_wp2_with (first | ((with_reducible refine gate_callee (f := 102) rfl ?_); refine goesL_ (some 17) rfl rfl Try.func102 (by kernel_rfl) rfl #[.pointer (some ⟨g, 0, none⟩), .int .i64 4] rfl qz4 ?_; (with_reducible refine (spec_l1Once.calls g s0_0 t393 t394 4 true t400 t401 w0 _ ?side1 ?side2 A5.out).mono ?_); (case side1 => exact qz3); (case side2 => exact qz1); rintro e w23 ⟨rfl, hi, hb, hk⟩; refine ⟨_, rfl, ?_⟩; replace BK383 := aM (KeepBut.blk hk (bk_ BK383.out) NB383_0.out (by simp)); replace HO386 := aM (Kd.N_mono (Kd.N_keep (Kd.N_mono (ok := fun k_ => (((((w.heap.size ≤ k_)) ∧ (k_ ≠ gb383 ∧ (k_ ≠ g ∧ k_ ≠ gb389))) ∧ some k_ ≠ (.slice Ao21 t390.length co21 : Value).ownBlock) ∧ some k_ ≠ (v396 : Value).ownBlock)) qz11 (fun k_ hk_ => (⟨hk_, hk_.1.1.2.2.1⟩ : _ ∧ k_ ≠ g))) hk (fun _ h => h.2)) (fun _ h => h.1)); replace BK389 := aM (KeepBut.blk hk (bk_ BK389.out) NB389_0.out (by simp)); replace HO392 := aM (Kd.R_mono (Kd.R_keep (IsS122.apart (show IsS122 w0 _ g s0_0 t393 t394 from qz3) (rr_ HO392.out) (by decide)) hk (fun _ h => h.2)) (fun _ h => h.1)); replace HO397 := aM (Kd.R_mono (Kd.R_keep (IsS122.apart (show IsS122 w0 _ g s0_0 t393 t394 from qz3) (rr_ HO397.out) (by decide)) hk (fun _ h => h.2)) (fun _ h => h.1)); replace HK := aM (KeepBut.trans qz2 hk (.inl rfl)); replace HB := aM (hb); replace HI0 := aM (hi); (try clear hb hk hi)) | ((with_reducible refine gate_dst (N := 20) rfl ?_); refine Kd.R_lit (Kd.int .i64) _ 3 ?hg (N := 20) ?hd (xs := ([10, 20, 7] : List Int)) (inner := [.int .i64 10, .int .i64 20, .int .i64 7]) (ok := fun _ => True) (okp := fun _ => True) ?hr ?hp (fun _ hk => hk) trivial (Below.refl _ _) (Nat.le_refl _) (by simp) ?_; (case hd => rfl); (case hg => rfl); (case hr => exact qz23); (case hp => exact (Reps.one (show Kd.M (Kd.int .i64) _ _ _ 10 [.int .i64 10] from rfl) (Reps.one (show Kd.M (Kd.int .i64) _ _ _ 20 [.int .i64 20] from rfl) (Reps.one (show Kd.M (Kd.int .i64) _ _ _ 7 [.int .i64 7] from rfl) (Reps.none _ _))))); intro v403 w24 ho25 hb hg_ hnew_; clear hg_ hnew_; (first | rw [← Ny402.out] at ho25 | (simp only [Int.reduceToNat] at ho25; rw [← Ny402.out] at ho25)); replace HO386 := aM (Kd.N_elder' qz11 (Kd.R_base ho25) hb); replace HO392 := aM (Kd.R_below (rr_ HO392.out) hb); replace HO397 := aM (Kd.R_below (rr_ HO397.out) hb); have HO404 := aM (Kd.R_lower (Kd.R_newM (M := fun k_ => (w.heap.size ≤ k_)) ho25 (keep_size (w := w) (g := g) (row := none) qz2) (fun k_ h_ => h_)) (keep_size (w := w) (g := g) (row := none) qz2)); replace BK383 := bB_ BK383 hb; replace BK389 := bB_ BK389 hb; replace HK := aM (KeepBut.trans qz2 (KeepBut.of_below hb g none) (.inl rfl)); replace HB := bS_ hb; replace HI0 := aM (IsS122.below qz3 hb); clear hb ho25; obtain ⟨Ao26, co26, eo26⟩ := Kd.R_slice HO404.out; subst eo26) | ((with_reducible refine gate_callee (f := 92) rfl ?_); refine goesL_ (some 21) rfl rfl Try.func92 (by kernel_rfl) rfl #[.pointer (some ⟨g, 0, none⟩), .slice Ao26 y402.length co26] rfl qz4 ?_; (with_reducible refine (spec_l1Int.calls g s0_0 t400 t401 _ _ y402 t405 t406 t407 w0 _ ?side1 ?side2 ?side3 ?side4 ?side5 A7.out).mono ?_); (case side1 => exact qz3); (case side2 => exact qz1); (case side3 => repeat (first | exact (Kd.R_reads' HO404.out).2.2 | (with_reducible refine Kd.C_alloc ?_ _) | (with_reducible refine Kd.C_drewN ?_ _) | (with_reducible refine Kd.C_drew ?_))); (case side4 => exact (Kd.R_reads' HO404.out).2.1); (case side5 => exact far_slice (IsS122.own_ne HI0.out HO404.out (by decide))); rintro e w27 ⟨rfl, hi, hb, hk⟩; refine ⟨_, rfl, ?_⟩; replace BK383 := aM (KeepBut.blk hk (bk_ BK383.out) NB383_0.out (by simp)); replace HO386 := aM (Kd.N_mono (Kd.N_keep (Kd.N_mono (ok := fun k_ => ((((((w.heap.size ≤ k_)) ∧ (k_ ≠ gb383 ∧ (k_ ≠ g ∧ k_ ≠ gb389))) ∧ some k_ ≠ (.slice Ao21 t390.length co21 : Value).ownBlock) ∧ some k_ ≠ (v396 : Value).ownBlock) ∧ some k_ ≠ (.slice Ao26 y402.length co26 : Value).ownBlock)) qz11 (fun k_ hk_ => (⟨hk_, hk_.1.1.1.2.2.1⟩ : _ ∧ k_ ≠ g))) hk (fun _ h => h.2)) (fun _ h => h.1)); replace BK389 := aM (KeepBut.blk hk (bk_ BK389.out) NB389_0.out (by simp)); replace HO392 := aM (Kd.R_mono (Kd.R_keep (IsS122.apart (show IsS122 w0 _ g s0_0 t400 t401 from qz3) (rr_ HO392.out) (by decide)) hk (fun _ h => h.2)) (fun _ h => h.1)); replace HO397 := aM (Kd.R_mono (Kd.R_keep (IsS122.apart (show IsS122 w0 _ g s0_0 t400 t401 from qz3) (rr_ HO397.out) (by decide)) hk (fun _ h => h.2)) (fun _ h => h.1)); replace HO404 := aM (Kd.R_mono (Kd.R_keep (IsS122.apart (show IsS122 w0 _ g s0_0 t400 t401 from qz3) (rr_ HO404.out) (by decide)) hk (fun _ h => h.2)) (fun _ h => h.1)); replace HK := aM (KeepBut.trans qz2 hk (.inl rfl)); replace HB := aM (hb); replace HI0 := aM (hi); (try clear hb hk hi)) | ((with_reducible refine gate_callee (f := 105) rfl ?_); refine goesL_ (some 23) rfl rfl Try.func105 (by kernel_rfl) rfl #[.pointer (some ⟨g, 0, none⟩), .int .i64 5] rfl qz4 ?_; (with_reducible refine (spec_l1Below.calls g s0_0 t406 t407 5 t408 t409 t410 w0 _ ?side1 ?side2 A8.out).mono ?_); (case side1 => exact qz3); (case side2 => exact qz1); rintro e w28 ⟨rfl, hi, hb, hk⟩; refine ⟨_, rfl, ?_⟩; replace BK383 := aM (KeepBut.blk hk (bk_ BK383.out) NB383_0.out (by simp)); replace HO386 := aM (Kd.N_mono (Kd.N_keep (Kd.N_mono (ok := fun k_ => ((((((w.heap.size ≤ k_)) ∧ (k_ ≠ gb383 ∧ (k_ ≠ g ∧ k_ ≠ gb389))) ∧ some k_ ≠ (.slice Ao21 t390.length co21 : Value).ownBlock) ∧ some k_ ≠ (v396 : Value).ownBlock) ∧ some k_ ≠ (.slice Ao26 y402.length co26 : Value).ownBlock)) qz11 (fun k_ hk_ => (⟨hk_, hk_.1.1.1.2.2.1⟩ : _ ∧ k_ ≠ g))) hk (fun _ h => h.2)) (fun _ h => h.1)); replace BK389 := aM (KeepBut.blk hk (bk_ BK389.out) NB389_0.out (by simp)); replace HO392 := aM (Kd.R_mono (Kd.R_keep (IsS122.apart (show IsS122 w0 _ g s0_0 t406 t407 from qz3) (rr_ HO392.out) (by decide)) hk (fun _ h => h.2)) (fun _ h => h.1)); replace HO397 := aM (Kd.R_mono (Kd.R_keep (IsS122.apart (show IsS122 w0 _ g s0_0 t406 t407 from qz3) (rr_ HO397.out) (by decide)) hk (fun _ h => h.2)) (fun _ h => h.1)); replace HO404 := aM (Kd.R_mono (Kd.R_keep (IsS122.apart (show IsS122 w0 _ g s0_0 t406 t407 from qz3) (rr_ HO404.out) (by decide)) hk (fun _ h => h.2)) (fun _ h => h.1)); replace HK := aM (KeepBut.trans qz2 hk (.inl rfl)); replace HB := aM (hb); replace HI0 := aM (hi); (try clear hb hk hi)) | ((with_reducible refine gate_callee (f := 105) rfl ?_); refine goesL_ (some 26) rfl rfl Try.func105 (by kernel_rfl) rfl #[.pointer (some ⟨g, 0, none⟩), .int .i64 4] rfl qz4 ?_; (with_reducible refine (spec_l1Below.calls g s0_0 t409 t410 4 t411 t412 t413 w0 _ ?side1 ?side2 A9.out).mono ?_); (case side1 => exact qz3); (case side2 => exact qz1); rintro e w29 ⟨rfl, hi, hb, hk⟩; refine ⟨_, rfl, ?_⟩; replace BK383 := aM (KeepBut.blk hk (bk_ BK383.out) NB383_0.out (by simp)); replace HO386 := aM (Kd.N_mono (Kd.N_keep (Kd.N_mono (ok := fun k_ => ((((((w.heap.size ≤ k_)) ∧ (k_ ≠ gb383 ∧ (k_ ≠ g ∧ k_ ≠ gb389))) ∧ some k_ ≠ (.slice Ao21 t390.length co21 : Value).ownBlock) ∧ some k_ ≠ (v396 : Value).ownBlock) ∧ some k_ ≠ (.slice Ao26 y402.length co26 : Value).ownBlock)) qz11 (fun k_ hk_ => (⟨hk_, hk_.1.1.1.2.2.1⟩ : _ ∧ k_ ≠ g))) hk (fun _ h => h.2)) (fun _ h => h.1)); replace BK389 := aM (KeepBut.blk hk (bk_ BK389.out) NB389_0.out (by simp)); replace HO392 := aM (Kd.R_mono (Kd.R_keep (IsS122.apart (show IsS122 w0 _ g s0_0 t409 t410 from qz3) (rr_ HO392.out) (by decide)) hk (fun _ h => h.2)) (fun _ h => h.1)); replace HO397 := aM (Kd.R_mono (Kd.R_keep (IsS122.apart (show IsS122 w0 _ g s0_0 t409 t410 from qz3) (rr_ HO397.out) (by decide)) hk (fun _ h => h.2)) (fun _ h => h.1)); replace HO404 := aM (Kd.R_mono (Kd.R_keep (IsS122.apart (show IsS122 w0 _ g s0_0 t409 t410 from qz3) (rr_ HO404.out) (by decide)) hk (fun _ h => h.2)) (fun _ h => h.1)); replace HK := aM (KeepBut.trans qz2 hk (.inl rfl)); replace HB := aM (hb); replace HI0 := aM (hi); (try clear hb hk hi)) | ((with_reducible refine gate_builtin (b := .append) (xs := #[.tmp 18, .tmp 28]) rfl ?_); at_builtin; refine Kd.R_append k50 w.heap.size rfl (.tmp 18) (.tmp 28) 43 50 (.agg #[(.int .i64 0), (.int .i64 0), (.int .i64 0)]) 24 rfl Try.underlying43 info50 rfl (by decide) (by omega) v396 t395 (⟨t405, wrap64 (1 + t408), t411⟩ : S50) [.int .i64 t405, .int .i64 (wrap64 (1 + t408)), .int .i64 t411] (fun k_ => (w.heap.size ≤ k_)) (fun _ => False) rfl rfl ?aP (fun _ hk => hk.elim) ?aF ?aO (Below.refl _ _) ?aS ?aL ?_; (case aP => exact k50_mkM _ _ _ (⟨t405, wrap64 (1 + t408), t411⟩ : S50)); (case aF => exact (fun k_ hk => (Nat.le_trans (keep_size (w := w) (g := g) (row := none) qz2) hk))); (case aO => exact (by (with_reducible repeat (first | apply Kd.R_alloc | apply Kd.R_drewN | apply Kd.R_drew)); exact Kd.R_mono HO397.out (fun _ hk => hk.1))); (case aS => exact (keep_size (w := w) (g := g) (row := none) qz2)); (case aL => have := LMc10.out; omega); intro v415 w30 ho hb hg hat; rw [← Ny414.out] at ho; replace BK383 := aM (blk_grown (bk_ BK383.out) hg (Kd.R_ne HO397.out BK383.out (by decide))); replace HO386 := aM (Kd.N_afterv (ok := (fun k_ => (w.heap.size ≤ k_) ∧ some k_ ≠ (.slice Ao21 t390.length co21 : Value).ownBlock ∧ some k_ ≠ (.slice Ao26 y402.length co26 : Value).ownBlock ∧ k_ ≠ gb383 ∧ k_ ≠ g ∧ k_ ≠ gb389)) (by (with_reducible repeat (first | apply Kd.N_alloc | apply Kd.N_drewN | apply Kd.N_drew)); exact Kd.N_mono HO386.out (fun _ hk => ⟨⟨hk.1.1.1.1, ⟨hk.1.1.2, ⟨hk.2, ⟨hk.1.1.1.2.1, ⟨hk.1.1.1.2.2.1, hk.1.1.1.2.2.2⟩⟩⟩⟩⟩, hk.1.2⟩)) hg hat); replace BK389 := aM (blk_grown (bk_ BK389.out) hg (Kd.R_ne HO397.out BK389.out (by decide))); replace HO392 := aM (Kd.R_over' (rr_ HO392.out) (Kd.R_typed (rr_ HO397.out)) (by decide) hg); replace HO404 := aM (Kd.R_over' (rr_ HO404.out) (Kd.R_typed (rr_ HO397.out)) (by decide) hg); replace HB := aM (below_weaken qz1 HL.out hb); replace HI0 := aM (IsS122.grown qz3 hg (IsS122.own_ne HI0.out HO397.out (by decide))); replace HK := aM (KeepBut.trans qz2 (KeepBut.of_grown hg g) (Kd.R_base2 HO397.out)); have HO416 := aM (ho); clear HO397; clear ho hb hg hat; obtain ⟨hcz31_0, hfz31_0⟩ := bf_ BK389.out; have hnb32 := NB383_0.out; have hnc32 := NB0_383.out; obtain ⟨hcz33_0, hfz33_0⟩ := bf_ BK383.out))
 refine bodyPost_ret (results_ct rfl _ _ gb383 26 #[.slice Ao14 t384.length co14] (0, 0) _ rfl (by (with_reducible repeat (first | refine blk_drewN ?_ _ | refine blk_drew ?_ | refine blk_alloc ?_ _)); refine blk_put (cs := #[.slice none 0 0]) ?_ 0 _ rfl; exact bk_ BK383.out) Try.underlying26 rfl (by kernel_rfl)) rfl ?_
 exact ⟨_, _, qzw, by (with_reducible repeat (first | apply Kd.N_alloc | apply Kd.N_drewN | apply Kd.N_drew)); exact Kd.N_mono (Kd.N_far (p := ⟨gb383, 0, none⟩) (Kd.N_mono HO386.out (fun k_ hk => (⟨hk, hk.1.2.2.2.1⟩ : _ ∧ k_ ≠ gb383))) (fun _ hk => hk.2) (.slice Ao14 t384.length co14)) (fun _ hk => ⟨hk.1.1.1, hk.1.2⟩), by (with_reducible repeat (first | apply Kd.R_alloc | apply Kd.R_drewN | apply Kd.R_drew)); exact Kd.R_mono (Kd.R_far (p := ⟨gb383, 0, none⟩) (Kd.R_types HO416.out BK383.out (by decide)) (fun _ hk => hk.2) (.slice Ao14 t384.length co14)) (fun _ hk => hk.1), qz3, qz1, qz2⟩
 }
 {
 exact an_ c10 H
 }
 }
 {
 replace c6 := Bool.eq_false_iff.mpr c6
 subst c6
 rw [if_neg (show ¬ (false = true) by decide)] at H
 simp only [Option.some.injEq, Prod.mk.injEq] at H
 obtain ⟨rfl, rfl, rfl, rfl⟩ := H
 go_enter Try.func85, Try.ntmps85
 try go_wp2_with (first | ((with_reducible refine gate_dst (N := 2) rfl ?_); refine bx_ 2 #[.slice none 0 0] 26 ?_; intro gb383 hg w34 hbox hb; replace HB := bS_ hb; have BK383 := aM (hbox); have GW383 := aM (kz_ w g hg qz2); have GE383 := aM ((Nat.le_trans HW0.out (by rw [hg]; exact (keep_size (w := w) (g := g) (row := none) qz2) : w.heap.size ≤ gb383) : w0.heap.size ≤ gb383)); replace HK := aM (KeepBut.trans qz2 (KeepBut.of_below hb g none) (.inl rfl)); have NB0_383 := aM ((by rw [hg]; exact Nat.ne_of_lt (IsS122.lt (show IsS122 w0 _ g s0_0 s0_1 s0_2 from qz3)) : g ≠ gb383)); have NB383_0 := aM ((by rw [hg]; exact Nat.ne_of_gt (IsS122.lt (show IsS122 w0 _ g s0_0 s0_1 s0_2 from qz3)) : gb383 ≠ g)); replace HI0 := aM (IsS122.below qz3 hb); clear hb hbox hg) | ((with_reducible refine gate_callee (f := 76) rfl ?_); refine goesL_ (some 8) rfl rfl Try.func76 (by kernel_rfl) rfl #[.pointer (some ⟨g, 0, none⟩)] rfl qz4 ?_; (with_reducible refine (spec_l5DrawAny.calls k g s0_0 s0_1 s0_2 t384 t387 t388 w0 _ ?side1 ?side2 A2.out).mono ?_); (case side1 => exact qz3); (case side2 => exact qz1); rintro e w35 ⟨v385, rfl, ho0, hi, hb, hk⟩; refine ⟨_, rfl, ?_⟩; have HO386 := aM (Kd.N_lower (Kd.N_mono (ok' := fun k_ => (w.heap.size ≤ k_) ∧ k_ ≠ gb383 ∧ k_ ≠ g) ho0 (fun k_ hk_ => ⟨(Nat.le_trans (keep_size (w := w) (g := g) (row := none) qz2) hk_), (Kd.freshB (bk_ BK383.out) k_ hk_), (IsS122.fresh qz3 k_ hk_)⟩)) (keep_size (w := w) (g := g) (row := none) qz2)); replace BK383 := aM (KeepBut.blk hk (bk_ BK383.out) NB383_0.out (by simp)); replace HK := aM (KeepBut.trans qz2 hk (.inl rfl)); replace HB := aM (hb); replace HI0 := aM (hi); (try clear hb hk hi ho0)) | ((with_reducible refine gate_dst (N := 4) rfl ?_); refine bx_ 4 #[.slice none 0 0] 26 ?_; intro gb389 hg w36 hbox hb; replace HO386 := aM (Kd.N_below (Kd.N_elderB qz11 gb389 (Nat.le_of_eq hg.symm)) hb); replace HB := bS_ hb; have BK389 := aM (hbox); have GW389 := aM (kz_ w g hg qz2); have GE389 := aM ((Nat.le_trans HW0.out (by rw [hg]; exact (keep_size (w := w) (g := g) (row := none) qz2) : w.heap.size ≤ gb389) : w0.heap.size ≤ gb389)); replace HK := aM (KeepBut.trans qz2 (KeepBut.of_below hb g none) (.inl rfl)); obtain ⟨NB383_389, NB389_383⟩ := nb_ hg (bk_ BK383.out); replace BK383 := bB_ BK383 hb; have NB0_389 := aM ((by rw [hg]; exact Nat.ne_of_lt (IsS122.lt (show IsS122 w0 _ g s0_0 t387 t388 from qz3)) : g ≠ gb389)); have NB389_0 := aM ((by rw [hg]; exact Nat.ne_of_gt (IsS122.lt (show IsS122 w0 _ g s0_0 t387 t388 from qz3)) : gb389 ≠ g)); replace HI0 := aM (IsS122.below qz3 hb); clear hb hbox hg; obtain ⟨Ao37, co37, eo37⟩ := Kd.N_slice HO386.out; subst eo37; have hnb38 := NB389_383.out; have hnc38 := NB383_389.out; have hnb39 := NB389_0.out; have hnc39 := NB0_389.out; obtain ⟨hcz40_0, hfz40_0⟩ := bf_ BK389.out))
 generalize hq_ : (w36.setCell ⟨gb389, 0, none⟩ (.slice Ao37 t384.length co37)) = w41
 replace HO386 : Aside0 (Kd.N k79 79 w41 w.heap.size (fun k_ => (w.heap.size ≤ k_) ∧ k_ ≠ gb383 ∧ k_ ≠ g ∧ k_ ≠ gb389) (.slice Ao37 t384.length co37) t384) := ⟨by rw [← hq_]; exact (by (with_reducible repeat (first | apply Kd.N_alloc | apply Kd.N_drewN | apply Kd.N_drew)); exact Kd.N_mono (Kd.N_far (p := ⟨gb389, 0, none⟩) (Kd.N_mono HO386.out (fun k_ hk => (⟨hk, hk.2⟩ : _ ∧ k_ ≠ gb389))) (fun _ hk => hk.2) (.slice Ao37 t384.length co37)) (fun _ hk => ⟨hk.1.1.1, ⟨hk.1.1.2.1, ⟨hk.1.1.2.2, hk.1.2⟩⟩⟩))⟩
 replace BK383 : Aside0 (w41.heap[gb383]? = some (.cells #[.slice none 0 0] 26 (0, 0))) := ⟨by rw [← hq_]; exact (bk2_ BK383.out)⟩
 replace BK389 : Aside0 (w41.heap[gb389]? = some (.cells #[.slice Ao37 t384.length co37] 26 (0, 0))) := ⟨by rw [← hq_]; exact (by (with_reducible repeat (first | refine blk_drewN ?_ _ | refine blk_drew ?_ | refine blk_alloc ?_ _)); refine blk_put (cs := #[.slice none 0 0]) ?_ 0 _ rfl; exact bk_ BK389.out)⟩
 replace HK : Aside0 (KeepBut w w41 g none) := ⟨by rw [← hq_]; exact qz2⟩
 replace HB : Aside0 (Below w0.heap.size w0 w41) := ⟨by rw [← hq_]; exact qz1⟩
 replace HI0 : Aside0 (IsS122 w0 w41 g s0_0 t387 t388) := ⟨by rw [← hq_]; exact qz3⟩
 clear hq_
 replace HO386 := aM (Kd.N_drew HO386.out)
 replace BK383 := aM (blk_drew BK383.out)
 replace BK389 := aM (blk_drew BK389.out)
 replace HI0 := aM (IsS122.drew HI0.out)
 replace HK := aM (keep_drew HK.out)
 replace HB := aM (below_drew1 HB.out)
 refine start_ (n := 9) (S := fun w' => w'.cell? ⟨gb389, 0, none⟩ = some (.slice Ao37 t384.length co37)) (ds := []) #[false, false, false, false, false, false, false, false, false] (by kernel_rfl) rfl rfl ((blk_cell BK389.out 0).trans rfl) (fun hHeld => ?_); refine with_tabW spec_l6Draw.tab2 spec_l6Draw.bits2 (fun HT_ HW_ => ?_)
 generalize w41.drew = w42 at HO386 BK383 BK389 HI0 HK HB hHeld ⊢
 refine pI_ 1 11 (bqz 9 2) ?_
 refine take_ (i := 0) (N := some 10) (v := ?_) (a' := ?_) (bqz 9 3) rfl rfl qzb qzd (Or.inl ⟨by rfl, ?_⟩) hHeld ?_ ?_
 rotate_left
 {
 intro w' s0
 go_simp
 with_reducible rfl
 }
 rotate_left
 {
 simp only [qzs]
 rfl
 }
 refine one_ (i := 2) (N := some 12) (bqz 9 7) rfl rfl qzc (by decide) (fun K hK => ?_)
 refine goes_ Try.func104 (by kernel_rfl) rfl #[.pointer (some ⟨g, 0, none⟩)] (by rfl) rfl rfl qz4 ?_
 with_reducible refine (spec_l6Items.calls k g s0_0 t387 t388 t390 t393 t394 w0 _ ?side1 ?side2 A3.out).mono ?_
 (case side1 => exact qz3)
 (case side2 => exact qz1)
 rintro e w43 ⟨v391, rfl, ho0, hi, hb, hk⟩
 refine ⟨_, rfl, ?_⟩
 replace BK383 := aM (KeepBut.blk hk (bk_ BK383.out) NB383_0.out (by simp))
 replace HO386 := aM (Kd.N_mono (Kd.N_told (Kd.N_oldK (Kd.N_mono (ok := fun k_ => (((w.heap.size ≤ k_)) ∧ (k_ ≠ gb383 ∧ (k_ ≠ g ∧ k_ ≠ gb389)))) qz11 (fun k_ hk_ => (⟨hk_, hk_.2.2.1⟩ : _ ∧ k_ ≠ g))) hk) (Kd.R_base ho0)) (fun _ h_ => h_.1))
 replace BK389 := aM (KeepBut.blk hk (bk_ BK389.out) NB389_0.out (by simp))
 have HO392 := aM (Kd.R_lower (Kd.R_newM (M := fun k_ => (w.heap.size ≤ k_)) ho0 (keep_size (w := w) (g := g) (row := none) qz2) (fun k_ h_ => h_)) (keep_size (w := w) (g := g) (row := none) qz2))
 replace HK := aM (KeepBut.trans qz2 hk (.inl rfl))
 replace HB := aM (hb)
 replace HI0 := aM (hi)
 (try clear hb)
 (try clear hb2)
 (try clear hk)
 (try clear hi)
 (try clear ho0)
 obtain ⟨Ao44, co44, eo44⟩ := Kd.R_slice HO392.out
 (first | subst eo44 | (injection eo44 with f1_ f2_ f3_; have f4_ := f1_.symm; have f5_ := f3_.symm; clear f1_ f2_ f3_; subst f4_; subst f5_))
 refine hK.out _ _ ((blk_cell BK389.out 0).trans rfl) (fun hHeld => ?_)
 clear hK K
 refine nm_ 12 ?_
 refine one_ (i := 3) (N := some 13) (bqz 9 15) rfl rfl qzc (by decide) (fun K hK => ?_)
 refine goes_ Try.func54 (by kernel_rfl) rfl #[.agg #[.slice Ao37 t384.length co37], .slice Ao44 t390.length co44] (by rfl) rfl rfl qz4 ?_
 with_reducible refine (spec_Picks.calls k _ _ t384 _ _ t390 t395 t398 _ ?side1 ?side2 ?side3 ?side4 A4.out).mono ?_
 (case side1 => repeat (first | exact (Kd.N_reads' HO386.out).2.2 | (with_reducible refine Kd.C_alloc ?_ _) | (with_reducible refine Kd.C_drewN ?_ _) | (with_reducible refine Kd.C_drew ?_)))
 (case side2 => exact (Kd.N_reads' HO386.out).2.1)
 (case side3 => repeat (first | exact (Kd.R_reads' HO392.out).2.2 | (with_reducible refine Kd.C_alloc ?_ _) | (with_reducible refine Kd.C_drewN ?_ _) | (with_reducible refine Kd.C_drew ?_)))
 (case side4 => exact (Kd.R_reads' HO392.out).2.1)
 rintro e w45 ⟨v396, rfl, ho0, hb⟩
 refine ⟨_, rfl, ?_⟩
 replace HO386 := aM (Kd.N_elder' qz11 (Kd.R_base ho0) hb)
 replace HO392 := aM (Kd.R_below (rr_ HO392.out) hb)
 have HO397 := aM (Kd.R_lower (Kd.R_newM (M := fun k_ => (w.heap.size ≤ k_)) ho0 (keep_size (w := w) (g := g) (row := none) qz2) (fun k_ h_ => h_)) (keep_size (w := w) (g := g) (row := none) qz2))
 replace BK383 := bB_ BK383 hb
 replace BK389 := bB_ BK389 hb
 replace HK := aM (KeepBut.trans qz2 (KeepBut.of_below hb g none) (.inl rfl))
 replace HB := bS_ hb
 replace HI0 := aM (IsS122.below qz3 hb)
 (try clear hb)
 (try clear hb2)
 (try clear hk)
 (try clear hi)
 (try clear ho0)
 refine hK.out _ _ ((blk_cell BK389.out 0).trans rfl) (fun hHeld => ?_)
 clear hK K
 refine nm_ 13 ?_
 refine pI_ 4 9 (bqz 9 31) ?_
 refine jI_ 5 14 ?_
 refine jI_ 6 15 ?_
 refine jI_ 7 5 ?_
 refine jI_ 8 6 ?_
 refine done_ (done_of HT_.out (by kernel_rfl)) ?_
 try go_wp2_with (first | ((with_reducible refine gate_callee (f := 102) rfl ?_); refine goesL_ (some 17) rfl rfl Try.func102 (by kernel_rfl) rfl #[.pointer (some ⟨g, 0, none⟩), .int .i64 4] rfl qz4 ?_; (with_reducible refine (spec_l1Once.calls g s0_0 t393 t394 4 false t400 t401 w0 _ ?side1 ?side2 A5.out).mono ?_); (case side1 => exact qz3); (case side2 => exact qz1); rintro e w46 ⟨rfl, hi, hb, hk⟩; refine ⟨_, rfl, ?_⟩; replace BK383 := aM (KeepBut.blk hk (bk_ BK383.out) NB383_0.out (by simp)); replace HO386 := aM (Kd.N_mono (Kd.N_keep (Kd.N_mono (ok := fun k_ => (((((w.heap.size ≤ k_)) ∧ (k_ ≠ gb383 ∧ (k_ ≠ g ∧ k_ ≠ gb389))) ∧ some k_ ≠ (.slice Ao44 t390.length co44 : Value).ownBlock) ∧ some k_ ≠ (v396 : Value).ownBlock)) qz11 (fun k_ hk_ => (⟨hk_, hk_.1.1.2.2.1⟩ : _ ∧ k_ ≠ g))) hk (fun _ h => h.2)) (fun _ h => h.1)); replace BK389 := aM (KeepBut.blk hk (bk_ BK389.out) NB389_0.out (by simp)); replace HO392 := aM (Kd.R_mono (Kd.R_keep (IsS122.apart (show IsS122 w0 _ g s0_0 t393 t394 from qz3) (rr_ HO392.out) (by decide)) hk (fun _ h => h.2)) (fun _ h => h.1)); replace HO397 := aM (Kd.R_mono (Kd.R_keep (IsS122.apart (show IsS122 w0 _ g s0_0 t393 t394 from qz3) (rr_ HO397.out) (by decide)) hk (fun _ h => h.2)) (fun _ h => h.1)); replace HK := aM (KeepBut.trans qz2 hk (.inl rfl)); replace HB := aM (hb); replace HI0 := aM (hi); (try clear hb hk hi); obtain ⟨hcz47_0, hfz47_0⟩ := bf_ BK389.out; have hnb48 := NB383_0.out; have hnc48 := NB0_383.out; obtain ⟨hcz49_0, hfz49_0⟩ := bf_ BK383.out))
 refine bodyPost_ret (results_ct rfl _ _ gb383 26 #[.slice Ao37 t384.length co37] (0, 0) _ rfl (by (with_reducible repeat (first | refine blk_drewN ?_ _ | refine blk_drew ?_ | refine blk_alloc ?_ _)); refine blk_put (cs := #[.slice none 0 0]) ?_ 0 _ rfl; exact bk_ BK383.out) Try.underlying26 rfl (by kernel_rfl)) rfl ?_
 exact ⟨_, _, qzw, by (with_reducible repeat (first | apply Kd.N_alloc | apply Kd.N_drewN | apply Kd.N_drew)); exact Kd.N_mono (Kd.N_far (p := ⟨gb383, 0, none⟩) (Kd.N_mono HO386.out (fun k_ hk => (⟨hk, hk.1.1.2.1⟩ : _ ∧ k_ ≠ gb383))) (fun _ hk => hk.2) (.slice Ao37 t384.length co37)) (fun _ hk => ⟨hk.1.1.1.1, hk.1.2⟩), by (with_reducible repeat (first | apply Kd.R_alloc | apply Kd.R_drewN | apply Kd.R_drew)); exact Kd.R_mono (Kd.R_far (p := ⟨gb383, 0, none⟩) (Kd.R_types HO397.out BK383.out (by decide)) (fun _ hk => hk.2) (.slice Ao37 t384.length co37)) (fun _ hk => hk.1.1), qz3, qz1, qz2⟩

 }
/-! ### spec_DrawHoldAll: function 44 -/
def spec_DrawHoldAll.f (k : Nat) (l0 : List Int) : Option ((List (S79)) × (List (S50))) := (spec_l1New.f k l0).bind fun bt418 => ((spec_l6Draw.f k bt418.1 bt418.2.1 bt418.2.2).bind fun bt422 => (some (bt422.1, bt422.2.1)))
theorem spec_DrawHoldAll.mono : ∀ a0 k, LeO (spec_DrawHoldAll.f k a0) (spec_DrawHoldAll.f (k + 1) a0) := by
 intro a0 k
 unfold spec_DrawHoldAll.f
 have j0 := @spec_l1New.mono
 have j1 := @spec_l6Draw.mono
 exact qL
set_option maxHeartbeats 8000000 in
set_option maxRecDepth 100000 in
theorem spec_DrawHoldAll.calls (k : Nat) (A0 : Option Addr) (c0 : Nat) (l0 : List Int) (r1 : List (S79)) (r2 : List (S50)) (w : World) (hr0 : Kd.C (Kd.int .u8) w A0 l0.length l0) (hc0 : l0.length ≤ c0) (h : spec_DrawHoldAll.f k l0 = some (r1, r2)) :
  Calls Try.prog 44 #[.slice A0 l0.length c0] w fun e w' => ∃ v0_ v1_ : Value, e = .returned (.tuple #[.agg #[v0_], v1_]) ∧ Kd.N k79 79 w' w.heap.size (fun k_ => (w.heap.size ≤ k_) ∧ some k_ ≠ (v1_ : Value).ownBlock) v0_ r1 ∧ Kd.R k50 50 w' w.heap.size (fun k_ => (w.heap.size ≤ k_)) v1_ r2 ∧ Below w.heap.size w w' := by
 have hu26 := Try.underlying26
 have HR0 := aM hr0
 have HC0 := aM hc0
 clear hr0 hc0
 have HB := aM (Below.refl w.heap.size w)
 have H : ((spec_l1New.f k l0).bind fun bt418 => ((spec_l6Draw.f k bt418.1 bt418.2.1 bt418.2.2).bind fun bt422 => (some (bt422.1, bt422.2.1)))) = some (r1, r2) := h
 clear h
 replace H := Option.bind_eq_some_iff.mp H
 obtain ⟨⟨t418, t419, t420⟩, A20, H⟩ := H
 replace H : ((spec_l6Draw.f k t418 t419 t420).bind fun bt422 => (some (bt422.1, bt422.2.1))) = some (r1, r2) := H
 have A2 := aM A20
 clear A20
 replace H := Option.bind_eq_some_iff.mp H
 obtain ⟨⟨t422, t425, t428, t429⟩, A30, H⟩ := H
 replace H : (some (t422, t425)) = some (r1, r2) := H
 have A3 := aM A30
 clear A30
 simp only [Option.some.injEq, Prod.mk.injEq] at H
 obtain ⟨rfl, rfl⟩ := H
 go_enter Try.func44, Try.ntmps44
 go_wp2_with (first | ((with_reducible refine gate_dst (N := 2) rfl ?_); refine bx_ 2 #[.slice none 0 0] 26 ?_; intro gb417 hg w4 hbox hb; have BK417 := aM (hbox); have GW417 := aM (bz_ w hg qz1); have GE417 := GW417; replace HB := bS_ hb; clear hb hbox hg) | ((with_reducible refine gate_callee (f := 75) rfl ?_); refine goesL_ (some 6) rfl rfl Try.func75 (by kernel_rfl) rfl #[.slice A0 l0.length c0] rfl qz4 ?_; (with_reducible refine (spec_l1New.calls k _ _ l0 t418 t419 t420 w _ ?side1 ?side2 ?side3 A2.out).mono ?_); (case side1 => exact qz1); (case side2 => exact HR0.out); (case side3 => exact HC0.out); rintro e w5 ⟨g421, rfl, hi, hb, hb2⟩; refine ⟨_, rfl, ?_⟩; replace HB := aM (hb); have HI421 := aM (hi); have NB421_417 := aM (IsS122.ne_blk hi (blk_below (bk_ BK417.out) hb2) (by decide)); have NB417_421 := aM (Ne.symm (IsS122.ne_blk hi (blk_below (bk_ BK417.out) hb2) (by decide))); replace BK417 := aM (blk_below (bk_ BK417.out) hb2); (try clear hb hb2 hi)) | ((with_reducible refine gate_callee (f := 85) rfl ?_); refine goesL_ (some 8) rfl rfl Try.func85 (by kernel_rfl) rfl #[.pointer (some ⟨g421, 0, none⟩)] rfl qz4 ?_; (with_reducible refine (spec_l6Draw.calls k g421 t418 t419 t420 t422 t425 t428 t429 w _ ?side1 ?side2 A3.out).mono ?_); (case side1 => repeat (first | (with_reducible first | exact HI421.out | apply IsS122.alloc | apply IsS122.drewN | apply IsS122.drew | apply IsS122.set_1 | apply IsS122.set_2 | refine IsS122.far ?_ aO _) | exact HI421.out)); (case side2 => exact qz1); rintro e w6 ⟨v423, v426, rfl, ho0, ho1, hi, hb, hk⟩; refine ⟨_, rfl, ?_⟩; have HO424 := aM (Kd.N_lower (Kd.N_mono (ok' := fun k_ => (w.heap.size ≤ k_) ∧ some k_ ≠ (v426 : Value).ownBlock ∧ k_ ≠ gb417 ∧ k_ ≠ g421) ho0 (fun k_ hk_ => ⟨(Nat.le_trans (below_size qz1) hk_.1), hk_.2, (Kd.freshB (bk_ BK417.out) k_ hk_.1), (IsS122.fresh (by repeat (first | (with_reducible first | exact HI421.out | apply IsS122.alloc | apply IsS122.drewN | apply IsS122.drew | apply IsS122.set_1 | apply IsS122.set_2 | refine IsS122.far ?_ aO _) | exact HI421.out)) k_ hk_.1)⟩)) (below_size qz1)); replace BK417 := aM (KeepBut.blk hk (bk_ BK417.out) NB417_421.out (by simp)); have HO427 := aM (Kd.R_lower (Kd.R_newM (M := fun k_ => (w.heap.size ≤ k_)) (Kd.R_mono (ok' := fun k_ => True) ho1 (fun _ hk_ => trivial)) (below_size qz1) (fun k_ h_ => h_)) (below_size qz1)); replace HB := aM (hb); replace HI421 := aM (hi); (try clear hb hk hi ho0 ho1); obtain ⟨Ao7, co7, eo7⟩ := Kd.N_slice HO424.out; subst eo7; have hnb8 := NB417_421.out; have hnc8 := NB421_417.out; obtain ⟨hcz9_0, hfz9_0⟩ := bf_ BK417.out))
 refine bodyPost_ret (results_ct rfl _ _ gb417 26 #[.slice Ao7 t422.length co7] (0, 0) _ rfl (by (with_reducible repeat (first | refine blk_drewN ?_ _ | refine blk_drew ?_ | refine blk_alloc ?_ _)); refine blk_put (cs := #[.slice none 0 0]) ?_ 0 _ rfl; exact bk_ BK417.out) Try.underlying26 rfl (by kernel_rfl)) rfl ?_
 exact ⟨_, _, qzw, by (with_reducible repeat (first | apply Kd.N_alloc | apply Kd.N_drewN | apply Kd.N_drew)); exact Kd.N_mono (Kd.N_far (p := ⟨gb417, 0, none⟩) (Kd.N_mono HO424.out (fun k_ hk => (⟨hk, hk.2.2.1⟩ : _ ∧ k_ ≠ gb417))) (fun _ hk => hk.2) (.slice Ao7 t422.length co7)) (fun _ hk => ⟨hk.1.1, hk.1.2.1⟩), by (with_reducible repeat (first | apply Kd.R_alloc | apply Kd.R_drewN | apply Kd.R_drew)); exact Kd.R_mono (Kd.R_far (p := ⟨gb417, 0, none⟩) (Kd.R_types HO427.out BK417.out (by decide)) (fun _ hk => hk.2) (.slice Ao7 t422.length co7)) (fun _ hk => hk.1.1), qz1⟩

/-! ### spec_l5Pod: function 93 -/
def spec_l5Pod.l0 : Nat → Int → Int → List (S79) → Option (Int)
 | 0, _, _, _ => none
 | k + 1, x1, x5, x431000 => if x5 < (x431000.length : Int) then (if 0 ≤ x5 then (if ((rd_T79 x431000 x5).f0) = x1 then (some x5) else (spec_l5Pod.l0 k x1 (wrap64 (x5 + 1)) x431000)) else (none)) else (some (-1))
def spec_l5Pod.f (k : Nat) (l0_0 : List (S79)) (a1 : Int) : Option (Int) := spec_l5Pod.l0 k a1 0 l0_0
theorem spec_l5Pod.mono_l : ∀ k, (∀ y0 y1 y2, LeO (spec_l5Pod.l0 k y0 y1 y2) (spec_l5Pod.l0 (k + 1) y0 y1 y2))
 | 0 => fun _ _ _ r h => by simp [spec_l5Pod.l0] at h
 | k + 1 => by
  have ih0 := spec_l5Pod.mono_l k
  {
  intro y0 y1 y2
  unfold spec_l5Pod.l0
  exact qL
  }
theorem spec_l5Pod.mono : ∀ a0 a1 k, LeO (spec_l5Pod.f k a0 a1) (spec_l5Pod.f (k + 1) a0 a1) := by
 intro a0 a1 k
 have ih0 := spec_l5Pod.mono_l k
 unfold spec_l5Pod.f
 exact qL
set_option maxHeartbeats 8000000 in
set_option maxRecDepth 100000 in
theorem spec_l5Pod.calls (k : Nat) (A0_0 : Option Addr) (c0_0 : Nat) (l0_0 : List (S79)) (a1 : Int) (r : Int) (w : World) (hr0_0 : Kd.C k79 w A0_0 l0_0.length l0_0) (hc0_0 : l0_0.length ≤ c0_0) (h : spec_l5Pod.f k l0_0 a1 = some r) :
  Calls Try.prog 93 #[.agg #[.slice A0_0 l0_0.length c0_0], .int .i64 a1] w fun e w' => e = .returned (.int .i64 r) ∧ Below w.heap.size w w' := by
 have hu26 := Try.underlying26
 have HR0_0 := aM hr0_0
 have HC0_0 := aM hc0_0
 clear hr0_0 hc0_0
 have HB := aM (Below.refl w.heap.size w)
 have H : (spec_l5Pod.l0 k a1 0 l0_0) = some r := h
 clear h
 have H' := aM H
 clear H
 go_enter Try.func93, Try.ntmps93
 go_wp2_with (first | ((with_reducible refine gate_dst (N := 2) rfl ?_); refine bx_ 2 #[.slice A0_0 l0_0.length c0_0] 26 ?_; intro gb430 hg w3 hbox hb; have BK430 := aM (hbox); have GW430 := aM (bz_ w hg qz1); have GE430 := GW430; replace HB := bS_ hb; clear hb hbox hg))
 go_loopg [5] k (fun kq v5 w' => ∃ (x5_1 : Int), v5 = .int .i64 x5_1 ∧ Aside0 (spec_l5Pod.l0 kq a1 x5_1 l0_0 = some r) ∧ Aside0 (kq ≤ k) ∧ Aside0 (w'.heap[gb430]? = some (.cells #[(.slice A0_0 l0_0.length c0_0)] 26 (0, 0))) ∧ Aside0 (Below w.heap.size w w'))
 case atStart => exact ⟨(0), qz5, H', ⟨Nat.le_refl _⟩, ⟨bk_ BK430.out⟩, ⟨qz1⟩⟩
 case round =>
  clear H'
  try clear p2
  obtain ⟨x5_1, rfl, HA, HK1, BK430, HB⟩ := hrel
  cases gk with
  | zero => exact absurd HA.out (by simp [spec_l5Pod.l0])
  | succ k1 =>
   have H := HA.out
   clear HA
   simp only [spec_l5Pod.l0] at H
   by_cases c4 : x5_1 < (l0_0.length : Int)
   {
   rw [if_pos c4] at H
   have c4b0 := decide_eq_true c4
   clear c4
   by_cases c5 : 0 ≤ x5_1
   {
   rw [if_pos c5] at H
   have c5b0 := decide_eq_true c5
   clear c5
   by_cases c6 : ((rd_T79 l0_0 x5_1).f0) = a1
   {
   rw [if_pos c6] at H
   have c6b0 := beq_iff_eq.mpr c6
   have c6b1 := bne_eq_false_iff_eq.mpr c6
   clear c6
   obtain rfl := Option.some.inj H
   simp only [Option.some.injEq, Prod.mk.injEq] at H
   obtain ⟨rfl⟩ := H
   obtain ⟨hcz7_0, hfz7_0⟩ := bf_ BK430.out
   have p431 : 0 ≤ (x5_1 : Int) := dt_
   have q431 : x5_1 < (l0_0.length : Int) := dt_
   obtain ⟨ad431, A431_2, c431_2, e431, hx431_0, hx431_1, hx431_2, hl431_2, hi431_2⟩ := at_T79 HR0_0.out x5_1 p431 q431
   cases e431
   replace hx431_0 := cB_ hx431_0
   replace hx431_1 := cB_ hx431_1
   replace hx431_2 := cB_ hx431_2
   have HR431_2 := aM hi431_2
   have HC431_2 := aM hl431_2
   clear hi431_2 hl431_2
   replace p431 := eq_true p431
   replace q431 := eq_true q431
   go_wp2
   go_ret
   exact ⟨qzw, qz1⟩
   }
   {
   rw [if_neg c6] at H
   have c6b0 := beq_eq_false_iff_ne.mpr c6
   have c6b1 := bne_iff_ne.mpr c6
   have H' := aM H
   clear H
   obtain ⟨hcz8_0, hfz8_0⟩ := bf_ BK430.out
   have p431 : 0 ≤ (x5_1 : Int) := dt_
   have q431 : x5_1 < (l0_0.length : Int) := dt_
   obtain ⟨ad431, A431_2, c431_2, e431, hx431_0, hx431_1, hx431_2, hl431_2, hi431_2⟩ := at_T79 HR0_0.out x5_1 p431 q431
   cases e431
   replace hx431_0 := cB_ hx431_0
   replace hx431_1 := cB_ hx431_1
   replace hx431_2 := cB_ hx431_2
   have HR431_2 := aM hi431_2
   have HC431_2 := aM hl431_2
   clear hi431_2 hl431_2
   replace p431 := eq_true p431
   replace q431 := eq_true q431
   go_wp2
   go_roundg k1
   case measure => have := HK1.out; omega
   case rel => exact ⟨(wrap64 (x5_1 + 1)), qz5, H', ⟨by have := HK1.out; omega⟩, ⟨bk_ BK430.out⟩, ⟨qz1⟩⟩
   }
   }
   {
   exact an_ c5 H
   }
   }
   {
   rw [if_neg c4] at H
   have c4b0 := decide_eq_false c4
   clear c4
   obtain rfl := Option.some.inj H
   simp only [Option.some.injEq, Prod.mk.injEq] at H
   obtain ⟨rfl⟩ := H
   obtain ⟨hcz9_0, hfz9_0⟩ := bf_ BK430.out
   go_wp2
   go_ret
   exact ⟨qzw, qz1⟩

   }
end Go.Proofs.Yteajnkondkfmgaa.PFnEach
