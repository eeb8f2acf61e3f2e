-- Made by a program of this session out of the translation. Lean checks it.
import Derived.Test.YteajnkondkfmgaaPFnTakenx0
import Derived.Test.YteajnkondkfmgaaPFnTakenx7
import Derived.Test.YteajnkondkfmgaaPFnTakenx8
import Derived.Test.YteajnkondkfmgaaPFnTakenx10
namespace Go.Proofs.Yteajnkondkfmgaa.PFnTaken
open Go.RowKit Go.Proofs.YteajnkondkfmgaaW.PrintWords Go.Proofs.YteajnkondkfmgaaW.PrintLast Go.Proofs.YteajnkondkfmgaaW.PrintMore
attribute [local go_sem] max2_int min2_int max_two min_two max_three min_three max_four min_four   -- for this text's walks alone
set_option linter.unusedVariables false
set_option linter.unusedSimpArgs false

/-! ### spec_l5DrawAny: function 76 -/
def spec_l5DrawAny.f (k : Nat) (s0_0 : List Int) (s0_1 : Int) (s0_2 : Int) : Option ((List (S79)) × Int × Int) := (spec_l5Draw.f k s0_0 s0_1 s0_2).bind fun bt277 => ((spec_l1Once.f s0_0 bt277.2.1 bt277.2.2 8).bind fun bt283 => (if bt283.1 = true then ((spec_l5Bend.f k s0_0 bt283.2.1 bt283.2.2 bt277.1).bind fun bt286 => (some (bt286.1, bt286.2.1, bt286.2.2))) else (some (bt277.1, bt283.2.1, bt283.2.2))))
theorem spec_l5DrawAny.mono : ∀ a0 a1 a2 k, LeO (spec_l5DrawAny.f k a0 a1 a2) (spec_l5DrawAny.f (k + 1) a0 a1 a2) := by
 intro a0 a1 a2 k
 unfold spec_l5DrawAny.f
 have j0 := @spec_l5Bend.mono
 have j1 := @spec_l5Draw.mono
 exact qL
set_option maxHeartbeats 8000000 in
set_option maxRecDepth 100000 in
theorem spec_l5DrawAny.calls (k : Nat) (g : Nat) (s0_0 : List Int) (s0_1 : Int) (s0_2 : Int) (r1 : List (S79)) (r2 : Int) (r3 : Int) (w0 w : World) (hI : IsS122 w0 w g s0_0 s0_1 s0_2) (hB : Below w0.heap.size w0 w) (h : spec_l5DrawAny.f k s0_0 s0_1 s0_2 = some (r1, r2, r3)) :
  Calls Try.prog 76 #[.pointer (some ⟨g, 0, none⟩)] w fun e w' => ∃ v0_ : Value, e = .returned (.agg #[v0_]) ∧ Kd.N k79 79 w' w.heap.size (fun k_ => (w.heap.size ≤ k_)) v0_ r1 ∧ IsS122 w0 w' g s0_0 r2 r3 ∧ Below w0.heap.size w0 w' ∧ KeepBut w w' g none := by
 have hu26 := Try.underlying26
 have HI0 := aM hI
 have HK := aM (KeepBut.refl w g none)
 have HL := aM hB.size
 clear hI
 have HW0 := aM hB.size
 have HB := aM hB
 clear hB
 have H : ((spec_l5Draw.f k s0_0 s0_1 s0_2).bind fun bt277 => ((spec_l1Once.f s0_0 bt277.2.1 bt277.2.2 8).bind fun bt283 => (if bt283.1 = true then ((spec_l5Bend.f k s0_0 bt283.2.1 bt283.2.2 bt277.1).bind fun bt286 => (some (bt286.1, bt286.2.1, bt286.2.2))) else (some (bt277.1, bt283.2.1, bt283.2.2))))) = some (r1, r2, r3) := h
 clear h
 replace H := Option.bind_eq_some_iff.mp H
 obtain ⟨⟨t277, t280, t281⟩, A20, H⟩ := H
 replace H : ((spec_l1Once.f s0_0 t280 t281 8).bind fun bt283 => (if bt283.1 = true then ((spec_l5Bend.f k s0_0 bt283.2.1 bt283.2.2 t277).bind fun bt286 => (some (bt286.1, bt286.2.1, bt286.2.2))) else (some (t277, bt283.2.1, bt283.2.2)))) = some (r1, r2, r3) := H
 have A2 := aM A20
 clear A20
 replace H := Option.bind_eq_some_iff.mp H
 obtain ⟨⟨t283, t284, t285⟩, A30, H⟩ := H
 replace H : (if t283 = true then ((spec_l5Bend.f k s0_0 t284 t285 t277).bind fun bt286 => (some (bt286.1, bt286.2.1, bt286.2.2))) else (some (t277, t284, t285))) = some (r1, r2, r3) := H
 have A3 := aM A30
 clear A30
 by_cases c4 : t283 = true
 {
 subst c4
 rw [if_pos rfl] at H
 replace H := Option.bind_eq_some_iff.mp H
 obtain ⟨⟨t286, t289, t290⟩, A50, H⟩ := H
 replace H : (some (t286, t289, t290)) = some (r1, r2, r3) := H
 have A5 := aM A50
 clear A50
 simp only [Option.some.injEq, Prod.mk.injEq] at H
 obtain ⟨rfl, rfl, rfl⟩ := H
 go_enter Try.func76, Try.ntmps76
 go_wp2_with (first | ((with_reducible refine gate_dst (N := 2) rfl ?_); refine bx_ 2 #[.slice none 0 0] 26 ?_; intro gb276 hg w6 hbox hb; replace HB := bS_ hb; have BK276 := aM (hbox); have GW276 := aM (kz_ w g hg qz2); have GE276 := aM ((Nat.le_trans HW0.out (by rw [hg]; exact (keep_size (w := w) (g := g) (row := none) qz2) : w.heap.size ≤ gb276) : w0.heap.size ≤ gb276)); replace HK := aM (KeepBut.trans qz2 (KeepBut.of_below hb g none) (.inl rfl)); have NB0_276 := aM ((by rw [hg]; exact Nat.ne_of_lt (IsS122.lt (show IsS122 w0 _ g s0_0 s0_1 s0_2 from qz3)) : g ≠ gb276)); have NB276_0 := aM ((by rw [hg]; exact Nat.ne_of_gt (IsS122.lt (show IsS122 w0 _ g s0_0 s0_1 s0_2 from qz3)) : gb276 ≠ g)); replace HI0 := aM (IsS122.below qz3 hb); clear hb hbox hg) | ((with_reducible refine gate_callee (f := 101) rfl ?_); refine goesL_ (some 5) rfl rfl Try.func101 (by kernel_rfl) rfl #[.pointer (some ⟨g, 0, none⟩)] rfl qz4 ?_; (with_reducible refine (spec_l5Draw.calls k g s0_0 s0_1 s0_2 t277 t280 t281 w0 _ ?side1 ?side2 A2.out).mono ?_); (case side1 => exact qz3); (case side2 => exact qz1); rintro e w7 ⟨v278, rfl, ho0, hi, hb, hk⟩; refine ⟨_, rfl, ?_⟩; have HO279 := aM (Kd.N_lower (Kd.N_mono (ok' := fun k_ => (w.heap.size ≤ k_) ∧ k_ ≠ gb276 ∧ k_ ≠ g) (Kd.S_N (Kd.S_bound ho0)) (fun k_ hk_ => ⟨(Nat.le_trans (keep_size (w := w) (g := g) (row := none) qz2) hk_.2.1), (Kd.freshB (bk_ BK276.out) k_ hk_.2.1), (IsS122.fresh qz3 k_ hk_.2.1)⟩)) (keep_size (w := w) (g := g) (row := none) qz2)); replace BK276 := aM (KeepBut.blk hk (bk_ BK276.out) NB276_0.out (by simp)); replace HK := aM (KeepBut.trans qz2 hk (.inl rfl)); replace HB := aM (hb); replace HI0 := aM (hi); (try clear hb); (try clear hb2); (try clear hk); (try clear hi); (try clear ho0)) | ((with_reducible refine gate_dst (N := 3) rfl ?_); refine bx_ 3 #[.slice none 0 0] 26 ?_; intro gb282 hg w8 hbox hb; replace HO279 := aM (Kd.N_below (Kd.N_elderB qz28 gb282 (Nat.le_of_eq hg.symm)) hb); replace HB := bS_ hb; have BK282 := aM (hbox); have GW282 := aM (kz_ w g hg qz2); have GE282 := aM ((Nat.le_trans HW0.out (by rw [hg]; exact (keep_size (w := w) (g := g) (row := none) qz2) : w.heap.size ≤ gb282) : w0.heap.size ≤ gb282)); replace HK := aM (KeepBut.trans qz2 (KeepBut.of_below hb g none) (.inl rfl)); obtain ⟨NB276_282, NB282_276⟩ := nb_ hg (bk_ BK276.out); replace BK276 := bB_ BK276 hb; have NB0_282 := aM ((by rw [hg]; exact Nat.ne_of_lt (IsS122.lt (show IsS122 w0 _ g s0_0 t280 t281 from qz3)) : g ≠ gb282)); have NB282_0 := aM ((by rw [hg]; exact Nat.ne_of_gt (IsS122.lt (show IsS122 w0 _ g s0_0 t280 t281 from qz3)) : gb282 ≠ g)); replace HI0 := aM (IsS122.below qz3 hb); clear hb hbox hg; obtain ⟨Ao9, co9, eo9⟩ := Kd.N_slice HO279.out; subst eo9; have hnb10 := NB282_276.out; have hnc10 := NB276_282.out; have hnb11 := NB282_0.out; have hnc11 := NB0_282.out; obtain ⟨hcz12_0, hfz12_0⟩ := bf_ BK282.out) | ((with_reducible refine gate_callee (f := 102) rfl ?_); refine goesL_ (some 7) rfl rfl Try.func102 (by kernel_rfl) rfl #[.pointer (some ⟨g, 0, none⟩), .int .i64 8] rfl qz4 ?_; (with_reducible refine (spec_l1Once.calls g s0_0 t280 t281 8 true t284 t285 w0 _ ?side1 ?side2 A3.out).mono ?_); (case side1 => exact qz3); (case side2 => exact qz1); rintro e w13 ⟨rfl, hi, hb, hk⟩; refine ⟨_, rfl, ?_⟩; replace BK276 := aM (KeepBut.blk hk (g' := gb276) (o := .cells #[.slice none 0 0] 26 (0, 0)) (bk2_ BK276.out) NB276_0.out (by simp)); replace HO279 := aM (Kd.N_mono (Kd.N_keep (Kd.N_mono (ok := fun k_ => ((((w.heap.size ≤ k_)) ∧ (k_ ≠ gb276 ∧ k_ ≠ g)) ∧ k_ ≠ gb282)) (by (with_reducible repeat (first | apply Kd.N_alloc | apply Kd.N_drewN | apply Kd.N_drew)); exact (Kd.N_mono (Kd.N_far (p := ⟨gb282, 0, none⟩) (Kd.N_mono HO279.out (fun k_ hk => (⟨hk, hk.2⟩ : _ ∧ k_ ≠ gb282))) (fun _ hk => hk.2) (.slice Ao9 t277.length co9)) (fun _ h_ => h_.1))) (fun k_ hk_ => (⟨hk_, hk_.1.2.2⟩ : _ ∧ k_ ≠ g))) hk (fun _ h => h.2)) (fun _ h => h.1)); replace BK282 := aM (KeepBut.blk hk (g' := gb282) (o := .cells #[.slice Ao9 t277.length co9] 26 (0, 0)) (by (with_reducible repeat (first | refine blk_drewN ?_ _ | refine blk_drew ?_ | refine blk_alloc ?_ _)); refine blk_put (cs := #[.slice none 0 0]) ?_ 0 _ rfl; exact bk_ BK282.out) NB282_0.out (by simp)); replace HK := aM (KeepBut.trans qz2 hk (.inl rfl)); replace HB := aM (hb); replace HI0 := aM (hi); (try clear hb); (try clear hb2); (try clear hk); (try clear hi); obtain ⟨hcz14_0, hfz14_0⟩ := bf_ BK282.out) | ((with_reducible refine gate_callee (f := 103) rfl ?_); refine goesL_ (some 10) rfl rfl Try.func103 (by kernel_rfl) rfl #[.pointer (some ⟨g, 0, none⟩), .agg #[.slice Ao9 t277.length co9]] rfl qz4 ?_; (with_reducible refine (spec_l5Bend.calls k g s0_0 t284 t285 _ _ t277 t286 t289 t290 w0 _ ?side1 ?side2 ?side3 ?side4 A5.out).mono ?_); (case side1 => exact qz3); (case side2 => exact qz1); (case side3 => exact Kd.C_foot_ownV (base := 0) (Kd.N_V (Kd.N_mono (ok := fun k_ => ((((w.heap.size ≤ k_)) ∧ (k_ ≠ gb276 ∧ k_ ≠ g)) ∧ k_ ≠ gb282)) qz28 (fun k_ hk_ => (⟨hk_, hk_.1.2.2⟩ : _ ∧ k_ ≠ g)))) (fun _ h_ => h_.2)); (case side4 => exact (Kd.N_reads' HO279.out).2.1); rintro e w15 ⟨v287, rfl, ho0, hi, hb, hk⟩; refine ⟨_, rfl, ?_⟩; have HO288 := aM (Kd.N_lower (Kd.N_mono (ok' := fun k_ => (w.heap.size ≤ k_) ∧ some k_ ≠ (.slice Ao9 t277.length co9 : Value).ownBlock ∧ k_ ≠ gb276 ∧ k_ ≠ gb282 ∧ k_ ≠ g) ho0 (fun k_ hk_ => ⟨(Nat.le_trans (keep_size (w := w) (g := g) (row := none) qz2) hk_), (Kd.fresh' (Kd.N_lt qz28) k_ hk_), (Kd.freshB (bk_ BK276.out) k_ hk_), (Kd.freshB (bk_ BK282.out) k_ hk_), (IsS122.fresh qz3 k_ hk_)⟩)) (keep_size (w := w) (g := g) (row := none) qz2)); replace BK276 := aM (KeepBut.blk hk (bk_ BK276.out) NB276_0.out (by simp)); replace HO279 := aM (Kd.N_mono (Kd.N_told (Kd.N_oldK (Kd.N_mono (ok := fun k_ => ((((w.heap.size ≤ k_)) ∧ (k_ ≠ gb276 ∧ k_ ≠ g)) ∧ k_ ≠ gb282)) qz28 (fun k_ hk_ => (⟨hk_, hk_.1.2.2⟩ : _ ∧ k_ ≠ g))) hk) (Kd.N_base ho0)) (fun _ h_ => h_.1)); replace BK282 := aM (KeepBut.blk hk (bk_ BK282.out) NB282_0.out (by simp)); replace HK := aM (KeepBut.trans qz2 hk (.inl rfl)); replace HB := aM (hb); replace HI0 := aM (hi); (try clear hb); (try clear hb2); (try clear hk); (try clear hi); (try clear ho0); obtain ⟨Ao16, co16, eo16⟩ := Kd.N_slice HO288.out; subst eo16; obtain ⟨hcz17_0, hfz17_0⟩ := bf_ BK282.out; have hnb18 := NB276_0.out; have hnc18 := NB0_276.out; obtain ⟨hcz19_0, hfz19_0⟩ := bf_ BK276.out))
 refine bodyPost_ret (results_cell_row rfl _ _ gb276 26 #[.slice Ao16 t286.length co16] (0, 0) _ rfl (by (with_reducible repeat (first | refine blk_drewN ?_ _ | refine blk_drew ?_ | refine blk_alloc ?_ _)); refine blk_put (cs := #[.slice none 0 0]) ?_ 0 _ rfl; (with_reducible repeat (first | refine blk_drewN ?_ _ | refine blk_drew ?_ | refine blk_alloc ?_ _)); exact bk2_ BK276.out) Try.underlying26 rfl (by kernel_rfl)) rfl ?_
 exact ⟨_, qzw, by (with_reducible repeat (first | apply Kd.N_alloc | apply Kd.N_drewN | apply Kd.N_drew)); exact Kd.N_mono (Kd.N_far (p := ⟨gb276, 0, none⟩) (Kd.N_far (p := ⟨gb282, 0, none⟩) (Kd.N_mono (Kd.N_mono HO288.out (fun k_ hk => (⟨hk, hk.2.2.2.1⟩ : _ ∧ k_ ≠ gb282))) (fun k_ hk => (⟨hk, hk.1.2.2.1⟩ : _ ∧ k_ ≠ gb276))) (fun _ hk => hk.1.2) (.slice Ao16 t286.length co16)) (fun _ hk => hk.2) (.slice Ao16 t286.length co16)) (fun _ hk => hk.1.1.1), qz3, qz1, qz2⟩
 }
 {
 replace c4 := Bool.eq_false_iff.mpr c4
 subst c4
 rw [if_neg (show ¬ (false = true) by decide)] at H
 simp only [Option.some.injEq, Prod.mk.injEq] at H
 obtain ⟨rfl, rfl, rfl⟩ := H
 go_enter Try.func76, Try.ntmps76
 go_wp2_with (first | ((with_reducible refine gate_dst (N := 2) rfl ?_); refine bx_ 2 #[.slice none 0 0] 26 ?_; intro gb276 hg w20 hbox hb; replace HB := bS_ hb; have BK276 := aM (hbox); have GW276 := aM (kz_ w g hg qz2); have GE276 := aM ((Nat.le_trans HW0.out (by rw [hg]; exact (keep_size (w := w) (g := g) (row := none) qz2) : w.heap.size ≤ gb276) : w0.heap.size ≤ gb276)); replace HK := aM (KeepBut.trans qz2 (KeepBut.of_below hb g none) (.inl rfl)); have NB0_276 := aM ((by rw [hg]; exact Nat.ne_of_lt (IsS122.lt (show IsS122 w0 _ g s0_0 s0_1 s0_2 from qz3)) : g ≠ gb276)); have NB276_0 := aM ((by rw [hg]; exact Nat.ne_of_gt (IsS122.lt (show IsS122 w0 _ g s0_0 s0_1 s0_2 from qz3)) : gb276 ≠ g)); replace HI0 := aM (IsS122.below qz3 hb); clear hb hbox hg) | ((with_reducible refine gate_callee (f := 101) rfl ?_); refine goesL_ (some 5) rfl rfl Try.func101 (by kernel_rfl) rfl #[.pointer (some ⟨g, 0, none⟩)] rfl qz4 ?_; (with_reducible refine (spec_l5Draw.calls k g s0_0 s0_1 s0_2 t277 t280 t281 w0 _ ?side1 ?side2 A2.out).mono ?_); (case side1 => exact qz3); (case side2 => exact qz1); rintro e w21 ⟨v278, rfl, ho0, hi, hb, hk⟩; refine ⟨_, rfl, ?_⟩; have HO279 := aM (Kd.N_lower (Kd.N_mono (ok' := fun k_ => (w.heap.size ≤ k_) ∧ k_ ≠ gb276 ∧ k_ ≠ g) (Kd.S_N (Kd.S_bound ho0)) (fun k_ hk_ => ⟨(Nat.le_trans (keep_size (w := w) (g := g) (row := none) qz2) hk_.2.1), (Kd.freshB (bk_ BK276.out) k_ hk_.2.1), (IsS122.fresh qz3 k_ hk_.2.1)⟩)) (keep_size (w := w) (g := g) (row := none) qz2)); replace BK276 := aM (KeepBut.blk hk (bk_ BK276.out) NB276_0.out (by simp)); replace HK := aM (KeepBut.trans qz2 hk (.inl rfl)); replace HB := aM (hb); replace HI0 := aM (hi); (try clear hb); (try clear hb2); (try clear hk); (try clear hi); (try clear ho0)) | ((with_reducible refine gate_dst (N := 3) rfl ?_); refine bx_ 3 #[.slice none 0 0] 26 ?_; intro gb282 hg w22 hbox hb; replace HO279 := aM (Kd.N_below (Kd.N_elderB qz28 gb282 (Nat.le_of_eq hg.symm)) hb); replace HB := bS_ hb; have BK282 := aM (hbox); have GW282 := aM (kz_ w g hg qz2); have GE282 := aM ((Nat.le_trans HW0.out (by rw [hg]; exact (keep_size (w := w) (g := g) (row := none) qz2) : w.heap.size ≤ gb282) : w0.heap.size ≤ gb282)); replace HK := aM (KeepBut.trans qz2 (KeepBut.of_below hb g none) (.inl rfl)); obtain ⟨NB276_282, NB282_276⟩ := nb_ hg (bk_ BK276.out); replace BK276 := bB_ BK276 hb; have NB0_282 := aM ((by rw [hg]; exact Nat.ne_of_lt (IsS122.lt (show IsS122 w0 _ g s0_0 t280 t281 from qz3)) : g ≠ gb282)); have NB282_0 := aM ((by rw [hg]; exact Nat.ne_of_gt (IsS122.lt (show IsS122 w0 _ g s0_0 t280 t281 from qz3)) : gb282 ≠ g)); replace HI0 := aM (IsS122.below qz3 hb); clear hb hbox hg; obtain ⟨Ao23, co23, eo23⟩ := Kd.N_slice HO279.out; subst eo23; have hnb24 := NB282_276.out; have hnc24 := NB276_282.out; have hnb25 := NB282_0.out; have hnc25 := NB0_282.out; obtain ⟨hcz26_0, hfz26_0⟩ := bf_ BK282.out) | ((with_reducible refine gate_callee (f := 102) rfl ?_); refine goesL_ (some 7) rfl rfl Try.func102 (by kernel_rfl) rfl #[.pointer (some ⟨g, 0, none⟩), .int .i64 8] rfl qz4 ?_; (with_reducible refine (spec_l1Once.calls g s0_0 t280 t281 8 false t284 t285 w0 _ ?side1 ?side2 A3.out).mono ?_); (case side1 => exact qz3); (case side2 => exact qz1); rintro e w27 ⟨rfl, hi, hb, hk⟩; refine ⟨_, rfl, ?_⟩; replace BK276 := aM (KeepBut.blk hk (g' := gb276) (o := .cells #[.slice none 0 0] 26 (0, 0)) (bk2_ BK276.out) NB276_0.out (by simp)); replace HO279 := aM (Kd.N_mono (Kd.N_keep (Kd.N_mono (ok := fun k_ => ((((w.heap.size ≤ k_)) ∧ (k_ ≠ gb276 ∧ k_ ≠ g)) ∧ k_ ≠ gb282)) (by (with_reducible repeat (first | apply Kd.N_alloc | apply Kd.N_drewN | apply Kd.N_drew)); exact (Kd.N_mono (Kd.N_far (p := ⟨gb282, 0, none⟩) (Kd.N_mono HO279.out (fun k_ hk => (⟨hk, hk.2⟩ : _ ∧ k_ ≠ gb282))) (fun _ hk => hk.2) (.slice Ao23 t277.length co23)) (fun _ h_ => h_.1))) (fun k_ hk_ => (⟨hk_, hk_.1.2.2⟩ : _ ∧ k_ ≠ g))) hk (fun _ h => h.2)) (fun _ h => h.1)); replace BK282 := aM (KeepBut.blk hk (g' := gb282) (o := .cells #[.slice Ao23 t277.length co23] 26 (0, 0)) (by (with_reducible repeat (first | refine blk_drewN ?_ _ | refine blk_drew ?_ | refine blk_alloc ?_ _)); refine blk_put (cs := #[.slice none 0 0]) ?_ 0 _ rfl; exact bk_ BK282.out) NB282_0.out (by simp)); replace HK := aM (KeepBut.trans qz2 hk (.inl rfl)); replace HB := aM (hb); replace HI0 := aM (hi); (try clear hb); (try clear hb2); (try clear hk); (try clear hi); obtain ⟨hcz28_0, hfz28_0⟩ := bf_ BK282.out; have hnb29 := NB276_0.out; have hnc29 := NB0_276.out; obtain ⟨hcz30_0, hfz30_0⟩ := bf_ BK276.out))
 refine bodyPost_ret (results_cell_row rfl _ _ gb276 26 #[.slice Ao23 t277.length co23] (0, 0) _ rfl (by (with_reducible repeat (first | refine blk_drewN ?_ _ | refine blk_drew ?_ | refine blk_alloc ?_ _)); refine blk_put (cs := #[.slice none 0 0]) ?_ 0 _ rfl; exact bk_ BK276.out) Try.underlying26 rfl (by kernel_rfl)) rfl ?_
 exact ⟨_, qzw, by (with_reducible repeat (first | apply Kd.N_alloc | apply Kd.N_drewN | apply Kd.N_drew)); exact Kd.N_mono (Kd.N_far (p := ⟨gb276, 0, none⟩) (Kd.N_mono HO279.out (fun k_ hk => (⟨hk, hk.1.2.1⟩ : _ ∧ k_ ≠ gb276))) (fun _ hk => hk.2) (.slice Ao23 t277.length co23)) (fun _ hk => hk.1.1.1), qz3, qz1, qz2⟩

 }
/-! ### spec_l5Draw4: function 59 -/
def spec_l5Draw4.f (k : Nat) (l0 : List Int) : Option ((List (S79)) × Int × Int × Int) := (spec_l1New.f k l0).bind fun bt292 => ((spec_l5DrawAny.f k bt292.1 bt292.2.1 bt292.2.2).bind fun bt296 => ((spec_l1Int.f bt292.1 bt296.2.1 bt296.2.2 (([10, 20, 30, 40, 50, 7] : List Int))).bind fun bt305 => ((spec_l1Int.f bt292.1 bt305.2.1 bt305.2.2 (([1, 2, 3, 4, 5, 0, 51, 7] : List Int))).bind fun bt311 => ((spec_l1Int.f bt292.1 bt311.2.1 bt311.2.2 (([1, 1, 2, 3, 5, 0, 1000, 1001] : List Int))).bind fun bt317 => (some (bt296.1, bt305.1, bt311.1, bt317.1))))))
theorem spec_l5Draw4.mono : ∀ a0 k, LeO (spec_l5Draw4.f k a0) (spec_l5Draw4.f (k + 1) a0) := by
 intro a0 k
 unfold spec_l5Draw4.f
 have j0 := @spec_l1New.mono
 have j1 := @spec_l5DrawAny.mono
 exact qL
def spec_l5Draw4.T3 : Bool × List (List Nat × List Nat) := (true, [([], []), ([], []), ([], []), ([1, 2], [1, 2]), ([], []), ([], []), ([4, 5, 3], [4, 5]), ([], []), ([], []), ([7, 8, 6], [7, 8]), ([0, 9, 0], [0]), ([3, 10, 0, 1, 2, 3, 10], [3]), ([6, 11, 0, 1, 2, 3, 4, 5, 6, 10, 11], [6]), ([9, 12, 0, 1, 2, 3, 4, 5, 6, 7, 8, 9, 10, 11, 12], [9])])
def spec_l5Draw4.B3 : List Nat := [0, 0, 0, 6, 0, 0, 62, 0, 0, 510, 1023, 2047, 4095, 8191]
theorem spec_l5Draw4.tab3 : rtab .any (opsOf Try.f59 3) = spec_l5Draw4.T3 := by kernel_rfl
theorem spec_l5Draw4.bits3 : waitsOk spec_l5Draw4.T3.2 spec_l5Draw4.B3 = true := by kernel_rfl
set_option maxHeartbeats 8000000 in
set_option maxRecDepth 100000 in
theorem spec_l5Draw4.calls (k : Nat) (A0 : Option Addr) (c0 : Nat) (l0 : List Int) (r1 : List (S79)) (r2 : Int) (r3 : Int) (r4 : Int) (w : World) (hr0 : Kd.C (Kd.int .u8) w A0 l0.length l0) (hc0 : l0.length ≤ c0) (h : spec_l5Draw4.f k l0 = some (r1, r2, r3, r4)) :
  Calls Try.prog 59 #[.slice A0 l0.length c0] w fun e w' => ∃ v0_ : Value, e = .returned (.tuple #[.agg #[v0_], .int .i64 r2, .int .i64 r3, .int .i64 r4]) ∧ Kd.N k79 79 w' w.heap.size (fun k_ => (w.heap.size ≤ k_)) v0_ r1 ∧ Below w.heap.size w w' := by
 have hu26 := Try.underlying26
 have HR0 := aM hr0
 have HC0 := aM hc0
 clear hr0 hc0
 have HB := aM (Below.refl w.heap.size w)
 have H : ((spec_l1New.f k l0).bind fun bt292 => ((spec_l5DrawAny.f k bt292.1 bt292.2.1 bt292.2.2).bind fun bt296 => ((spec_l1Int.f bt292.1 bt296.2.1 bt296.2.2 (([10, 20, 30, 40, 50, 7] : List Int))).bind fun bt305 => ((spec_l1Int.f bt292.1 bt305.2.1 bt305.2.2 (([1, 2, 3, 4, 5, 0, 51, 7] : List Int))).bind fun bt311 => ((spec_l1Int.f bt292.1 bt311.2.1 bt311.2.2 (([1, 1, 2, 3, 5, 0, 1000, 1001] : List Int))).bind fun bt317 => (some (bt296.1, bt305.1, bt311.1, bt317.1))))))) = some (r1, r2, r3, r4) := h
 clear h
 replace H := Option.bind_eq_some_iff.mp H
 obtain ⟨⟨t292, t293, t294⟩, A20, H⟩ := H
 replace H : ((spec_l5DrawAny.f k t292 t293 t294).bind fun bt296 => ((spec_l1Int.f t292 bt296.2.1 bt296.2.2 (([10, 20, 30, 40, 50, 7] : List Int))).bind fun bt305 => ((spec_l1Int.f t292 bt305.2.1 bt305.2.2 (([1, 2, 3, 4, 5, 0, 51, 7] : List Int))).bind fun bt311 => ((spec_l1Int.f t292 bt311.2.1 bt311.2.2 (([1, 1, 2, 3, 5, 0, 1000, 1001] : List Int))).bind fun bt317 => (some (bt296.1, bt305.1, bt311.1, bt317.1)))))) = some (r1, r2, r3, r4) := H
 have A2 := aM A20
 clear A20
 replace H := Option.bind_eq_some_iff.mp H
 obtain ⟨⟨t296, t299, t300⟩, A30, H⟩ := H
 replace H : ((spec_l1Int.f t292 t299 t300 (([10, 20, 30, 40, 50, 7] : List Int))).bind fun bt305 => ((spec_l1Int.f t292 bt305.2.1 bt305.2.2 (([1, 2, 3, 4, 5, 0, 51, 7] : List Int))).bind fun bt311 => ((spec_l1Int.f t292 bt311.2.1 bt311.2.2 (([1, 1, 2, 3, 5, 0, 1000, 1001] : List Int))).bind fun bt317 => (some (t296, bt305.1, bt311.1, bt317.1))))) = some (r1, r2, r3, r4) := H
 have A3 := aM A30
 clear A30
 obtain ⟨y302, hy302⟩ : ∃ y_ : List Int, y_ = (([10, 20, 30, 40, 50, 7] : List Int)) := ⟨_, rfl⟩
 replace H : ((spec_l1Int.f t292 t299 t300 y302).bind fun bt305 => ((spec_l1Int.f t292 bt305.2.1 bt305.2.2 (([1, 2, 3, 4, 5, 0, 51, 7] : List Int))).bind fun bt311 => ((spec_l1Int.f t292 bt311.2.1 bt311.2.2 (([1, 1, 2, 3, 5, 0, 1000, 1001] : List Int))).bind fun bt317 => (some (t296, bt305.1, bt311.1, bt317.1))))) = some (r1, r2, r3, r4) := by first | (rw [hy302]; with_reducible exact H) | (have H2_ := (Option.bind_some _ _).symm.trans H; rw [hy302]; with_reducible exact H2_) | (have H2_ := (Option.bind_some _ _).symm.trans H; with_reducible exact H2_) | with_reducible exact H | (rw [hy302]; exact H) | exact H
 have Ny302 := aM hy302
 clear hy302
 replace H := Option.bind_eq_some_iff.mp H
 obtain ⟨⟨t305, t306, t307⟩, A40, H⟩ := H
 replace H : ((spec_l1Int.f t292 t306 t307 (([1, 2, 3, 4, 5, 0, 51, 7] : List Int))).bind fun bt311 => ((spec_l1Int.f t292 bt311.2.1 bt311.2.2 (([1, 1, 2, 3, 5, 0, 1000, 1001] : List Int))).bind fun bt317 => (some (t296, t305, bt311.1, bt317.1)))) = some (r1, r2, r3, r4) := H
 have A4 := aM A40
 clear A40
 obtain ⟨y308, hy308⟩ : ∃ y_ : List Int, y_ = (([1, 2, 3, 4, 5, 0, 51, 7] : List Int)) := ⟨_, rfl⟩
 replace H : ((spec_l1Int.f t292 t306 t307 y308).bind fun bt311 => ((spec_l1Int.f t292 bt311.2.1 bt311.2.2 (([1, 1, 2, 3, 5, 0, 1000, 1001] : List Int))).bind fun bt317 => (some (t296, t305, bt311.1, bt317.1)))) = some (r1, r2, r3, r4) := by first | (rw [hy308]; with_reducible exact H) | (have H2_ := (Option.bind_some _ _).symm.trans H; rw [hy308]; with_reducible exact H2_) | (have H2_ := (Option.bind_some _ _).symm.trans H; with_reducible exact H2_) | with_reducible exact H | (rw [hy308]; exact H) | exact H
 have Ny308 := aM hy308
 clear hy308
 replace H := Option.bind_eq_some_iff.mp H
 obtain ⟨⟨t311, t312, t313⟩, A50, H⟩ := H
 replace H : ((spec_l1Int.f t292 t312 t313 (([1, 1, 2, 3, 5, 0, 1000, 1001] : List Int))).bind fun bt317 => (some (t296, t305, t311, bt317.1))) = some (r1, r2, r3, r4) := H
 have A5 := aM A50
 clear A50
 obtain ⟨y314, hy314⟩ : ∃ y_ : List Int, y_ = (([1, 1, 2, 3, 5, 0, 1000, 1001] : List Int)) := ⟨_, rfl⟩
 replace H : ((spec_l1Int.f t292 t312 t313 y314).bind fun bt317 => (some (t296, t305, t311, bt317.1))) = some (r1, r2, r3, r4) := by first | (rw [hy314]; with_reducible exact H) | (have H2_ := (Option.bind_some _ _).symm.trans H; rw [hy314]; with_reducible exact H2_) | (have H2_ := (Option.bind_some _ _).symm.trans H; with_reducible exact H2_) | with_reducible exact H | (rw [hy314]; exact H) | exact H
 have Ny314 := aM hy314
 clear hy314
 replace H := Option.bind_eq_some_iff.mp H
 obtain ⟨⟨t317, t318, t319⟩, A60, H⟩ := H
 replace H : (some (t296, t305, t311, t317)) = some (r1, r2, r3, r4) := H
 have A6 := aM A60
 clear A60
 simp only [Option.some.injEq, Prod.mk.injEq] at H
 obtain ⟨rfl, rfl, rfl, rfl⟩ := H
 go_enter Try.func59, Try.ntmps59
 try go_wp2_with (first | ((with_reducible refine gate_dst (N := 2) rfl ?_); refine bx_ 2 #[.slice none 0 0] 26 ?_; intro gb291 hg w7 hbox hb; have BK291 := aM (hbox); have GW291 := aM (bz_ w hg qz1); have GE291 := GW291; replace HB := bS_ hb; clear hb hbox hg) | ((with_reducible refine gate_callee (f := 75) rfl ?_); refine goesL_ (some 9) rfl rfl Try.func75 (by kernel_rfl) rfl #[.slice A0 l0.length c0] rfl qz4 ?_; (with_reducible refine (spec_l1New.calls k _ _ l0 t292 t293 t294 w _ ?side1 ?side2 ?side3 A2.out).mono ?_); (case side1 => exact qz1); (case side2 => exact HR0.out); (case side3 => exact HC0.out); rintro e w8 ⟨g295, rfl, hi, hb, hb2⟩; refine ⟨_, rfl, ?_⟩; replace HB := aM (hb); have HI295 := aM (hi); have NB295_291 := aM (IsS122.ne_blk hi (blk_below (bk_ BK291.out) hb2) (by decide)); have NB291_295 := aM (Ne.symm (IsS122.ne_blk hi (blk_below (bk_ BK291.out) hb2) (by decide))); replace BK291 := aM (blk_below (bk_ BK291.out) hb2); (try clear hb); (try clear hb2); (try clear hk); (try clear hi)) | ((with_reducible refine gate_callee (f := 76) rfl ?_); refine goesL_ (some 11) rfl rfl Try.func76 (by kernel_rfl) rfl #[.pointer (some ⟨g295, 0, none⟩)] rfl qz4 ?_; (with_reducible refine (spec_l5DrawAny.calls k g295 t292 t293 t294 t296 t299 t300 w _ ?side1 ?side2 A3.out).mono ?_); (case side1 => exact qz5); (case side2 => exact qz1); rintro e w9 ⟨v297, rfl, ho0, hi, hb, hk⟩; refine ⟨_, rfl, ?_⟩; have HO298 := aM (Kd.N_lower (Kd.N_mono (ok' := fun k_ => (w.heap.size ≤ k_) ∧ k_ ≠ gb291 ∧ k_ ≠ g295) ho0 (fun k_ hk_ => ⟨(Nat.le_trans (below_size qz1) hk_), (Kd.freshB (bk_ BK291.out) k_ hk_), (IsS122.fresh qz5 k_ hk_)⟩)) (below_size qz1)); replace BK291 := aM (KeepBut.blk hk (bk_ BK291.out) NB291_295.out (by simp)); replace HB := aM (hb); replace HI295 := aM (hi); (try clear hb); (try clear hb2); (try clear hk); (try clear hi); (try clear ho0)) | ((with_reducible refine gate_dst (N := 7) rfl ?_); refine bx_ 7 #[.slice none 0 0] 26 ?_; intro gb301 hg w10 hbox hb; replace HO298 := aM (Kd.N_below (Kd.N_elderB qz12 gb301 (Nat.le_of_eq hg.symm)) hb); have BK301 := aM (hbox); have GW301 := aM (bz_ w hg qz1); have GE301 := GW301; replace HB := bS_ hb; obtain ⟨NB291_301, NB301_291⟩ := nb_ hg (bk_ BK291.out); replace BK291 := bB_ BK291 hb; have NB295_301 := aM ((by rw [hg]; exact Nat.ne_of_lt (IsS122.lt (show IsS122 w _ g295 t292 t299 t300 from qz5)) : g295 ≠ gb301)); have NB301_295 := aM ((by rw [hg]; exact Nat.ne_of_gt (IsS122.lt (show IsS122 w _ g295 t292 t299 t300 from qz5)) : gb301 ≠ g295)); replace HI295 := aM (IsS122.below qz5 hb); clear hb hbox hg; obtain ⟨Ao11, co11, eo11⟩ := Kd.N_slice HO298.out; subst eo11; have hnb12 := NB301_291.out; have hnc12 := NB291_301.out; have hnb13 := NB301_295.out; have hnc13 := NB295_301.out; obtain ⟨hcz14_0, hfz14_0⟩ := bf_ BK301.out))
 generalize hq_ : (w10.setCell ⟨gb301, 0, none⟩ (.slice Ao11 t296.length co11)) = w15
 replace HO298 : Aside0 (Kd.N k79 79 w15 w.heap.size (fun k_ => (w.heap.size ≤ k_) ∧ k_ ≠ gb291 ∧ k_ ≠ g295 ∧ k_ ≠ gb301) (.slice Ao11 t296.length co11) t296) := ⟨by rw [← hq_]; exact (by (with_reducible repeat (first | apply Kd.N_alloc | apply Kd.N_drewN | apply Kd.N_drew)); exact Kd.N_mono (Kd.N_far (p := ⟨gb301, 0, none⟩) (Kd.N_mono HO298.out (fun k_ hk => (⟨hk, hk.2⟩ : _ ∧ k_ ≠ gb301))) (fun _ hk => hk.2) (.slice Ao11 t296.length co11)) (fun _ hk => ⟨hk.1.1.1, ⟨hk.1.1.2.1, ⟨hk.1.1.2.2, hk.1.2⟩⟩⟩))⟩
 replace BK291 : Aside0 (w15.heap[gb291]? = some (.cells #[.slice none 0 0] 26 (0, 0))) := ⟨by rw [← hq_]; exact (bk2_ BK291.out)⟩
 replace BK301 : Aside0 (w15.heap[gb301]? = some (.cells #[.slice Ao11 t296.length co11] 26 (0, 0))) := ⟨by rw [← hq_]; exact (by (with_reducible repeat (first | refine blk_drewN ?_ _ | refine blk_drew ?_ | refine blk_alloc ?_ _)); refine blk_put (cs := #[.slice none 0 0]) ?_ 0 _ rfl; exact bk_ BK301.out)⟩
 replace HB : Aside0 (Below w.heap.size w w15) := ⟨by rw [← hq_]; exact qz1⟩
 replace HI295 : Aside0 (IsS122 w w15 g295 t292 t299 t300) := ⟨by rw [← hq_]; exact qz5⟩
 clear hq_
 replace HO298 := aM (Kd.N_drew HO298.out)
 replace BK291 := aM (blk_drew BK291.out)
 replace BK301 := aM (blk_drew BK301.out)
 replace HI295 := aM (IsS122.drew HI295.out)
 replace HB := aM (below_drew1 HB.out)
 refine start_ (n := 14) (S := fun w' => True) (ds := []) #[false, false, false, false, false, false, false, false, false, false, false, false, false, false] (by kernel_rfl) rfl rfl trivial (fun hHeld => ?_); refine with_tabW spec_l5Draw4.tab3 spec_l5Draw4.bits3 (fun HT_ HW_ => ?_)
 generalize w15.drew = w16 at HO298 BK291 BK301 HI295 HB hHeld ⊢
 refine pI_ 1 13 (bqz 14 2) ?_
 refine jI_ 4 16 ?_
 refine jI_ 7 19 ?_
 refine inv_at [0, 2, 3, 5, 6, 8, 9, 10, 11, 12, 13] (fun a0_ b a w' => ∃ (v303 : Value) (v309 : Value) (v315 : Value), a = putSel a0_ b [(0, 12, .agg #[.slice Ao11 t296.length co11]), (2, 14, v303), (3, 15, .int .i64 t305), (5, 17, v309), (6, 18, .int .i64 t311), (8, 20, v315), (9, 21, .int .i64 t317), (11, 3, .int .i64 t305), (12, 4, .int .i64 t311), (13, 5, .int .i64 t317)] ∧ (Kd.N k79 79 w' w.heap.size (fun k_ => (w.heap.size ≤ k_) ∧ k_ ≠ gb291 ∧ k_ ≠ g295 ∧ k_ ≠ gb301) (.slice Ao11 t296.length co11) t296) ∧ (b 10 = false → w'.heap[gb291]? = some (.cells #[.slice none 0 0] 26 (0, 0))) ∧ (w'.heap[gb301]? = some (.cells #[.slice Ao11 t296.length co11] 26 (0, 0))) ∧ (b 3 = false → IsS122 w w' g295 t292 t299 t300) ∧ (Below w.heap.size w w') ∧ (b 2 = true → Kd.R (Kd.int .i64) 3 w' w.heap.size (fun k_ => (w.heap.size ≤ k_)) v303 y302) ∧ (b 3 = true → b 6 = false → IsS122 w w' g295 t292 t306 t307) ∧ (b 5 = true → Kd.R (Kd.int .i64) 3 w' w.heap.size (fun k_ => (w.heap.size ≤ k_)) v309 y308) ∧ (b 6 = true → b 9 = false → IsS122 w w' g295 t292 t312 t313) ∧ (b 8 = true → Kd.R (Kd.int .i64) 3 w' w.heap.size (fun k_ => (w.heap.size ≤ k_)) v315 y314) ∧ (b 9 = true → IsS122 w w' g295 t292 t318 t319) ∧ (b 10 = true → w'.heap[gb291]? = some (.cells #[.slice Ao11 t296.length co11] 26 (0, 0)))) HT_.out HW_.out (by kernel_rfl) (by kernel_rfl) ?_ ?_ ?_
 {
 exact ⟨.bool false, .bool false, .bool false, by simp only [putSel, Bool.false_eq_true, if_false], HO298.out, fun _ => BK291.out, BK301.out, fun _ => HI295.out, HB.out, fun h_ => absurd h_ (by decide), fun h_ => absurd h_ (by decide), fun h_ => absurd h_ (by decide), fun h_ => absurd h_ (by decide), fun h_ => absurd h_ (by decide), fun h_ => absurd h_ (by decide), fun h_ => absurd h_ (by decide)⟩
 }
 {
 skip
 clear BK291 BK301 HB HI295 HO298
 refine steps_cons ?_ ?_
 {
 rintro b a w' ⟨v303, v309, v315, ha, Q_HO298, Q_BK291, Q_BK301, Q_HI295, Q_HB, Q_HO304, Q_HI295_e3, Q_HO310, Q_HI295_e6, Q_HO316, Q_HI295_e9, Q_BK291_e10⟩ hb_ hon hoff
 refine ⟨_, rfl, fun K hK => ?_⟩
 have e7 : a.tmps[7]? = some (.pointer (some ⟨gb301, 0, none⟩)) := by rw [ha]; exact (putSel_off rfl).trans rfl
 replace ha := aM ha
 have HO298 := aM Q_HO298
 have BK291 := aM (Q_BK291 (hoff 10 (by kernel_rfl)))
 have BK301 := aM Q_BK301
 have HB := aM Q_HB
 have hc0_ : w'.cell? ⟨gb301, 0, none⟩ = some (.slice Ao11 t296.length co11) := (blk_cell BK301.out 0).trans rfl
 refine value_ (w1 := w') (v := .agg #[.slice Ao11 t296.length co11]) (by rfl) rfl ?_ ?_
 {
 go_simp
 (try simp only [i64_w])
 try rfl
 }
 refine hK.out _ _ ⟨v303, v309, v315, (by rw [ha.out]; exact putSel_upk 0 hb_ rfl rfl rfl), Q_HO298, Q_BK291, Q_BK301, Q_HI295, Q_HB, Q_HO304, Q_HI295_e3, Q_HO310, Q_HI295_e6, Q_HO316, Q_HI295_e9, fun h0_ => absurd ((hoff 10 (by kernel_rfl)).symm.trans h0_) (by decide)⟩
 }
 refine steps_cons ?_ ?_
 {
 rintro b a w' ⟨v303, v309, v315, ha, Q_HO298, Q_BK291, Q_BK301, Q_HI295, Q_HB, Q_HO304, Q_HI295_e3, Q_HO310, Q_HI295_e6, Q_HO316, Q_HI295_e9, Q_BK291_e10⟩ hb_ hon hoff
 refine ⟨_, rfl, fun K hK => ?_⟩
 replace ha := aM ha
 have HO298 := aM Q_HO298
 have BK291 := aM (Q_BK291 (hoff 10 (by kernel_rfl)))
 have BK301 := aM Q_BK301
 have HI295 := aM (Q_HI295 (hoff 3 (by kernel_rfl)))
 have HB := aM Q_HB
 refine Kd.R_lit_step (Kd.int .i64) _ 3 ?hg (N := 14) ?hd (xs := ([10, 20, 30, 40, 50, 7] : List Int)) (inner := [.int .i64 10, .int .i64 20, .int .i64 30, .int .i64 40, .int .i64 50, .int .i64 7]) (ok := fun _ => True) (okp := fun _ => True) ?hr ?hp (fun _ hk => hk) trivial (Below.refl _ _) (Nat.le_refl _) (by simp) ?_; (case hd => rfl); (case hg => rfl); (case hr => exact qz27); (case hp => exact (Reps.one (show Kd.M (Kd.int .i64) _ _ _ 10 [.int .i64 10] from rfl) (Reps.one (show Kd.M (Kd.int .i64) _ _ _ 20 [.int .i64 20] from rfl) (Reps.one (show Kd.M (Kd.int .i64) _ _ _ 30 [.int .i64 30] from rfl) (Reps.one (show Kd.M (Kd.int .i64) _ _ _ 40 [.int .i64 40] from rfl) (Reps.one (show Kd.M (Kd.int .i64) _ _ _ 50 [.int .i64 50] from rfl) (Reps.one (show Kd.M (Kd.int .i64) _ _ _ 7 [.int .i64 7] from rfl) (Reps.none _ _))))))))
 intro v303 w17 ho18 hb hg_ hnew_
 clear hg_ hnew_
 (first | rw [← Ny302.out] at ho18 | (simp only [Int.reduceToNat] at ho18; rw [← Ny302.out] at ho18))
 have n0_ := aM (Kd.N_below qz12 hb)
 have n1_ := aM (Kd.R_lower (Kd.R_newM (M := fun k_ => (w.heap.size ≤ k_)) ho18 (below_size qz1) (fun k_ h_ => h_)) (below_size qz1))
 have n2_ := aM (blk_below (bk_ BK291.out) hb)
 have n3_ := aM (IsS122.below qz5 hb)
 have n4_ := aM (blk_below (bk_ BK301.out) hb)
 have n5_ := aM (below_step qz1 hb)
 have z_HO310 := fun (h0_ : b 5 = true) => (show Kd.R (Kd.int .i64) 3 w17 w.heap.size (fun k_ => (w.heap.size ≤ k_)) v309 y308 from by first | exact (Kd.R_elder' qz26 (Kd.R_base ho18) hb) | exact Kd.R_mono (Kd.R_elder' qz26 (Kd.R_base ho18) hb) (fun _ h_ => by first | trivial | exact h_ | exact h_.1))
 have z_HO316 := fun (h0_ : b 8 = true) => (show Kd.R (Kd.int .i64) 3 w17 w.heap.size (fun k_ => (w.heap.size ≤ k_)) v315 y314 from by first | exact (Kd.R_elder' qz21 (Kd.R_base ho18) hb) | exact Kd.R_mono (Kd.R_elder' qz21 (Kd.R_base ho18) hb) (fun _ h_ => by first | trivial | exact h_ | exact h_.1))
 clear HO298 BK291 HI295 BK301 HB
 have HO298 := n0_
 have HO304 := n1_
 have BK291 := n2_
 have HI295 := n3_
 have BK301 := n4_
 have HB := n5_
 clear n0_ n1_ n2_ n3_ n4_ n5_ hb ho18
 refine hK.out _ _ ⟨v303, v309, v315, (by rw [ha.out]; exact putSel_upk 1 hb_ rfl rfl rfl), qz12, fun _ => (bk_ BK291.out), (bk_ BK301.out), fun _ => qz5, qz1, fun _ => (by (with_reducible repeat (first | apply Kd.R_alloc | apply Kd.R_drewN | apply Kd.R_drew)); exact Kd.R_mono HO304.out (fun _ hk => hk.1)), fun h0_ _ => absurd ((hoff 3 (by kernel_rfl)).symm.trans h0_) (by decide), z_HO310, fun h0_ _ => absurd ((hoff 6 (by kernel_rfl)).symm.trans h0_) (by decide), z_HO316, fun h0_ => absurd ((hoff 9 (by kernel_rfl)).symm.trans h0_) (by decide), fun h0_ => absurd ((hoff 10 (by kernel_rfl)).symm.trans h0_) (by decide)⟩
 }
 refine steps_cons ?_ ?_
 {
 rintro b a w' ⟨v303, v309, v315, ha, Q_HO298, Q_BK291, Q_BK301, Q_HI295, Q_HB, Q_HO304, Q_HI295_e3, Q_HO310, Q_HI295_e6, Q_HO316, Q_HI295_e9, Q_BK291_e10⟩ hb_ hon hoff
 refine ⟨_, rfl, fun K hK => ?_⟩
 have e13 : a.tmps[13]? = some (.pointer (some ⟨g295, 0, none⟩)) := by rw [ha]; exact (putSel_off rfl).trans rfl
 have e14 : a.tmps[14]? = some (v303) := by rw [ha]; exact putSel_on (e := (2, 14, v303)) 1 rfl rfl (hon 2 (by kernel_rfl)) rfl
 replace ha := aM ha
 have HO298 := aM Q_HO298
 have BK291 := aM (Q_BK291 (hoff 10 (by kernel_rfl)))
 have BK301 := aM Q_BK301
 have HI295 := aM (Q_HI295 hb_)
 have HB := aM Q_HB
 have HO304 := aM (Q_HO304 (hon 2 (by kernel_rfl)))
 obtain ⟨Ao20, co20, eo20⟩ := Kd.R_slice HO304.out
 (first | subst eo20 | (injection eo20 with f1_ f2_ f3_; have f4_ := f1_.symm; have f5_ := f3_.symm; clear f1_ f2_ f3_; subst f4_; subst f5_))
 refine goes_ Try.func92 (by kernel_rfl) rfl #[.pointer (some ⟨g295, 0, none⟩), .slice Ao20 y302.length co20] (by rfl) rfl rfl (by first | (simp only [List.map_toArray, List.map_cons, List.map_nil, Act.eval, Array.getD_eq_getD_getElem?, Option.getD_some, e13, e14]; done) | (simp only [List.map_toArray, List.map_cons, List.map_nil, Act.eval, Array.getD_eq_getD_getElem?, Option.getD_some, e13, e14]; rfl)) ?_
 with_reducible refine (spec_l1Int.calls g295 t292 t299 t300 _ _ y302 t305 t306 t307 w _ ?side1 ?side2 ?side3 ?side4 ?side5 A4.out).mono ?_
 (case side1 => exact qz5)
 (case side2 => exact qz1)
 (case side3 => repeat (first | exact (Kd.R_reads' HO304.out).2.2 | (with_reducible refine Kd.C_alloc ?_ _) | (with_reducible refine Kd.C_drewN ?_ _) | (with_reducible refine Kd.C_drew ?_)))
 (case side4 => exact (Kd.R_reads' HO304.out).2.1)
 (case side5 => exact far_slice (IsS122.own_ne HI295.out HO304.out (by decide)))
 rintro e w21 ⟨rfl, hi, hb, hk⟩
 refine ⟨_, rfl, ?_⟩
 have n0_ := aM (KeepBut.blk hk (bk_ BK291.out) NB291_295.out (by simp))
 have n1_ := aM (Kd.N_mono (Kd.N_keep (Kd.N_mono (ok := fun k_ => (((w.heap.size ≤ k_)) ∧ (k_ ≠ gb291 ∧ (k_ ≠ g295 ∧ k_ ≠ gb301)))) qz12 (fun k_ hk_ => (⟨hk_, hk_.2.2.1⟩ : _ ∧ k_ ≠ g295))) hk (fun _ h => h.2)) (fun _ h => h.1))
 have n2_ := aM (KeepBut.blk hk (bk_ BK301.out) NB301_295.out (by simp))
 have n3_ := aM (Kd.R_mono (Kd.R_keep (IsS122.apart (show IsS122 w _ g295 t292 t299 t300 from qz5) (rr_ HO304.out) (by decide)) hk (fun _ h => h.2)) (fun _ h => h.1))
 have n4_ := aM (hb)
 have n5_ := aM (hi)
 have z_HO310 := fun (h0_ : b 5 = true) => (show Kd.R (Kd.int .i64) 3 w21 w.heap.size (fun k_ => (w.heap.size ≤ k_)) v309 y308 from by first | exact (Kd.R_mono (Kd.R_keep (IsS122.apart (show IsS122 w _ g295 t292 t299 t300 from qz5) qz26 (by decide)) hk (fun _ h => h.2)) (fun _ h => h.1)) | exact Kd.R_mono (Kd.R_mono (Kd.R_keep (IsS122.apart (show IsS122 w _ g295 t292 t299 t300 from qz5) qz26 (by decide)) hk (fun _ h => h.2)) (fun _ h => h.1)) (fun _ h_ => by first | trivial | exact h_ | exact h_.1))
 have z_HO316 := fun (h0_ : b 8 = true) => (show Kd.R (Kd.int .i64) 3 w21 w.heap.size (fun k_ => (w.heap.size ≤ k_)) v315 y314 from by first | exact (Kd.R_mono (Kd.R_keep (IsS122.apart (show IsS122 w _ g295 t292 t299 t300 from qz5) qz21 (by decide)) hk (fun _ h => h.2)) (fun _ h => h.1)) | exact Kd.R_mono (Kd.R_mono (Kd.R_keep (IsS122.apart (show IsS122 w _ g295 t292 t299 t300 from qz5) qz21 (by decide)) hk (fun _ h => h.2)) (fun _ h => h.1)) (fun _ h_ => by first | trivial | exact h_ | exact h_.1))
 clear BK291 HO298 BK301 HO304 HB HI295
 have BK291 := n0_
 have HO298 := n1_
 have BK301 := n2_
 have HO304 := n3_
 have HB := n4_
 have HI295 := n5_
 clear n0_ n1_ n2_ n3_ n4_ n5_
 (try clear hb)
 (try clear hb2)
 (try clear hk)
 (try clear hi)
 refine hK.out _ _ ⟨.slice Ao20 y302.length co20, v309, v315, (by rw [ha.out]; exact putSel_upk 2 hb_ rfl rfl rfl), qz12, fun _ => (bk_ BK291.out), (bk_ BK301.out), fun h0_ => absurd ((up_self b 3).symm.trans h0_) (by decide), qz1, fun _ => (rr_ HO304.out), fun _ _ => qz5, z_HO310, fun h0_ _ => absurd ((hoff 6 (by kernel_rfl)).symm.trans h0_) (by decide), z_HO316, fun h0_ => absurd ((hoff 9 (by kernel_rfl)).symm.trans h0_) (by decide), fun h0_ => absurd ((hoff 10 (by kernel_rfl)).symm.trans h0_) (by decide)⟩
 }
 refine steps_cons ?_ ?_
 {
 rintro b a w' ⟨v303, v309, v315, ha, Q_HO298, Q_BK291, Q_BK301, Q_HI295, Q_HB, Q_HO304, Q_HI295_e3, Q_HO310, Q_HI295_e6, Q_HO316, Q_HI295_e9, Q_BK291_e10⟩ hb_ hon hoff
 refine ⟨_, rfl, fun K hK => ?_⟩
 replace ha := aM ha
 have HO298 := aM Q_HO298
 have BK291 := aM (Q_BK291 (hoff 10 (by kernel_rfl)))
 have BK301 := aM Q_BK301
 have HB := aM Q_HB
 refine Kd.R_lit_step (Kd.int .i64) _ 3 ?hg (N := 17) ?hd (xs := ([1, 2, 3, 4, 5, 0, 51, 7] : List Int)) (inner := [.int .i64 1, .int .i64 2, .int .i64 3, .int .i64 4, .int .i64 5, .int .i64 0, .int .i64 51, .int .i64 7]) (ok := fun _ => True) (okp := fun _ => True) ?hr ?hp (fun _ hk => hk) trivial (Below.refl _ _) (Nat.le_refl _) (by simp) ?_; (case hd => rfl); (case hg => rfl); (case hr => exact qz27); (case hp => exact (Reps.one (show Kd.M (Kd.int .i64) _ _ _ 1 [.int .i64 1] from rfl) (Reps.one (show Kd.M (Kd.int .i64) _ _ _ 2 [.int .i64 2] from rfl) (Reps.one (show Kd.M (Kd.int .i64) _ _ _ 3 [.int .i64 3] from rfl) (Reps.one (show Kd.M (Kd.int .i64) _ _ _ 4 [.int .i64 4] from rfl) (Reps.one (show Kd.M (Kd.int .i64) _ _ _ 5 [.int .i64 5] from rfl) (Reps.one (show Kd.M (Kd.int .i64) _ _ _ 0 [.int .i64 0] from rfl) (Reps.one (show Kd.M (Kd.int .i64) _ _ _ 51 [.int .i64 51] from rfl) (Reps.one (show Kd.M (Kd.int .i64) _ _ _ 7 [.int .i64 7] from rfl) (Reps.none _ _))))))))))
 intro v309 w17 ho18 hb hg_ hnew_
 clear hg_ hnew_
 (first | rw [← Ny308.out] at ho18 | (simp only [Int.reduceToNat] at ho18; rw [← Ny308.out] at ho18))
 have n0_ := aM (Kd.N_below qz12 hb)
 have n1_ := aM (Kd.R_lower (Kd.R_newM (M := fun k_ => (w.heap.size ≤ k_)) ho18 (below_size qz1) (fun k_ h_ => h_)) (below_size qz1))
 have n2_ := aM (blk_below (bk_ BK291.out) hb)
 have n4_ := aM (blk_below (bk_ BK301.out) hb)
 have n5_ := aM (below_step qz1 hb)
 have z_HI295 := fun (h0_ : b 3 = false) => (show IsS122 w w17 g295 t292 t299 t300 from by first | exact (IsS122.below qz38 hb))
 have z_HO304 := fun (h0_ : b 2 = true) => (show Kd.R (Kd.int .i64) 3 w17 w.heap.size (fun k_ => (w.heap.size ≤ k_)) v303 y302 from by first | exact (Kd.R_elder' qz33 (Kd.R_base ho18) hb) | exact Kd.R_mono (Kd.R_elder' qz33 (Kd.R_base ho18) hb) (fun _ h_ => by first | trivial | exact h_ | exact h_.1))
 have z_HI295_e3 := fun (h0_ : b 3 = true) (h1_ : b 6 = false) => (show IsS122 w w17 g295 t292 t306 t307 from by first | exact (IsS122.below qz36 hb))
 have z_HO316 := fun (h0_ : b 8 = true) => (show Kd.R (Kd.int .i64) 3 w17 w.heap.size (fun k_ => (w.heap.size ≤ k_)) v315 y314 from by first | exact (Kd.R_elder' qz21 (Kd.R_base ho18) hb) | exact Kd.R_mono (Kd.R_elder' qz21 (Kd.R_base ho18) hb) (fun _ h_ => by first | trivial | exact h_ | exact h_.1))
 clear HO298 BK291 BK301 HB
 have HO298 := n0_
 have HO310 := n1_
 have BK291 := n2_
 have BK301 := n4_
 have HB := n5_
 clear n0_ n1_ n2_ n4_ n5_ hb ho18
 refine hK.out _ _ ⟨v303, v309, v315, (by rw [ha.out]; exact putSel_upk 3 hb_ rfl rfl rfl), qz12, fun _ => (bk_ BK291.out), (bk_ BK301.out), z_HI295, qz1, z_HO304, z_HI295_e3, fun _ => (by (with_reducible repeat (first | apply Kd.R_alloc | apply Kd.R_drewN | apply Kd.R_drew)); exact Kd.R_mono HO310.out (fun _ hk => hk.1)), fun h0_ _ => absurd ((hoff 6 (by kernel_rfl)).symm.trans h0_) (by decide), z_HO316, fun h0_ => absurd ((hoff 9 (by kernel_rfl)).symm.trans h0_) (by decide), fun h0_ => absurd ((hoff 10 (by kernel_rfl)).symm.trans h0_) (by decide)⟩
 }
 refine steps_cons ?_ ?_
 {
 rintro b a w' ⟨v303, v309, v315, ha, Q_HO298, Q_BK291, Q_BK301, Q_HI295, Q_HB, Q_HO304, Q_HI295_e3, Q_HO310, Q_HI295_e6, Q_HO316, Q_HI295_e9, Q_BK291_e10⟩ hb_ hon hoff
 refine ⟨_, rfl, fun K hK => ?_⟩
 have e16 : a.tmps[16]? = some (.pointer (some ⟨g295, 0, none⟩)) := by rw [ha]; exact (putSel_off rfl).trans rfl
 have e17 : a.tmps[17]? = some (v309) := by rw [ha]; exact putSel_on (e := (5, 17, v309)) 3 rfl rfl (hon 5 (by kernel_rfl)) rfl
 replace ha := aM ha
 have HO298 := aM Q_HO298
 have BK291 := aM (Q_BK291 (hoff 10 (by kernel_rfl)))
 have BK301 := aM Q_BK301
 have HB := aM Q_HB
 have HO304 := aM (Q_HO304 (hon 2 (by kernel_rfl)))
 have HI295 := aM (Q_HI295_e3 (hon 3 (by kernel_rfl)) hb_)
 have HO310 := aM (Q_HO310 (hon 5 (by kernel_rfl)))
 obtain ⟨Ao24, co24, eo24⟩ := Kd.R_slice HO310.out
 (first | subst eo24 | (injection eo24 with f1_ f2_ f3_; have f4_ := f1_.symm; have f5_ := f3_.symm; clear f1_ f2_ f3_; subst f4_; subst f5_))
 refine goes_ Try.func92 (by kernel_rfl) rfl #[.pointer (some ⟨g295, 0, none⟩), .slice Ao24 y308.length co24] (by rfl) rfl rfl (by first | (simp only [List.map_toArray, List.map_cons, List.map_nil, Act.eval, Array.getD_eq_getD_getElem?, Option.getD_some, e16, e17]; done) | (simp only [List.map_toArray, List.map_cons, List.map_nil, Act.eval, Array.getD_eq_getD_getElem?, Option.getD_some, e16, e17]; rfl)) ?_
 with_reducible refine (spec_l1Int.calls g295 t292 t306 t307 _ _ y308 t311 t312 t313 w _ ?side1 ?side2 ?side3 ?side4 ?side5 A5.out).mono ?_
 (case side1 => exact qz5)
 (case side2 => exact qz1)
 (case side3 => repeat (first | exact (Kd.R_reads' HO310.out).2.2 | (with_reducible refine Kd.C_alloc ?_ _) | (with_reducible refine Kd.C_drewN ?_ _) | (with_reducible refine Kd.C_drew ?_)))
 (case side4 => exact (Kd.R_reads' HO310.out).2.1)
 (case side5 => exact far_slice (IsS122.own_ne HI295.out HO310.out (by decide)))
 rintro e w25 ⟨rfl, hi, hb, hk⟩
 refine ⟨_, rfl, ?_⟩
 have n0_ := aM (KeepBut.blk hk (bk_ BK291.out) NB291_295.out (by simp))
 have n1_ := aM (Kd.N_mono (Kd.N_keep (Kd.N_mono (ok := fun k_ => (((w.heap.size ≤ k_)) ∧ (k_ ≠ gb291 ∧ (k_ ≠ g295 ∧ k_ ≠ gb301)))) qz12 (fun k_ hk_ => (⟨hk_, hk_.2.2.1⟩ : _ ∧ k_ ≠ g295))) hk (fun _ h => h.2)) (fun _ h => h.1))
 have n2_ := aM (KeepBut.blk hk (bk_ BK301.out) NB301_295.out (by simp))
 have n3_ := aM (Kd.R_mono (Kd.R_keep (IsS122.apart (show IsS122 w _ g295 t292 t306 t307 from qz5) (rr_ HO304.out) (by decide)) hk (fun _ h => h.2)) (fun _ h => h.1))
 have n4_ := aM (Kd.R_mono (Kd.R_keep (IsS122.apart (show IsS122 w _ g295 t292 t306 t307 from qz5) (rr_ HO310.out) (by decide)) hk (fun _ h => h.2)) (fun _ h => h.1))
 have n5_ := aM (hb)
 have n6_ := aM (hi)
 have z_HO316 := fun (h0_ : b 8 = true) => (show Kd.R (Kd.int .i64) 3 w25 w.heap.size (fun k_ => (w.heap.size ≤ k_)) v315 y314 from by first | exact (Kd.R_mono (Kd.R_keep (IsS122.apart (show IsS122 w _ g295 t292 t306 t307 from qz5) qz21 (by decide)) hk (fun _ h => h.2)) (fun _ h => h.1)) | exact Kd.R_mono (Kd.R_mono (Kd.R_keep (IsS122.apart (show IsS122 w _ g295 t292 t306 t307 from qz5) qz21 (by decide)) hk (fun _ h => h.2)) (fun _ h => h.1)) (fun _ h_ => by first | trivial | exact h_ | exact h_.1))
 clear BK291 HO298 BK301 HO304 HO310 HB HI295
 have BK291 := n0_
 have HO298 := n1_
 have BK301 := n2_
 have HO304 := n3_
 have HO310 := n4_
 have HB := n5_
 have HI295 := n6_
 clear n0_ n1_ n2_ n3_ n4_ n5_ n6_
 (try clear hb)
 (try clear hb2)
 (try clear hk)
 (try clear hi)
 refine hK.out _ _ ⟨v303, .slice Ao24 y308.length co24, v315, (by rw [ha.out]; exact putSel_upk 4 hb_ rfl rfl rfl), qz12, fun _ => (bk_ BK291.out), (bk_ BK301.out), fun h0_ => absurd ((hon 3 (by kernel_rfl)).symm.trans h0_) (by decide), qz1, fun _ => (rr_ HO304.out), fun _ h1_ => absurd ((up_self b 6).symm.trans h1_) (by decide), fun _ => (rr_ HO310.out), fun _ _ => qz5, z_HO316, fun h0_ => absurd ((hoff 9 (by kernel_rfl)).symm.trans h0_) (by decide), fun h0_ => absurd ((hoff 10 (by kernel_rfl)).symm.trans h0_) (by decide)⟩
 }
 refine steps_cons ?_ ?_
 {
 rintro b a w' ⟨v303, v309, v315, ha, Q_HO298, Q_BK291, Q_BK301, Q_HI295, Q_HB, Q_HO304, Q_HI295_e3, Q_HO310, Q_HI295_e6, Q_HO316, Q_HI295_e9, Q_BK291_e10⟩ hb_ hon hoff
 refine ⟨_, rfl, fun K hK => ?_⟩
 replace ha := aM ha
 have HO298 := aM Q_HO298
 have BK291 := aM (Q_BK291 (hoff 10 (by kernel_rfl)))
 have BK301 := aM Q_BK301
 have HB := aM Q_HB
 refine Kd.R_lit_step (Kd.int .i64) _ 3 ?hg (N := 20) ?hd (xs := ([1, 1, 2, 3, 5, 0, 1000, 1001] : List Int)) (inner := [.int .i64 1, .int .i64 1, .int .i64 2, .int .i64 3, .int .i64 5, .int .i64 0, .int .i64 1000, .int .i64 1001]) (ok := fun _ => True) (okp := fun _ => True) ?hr ?hp (fun _ hk => hk) trivial (Below.refl _ _) (Nat.le_refl _) (by simp) ?_; (case hd => rfl); (case hg => rfl); (case hr => exact qz27); (case hp => exact (Reps.one (show Kd.M (Kd.int .i64) _ _ _ 1 [.int .i64 1] from rfl) (Reps.one (show Kd.M (Kd.int .i64) _ _ _ 1 [.int .i64 1] from rfl) (Reps.one (show Kd.M (Kd.int .i64) _ _ _ 2 [.int .i64 2] from rfl) (Reps.one (show Kd.M (Kd.int .i64) _ _ _ 3 [.int .i64 3] from rfl) (Reps.one (show Kd.M (Kd.int .i64) _ _ _ 5 [.int .i64 5] from rfl) (Reps.one (show Kd.M (Kd.int .i64) _ _ _ 0 [.int .i64 0] from rfl) (Reps.one (show Kd.M (Kd.int .i64) _ _ _ 1000 [.int .i64 1000] from rfl) (Reps.one (show Kd.M (Kd.int .i64) _ _ _ 1001 [.int .i64 1001] from rfl) (Reps.none _ _))))))))))
 intro v315 w17 ho18 hb hg_ hnew_
 clear hg_ hnew_
 (first | rw [← Ny314.out] at ho18 | (simp only [Int.reduceToNat] at ho18; rw [← Ny314.out] at ho18))
 have n0_ := aM (Kd.N_below qz12 hb)
 have n1_ := aM (Kd.R_lower (Kd.R_newM (M := fun k_ => (w.heap.size ≤ k_)) ho18 (below_size qz1) (fun k_ h_ => h_)) (below_size qz1))
 have n2_ := aM (blk_below (bk_ BK291.out) hb)
 have n4_ := aM (blk_below (bk_ BK301.out) hb)
 have n5_ := aM (below_step qz1 hb)
 have z_HI295 := fun (h0_ : b 3 = false) => (show IsS122 w w17 g295 t292 t299 t300 from by first | exact (IsS122.below qz38 hb))
 have z_HO304 := fun (h0_ : b 2 = true) => (show Kd.R (Kd.int .i64) 3 w17 w.heap.size (fun k_ => (w.heap.size ≤ k_)) v303 y302 from by first | exact (Kd.R_elder' qz33 (Kd.R_base ho18) hb) | exact Kd.R_mono (Kd.R_elder' qz33 (Kd.R_base ho18) hb) (fun _ h_ => by first | trivial | exact h_ | exact h_.1))
 have z_HI295_e3 := fun (h0_ : b 3 = true) (h1_ : b 6 = false) => (show IsS122 w w17 g295 t292 t306 t307 from by first | exact (IsS122.below qz36 hb))
 have z_HO310 := fun (h0_ : b 5 = true) => (show Kd.R (Kd.int .i64) 3 w17 w.heap.size (fun k_ => (w.heap.size ≤ k_)) v309 y308 from by first | exact (Kd.R_elder' qz26 (Kd.R_base ho18) hb) | exact Kd.R_mono (Kd.R_elder' qz26 (Kd.R_base ho18) hb) (fun _ h_ => by first | trivial | exact h_ | exact h_.1))
 have z_HI295_e6 := fun (h0_ : b 6 = true) (h1_ : b 9 = false) => (show IsS122 w w17 g295 t292 t312 t313 from by first | exact (IsS122.below (by repeat (first | (with_reducible first | exact (Q_HI295_e6 h0_ h1_) | apply IsS122.alloc | apply IsS122.drewN | apply IsS122.drew | apply IsS122.set_1 | apply IsS122.set_2 | refine IsS122.far ?_ NB295_291.out _ | refine IsS122.far ?_ NB295_301.out _) | exact (Q_HI295_e6 h0_ h1_))) hb))
 clear HO298 BK291 BK301 HB
 have HO298 := n0_
 have HO316 := n1_
 have BK291 := n2_
 have BK301 := n4_
 have HB := n5_
 clear n0_ n1_ n2_ n4_ n5_ hb ho18
 refine hK.out _ _ ⟨v303, v309, v315, (by rw [ha.out]; exact putSel_upk 5 hb_ rfl rfl rfl), qz12, fun _ => (bk_ BK291.out), (bk_ BK301.out), z_HI295, qz1, z_HO304, z_HI295_e3, z_HO310, z_HI295_e6, fun _ => (by (with_reducible repeat (first | apply Kd.R_alloc | apply Kd.R_drewN | apply Kd.R_drew)); exact Kd.R_mono HO316.out (fun _ hk => hk.1)), fun h0_ => absurd ((hoff 9 (by kernel_rfl)).symm.trans h0_) (by decide), fun h0_ => absurd ((hoff 10 (by kernel_rfl)).symm.trans h0_) (by decide)⟩
 }
 refine steps_cons ?_ ?_
 {
 rintro b a w' ⟨v303, v309, v315, ha, Q_HO298, Q_BK291, Q_BK301, Q_HI295, Q_HB, Q_HO304, Q_HI295_e3, Q_HO310, Q_HI295_e6, Q_HO316, Q_HI295_e9, Q_BK291_e10⟩ hb_ hon hoff
 refine ⟨_, rfl, fun K hK => ?_⟩
 have e19 : a.tmps[19]? = some (.pointer (some ⟨g295, 0, none⟩)) := by rw [ha]; exact (putSel_off rfl).trans rfl
 have e20 : a.tmps[20]? = some (v315) := by rw [ha]; exact putSel_on (e := (8, 20, v315)) 5 rfl rfl (hon 8 (by kernel_rfl)) rfl
 replace ha := aM ha
 have HO298 := aM Q_HO298
 have BK291 := aM (Q_BK291 (hoff 10 (by kernel_rfl)))
 have BK301 := aM Q_BK301
 have HB := aM Q_HB
 have HO304 := aM (Q_HO304 (hon 2 (by kernel_rfl)))
 have HO310 := aM (Q_HO310 (hon 5 (by kernel_rfl)))
 have HI295 := aM (Q_HI295_e6 (hon 6 (by kernel_rfl)) hb_)
 have HO316 := aM (Q_HO316 (hon 8 (by kernel_rfl)))
 obtain ⟨Ao28, co28, eo28⟩ := Kd.R_slice HO316.out
 (first | subst eo28 | (injection eo28 with f1_ f2_ f3_; have f4_ := f1_.symm; have f5_ := f3_.symm; clear f1_ f2_ f3_; subst f4_; subst f5_))
 refine goes_ Try.func92 (by kernel_rfl) rfl #[.pointer (some ⟨g295, 0, none⟩), .slice Ao28 y314.length co28] (by rfl) rfl rfl (by first | (simp only [List.map_toArray, List.map_cons, List.map_nil, Act.eval, Array.getD_eq_getD_getElem?, Option.getD_some, e19, e20]; done) | (simp only [List.map_toArray, List.map_cons, List.map_nil, Act.eval, Array.getD_eq_getD_getElem?, Option.getD_some, e19, e20]; rfl)) ?_
 with_reducible refine (spec_l1Int.calls g295 t292 t312 t313 _ _ y314 t317 t318 t319 w _ ?side1 ?side2 ?side3 ?side4 ?side5 A6.out).mono ?_
 (case side1 => exact qz5)
 (case side2 => exact qz1)
 (case side3 => repeat (first | exact (Kd.R_reads' HO316.out).2.2 | (with_reducible refine Kd.C_alloc ?_ _) | (with_reducible refine Kd.C_drewN ?_ _) | (with_reducible refine Kd.C_drew ?_)))
 (case side4 => exact (Kd.R_reads' HO316.out).2.1)
 (case side5 => exact far_slice (IsS122.own_ne HI295.out HO316.out (by decide)))
 rintro e w29 ⟨rfl, hi, hb, hk⟩
 refine ⟨_, rfl, ?_⟩
 replace BK291 := aM (KeepBut.blk hk (bk_ BK291.out) NB291_295.out (by simp))
 replace HO298 := aM (Kd.N_mono (Kd.N_keep (Kd.N_mono (ok := fun k_ => (((w.heap.size ≤ k_)) ∧ (k_ ≠ gb291 ∧ (k_ ≠ g295 ∧ k_ ≠ gb301)))) qz12 (fun k_ hk_ => (⟨hk_, hk_.2.2.1⟩ : _ ∧ k_ ≠ g295))) hk (fun _ h => h.2)) (fun _ h => h.1))
 replace BK301 := aM (KeepBut.blk hk (bk_ BK301.out) NB301_295.out (by simp))
 replace HO304 := aM (Kd.R_mono (Kd.R_keep (IsS122.apart (show IsS122 w _ g295 t292 t312 t313 from qz5) (rr_ HO304.out) (by decide)) hk (fun _ h => h.2)) (fun _ h => h.1))
 replace HO310 := aM (Kd.R_mono (Kd.R_keep (IsS122.apart (show IsS122 w _ g295 t292 t312 t313 from qz5) (rr_ HO310.out) (by decide)) hk (fun _ h => h.2)) (fun _ h => h.1))
 replace HO316 := aM (Kd.R_mono (Kd.R_keep (IsS122.apart (show IsS122 w _ g295 t292 t312 t313 from qz5) (rr_ HO316.out) (by decide)) hk (fun _ h => h.2)) (fun _ h => h.1))
 replace HB := aM (hb)
 replace HI295 := aM (hi)
 (try clear hb)
 (try clear hb2)
 (try clear hk)
 (try clear hi)
 refine hK.out _ _ ⟨v303, v309, .slice Ao28 y314.length co28, (by rw [ha.out]; exact putSel_upk 6 hb_ rfl rfl rfl), qz12, fun _ => (bk_ BK291.out), (bk_ BK301.out), fun h0_ => absurd ((hon 3 (by kernel_rfl)).symm.trans h0_) (by decide), qz1, fun _ => (rr_ HO304.out), fun _ h1_ => absurd ((hon 6 (by kernel_rfl)).symm.trans h1_) (by decide), fun _ => (rr_ HO310.out), fun _ h1_ => absurd ((up_self b 9).symm.trans h1_) (by decide), fun _ => (rr_ HO316.out), fun _ => qz5, fun h0_ => absurd ((hoff 10 (by kernel_rfl)).symm.trans h0_) (by decide)⟩
 }
 refine steps_cons ?_ ?_
 {
 rintro b a w' ⟨v303, v309, v315, ha, Q_HO298, Q_BK291, Q_BK301, Q_HI295, Q_HB, Q_HO304, Q_HI295_e3, Q_HO310, Q_HI295_e6, Q_HO316, Q_HI295_e9, Q_BK291_e10⟩ hb_ hon hoff
 refine ⟨_, rfl, fun K hK => ?_⟩
 have e2 : a.tmps[2]? = some (.pointer (some ⟨gb291, 0, none⟩)) := by rw [ha]; exact (putSel_off rfl).trans rfl
 have e12 : a.tmps[12]? = some (.agg #[.slice Ao11 t296.length co11]) := by rw [ha]; exact putSel_on (e := (0, 12, .agg #[.slice Ao11 t296.length co11])) 0 rfl rfl (hon 0 (by kernel_rfl)) rfl
 replace ha := aM ha
 have HO298 := aM Q_HO298
 have BK291 := aM (Q_BK291 hb_)
 have BK301 := aM Q_BK301
 have HB := aM Q_HB
 have HO304 := aM (Q_HO304 (hon 2 (by kernel_rfl)))
 have HO310 := aM (Q_HO310 (hon 5 (by kernel_rfl)))
 have HO316 := aM (Q_HO316 (hon 8 (by kernel_rfl)))
 have HI295 := aM (Q_HI295_e9 (hon 9 (by kernel_rfl)))
 have hs30 : w'.cell? ⟨gb291, 0, none⟩ = some (.slice none 0 0) := (blk_cell BK291.out 0).trans rfl
 have hfs30 := blk_frozen BK291.out 0
 have hns30_1 := NB301_291.out
 have hms30_1 := NB291_301.out
 refine sk_ ?_
 refine hK.out _ _ ⟨v303, v309, v315, (by rw [ha.out]; exact putSel_none (v := undef) rfl), (by (with_reducible repeat (first | apply Kd.N_alloc | apply Kd.N_drewN | apply Kd.N_drew)); exact Kd.N_mono (Kd.N_far (p := ⟨gb291, 0, none⟩) (Kd.N_mono HO298.out (fun k_ hk => (⟨hk, hk.2.1⟩ : _ ∧ k_ ≠ gb291))) (fun _ hk => hk.2) (.slice Ao11 t296.length co11)) (fun _ hk => ⟨hk.1.1, ⟨hk.1.2.1, ⟨hk.1.2.2.1, hk.1.2.2.2⟩⟩⟩)), fun h0_ => absurd ((up_self b 10).symm.trans h0_) (by decide), (bk2_ BK301.out), fun h0_ => absurd ((hon 3 (by kernel_rfl)).symm.trans h0_) (by decide), qz1, fun _ => (by (with_reducible repeat (first | apply Kd.R_alloc | apply Kd.R_drewN | apply Kd.R_drew)); exact Kd.R_mono (Kd.R_far (p := ⟨gb291, 0, none⟩) (Kd.R_types HO304.out BK291.out (by decide)) (fun _ hk => hk.2) (.slice Ao11 t296.length co11)) (fun _ hk => by first | exact ⟨hk.1.1, ⟨hk.1.2.1, hk.1.2.2⟩⟩ | exact hk.1.1 | exact hk.1)), fun _ h1_ => absurd ((hon 6 (by kernel_rfl)).symm.trans h1_) (by decide), fun _ => (by (with_reducible repeat (first | apply Kd.R_alloc | apply Kd.R_drewN | apply Kd.R_drew)); exact Kd.R_mono (Kd.R_far (p := ⟨gb291, 0, none⟩) (Kd.R_types HO310.out BK291.out (by decide)) (fun _ hk => hk.2) (.slice Ao11 t296.length co11)) (fun _ hk => by first | exact ⟨hk.1.1, ⟨hk.1.2.1, hk.1.2.2⟩⟩ | exact hk.1.1 | exact hk.1)), fun _ h1_ => absurd ((hon 9 (by kernel_rfl)).symm.trans h1_) (by decide), fun _ => (by (with_reducible repeat (first | apply Kd.R_alloc | apply Kd.R_drewN | apply Kd.R_drew)); exact Kd.R_mono (Kd.R_far (p := ⟨gb291, 0, none⟩) (Kd.R_types HO316.out BK291.out (by decide)) (fun _ hk => hk.2) (.slice Ao11 t296.length co11)) (fun _ hk => by first | exact ⟨hk.1.1, ⟨hk.1.2.1, hk.1.2.2⟩⟩ | exact hk.1.1 | exact hk.1)), fun _ => qz5, fun _ => (by (with_reducible repeat (first | refine blk_drewN ?_ _ | refine blk_drew ?_ | refine blk_alloc ?_ _)); refine blk_put (cs := #[.slice none 0 0]) ?_ 0 _ rfl; exact bk_ BK291.out)⟩
 }
 refine steps_cons ?_ ?_
 {
 rintro b a w' ⟨v303, v309, v315, ha, Q_HO298, Q_BK291, Q_BK301, Q_HI295, Q_HB, Q_HO304, Q_HI295_e3, Q_HO310, Q_HI295_e6, Q_HO316, Q_HI295_e9, Q_BK291_e10⟩ hb_ hon hoff
 refine ⟨_, rfl, fun K hK => ?_⟩
 have e15 : a.tmps[15]? = some (.int .i64 t305) := by rw [ha]; exact putSel_on (e := (3, 15, .int .i64 t305)) 2 rfl rfl (hon 3 (by kernel_rfl)) rfl
 replace ha := aM ha
 have HO298 := aM Q_HO298
 have BK301 := aM Q_BK301
 have HB := aM Q_HB
 have HO304 := aM (Q_HO304 (hon 2 (by kernel_rfl)))
 have HO310 := aM (Q_HO310 (hon 5 (by kernel_rfl)))
 have HO316 := aM (Q_HO316 (hon 8 (by kernel_rfl)))
 have HI295 := aM (Q_HI295_e9 (hon 9 (by kernel_rfl)))
 have BK291 := aM (Q_BK291_e10 (hon 10 (by kernel_rfl)))
 refine value_ (w1 := w') (v := .int .i64 t305) (by rfl) rfl ?_ ?_
 {
 go_simp
 (try simp only [i64_w])
 try rfl
 }
 refine hK.out _ _ ⟨v303, v309, v315, (by rw [ha.out]; exact putSel_upk 7 hb_ rfl rfl rfl), Q_HO298, fun h0_ => absurd ((hon 10 (by kernel_rfl)).symm.trans h0_) (by decide), Q_BK301, fun h0_ => absurd ((hon 3 (by kernel_rfl)).symm.trans h0_) (by decide), Q_HB, Q_HO304, fun _ h1_ => absurd ((hon 6 (by kernel_rfl)).symm.trans h1_) (by decide), Q_HO310, fun _ h1_ => absurd ((hon 9 (by kernel_rfl)).symm.trans h1_) (by decide), Q_HO316, Q_HI295_e9, Q_BK291_e10⟩
 }
 refine steps_cons ?_ ?_
 {
 rintro b a w' ⟨v303, v309, v315, ha, Q_HO298, Q_BK291, Q_BK301, Q_HI295, Q_HB, Q_HO304, Q_HI295_e3, Q_HO310, Q_HI295_e6, Q_HO316, Q_HI295_e9, Q_BK291_e10⟩ hb_ hon hoff
 refine ⟨_, rfl, fun K hK => ?_⟩
 have e18 : a.tmps[18]? = some (.int .i64 t311) := by rw [ha]; exact putSel_on (e := (6, 18, .int .i64 t311)) 4 rfl rfl (hon 6 (by kernel_rfl)) rfl
 replace ha := aM ha
 have HO298 := aM Q_HO298
 have BK301 := aM Q_BK301
 have HB := aM Q_HB
 have HO304 := aM (Q_HO304 (hon 2 (by kernel_rfl)))
 have HO310 := aM (Q_HO310 (hon 5 (by kernel_rfl)))
 have HO316 := aM (Q_HO316 (hon 8 (by kernel_rfl)))
 have HI295 := aM (Q_HI295_e9 (hon 9 (by kernel_rfl)))
 have BK291 := aM (Q_BK291_e10 (hon 10 (by kernel_rfl)))
 refine value_ (w1 := w') (v := .int .i64 t311) (by rfl) rfl ?_ ?_
 {
 go_simp
 (try simp only [i64_w])
 try rfl
 }
 refine hK.out _ _ ⟨v303, v309, v315, (by rw [ha.out]; exact putSel_upk 8 hb_ rfl rfl rfl), Q_HO298, fun h0_ => absurd ((hon 10 (by kernel_rfl)).symm.trans h0_) (by decide), Q_BK301, fun h0_ => absurd ((hon 3 (by kernel_rfl)).symm.trans h0_) (by decide), Q_HB, Q_HO304, fun _ h1_ => absurd ((hon 6 (by kernel_rfl)).symm.trans h1_) (by decide), Q_HO310, fun _ h1_ => absurd ((hon 9 (by kernel_rfl)).symm.trans h1_) (by decide), Q_HO316, Q_HI295_e9, Q_BK291_e10⟩
 }
 refine steps_cons ?_ ?_
 {
 rintro b a w' ⟨v303, v309, v315, ha, Q_HO298, Q_BK291, Q_BK301, Q_HI295, Q_HB, Q_HO304, Q_HI295_e3, Q_HO310, Q_HI295_e6, Q_HO316, Q_HI295_e9, Q_BK291_e10⟩ hb_ hon hoff
 refine ⟨_, rfl, fun K hK => ?_⟩
 have e21 : a.tmps[21]? = some (.int .i64 t317) := by rw [ha]; exact putSel_on (e := (9, 21, .int .i64 t317)) 6 rfl rfl (hon 9 (by kernel_rfl)) rfl
 replace ha := aM ha
 have HO298 := aM Q_HO298
 have BK301 := aM Q_BK301
 have HB := aM Q_HB
 have HO304 := aM (Q_HO304 (hon 2 (by kernel_rfl)))
 have HO310 := aM (Q_HO310 (hon 5 (by kernel_rfl)))
 have HO316 := aM (Q_HO316 (hon 8 (by kernel_rfl)))
 have HI295 := aM (Q_HI295_e9 (hon 9 (by kernel_rfl)))
 have BK291 := aM (Q_BK291_e10 (hon 10 (by kernel_rfl)))
 refine value_ (w1 := w') (v := .int .i64 t317) (by rfl) rfl ?_ ?_
 {
 go_simp
 (try simp only [i64_w])
 try rfl
 }
 refine hK.out _ _ ⟨v303, v309, v315, (by rw [ha.out]; exact putSel_upk 9 hb_ rfl rfl rfl), Q_HO298, fun h0_ => absurd ((hon 10 (by kernel_rfl)).symm.trans h0_) (by decide), Q_BK301, fun h0_ => absurd ((hon 3 (by kernel_rfl)).symm.trans h0_) (by decide), Q_HB, Q_HO304, fun _ h1_ => absurd ((hon 6 (by kernel_rfl)).symm.trans h1_) (by decide), Q_HO310, fun _ h1_ => absurd ((hon 9 (by kernel_rfl)).symm.trans h1_) (by decide), Q_HO316, Q_HI295_e9, Q_BK291_e10⟩
 }
 exact steps_nil
 }
 rintro b a w30 hall ⟨v303, v309, v315, ha, Q_HO298, Q_BK291, Q_BK301, Q_HI295, Q_HB, Q_HO304, Q_HI295_e3, Q_HO310, Q_HI295_e6, Q_HO316, Q_HI295_e9, Q_BK291_e10⟩
 clear BK291 BK301 HB HI295 HO298
 have hb0_ := hall 0 (by kernel_rfl)
 have hb2_ := hall 2 (by kernel_rfl)
 have hb3_ := hall 3 (by kernel_rfl)
 have hb5_ := hall 5 (by kernel_rfl)
 have hb6_ := hall 6 (by kernel_rfl)
 have hb8_ := hall 8 (by kernel_rfl)
 have hb9_ := hall 9 (by kernel_rfl)
 have hb10_ := hall 10 (by kernel_rfl)
 have hb11_ := hall 11 (by kernel_rfl)
 have hb12_ := hall 12 (by kernel_rfl)
 have hb13_ := hall 13 (by kernel_rfl)
 subst ha
 simp only [putSel, hb0_, hb2_, hb3_, hb5_, hb6_, hb8_, hb9_, hb10_, hb11_, hb12_, hb13_, if_true, Act.put, List.setIfInBounds_toArray, List.set_cons_zero, List.set_cons_succ]
 have HO298 := aM Q_HO298
 clear Q_HO298 Q_BK291
 have BK301 := aM Q_BK301
 clear Q_BK301 Q_HI295
 have HB := aM Q_HB
 clear Q_HB
 have HO304 := aM (Q_HO304 hb2_)
 clear Q_HO304 Q_HI295_e3
 have HO310 := aM (Q_HO310 hb5_)
 clear Q_HO310 Q_HI295_e6
 have HO316 := aM (Q_HO316 hb8_)
 clear Q_HO316
 have HI295 := aM (Q_HI295_e9 hb9_)
 clear Q_HI295_e9
 have BK291 := aM (Q_BK291_e10 hb10_)
 clear Q_BK291_e10 hall hb0_ hb2_ hb3_ hb5_ hb6_ hb8_ hb9_ hb10_ hb11_ hb12_ hb13_
 try go_wp2
 refine bodyPost_ret (results_list (rs := [.cell 2 26, .tmp 3, .tmp 4, .tmp 5]) rfl (by simp) (.cell gb291 26 #[.slice Ao11 t296.length co11] (0, 0) _ rfl (bk_ BK291.out) Try.underlying26 rfl (by kernel_rfl) (.tmp (.tmp (.tmp .nil))))) rfl ?_
 exact ⟨_, qzw, by (with_reducible repeat (first | apply Kd.N_alloc | apply Kd.N_drewN | apply Kd.N_drew)); exact Kd.N_mono HO298.out (fun _ hk => hk.1), qz1⟩

/-! ### spec_DrawPutIn: function 24 -/
def spec_DrawPutIn.f (k : Nat) (l0 : List Int) : Option ((List (S79)) × Int × Int × Int) := (spec_l5Draw4.f k l0).bind fun bt321 => (some (bt321.1, bt321.2.1, bt321.2.2.1, bt321.2.2.2))
theorem spec_DrawPutIn.mono : ∀ a0 k, LeO (spec_DrawPutIn.f k a0) (spec_DrawPutIn.f (k + 1) a0) := by
 intro a0 k
 unfold spec_DrawPutIn.f
 have j0 := @spec_l5Draw4.mono
 exact qL
set_option maxHeartbeats 8000000 in
set_option maxRecDepth 100000 in
theorem spec_DrawPutIn.calls (k : Nat) (A0 : Option Addr) (c0 : Nat) (l0 : List Int) (r1 : List (S79)) (r2 : Int) (r3 : Int) (r4 : Int) (w : World) (hr0 : Kd.C (Kd.int .u8) w A0 l0.length l0) (hc0 : l0.length ≤ c0) (h : spec_DrawPutIn.f k l0 = some (r1, r2, r3, r4)) :
  Calls Try.prog 24 #[.slice A0 l0.length c0] w fun e w' => ∃ v0_ : Value, e = .returned (.tuple #[.agg #[v0_], .int .i64 r2, .int .i64 r3, .int .i64 r4]) ∧ Kd.N k79 79 w' w.heap.size (fun k_ => (w.heap.size ≤ k_)) v0_ r1 ∧ Below w.heap.size w w' := by
 have hu26 := Try.underlying26
 have HR0 := aM hr0
 have HC0 := aM hc0
 clear hr0 hc0
 have HB := aM (Below.refl w.heap.size w)
 have H : ((spec_l5Draw4.f k l0).bind fun bt321 => (some (bt321.1, bt321.2.1, bt321.2.2.1, bt321.2.2.2))) = some (r1, r2, r3, r4) := h
 clear h
 replace H := Option.bind_eq_some_iff.mp H
 obtain ⟨⟨t321, t324, t325, t326⟩, A20, H⟩ := H
 replace H : (some (t321, t324, t325, t326)) = some (r1, r2, r3, r4) := H
 have A2 := aM A20
 clear A20
 simp only [Option.some.injEq, Prod.mk.injEq] at H
 obtain ⟨rfl, rfl, rfl, rfl⟩ := H
 go_enter Try.func24, Try.ntmps24
 go_wp2_with (first | ((with_reducible refine gate_dst (N := 2) rfl ?_); refine bx_ 2 #[.slice none 0 0] 26 ?_; intro gb320 hg w3 hbox hb; have BK320 := aM (hbox); have GW320 := aM (bz_ w hg qz1); have GE320 := GW320; replace HB := bS_ hb; clear hb hbox hg) | ((with_reducible refine gate_callee (f := 59) rfl ?_); refine goesL_ (some 7) rfl rfl Try.func59 (by kernel_rfl) rfl #[.slice A0 l0.length c0] rfl qz4 ?_; (with_reducible refine (spec_l5Draw4.calls k _ _ l0 t321 t324 t325 t326 _ ?side1 ?side2 A2.out).mono ?_); (case side1 => repeat (first | exact (Kd.C_below HR0.out HB.out) | (with_reducible refine Kd.C_alloc ?_ _) | (with_reducible refine Kd.C_drewN ?_ _) | (with_reducible refine Kd.C_drew ?_))); (case side2 => exact HC0.out); rintro e w4 ⟨v322, rfl, ho0, hb⟩; refine ⟨_, rfl, ?_⟩; have HO323 := aM (Kd.N_lower (Kd.N_mono (ok' := fun k_ => (w.heap.size ≤ k_) ∧ k_ ≠ gb320) ho0 (fun k_ hk_ => ⟨(Nat.le_trans (below_size qz1) hk_), (Kd.freshB (bk_ BK320.out) k_ hk_)⟩)) (below_size qz1)); replace BK320 := bB_ BK320 hb; replace HB := bS_ hb; (try clear hb); (try clear hb2); (try clear hk); (try clear hi); (try clear ho0); obtain ⟨Ao5, co5, eo5⟩ := Kd.N_slice HO323.out; subst eo5; obtain ⟨hcz6_0, hfz6_0⟩ := bf_ BK320.out))
 refine bodyPost_ret (results_list (rs := [.cell 2 26, .tmp 3, .tmp 4, .tmp 5]) rfl (by simp) (.cell gb320 26 #[.slice Ao5 t321.length co5] (0, 0) _ rfl (by (with_reducible repeat (first | refine blk_drewN ?_ _ | refine blk_drew ?_ | refine blk_alloc ?_ _)); refine blk_put (cs := #[.slice none 0 0]) ?_ 0 _ rfl; exact bk_ BK320.out) Try.underlying26 rfl (by kernel_rfl) (.tmp (.tmp (.tmp .nil))))) rfl ?_
 exact ⟨_, qzw, by (with_reducible repeat (first | apply Kd.N_alloc | apply Kd.N_drewN | apply Kd.N_drew)); exact Kd.N_mono (Kd.N_far (p := ⟨gb320, 0, none⟩) (Kd.N_mono HO323.out (fun k_ hk => (⟨hk, hk.2⟩ : _ ∧ k_ ≠ gb320))) (fun _ hk => hk.2) (.slice Ao5 t321.length co5)) (fun _ hk => hk.1.1), qz1⟩

end Go.Proofs.Yteajnkondkfmgaa.PFnTaken
