-- Made by a program of this session out of the translation. Lean checks it.
import Derived.Test.YteajnkondkfmgaaPFnPicksx0
import Derived.Test.YteajnkondkfmgaaPFnPicksx5
import Derived.Test.YteajnkondkfmgaaPFnPicksx6
import Derived.Test.YteajnkondkfmgaaPFnPicksx8
namespace Go.Proofs.Yteajnkondkfmgaa.PFnPicks
open Go.RowKit Go.Proofs.YteajnkondkfmgaaW.PrintWords Go.Proofs.YteajnkondkfmgaaW.PrintLast Go.Proofs.YteajnkondkfmgaaW.PrintMore
attribute [local go_sem] max2_int min2_int max_two min_two max_three min_three max_four min_four   -- for this text's walks alone
set_option linter.unusedVariables false
set_option linter.unusedSimpArgs false

/-! ### spec_l5DrawAny: function 76 -/
def spec_l5DrawAny.f (k : Nat) (s0_0 : List Int) (s0_1 : Int) (s0_2 : Int) : Option ((List (S79)) × Int × Int) := (spec_l5Draw.f k s0_0 s0_1 s0_2).bind fun bt252 => ((spec_l1Once.f s0_0 bt252.2.1 bt252.2.2 8).bind fun bt258 => (if bt258.1 = true then ((spec_l5Bend.f k s0_0 bt258.2.1 bt258.2.2 bt252.1).bind fun bt261 => (some (bt261.1, bt261.2.1, bt261.2.2))) else (some (bt252.1, bt258.2.1, bt258.2.2))))
theorem spec_l5DrawAny.mono : ∀ a0 a1 a2 k, LeO (spec_l5DrawAny.f k a0 a1 a2) (spec_l5DrawAny.f (k + 1) a0 a1 a2) := by
 intro a0 a1 a2 k
 unfold spec_l5DrawAny.f
 have j0 := @spec_l5Bend.mono
 have j1 := @spec_l5Draw.mono
 exact qL
set_option maxHeartbeats 8000000 in
set_option maxRecDepth 100000 in
theorem spec_l5DrawAny.calls (k : Nat) (g : Nat) (s0_0 : List Int) (s0_1 : Int) (s0_2 : Int) (r1 : List (S79)) (r2 : Int) (r3 : Int) (w0 w : World) (hI : IsS122 w0 w g s0_0 s0_1 s0_2) (hB : Below w0.heap.size w0 w) (h : spec_l5DrawAny.f k s0_0 s0_1 s0_2 = some (r1, r2, r3)) :
  Calls Try.prog 76 #[.pointer (some ⟨g, 0, none⟩)] w fun e w' => ∃ v0_ : Value, e = .returned (.agg #[v0_]) ∧ Kd.N k79 79 w' w.heap.size (fun k_ => (w.heap.size ≤ k_)) v0_ r1 ∧ IsS122 w0 w' g s0_0 r2 r3 ∧ Below w0.heap.size w0 w' ∧ KeepBut w w' g none := by
 have hu26 := Try.underlying26
 have HI0 := aM hI
 have HK := aM (KeepBut.refl w g none)
 have HL := aM hB.size
 clear hI
 have HW0 := aM hB.size
 have HB := aM hB
 clear hB
 have H : ((spec_l5Draw.f k s0_0 s0_1 s0_2).bind fun bt252 => ((spec_l1Once.f s0_0 bt252.2.1 bt252.2.2 8).bind fun bt258 => (if bt258.1 = true then ((spec_l5Bend.f k s0_0 bt258.2.1 bt258.2.2 bt252.1).bind fun bt261 => (some (bt261.1, bt261.2.1, bt261.2.2))) else (some (bt252.1, bt258.2.1, bt258.2.2))))) = some (r1, r2, r3) := h
 clear h
 replace H := Option.bind_eq_some_iff.mp H
 obtain ⟨⟨t252, t255, t256⟩, A20, H⟩ := H
 replace H : ((spec_l1Once.f s0_0 t255 t256 8).bind fun bt258 => (if bt258.1 = true then ((spec_l5Bend.f k s0_0 bt258.2.1 bt258.2.2 t252).bind fun bt261 => (some (bt261.1, bt261.2.1, bt261.2.2))) else (some (t252, bt258.2.1, bt258.2.2)))) = some (r1, r2, r3) := H
 have A2 := aM A20
 clear A20
 replace H := Option.bind_eq_some_iff.mp H
 obtain ⟨⟨t258, t259, t260⟩, A30, H⟩ := H
 replace H : (if t258 = true then ((spec_l5Bend.f k s0_0 t259 t260 t252).bind fun bt261 => (some (bt261.1, bt261.2.1, bt261.2.2))) else (some (t252, t259, t260))) = some (r1, r2, r3) := H
 have A3 := aM A30
 clear A30
 by_cases c4 : t258 = true
 {
 subst c4
 rw [if_pos rfl] at H
 replace H := Option.bind_eq_some_iff.mp H
 obtain ⟨⟨t261, t264, t265⟩, A50, H⟩ := H
 replace H : (some (t261, t264, t265)) = some (r1, r2, r3) := H
 have A5 := aM A50
 clear A50
 simp only [Option.some.injEq, Prod.mk.injEq] at H
 obtain ⟨rfl, rfl, rfl⟩ := H
 go_enter Try.func76, Try.ntmps76
 go_wp2_with (first | ((with_reducible refine gate_dst (N := 2) rfl ?_); refine bx_ 2 #[.slice none 0 0] 26 ?_; intro gb251 hg w6 hbox hb; replace HB := bS_ hb; have BK251 := aM (hbox); have GW251 := aM (kz_ w g hg qz2); have GE251 := aM ((Nat.le_trans HW0.out (by rw [hg]; exact (keep_size (w := w) (g := g) (row := none) qz2) : w.heap.size ≤ gb251) : w0.heap.size ≤ gb251)); replace HK := aM (KeepBut.trans qz2 (KeepBut.of_below hb g none) (.inl rfl)); have NB0_251 := aM ((by rw [hg]; exact Nat.ne_of_lt (IsS122.lt (show IsS122 w0 _ g s0_0 s0_1 s0_2 from qz3)) : g ≠ gb251)); have NB251_0 := aM ((by rw [hg]; exact Nat.ne_of_gt (IsS122.lt (show IsS122 w0 _ g s0_0 s0_1 s0_2 from qz3)) : gb251 ≠ g)); replace HI0 := aM (IsS122.below qz3 hb); clear hb hbox hg) | ((with_reducible refine gate_callee (f := 101) rfl ?_); refine goesL_ (some 5) rfl rfl Try.func101 (by kernel_rfl) rfl #[.pointer (some ⟨g, 0, none⟩)] rfl qz4 ?_; (with_reducible refine (spec_l5Draw.calls k g s0_0 s0_1 s0_2 t252 t255 t256 w0 _ ?side1 ?side2 A2.out).mono ?_); (case side1 => exact qz3); (case side2 => exact qz1); rintro e w7 ⟨v253, rfl, ho0, hi, hb, hk⟩; refine ⟨_, rfl, ?_⟩; have HO254 := aM (Kd.N_lower (Kd.N_mono (ok' := fun k_ => (w.heap.size ≤ k_) ∧ k_ ≠ gb251 ∧ k_ ≠ g) (Kd.S_N (Kd.S_bound ho0)) (fun k_ hk_ => ⟨(Nat.le_trans (keep_size (w := w) (g := g) (row := none) qz2) hk_.2.1), (Kd.freshB (bk_ BK251.out) k_ hk_.2.1), (IsS122.fresh qz3 k_ hk_.2.1)⟩)) (keep_size (w := w) (g := g) (row := none) qz2)); replace BK251 := aM (KeepBut.blk hk (bk_ BK251.out) NB251_0.out (by simp)); replace HK := aM (KeepBut.trans qz2 hk (.inl rfl)); replace HB := aM (hb); replace HI0 := aM (hi); (try clear hb); (try clear hb2); (try clear hk); (try clear hi); (try clear ho0)) | ((with_reducible refine gate_dst (N := 3) rfl ?_); refine bx_ 3 #[.slice none 0 0] 26 ?_; intro gb257 hg w8 hbox hb; replace HO254 := aM (Kd.N_below (Kd.N_elderB qz23 gb257 (Nat.le_of_eq hg.symm)) hb); replace HB := bS_ hb; have BK257 := aM (hbox); have GW257 := aM (kz_ w g hg qz2); have GE257 := aM ((Nat.le_trans HW0.out (by rw [hg]; exact (keep_size (w := w) (g := g) (row := none) qz2) : w.heap.size ≤ gb257) : w0.heap.size ≤ gb257)); replace HK := aM (KeepBut.trans qz2 (KeepBut.of_below hb g none) (.inl rfl)); obtain ⟨NB251_257, NB257_251⟩ := nb_ hg (bk_ BK251.out); replace BK251 := bB_ BK251 hb; have NB0_257 := aM ((by rw [hg]; exact Nat.ne_of_lt (IsS122.lt (show IsS122 w0 _ g s0_0 t255 t256 from qz3)) : g ≠ gb257)); have NB257_0 := aM ((by rw [hg]; exact Nat.ne_of_gt (IsS122.lt (show IsS122 w0 _ g s0_0 t255 t256 from qz3)) : gb257 ≠ g)); replace HI0 := aM (IsS122.below qz3 hb); clear hb hbox hg; obtain ⟨Ao9, co9, eo9⟩ := Kd.N_slice HO254.out; subst eo9; have hnb10 := NB257_251.out; have hnc10 := NB251_257.out; have hnb11 := NB257_0.out; have hnc11 := NB0_257.out; obtain ⟨hcz12_0, hfz12_0⟩ := bf_ BK257.out) | ((with_reducible refine gate_callee (f := 102) rfl ?_); refine goesL_ (some 7) rfl rfl Try.func102 (by kernel_rfl) rfl #[.pointer (some ⟨g, 0, none⟩), .int .i64 8] rfl qz4 ?_; (with_reducible refine (spec_l1Once.calls g s0_0 t255 t256 8 true t259 t260 w0 _ ?side1 ?side2 A3.out).mono ?_); (case side1 => exact qz3); (case side2 => exact qz1); rintro e w13 ⟨rfl, hi, hb, hk⟩; refine ⟨_, rfl, ?_⟩; replace BK251 := aM (KeepBut.blk hk (g' := gb251) (o := .cells #[.slice none 0 0] 26 (0, 0)) (bk2_ BK251.out) NB251_0.out (by simp)); replace HO254 := aM (Kd.N_mono (Kd.N_keep (Kd.N_mono (ok := fun k_ => ((((w.heap.size ≤ k_)) ∧ (k_ ≠ gb251 ∧ k_ ≠ g)) ∧ k_ ≠ gb257)) (by (with_reducible repeat (first | apply Kd.N_alloc | apply Kd.N_drewN | apply Kd.N_drew)); exact (Kd.N_mono (Kd.N_far (p := ⟨gb257, 0, none⟩) (Kd.N_mono HO254.out (fun k_ hk => (⟨hk, hk.2⟩ : _ ∧ k_ ≠ gb257))) (fun _ hk => hk.2) (.slice Ao9 t252.length co9)) (fun _ h_ => h_.1))) (fun k_ hk_ => (⟨hk_, hk_.1.2.2⟩ : _ ∧ k_ ≠ g))) hk (fun _ h => h.2)) (fun _ h => h.1)); replace BK257 := aM (KeepBut.blk hk (g' := gb257) (o := .cells #[.slice Ao9 t252.length co9] 26 (0, 0)) (by (with_reducible repeat (first | refine blk_drewN ?_ _ | refine blk_drew ?_ | refine blk_alloc ?_ _)); refine blk_put (cs := #[.slice none 0 0]) ?_ 0 _ rfl; exact bk_ BK257.out) NB257_0.out (by simp)); replace HK := aM (KeepBut.trans qz2 hk (.inl rfl)); replace HB := aM (hb); replace HI0 := aM (hi); (try clear hb); (try clear hb2); (try clear hk); (try clear hi); obtain ⟨hcz14_0, hfz14_0⟩ := bf_ BK257.out) | ((with_reducible refine gate_callee (f := 103) rfl ?_); refine goesL_ (some 10) rfl rfl Try.func103 (by kernel_rfl) rfl #[.pointer (some ⟨g, 0, none⟩), .agg #[.slice Ao9 t252.length co9]] rfl qz4 ?_; (with_reducible refine (spec_l5Bend.calls k g s0_0 t259 t260 _ _ t252 t261 t264 t265 w0 _ ?side1 ?side2 ?side3 ?side4 A5.out).mono ?_); (case side1 => exact qz3); (case side2 => exact qz1); (case side3 => exact Kd.C_foot_ownV (base := 0) (Kd.N_V (Kd.N_mono (ok := fun k_ => ((((w.heap.size ≤ k_)) ∧ (k_ ≠ gb251 ∧ k_ ≠ g)) ∧ k_ ≠ gb257)) qz23 (fun k_ hk_ => (⟨hk_, hk_.1.2.2⟩ : _ ∧ k_ ≠ g)))) (fun _ h_ => h_.2)); (case side4 => exact (Kd.N_reads' HO254.out).2.1); rintro e w15 ⟨v262, rfl, ho0, hi, hb, hk⟩; refine ⟨_, rfl, ?_⟩; have HO263 := aM (Kd.N_lower (Kd.N_mono (ok' := fun k_ => (w.heap.size ≤ k_) ∧ some k_ ≠ (.slice Ao9 t252.length co9 : Value).ownBlock ∧ k_ ≠ gb251 ∧ k_ ≠ gb257 ∧ k_ ≠ g) ho0 (fun k_ hk_ => ⟨(Nat.le_trans (keep_size (w := w) (g := g) (row := none) qz2) hk_), (Kd.fresh' (Kd.N_lt qz23) k_ hk_), (Kd.freshB (bk_ BK251.out) k_ hk_), (Kd.freshB (bk_ BK257.out) k_ hk_), (IsS122.fresh qz3 k_ hk_)⟩)) (keep_size (w := w) (g := g) (row := none) qz2)); replace BK251 := aM (KeepBut.blk hk (bk_ BK251.out) NB251_0.out (by simp)); replace HO254 := aM (Kd.N_mono (Kd.N_told (Kd.N_oldK (Kd.N_mono (ok := fun k_ => ((((w.heap.size ≤ k_)) ∧ (k_ ≠ gb251 ∧ k_ ≠ g)) ∧ k_ ≠ gb257)) qz23 (fun k_ hk_ => (⟨hk_, hk_.1.2.2⟩ : _ ∧ k_ ≠ g))) hk) (Kd.N_base ho0)) (fun _ h_ => h_.1)); replace BK257 := aM (KeepBut.blk hk (bk_ BK257.out) NB257_0.out (by simp)); replace HK := aM (KeepBut.trans qz2 hk (.inl rfl)); replace HB := aM (hb); replace HI0 := aM (hi); (try clear hb); (try clear hb2); (try clear hk); (try clear hi); (try clear ho0); obtain ⟨Ao16, co16, eo16⟩ := Kd.N_slice HO263.out; subst eo16; obtain ⟨hcz17_0, hfz17_0⟩ := bf_ BK257.out; have hnb18 := NB251_0.out; have hnc18 := NB0_251.out; obtain ⟨hcz19_0, hfz19_0⟩ := bf_ BK251.out))
 refine bodyPost_ret (results_cell_row rfl _ _ gb251 26 #[.slice Ao16 t261.length co16] (0, 0) _ rfl (by (with_reducible repeat (first | refine blk_drewN ?_ _ | refine blk_drew ?_ | refine blk_alloc ?_ _)); refine blk_put (cs := #[.slice none 0 0]) ?_ 0 _ rfl; (with_reducible repeat (first | refine blk_drewN ?_ _ | refine blk_drew ?_ | refine blk_alloc ?_ _)); exact bk2_ BK251.out) Try.underlying26 rfl (by kernel_rfl)) rfl ?_
 exact ⟨_, qzw, by (with_reducible repeat (first | apply Kd.N_alloc | apply Kd.N_drewN | apply Kd.N_drew)); exact Kd.N_mono (Kd.N_far (p := ⟨gb251, 0, none⟩) (Kd.N_far (p := ⟨gb257, 0, none⟩) (Kd.N_mono (Kd.N_mono HO263.out (fun k_ hk => (⟨hk, hk.2.2.2.1⟩ : _ ∧ k_ ≠ gb257))) (fun k_ hk => (⟨hk, hk.1.2.2.1⟩ : _ ∧ k_ ≠ gb251))) (fun _ hk => hk.1.2) (.slice Ao16 t261.length co16)) (fun _ hk => hk.2) (.slice Ao16 t261.length co16)) (fun _ hk => hk.1.1.1), qz3, qz1, qz2⟩
 }
 {
 replace c4 := Bool.eq_false_iff.mpr c4
 subst c4
 rw [if_neg (show ¬ (false = true) by decide)] at H
 simp only [Option.some.injEq, Prod.mk.injEq] at H
 obtain ⟨rfl, rfl, rfl⟩ := H
 go_enter Try.func76, Try.ntmps76
 go_wp2_with (first | ((with_reducible refine gate_dst (N := 2) rfl ?_); refine bx_ 2 #[.slice none 0 0] 26 ?_; intro gb251 hg w20 hbox hb; replace HB := bS_ hb; have BK251 := aM (hbox); have GW251 := aM (kz_ w g hg qz2); have GE251 := aM ((Nat.le_trans HW0.out (by rw [hg]; exact (keep_size (w := w) (g := g) (row := none) qz2) : w.heap.size ≤ gb251) : w0.heap.size ≤ gb251)); replace HK := aM (KeepBut.trans qz2 (KeepBut.of_below hb g none) (.inl rfl)); have NB0_251 := aM ((by rw [hg]; exact Nat.ne_of_lt (IsS122.lt (show IsS122 w0 _ g s0_0 s0_1 s0_2 from qz3)) : g ≠ gb251)); have NB251_0 := aM ((by rw [hg]; exact Nat.ne_of_gt (IsS122.lt (show IsS122 w0 _ g s0_0 s0_1 s0_2 from qz3)) : gb251 ≠ g)); replace HI0 := aM (IsS122.below qz3 hb); clear hb hbox hg) | ((with_reducible refine gate_callee (f := 101) rfl ?_); refine goesL_ (some 5) rfl rfl Try.func101 (by kernel_rfl) rfl #[.pointer (some ⟨g, 0, none⟩)] rfl qz4 ?_; (with_reducible refine (spec_l5Draw.calls k g s0_0 s0_1 s0_2 t252 t255 t256 w0 _ ?side1 ?side2 A2.out).mono ?_); (case side1 => exact qz3); (case side2 => exact qz1); rintro e w21 ⟨v253, rfl, ho0, hi, hb, hk⟩; refine ⟨_, rfl, ?_⟩; have HO254 := aM (Kd.N_lower (Kd.N_mono (ok' := fun k_ => (w.heap.size ≤ k_) ∧ k_ ≠ gb251 ∧ k_ ≠ g) (Kd.S_N (Kd.S_bound ho0)) (fun k_ hk_ => ⟨(Nat.le_trans (keep_size (w := w) (g := g) (row := none) qz2) hk_.2.1), (Kd.freshB (bk_ BK251.out) k_ hk_.2.1), (IsS122.fresh qz3 k_ hk_.2.1)⟩)) (keep_size (w := w) (g := g) (row := none) qz2)); replace BK251 := aM (KeepBut.blk hk (bk_ BK251.out) NB251_0.out (by simp)); replace HK := aM (KeepBut.trans qz2 hk (.inl rfl)); replace HB := aM (hb); replace HI0 := aM (hi); (try clear hb); (try clear hb2); (try clear hk); (try clear hi); (try clear ho0)) | ((with_reducible refine gate_dst (N := 3) rfl ?_); refine bx_ 3 #[.slice none 0 0] 26 ?_; intro gb257 hg w22 hbox hb; replace HO254 := aM (Kd.N_below (Kd.N_elderB qz23 gb257 (Nat.le_of_eq hg.symm)) hb); replace HB := bS_ hb; have BK257 := aM (hbox); have GW257 := aM (kz_ w g hg qz2); have GE257 := aM ((Nat.le_trans HW0.out (by rw [hg]; exact (keep_size (w := w) (g := g) (row := none) qz2) : w.heap.size ≤ gb257) : w0.heap.size ≤ gb257)); replace HK := aM (KeepBut.trans qz2 (KeepBut.of_below hb g none) (.inl rfl)); obtain ⟨NB251_257, NB257_251⟩ := nb_ hg (bk_ BK251.out); replace BK251 := bB_ BK251 hb; have NB0_257 := aM ((by rw [hg]; exact Nat.ne_of_lt (IsS122.lt (show IsS122 w0 _ g s0_0 t255 t256 from qz3)) : g ≠ gb257)); have NB257_0 := aM ((by rw [hg]; exact Nat.ne_of_gt (IsS122.lt (show IsS122 w0 _ g s0_0 t255 t256 from qz3)) : gb257 ≠ g)); replace HI0 := aM (IsS122.below qz3 hb); clear hb hbox hg; obtain ⟨Ao23, co23, eo23⟩ := Kd.N_slice HO254.out; subst eo23; have hnb24 := NB257_251.out; have hnc24 := NB251_257.out; have hnb25 := NB257_0.out; have hnc25 := NB0_257.out; obtain ⟨hcz26_0, hfz26_0⟩ := bf_ BK257.out) | ((with_reducible refine gate_callee (f := 102) rfl ?_); refine goesL_ (some 7) rfl rfl Try.func102 (by kernel_rfl) rfl #[.pointer (some ⟨g, 0, none⟩), .int .i64 8] rfl qz4 ?_; (with_reducible refine (spec_l1Once.calls g s0_0 t255 t256 8 false t259 t260 w0 _ ?side1 ?side2 A3.out).mono ?_); (case side1 => exact qz3); (case side2 => exact qz1); rintro e w27 ⟨rfl, hi, hb, hk⟩; refine ⟨_, rfl, ?_⟩; replace BK251 := aM (KeepBut.blk hk (g' := gb251) (o := .cells #[.slice none 0 0] 26 (0, 0)) (bk2_ BK251.out) NB251_0.out (by simp)); replace HO254 := aM (Kd.N_mono (Kd.N_keep (Kd.N_mono (ok := fun k_ => ((((w.heap.size ≤ k_)) ∧ (k_ ≠ gb251 ∧ k_ ≠ g)) ∧ k_ ≠ gb257)) (by (with_reducible repeat (first | apply Kd.N_alloc | apply Kd.N_drewN | apply Kd.N_drew)); exact (Kd.N_mono (Kd.N_far (p := ⟨gb257, 0, none⟩) (Kd.N_mono HO254.out (fun k_ hk => (⟨hk, hk.2⟩ : _ ∧ k_ ≠ gb257))) (fun _ hk => hk.2) (.slice Ao23 t252.length co23)) (fun _ h_ => h_.1))) (fun k_ hk_ => (⟨hk_, hk_.1.2.2⟩ : _ ∧ k_ ≠ g))) hk (fun _ h => h.2)) (fun _ h => h.1)); replace BK257 := aM (KeepBut.blk hk (g' := gb257) (o := .cells #[.slice Ao23 t252.length co23] 26 (0, 0)) (by (with_reducible repeat (first | refine blk_drewN ?_ _ | refine blk_drew ?_ | refine blk_alloc ?_ _)); refine blk_put (cs := #[.slice none 0 0]) ?_ 0 _ rfl; exact bk_ BK257.out) NB257_0.out (by simp)); replace HK := aM (KeepBut.trans qz2 hk (.inl rfl)); replace HB := aM (hb); replace HI0 := aM (hi); (try clear hb); (try clear hb2); (try clear hk); (try clear hi); obtain ⟨hcz28_0, hfz28_0⟩ := bf_ BK257.out; have hnb29 := NB251_0.out; have hnc29 := NB0_251.out; obtain ⟨hcz30_0, hfz30_0⟩ := bf_ BK251.out))
 refine bodyPost_ret (results_cell_row rfl _ _ gb251 26 #[.slice Ao23 t252.length co23] (0, 0) _ rfl (by (with_reducible repeat (first | refine blk_drewN ?_ _ | refine blk_drew ?_ | refine blk_alloc ?_ _)); refine blk_put (cs := #[.slice none 0 0]) ?_ 0 _ rfl; exact bk_ BK251.out) Try.underlying26 rfl (by kernel_rfl)) rfl ?_
 exact ⟨_, qzw, by (with_reducible repeat (first | apply Kd.N_alloc | apply Kd.N_drewN | apply Kd.N_drew)); exact Kd.N_mono (Kd.N_far (p := ⟨gb251, 0, none⟩) (Kd.N_mono HO254.out (fun k_ hk => (⟨hk, hk.1.2.1⟩ : _ ∧ k_ ≠ gb251))) (fun _ hk => hk.2) (.slice Ao23 t252.length co23)) (fun _ hk => hk.1.1.1), qz3, qz1, qz2⟩

 }
/-! ### spec_l6Items: function 104 -/
def spec_l6Items.l0 : Nat → List (S48) → Int → List Int → Int → Int → Option ((List (S48)) × Int × Int)
 | 0, _, _, _, _, _ => none
 | k + 1, x3, x4, x1000, x1001, x1002 => if x4 < 6 then ((spec_l1Once.f x1000 x1001 x1002 4).bind fun bt269 => (if bt269.1 = true then ((spec_l1Int.f x1000 bt269.2.1 bt269.2.2 (([1, 1, 1, 2, 3, 9] : List Int))).bind fun bt275 => (if x3.length < 8796093022208 then (spec_l6Items.l0 k (x3 ++ [(⟨x4, bt275.1⟩ : S48)]) (wrap64 (x4 + 1)) x1000 bt275.2.1 bt275.2.2) else (none))) else (spec_l6Items.l0 k x3 (wrap64 (x4 + 1)) x1000 bt269.2.1 bt269.2.2))) else (some (x3, x1001, x1002))
def spec_l6Items.f (k : Nat) (s0_0 : List Int) (s0_1 : Int) (s0_2 : Int) : Option ((List (S48)) × Int × Int) := spec_l6Items.l0 k (([] : List (S48))) 1 s0_0 s0_1 s0_2
theorem spec_l6Items.mono_l : ∀ k, (∀ y0 y1 y2 y3 y4, LeO (spec_l6Items.l0 k y0 y1 y2 y3 y4) (spec_l6Items.l0 (k + 1) y0 y1 y2 y3 y4))
 | 0 => fun _ _ _ _ _ r h => by simp [spec_l6Items.l0] at h
 | k + 1 => by
  have ih0 := spec_l6Items.mono_l k
  {
  intro y0 y1 y2 y3 y4
  unfold spec_l6Items.l0
  exact qL
  }
theorem spec_l6Items.mono : ∀ a0 a1 a2 k, LeO (spec_l6Items.f k a0 a1 a2) (spec_l6Items.f (k + 1) a0 a1 a2) := by
 intro a0 a1 a2 k
 have ih0 := spec_l6Items.mono_l k
 unfold spec_l6Items.f
 exact qL
set_option maxHeartbeats 8000000 in
set_option maxRecDepth 100000 in
theorem spec_l6Items.calls (k : Nat) (g : Nat) (s0_0 : List Int) (s0_1 : Int) (s0_2 : Int) (r1 : List (S48)) (r2 : Int) (r3 : Int) (w0 w : World) (hI : IsS122 w0 w g s0_0 s0_1 s0_2) (hB : Below w0.heap.size w0 w) (h : spec_l6Items.f k s0_0 s0_1 s0_2 = some (r1, r2, r3)) :
  Calls Try.prog 104 #[.pointer (some ⟨g, 0, none⟩)] w fun e w' => ∃ v0_ : Value, e = .returned (v0_) ∧ Kd.R k48 48 w' w.heap.size (fun _ => True) v0_ r1 ∧ IsS122 w0 w' g s0_0 r2 r3 ∧ Below w0.heap.size w0 w' ∧ KeepBut w w' g none := by
 have hu48 := Try.underlying48
 have HI0 := aM hI
 have HK := aM (KeepBut.refl w g none)
 have HL := aM hB.size
 clear hI
 have HW0 := aM hB.size
 have HB := aM hB
 clear hB
 have H : (spec_l6Items.l0 k (([] : List (S48))) 1 s0_0 s0_1 s0_2) = some (r1, r2, r3) := h
 clear h
 obtain ⟨y266, hy266⟩ : ∃ y_ : List (S48), y_ = (([] : List (S48))) := ⟨_, rfl⟩
 replace H : (spec_l6Items.l0 k y266 1 s0_0 s0_1 s0_2) = some (r1, r2, r3) := by first | (rw [hy266]; with_reducible exact H) | (have H2_ := (Option.bind_some _ _).symm.trans H; rw [hy266]; with_reducible exact H2_) | (have H2_ := (Option.bind_some _ _).symm.trans H; with_reducible exact H2_) | with_reducible exact H | (rw [hy266]; exact H) | exact H
 have Ny266 := aM hy266
 clear hy266
 have H' := aM H
 clear H
 go_enter Try.func104, Try.ntmps104
 go_wp2_with (first | ((with_reducible refine gate_dst (N := 5) rfl ?_); refine Kd.R_lit k48 _ 48 ?hg (N := 5) ?hd (xs := ([] : List (S48))) (inner := []) (ok := fun _ => True) (okp := fun _ => True) ?hr ?hp (fun _ hk => hk) trivial (Below.refl _ _) (Nat.le_refl _) (by simp) ?_; (case hd => rfl); (case hg => rfl); (case hr => exact qz27); (case hp => exact (Reps.none _ _)); intro v267 w2 ho3 hb hg_ hnew_; clear hg_ hnew_; (first | rw [← Ny266.out] at ho3 | (simp only [Int.reduceToNat] at ho3; rw [← Ny266.out] at ho3)); have HO268 := aM (Kd.R_lower ho3 (keep_size (w := w) (g := g) (row := none) qz2)); replace HK := aM (KeepBut.trans qz2 (KeepBut.of_below hb g none) (.inl rfl)); replace HB := bS_ hb; replace HI0 := aM (IsS122.below qz3 hb); clear hb ho3))
 go_loopg [3, 4] k (fun kq v3 v4 w' => ∃ (x3_1 : List (S48)) (x4_1 : Int) (x1001_1 : Int) (x1002_1 : Int), v4 = .int .i64 x4_1 ∧ Aside0 (spec_l6Items.l0 kq x3_1 x4_1 s0_0 x1001_1 x1002_1 = some (r1, r2, r3)) ∧ Aside0 (kq ≤ k) ∧ Aside0 (Kd.R k48 48 w' w.heap.size (fun _ => True) v3 x3_1) ∧ Aside0 (IsS122 w0 w' g s0_0 x1001_1 x1002_1) ∧ Aside0 (KeepBut w w' g none) ∧ Aside0 (Below w0.heap.size w0 w'))
 case atStart => exact ⟨(y266), (1), (s0_1), (s0_2), qz5, H', ⟨Nat.le_refl _⟩, ⟨rr_ HO268.out⟩, ⟨qz3⟩, ⟨qz2⟩, ⟨qz1⟩⟩
 case round =>
  clear H'
  try clear c1
  try clear p2
  obtain ⟨x3_1, x4_1, x1001_1, x1002_1, rfl, HA, HK1, HO_3, HI0, HK, HB⟩ := hrel
  cases gk with
  | zero => exact absurd HA.out (by simp [spec_l6Items.l0])
  | succ k1 =>
   have H := HA.out
   clear HA
   simp only [spec_l6Items.l0] at H
   by_cases c4 : x4_1 < 6
   {
   rw [if_pos c4] at H
   have c4b0 := decide_eq_true c4
   clear c4
   replace H := Option.bind_eq_some_iff.mp H
   obtain ⟨⟨t269, t270, t271⟩, A50, H⟩ := H
   replace H : (if t269 = true then ((spec_l1Int.f s0_0 t270 t271 (([1, 1, 1, 2, 3, 9] : List Int))).bind fun bt275 => (if x3_1.length < 8796093022208 then (spec_l6Items.l0 k1 (x3_1 ++ [(⟨x4_1, bt275.1⟩ : S48)]) (wrap64 (x4_1 + 1)) s0_0 bt275.2.1 bt275.2.2) else (none))) else (spec_l6Items.l0 k1 x3_1 (wrap64 (x4_1 + 1)) s0_0 t270 t271)) = some (r1, r2, r3) := H
   have A5 := aM A50
   clear A50
   by_cases c6 : t269 = true
   {
   subst c6
   rw [if_pos rfl] at H
   obtain ⟨y272, hy272⟩ : ∃ y_ : List Int, y_ = (([1, 1, 1, 2, 3, 9] : List Int)) := ⟨_, rfl⟩
   replace H : ((spec_l1Int.f s0_0 t270 t271 y272).bind fun bt275 => (if x3_1.length < 8796093022208 then (spec_l6Items.l0 k1 (x3_1 ++ [(⟨x4_1, bt275.1⟩ : S48)]) (wrap64 (x4_1 + 1)) s0_0 bt275.2.1 bt275.2.2) else (none))) = some (r1, r2, r3) := by first | (rw [hy272]; with_reducible exact H) | (have H2_ := (Option.bind_some _ _).symm.trans H; rw [hy272]; with_reducible exact H2_) | (have H2_ := (Option.bind_some _ _).symm.trans H; with_reducible exact H2_) | with_reducible exact H | (rw [hy272]; exact H) | exact H
   have Ny272 := aM hy272
   clear hy272
   replace H := Option.bind_eq_some_iff.mp H
   obtain ⟨⟨t275, t276, t277⟩, A70, H⟩ := H
   replace H : (if x3_1.length < 8796093022208 then (spec_l6Items.l0 k1 (x3_1 ++ [(⟨x4_1, t275⟩ : S48)]) (wrap64 (x4_1 + 1)) s0_0 t276 t277) else (none)) = some (r1, r2, r3) := H
   have A7 := aM A70
   clear A70
   by_cases c8 : x3_1.length < 8796093022208
   {
   rw [if_pos c8] at H
   have LMc8 := aM c8
   clear c8
   obtain ⟨y278, hy278⟩ : ∃ y_ : List (S48), y_ = (x3_1 ++ [(⟨x4_1, t275⟩ : S48)]) := ⟨_, rfl⟩
   replace H : (spec_l6Items.l0 k1 y278 (wrap64 (x4_1 + 1)) s0_0 t276 t277) = some (r1, r2, r3) := by first | (rw [hy278]; with_reducible exact H) | (have H2_ := (Option.bind_some _ _).symm.trans H; rw [hy278]; with_reducible exact H2_) | (have H2_ := (Option.bind_some _ _).symm.trans H; with_reducible exact H2_) | with_reducible exact H | (rw [hy278]; exact H) | exact H
   have Ny278 := aM hy278
   clear hy278
   have H' := aM H
   clear H
   go_wp2_with (first | ((with_reducible refine gate_callee (f := 102) rfl ?_); refine goesL_ (some 11) rfl rfl Try.func102 (by kernel_rfl) rfl #[.pointer (some ⟨g, 0, none⟩), .int .i64 4] rfl qz4 ?_; (with_reducible refine (spec_l1Once.calls g s0_0 x1001_1 x1002_1 4 true t270 t271 w0 _ ?side1 ?side2 A5.out).mono ?_); (case side1 => exact qz3); (case side2 => exact qz1); rintro e w9 ⟨rfl, hi, hb, hk⟩; refine ⟨_, rfl, ?_⟩; replace HO_3 := aM (Kd.R_mono (Kd.R_keep (IsS122.apart (show IsS122 w0 _ g s0_0 x1001_1 x1002_1 from qz3) (rr_ HO_3.out) (by decide)) hk (fun _ h => h.2)) (fun _ h => h.1)); replace HK := aM (KeepBut.trans qz2 hk (.inl rfl)); replace HB := aM (hb); replace HI0 := aM (hi); (try clear hb); (try clear hb2); (try clear hk); (try clear hi)) | ((with_reducible refine gate_dst (N := 15) rfl ?_); refine Kd.R_lit (Kd.int .i64) _ 3 ?hg (N := 15) ?hd (xs := ([1, 1, 1, 2, 3, 9] : List Int)) (inner := [.int .i64 1, .int .i64 1, .int .i64 1, .int .i64 2, .int .i64 3, .int .i64 9]) (ok := fun _ => True) (okp := fun _ => True) ?hr ?hp (fun _ hk => hk) trivial (Below.refl _ _) (Nat.le_refl _) (by simp) ?_; (case hd => rfl); (case hg => rfl); (case hr => exact qz27); (case hp => exact (Reps.one (show Kd.M (Kd.int .i64) _ _ _ 1 [.int .i64 1] from rfl) (Reps.one (show Kd.M (Kd.int .i64) _ _ _ 1 [.int .i64 1] from rfl) (Reps.one (show Kd.M (Kd.int .i64) _ _ _ 1 [.int .i64 1] from rfl) (Reps.one (show Kd.M (Kd.int .i64) _ _ _ 2 [.int .i64 2] from rfl) (Reps.one (show Kd.M (Kd.int .i64) _ _ _ 3 [.int .i64 3] from rfl) (Reps.one (show Kd.M (Kd.int .i64) _ _ _ 9 [.int .i64 9] from rfl) (Reps.none _ _)))))))); intro v273 w10 ho11 hb hg_ hnew_; clear hg_ hnew_; (first | rw [← Ny272.out] at ho11 | (simp only [Int.reduceToNat] at ho11; rw [← Ny272.out] at ho11)); replace HO_3 := aM (Kd.R_below (rr_ HO_3.out) hb); have HO274 := aM (Kd.R_lower ho11 (keep_size (w := w) (g := g) (row := none) qz2)); replace HK := aM (KeepBut.trans qz2 (KeepBut.of_below hb g none) (.inl rfl)); replace HB := bS_ hb; replace HI0 := aM (IsS122.below qz3 hb); clear hb ho11; obtain ⟨Ao12, co12, eo12⟩ := Kd.R_slice HO274.out; subst eo12) | ((with_reducible refine gate_callee (f := 92) rfl ?_); refine goesL_ (some 16) rfl rfl Try.func92 (by kernel_rfl) rfl #[.pointer (some ⟨g, 0, none⟩), .slice Ao12 y272.length co12] rfl qz4 ?_; (with_reducible refine (spec_l1Int.calls g s0_0 t270 t271 _ _ y272 t275 t276 t277 w0 _ ?side1 ?side2 ?side3 ?side4 ?side5 A7.out).mono ?_); (case side1 => exact qz3); (case side2 => exact qz1); (case side3 => repeat (first | exact (Kd.R_reads' HO274.out).2.2 | (with_reducible refine Kd.C_alloc ?_ _) | (with_reducible refine Kd.C_drewN ?_ _) | (with_reducible refine Kd.C_drew ?_))); (case side4 => exact (Kd.R_reads' HO274.out).2.1); (case side5 => exact far_slice (IsS122.own_ne HI0.out HO274.out (by decide))); rintro e w13 ⟨rfl, hi, hb, hk⟩; refine ⟨_, rfl, ?_⟩; replace HO_3 := aM (Kd.R_mono (Kd.R_keep (IsS122.apart (show IsS122 w0 _ g s0_0 t270 t271 from qz3) (rr_ HO_3.out) (by decide)) hk (fun _ h => h.2)) (fun _ h => h.1)); replace HO274 := aM (Kd.R_mono (Kd.R_keep (IsS122.apart (show IsS122 w0 _ g s0_0 t270 t271 from qz3) (rr_ HO274.out) (by decide)) hk (fun _ h => h.2)) (fun _ h => h.1)); replace HK := aM (KeepBut.trans qz2 hk (.inl rfl)); replace HB := aM (hb); replace HI0 := aM (hi); (try clear hb); (try clear hb2); (try clear hk); (try clear hi)) | ((with_reducible refine gate_builtin (b := .append) (xs := #[.tmp 12, .tmp 18]) rfl ?_); at_builtin; refine Kd.R_append k48 w.heap.size rfl (.tmp 12) (.tmp 18) 40 48 (.agg #[(.int .i64 0), (.int .i64 0)]) 16 rfl Try.underlying40 info48 rfl (by decide) (by omega) u3 x3_1 (⟨x4_1, t275⟩ : S48) [.int .i64 x4_1, .int .i64 t275] (fun _ => True) (fun _ => False) rfl rfl ?aP (fun _ hk => hk.elim) ?aF ?aO (Below.refl _ _) ?aS ?aL ?_; (case aP => exact k48_mkM _ _ _ (⟨x4_1, t275⟩ : S48)); (case aF => exact (fun _ _ => trivial)); (case aO => exact (rr_ HO_3.out)); (case aS => exact (keep_size (w := w) (g := g) (row := none) qz2)); (case aL => have := LMc8.out; omega); intro v279 w14 ho hb hg hat; rw [← Ny278.out] at ho; replace HO274 := aM (Kd.R_over' (rr_ HO274.out) (Kd.R_typed (rr_ HO_3.out)) (by decide) hg); replace HB := aM (below_weaken qz1 HL.out hb); replace HI0 := aM (IsS122.grown qz3 hg (IsS122.own_ne HI0.out HO_3.out (by decide))); replace HK := aM (KeepBut.trans qz2 (KeepBut.of_grown hg g) (Kd.R_base2 HO_3.out)); have HO280 := aM (ho); clear HO_3; clear ho hb hg hat))
   go_roundg k1
   case measure => have := HK1.out; omega
   case rel => exact ⟨(y278), (wrap64 (x4_1 + 1)), (t276), (t277), qz5, H', ⟨by have := HK1.out; omega⟩, ⟨rm_ HO280.out⟩, ⟨qz3⟩, ⟨qz2⟩, ⟨qz1⟩⟩
   }
   {
   exact an_ c8 H
   }
   }
   {
   replace c6 := Bool.eq_false_iff.mpr c6
   subst c6
   rw [if_neg (show ¬ (false = true) by decide)] at H
   have H' := aM H
   clear H
   go_wp2_with (first | ((with_reducible refine gate_callee (f := 102) rfl ?_); refine goesL_ (some 11) rfl rfl Try.func102 (by kernel_rfl) rfl #[.pointer (some ⟨g, 0, none⟩), .int .i64 4] rfl qz4 ?_; (with_reducible refine (spec_l1Once.calls g s0_0 x1001_1 x1002_1 4 false t270 t271 w0 _ ?side1 ?side2 A5.out).mono ?_); (case side1 => exact qz3); (case side2 => exact qz1); rintro e w15 ⟨rfl, hi, hb, hk⟩; refine ⟨_, rfl, ?_⟩; replace HO_3 := aM (Kd.R_mono (Kd.R_keep (IsS122.apart (show IsS122 w0 _ g s0_0 x1001_1 x1002_1 from qz3) (rr_ HO_3.out) (by decide)) hk (fun _ h => h.2)) (fun _ h => h.1)); replace HK := aM (KeepBut.trans qz2 hk (.inl rfl)); replace HB := aM (hb); replace HI0 := aM (hi); (try clear hb); (try clear hb2); (try clear hk); (try clear hi)))
   go_roundg k1
   case measure => have := HK1.out; omega
   case rel => exact ⟨(x3_1), (wrap64 (x4_1 + 1)), (t270), (t271), qz5, H', ⟨by have := HK1.out; omega⟩, ⟨rm_ HO_3.out⟩, ⟨qz3⟩, ⟨qz2⟩, ⟨qz1⟩⟩
   }
   }
   {
   rw [if_neg c4] at H
   have c4b0 := decide_eq_false c4
   clear c4
   simp only [Option.some.injEq, Prod.mk.injEq] at H
   obtain ⟨rfl, rfl, rfl⟩ := H
   go_wp2
   go_ret
   exact ⟨_, qzw, by (with_reducible repeat (first | apply Kd.R_alloc | apply Kd.R_drewN | apply Kd.R_drew)); exact HO_3.out, qz3, qz1, qz2⟩

   }
/-! ### spec_l6ItemsAny: function 77 -/
def spec_l6ItemsAny.f (k : Nat) (s0_0 : List Int) (s0_1 : Int) (s0_2 : Int) : Option ((List (S48)) × Int × Int) := (spec_l6Items.f k s0_0 s0_1 s0_2).bind fun bt281 => ((spec_l1Below.f s0_0 bt281.2.1 bt281.2.2 10).bind fun bt286 => (if bt286.1 = 0 then ((spec_l1Int.f s0_0 bt286.2.1 bt286.2.2 (([0, 1, 50, 51] : List Int))).bind fun bt292 => ((spec_l1Int.f s0_0 bt292.2.1 bt292.2.2 (([0, 1, 1001] : List Int))).bind fun bt298 => (if bt281.1.length < 8796093022208 then (some ((bt281.1 ++ [(⟨bt292.1, bt298.1⟩ : S48)]), bt298.2.1, bt298.2.2)) else (none)))) else (some (bt281.1, bt286.2.1, bt286.2.2))))
theorem spec_l6ItemsAny.mono : ∀ a0 a1 a2 k, LeO (spec_l6ItemsAny.f k a0 a1 a2) (spec_l6ItemsAny.f (k + 1) a0 a1 a2) := by
 intro a0 a1 a2 k
 unfold spec_l6ItemsAny.f
 have j0 := @spec_l6Items.mono
 exact qL
set_option maxHeartbeats 8000000 in
set_option maxRecDepth 100000 in
theorem spec_l6ItemsAny.calls (k : Nat) (g : Nat) (s0_0 : List Int) (s0_1 : Int) (s0_2 : Int) (r1 : List (S48)) (r2 : Int) (r3 : Int) (w0 w : World) (hI : IsS122 w0 w g s0_0 s0_1 s0_2) (hB : Below w0.heap.size w0 w) (h : spec_l6ItemsAny.f k s0_0 s0_1 s0_2 = some (r1, r2, r3)) :
  Calls Try.prog 77 #[.pointer (some ⟨g, 0, none⟩)] w fun e w' => ∃ v0_ : Value, e = .returned (v0_) ∧ Kd.R k48 48 w' w.heap.size (fun _ => True) v0_ r1 ∧ IsS122 w0 w' g s0_0 r2 r3 ∧ Below w0.heap.size w0 w' ∧ KeepBut w w' g none := by
 have hu48 := Try.underlying48
 have HI0 := aM hI
 have HK := aM (KeepBut.refl w g none)
 have HL := aM hB.size
 clear hI
 have HW0 := aM hB.size
 have HB := aM hB
 clear hB
 have H : ((spec_l6Items.f k s0_0 s0_1 s0_2).bind fun bt281 => ((spec_l1Below.f s0_0 bt281.2.1 bt281.2.2 10).bind fun bt286 => (if bt286.1 = 0 then ((spec_l1Int.f s0_0 bt286.2.1 bt286.2.2 (([0, 1, 50, 51] : List Int))).bind fun bt292 => ((spec_l1Int.f s0_0 bt292.2.1 bt292.2.2 (([0, 1, 1001] : List Int))).bind fun bt298 => (if bt281.1.length < 8796093022208 then (some ((bt281.1 ++ [(⟨bt292.1, bt298.1⟩ : S48)]), bt298.2.1, bt298.2.2)) else (none)))) else (some (bt281.1, bt286.2.1, bt286.2.2))))) = some (r1, r2, r3) := h
 clear h
 replace H := Option.bind_eq_some_iff.mp H
 obtain ⟨⟨t281, t284, t285⟩, A20, H⟩ := H
 replace H : ((spec_l1Below.f s0_0 t284 t285 10).bind fun bt286 => (if bt286.1 = 0 then ((spec_l1Int.f s0_0 bt286.2.1 bt286.2.2 (([0, 1, 50, 51] : List Int))).bind fun bt292 => ((spec_l1Int.f s0_0 bt292.2.1 bt292.2.2 (([0, 1, 1001] : List Int))).bind fun bt298 => (if t281.length < 8796093022208 then (some ((t281 ++ [(⟨bt292.1, bt298.1⟩ : S48)]), bt298.2.1, bt298.2.2)) else (none)))) else (some (t281, bt286.2.1, bt286.2.2)))) = some (r1, r2, r3) := H
 have A2 := aM A20
 clear A20
 replace H := Option.bind_eq_some_iff.mp H
 obtain ⟨⟨t286, t287, t288⟩, A30, H⟩ := H
 replace H : (if t286 = 0 then ((spec_l1Int.f s0_0 t287 t288 (([0, 1, 50, 51] : List Int))).bind fun bt292 => ((spec_l1Int.f s0_0 bt292.2.1 bt292.2.2 (([0, 1, 1001] : List Int))).bind fun bt298 => (if t281.length < 8796093022208 then (some ((t281 ++ [(⟨bt292.1, bt298.1⟩ : S48)]), bt298.2.1, bt298.2.2)) else (none)))) else (some (t281, t287, t288))) = some (r1, r2, r3) := H
 have A3 := aM A30
 clear A30
 by_cases c4 : t286 = 0
 {
 rw [if_pos c4] at H
 have c4b0 := beq_iff_eq.mpr c4
 have c4b1 := bne_eq_false_iff_eq.mpr c4
 clear c4
 obtain ⟨y289, hy289⟩ : ∃ y_ : List Int, y_ = (([0, 1, 50, 51] : List Int)) := ⟨_, rfl⟩
 replace H : ((spec_l1Int.f s0_0 t287 t288 y289).bind fun bt292 => ((spec_l1Int.f s0_0 bt292.2.1 bt292.2.2 (([0, 1, 1001] : List Int))).bind fun bt298 => (if t281.length < 8796093022208 then (some ((t281 ++ [(⟨bt292.1, bt298.1⟩ : S48)]), bt298.2.1, bt298.2.2)) else (none)))) = some (r1, r2, r3) := by first | (rw [hy289]; with_reducible exact H) | (have H2_ := (Option.bind_some _ _).symm.trans H; rw [hy289]; with_reducible exact H2_) | (have H2_ := (Option.bind_some _ _).symm.trans H; with_reducible exact H2_) | with_reducible exact H | (rw [hy289]; exact H) | exact H
 have Ny289 := aM hy289
 clear hy289
 replace H := Option.bind_eq_some_iff.mp H
 obtain ⟨⟨t292, t293, t294⟩, A50, H⟩ := H
 replace H : ((spec_l1Int.f s0_0 t293 t294 (([0, 1, 1001] : List Int))).bind fun bt298 => (if t281.length < 8796093022208 then (some ((t281 ++ [(⟨t292, bt298.1⟩ : S48)]), bt298.2.1, bt298.2.2)) else (none))) = some (r1, r2, r3) := H
 have A5 := aM A50
 clear A50
 obtain ⟨y295, hy295⟩ : ∃ y_ : List Int, y_ = (([0, 1, 1001] : List Int)) := ⟨_, rfl⟩
 replace H : ((spec_l1Int.f s0_0 t293 t294 y295).bind fun bt298 => (if t281.length < 8796093022208 then (some ((t281 ++ [(⟨t292, bt298.1⟩ : S48)]), bt298.2.1, bt298.2.2)) else (none))) = some (r1, r2, r3) := by first | (rw [hy295]; with_reducible exact H) | (have H2_ := (Option.bind_some _ _).symm.trans H; rw [hy295]; with_reducible exact H2_) | (have H2_ := (Option.bind_some _ _).symm.trans H; with_reducible exact H2_) | with_reducible exact H | (rw [hy295]; exact H) | exact H
 have Ny295 := aM hy295
 clear hy295
 replace H := Option.bind_eq_some_iff.mp H
 obtain ⟨⟨t298, t299, t300⟩, A60, H⟩ := H
 replace H : (if t281.length < 8796093022208 then (some ((t281 ++ [(⟨t292, t298⟩ : S48)]), t299, t300)) else (none)) = some (r1, r2, r3) := H
 have A6 := aM A60
 clear A60
 by_cases c7 : t281.length < 8796093022208
 {
 rw [if_pos c7] at H
 have LMc7 := aM c7
 clear c7
 obtain ⟨y301, hy301⟩ : ∃ y_ : List (S48), y_ = (t281 ++ [(⟨t292, t298⟩ : S48)]) := ⟨_, rfl⟩
 replace H : (some (y301, t299, t300)) = some (r1, r2, r3) := by first | (rw [hy301]; with_reducible exact H) | (have H2_ := (Option.bind_some _ _).symm.trans H; rw [hy301]; with_reducible exact H2_) | (have H2_ := (Option.bind_some _ _).symm.trans H; with_reducible exact H2_) | with_reducible exact H | (rw [hy301]; exact H) | exact H
 have Ny301 := aM hy301
 clear hy301
 simp only [Option.some.injEq, Prod.mk.injEq] at H
 obtain ⟨rfl, rfl, rfl⟩ := H
 go_enter Try.func77, Try.ntmps77
 go_wp2_with (first | ((with_reducible refine gate_callee (f := 104) rfl ?_); refine goesL_ (some 5) rfl rfl Try.func104 (by kernel_rfl) rfl #[.pointer (some ⟨g, 0, none⟩)] rfl qz4 ?_; (with_reducible refine (spec_l6Items.calls k g s0_0 s0_1 s0_2 t281 t284 t285 w0 _ ?side1 ?side2 A2.out).mono ?_); (case side1 => exact qz3); (case side2 => exact qz1); rintro e w8 ⟨v282, rfl, ho0, hi, hb, hk⟩; refine ⟨_, rfl, ?_⟩; have HO283 := aM (Kd.R_lower ho0 (keep_size (w := w) (g := g) (row := none) qz2)); replace HK := aM (KeepBut.trans qz2 hk (.inl rfl)); replace HB := aM (hb); replace HI0 := aM (hi); (try clear hb); (try clear hb2); (try clear hk); (try clear hi); (try clear ho0)) | ((with_reducible refine gate_callee (f := 105) rfl ?_); refine goesL_ (some 7) rfl rfl Try.func105 (by kernel_rfl) rfl #[.pointer (some ⟨g, 0, none⟩), .int .i64 10] rfl qz4 ?_; (with_reducible refine (spec_l1Below.calls g s0_0 t284 t285 10 t286 t287 t288 w0 _ ?side1 ?side2 A3.out).mono ?_); (case side1 => exact qz3); (case side2 => exact qz1); rintro e w9 ⟨rfl, hi, hb, hk⟩; refine ⟨_, rfl, ?_⟩; replace HO283 := aM (Kd.R_mono (Kd.R_keep (IsS122.apart (show IsS122 w0 _ g s0_0 t284 t285 from qz3) (rr_ HO283.out) (by decide)) hk (fun _ h => h.2)) (fun _ h => h.1)); replace HK := aM (KeepBut.trans qz2 hk (.inl rfl)); replace HB := aM (hb); replace HI0 := aM (hi); (try clear hb); (try clear hb2); (try clear hk); (try clear hi)) | ((with_reducible refine gate_dst (N := 12) rfl ?_); refine Kd.R_lit (Kd.int .i64) _ 3 ?hg (N := 12) ?hd (xs := ([0, 1, 50, 51] : List Int)) (inner := [.int .i64 0, .int .i64 1, .int .i64 50, .int .i64 51]) (ok := fun _ => True) (okp := fun _ => True) ?hr ?hp (fun _ hk => hk) trivial (Below.refl _ _) (Nat.le_refl _) (by simp) ?_; (case hd => rfl); (case hg => rfl); (case hr => exact qz27); (case hp => exact (Reps.one (show Kd.M (Kd.int .i64) _ _ _ 0 [.int .i64 0] from rfl) (Reps.one (show Kd.M (Kd.int .i64) _ _ _ 1 [.int .i64 1] from rfl) (Reps.one (show Kd.M (Kd.int .i64) _ _ _ 50 [.int .i64 50] from rfl) (Reps.one (show Kd.M (Kd.int .i64) _ _ _ 51 [.int .i64 51] from rfl) (Reps.none _ _)))))); intro v290 w10 ho11 hb hg_ hnew_; clear hg_ hnew_; (first | rw [← Ny289.out] at ho11 | (simp only [Int.reduceToNat] at ho11; rw [← Ny289.out] at ho11)); replace HO283 := aM (Kd.R_below (rr_ HO283.out) hb); have HO291 := aM (Kd.R_lower ho11 (keep_size (w := w) (g := g) (row := none) qz2)); replace HK := aM (KeepBut.trans qz2 (KeepBut.of_below hb g none) (.inl rfl)); replace HB := bS_ hb; replace HI0 := aM (IsS122.below qz3 hb); clear hb ho11; obtain ⟨Ao12, co12, eo12⟩ := Kd.R_slice HO291.out; subst eo12) | ((with_reducible refine gate_callee (f := 92) rfl ?_); refine goesL_ (some 13) rfl rfl Try.func92 (by kernel_rfl) rfl #[.pointer (some ⟨g, 0, none⟩), .slice Ao12 y289.length co12] rfl qz4 ?_; (with_reducible refine (spec_l1Int.calls g s0_0 t287 t288 _ _ y289 t292 t293 t294 w0 _ ?side1 ?side2 ?side3 ?side4 ?side5 A5.out).mono ?_); (case side1 => exact qz3); (case side2 => exact qz1); (case side3 => repeat (first | exact (Kd.R_reads' HO291.out).2.2 | (with_reducible refine Kd.C_alloc ?_ _) | (with_reducible refine Kd.C_drewN ?_ _) | (with_reducible refine Kd.C_drew ?_))); (case side4 => exact (Kd.R_reads' HO291.out).2.1); (case side5 => exact far_slice (IsS122.own_ne HI0.out HO291.out (by decide))); rintro e w13 ⟨rfl, hi, hb, hk⟩; refine ⟨_, rfl, ?_⟩; replace HO283 := aM (Kd.R_mono (Kd.R_keep (IsS122.apart (show IsS122 w0 _ g s0_0 t287 t288 from qz3) (rr_ HO283.out) (by decide)) hk (fun _ h => h.2)) (fun _ h => h.1)); replace HO291 := aM (Kd.R_mono (Kd.R_keep (IsS122.apart (show IsS122 w0 _ g s0_0 t287 t288 from qz3) (rr_ HO291.out) (by decide)) hk (fun _ h => h.2)) (fun _ h => h.1)); replace HK := aM (KeepBut.trans qz2 hk (.inl rfl)); replace HB := aM (hb); replace HI0 := aM (hi); (try clear hb); (try clear hb2); (try clear hk); (try clear hi)) | ((with_reducible refine gate_dst (N := 15) rfl ?_); refine Kd.R_lit (Kd.int .i64) _ 3 ?hg (N := 15) ?hd (xs := ([0, 1, 1001] : List Int)) (inner := [.int .i64 0, .int .i64 1, .int .i64 1001]) (ok := fun _ => True) (okp := fun _ => True) ?hr ?hp (fun _ hk => hk) trivial (Below.refl _ _) (Nat.le_refl _) (by simp) ?_; (case hd => rfl); (case hg => rfl); (case hr => exact qz27); (case hp => exact qz29); intro v296 w14 ho15 hb hg_ hnew_; clear hg_ hnew_; (first | rw [← Ny295.out] at ho15 | (simp only [Int.reduceToNat] at ho15; rw [← Ny295.out] at ho15)); replace HO283 := aM (Kd.R_below (rr_ HO283.out) hb); have HO297 := aM (Kd.R_lower (Kd.R_new' ho15 (Kd.R_lt (rr_ HO291.out))) (keep_size (w := w) (g := g) (row := none) qz2)); replace HO291 := aM (Kd.R_elder' (rr_ HO291.out) (Kd.R_base ho15) hb); replace HK := aM (KeepBut.trans qz2 (KeepBut.of_below hb g none) (.inl rfl)); replace HB := bS_ hb; replace HI0 := aM (IsS122.below qz3 hb); clear hb ho15; obtain ⟨Ao16, co16, eo16⟩ := Kd.R_slice HO297.out; subst eo16) | ((with_reducible refine gate_callee (f := 92) rfl ?_); refine goesL_ (some 16) rfl rfl Try.func92 (by kernel_rfl) rfl #[.pointer (some ⟨g, 0, none⟩), .slice Ao16 y295.length co16] rfl qz4 ?_; (with_reducible refine (spec_l1Int.calls g s0_0 t293 t294 _ _ y295 t298 t299 t300 w0 _ ?side1 ?side2 ?side3 ?side4 ?side5 A6.out).mono ?_); (case side1 => exact qz3); (case side2 => exact qz1); (case side3 => repeat (first | exact (Kd.R_reads' HO297.out).2.2 | (with_reducible refine Kd.C_alloc ?_ _) | (with_reducible refine Kd.C_drewN ?_ _) | (with_reducible refine Kd.C_drew ?_))); (case side4 => exact (Kd.R_reads' HO297.out).2.1); (case side5 => exact far_slice (IsS122.own_ne HI0.out HO297.out (by decide))); rintro e w17 ⟨rfl, hi, hb, hk⟩; refine ⟨_, rfl, ?_⟩; replace HO283 := aM (Kd.R_mono (Kd.R_keep (IsS122.apart (show IsS122 w0 _ g s0_0 t293 t294 from qz3) (rr_ HO283.out) (by decide)) hk (fun _ h => h.2)) (fun _ h => h.1)); replace HO291 := aM (Kd.R_mono (Kd.R_keep (IsS122.apart (show IsS122 w0 _ g s0_0 t293 t294 from qz3) (rr_ HO291.out) (by decide)) hk (fun _ h => h.2)) (fun _ h => h.1)); replace HO297 := aM (Kd.R_mono (Kd.R_keep (IsS122.apart (show IsS122 w0 _ g s0_0 t293 t294 from qz3) (rr_ HO297.out) (by decide)) hk (fun _ h => h.2)) (fun _ h => h.1)); replace HK := aM (KeepBut.trans qz2 hk (.inl rfl)); replace HB := aM (hb); replace HI0 := aM (hi); (try clear hb); (try clear hb2); (try clear hk); (try clear hi)) | ((with_reducible refine gate_builtin (b := .append) (xs := #[.tmp 10, .tmp 18]) rfl ?_); at_builtin; refine Kd.R_append k48 w.heap.size rfl (.tmp 10) (.tmp 18) 40 48 (.agg #[(.int .i64 0), (.int .i64 0)]) 16 rfl Try.underlying40 info48 rfl (by decide) (by omega) v282 t281 (⟨t292, t298⟩ : S48) [.int .i64 t292, .int .i64 t298] (fun _ => True) (fun _ => False) rfl rfl ?aP (fun _ hk => hk.elim) ?aF ?aO (Below.refl _ _) ?aS ?aL ?_; (case aP => exact k48_mkM _ _ _ (⟨t292, t298⟩ : S48)); (case aF => exact (fun _ _ => trivial)); (case aO => exact (rr_ HO283.out)); (case aS => exact (keep_size (w := w) (g := g) (row := none) qz2)); (case aL => have := LMc7.out; omega); intro v302 w18 ho hb hg hat; rw [← Ny301.out] at ho; replace HO291 := aM (Kd.R_over' (rr_ HO291.out) (Kd.R_typed (rr_ HO283.out)) (by decide) hg); replace HO297 := aM (Kd.R_over' (rr_ HO297.out) (Kd.R_typed (rr_ HO283.out)) (by decide) hg); replace HB := aM (below_weaken qz1 HL.out hb); replace HI0 := aM (IsS122.grown qz3 hg (IsS122.own_ne HI0.out HO283.out (by decide))); replace HK := aM (KeepBut.trans qz2 (KeepBut.of_grown hg g) (Kd.R_base2 HO283.out)); have HO303 := aM (ho); clear HO283; clear ho hb hg hat))
 go_ret
 exact ⟨_, qzw, by (with_reducible repeat (first | apply Kd.R_alloc | apply Kd.R_drewN | apply Kd.R_drew)); exact HO303.out, qz3, qz1, qz2⟩
 }
 {
 exact an_ c7 H
 }
 }
 {
 rw [if_neg c4] at H
 have c4b0 := beq_eq_false_iff_ne.mpr c4
 have c4b1 := bne_iff_ne.mpr c4
 simp only [Option.some.injEq, Prod.mk.injEq] at H
 obtain ⟨rfl, rfl, rfl⟩ := H
 go_enter Try.func77, Try.ntmps77
 go_wp2_with (first | ((with_reducible refine gate_callee (f := 104) rfl ?_); refine goesL_ (some 5) rfl rfl Try.func104 (by kernel_rfl) rfl #[.pointer (some ⟨g, 0, none⟩)] rfl qz4 ?_; (with_reducible refine (spec_l6Items.calls k g s0_0 s0_1 s0_2 t281 t284 t285 w0 _ ?side1 ?side2 A2.out).mono ?_); (case side1 => exact qz3); (case side2 => exact qz1); rintro e w19 ⟨v282, rfl, ho0, hi, hb, hk⟩; refine ⟨_, rfl, ?_⟩; have HO283 := aM (Kd.R_lower ho0 (keep_size (w := w) (g := g) (row := none) qz2)); replace HK := aM (KeepBut.trans qz2 hk (.inl rfl)); replace HB := aM (hb); replace HI0 := aM (hi); (try clear hb); (try clear hb2); (try clear hk); (try clear hi); (try clear ho0)) | ((with_reducible refine gate_callee (f := 105) rfl ?_); refine goesL_ (some 7) rfl rfl Try.func105 (by kernel_rfl) rfl #[.pointer (some ⟨g, 0, none⟩), .int .i64 10] rfl qz4 ?_; (with_reducible refine (spec_l1Below.calls g s0_0 t284 t285 10 t286 t287 t288 w0 _ ?side1 ?side2 A3.out).mono ?_); (case side1 => exact qz3); (case side2 => exact qz1); rintro e w20 ⟨rfl, hi, hb, hk⟩; refine ⟨_, rfl, ?_⟩; replace HO283 := aM (Kd.R_mono (Kd.R_keep (IsS122.apart (show IsS122 w0 _ g s0_0 t284 t285 from qz3) (rr_ HO283.out) (by decide)) hk (fun _ h => h.2)) (fun _ h => h.1)); replace HK := aM (KeepBut.trans qz2 hk (.inl rfl)); replace HB := aM (hb); replace HI0 := aM (hi); (try clear hb); (try clear hb2); (try clear hk); (try clear hi)))
 go_ret
 exact ⟨_, qzw, by (with_reducible repeat (first | apply Kd.R_alloc | apply Kd.R_drewN | apply Kd.R_drew)); exact HO283.out, qz3, qz1, qz2⟩

 }
/-! ### spec_DrawPicks: function 35 -/
def spec_DrawPicks.f (k : Nat) (l0 : List Int) : Option ((List (S79)) × (List (S48))) := (spec_l1New.f k l0).bind fun bt305 => ((spec_l5DrawAny.f k bt305.1 bt305.2.1 bt305.2.2).bind fun bt309 => ((spec_l6ItemsAny.f k bt305.1 bt309.2.1 bt309.2.2).bind fun bt315 => (some (bt309.1, bt315.1))))
theorem spec_DrawPicks.mono : ∀ a0 k, LeO (spec_DrawPicks.f k a0) (spec_DrawPicks.f (k + 1) a0) := by
 intro a0 k
 unfold spec_DrawPicks.f
 have j0 := @spec_l1New.mono
 have j1 := @spec_l5DrawAny.mono
 have j2 := @spec_l6ItemsAny.mono
 exact qL
set_option maxHeartbeats 8000000 in
set_option maxRecDepth 100000 in
theorem spec_DrawPicks.calls (k : Nat) (A0 : Option Addr) (c0 : Nat) (l0 : List Int) (r1 : List (S79)) (r2 : List (S48)) (w : World) (hr0 : Kd.C (Kd.int .u8) w A0 l0.length l0) (hc0 : l0.length ≤ c0) (h : spec_DrawPicks.f k l0 = some (r1, r2)) :
  Calls Try.prog 35 #[.slice A0 l0.length c0] w fun e w' => ∃ v0_ v1_ : Value, e = .returned (.tuple #[.agg #[v0_], v1_]) ∧ Kd.N k79 79 w' w.heap.size (fun k_ => (w.heap.size ≤ k_) ∧ some k_ ≠ (v1_ : Value).ownBlock) v0_ r1 ∧ Kd.R k48 48 w' w.heap.size (fun k_ => (w.heap.size ≤ k_)) v1_ r2 ∧ Below w.heap.size w w' := by
 have hu26 := Try.underlying26
 have HR0 := aM hr0
 have HC0 := aM hc0
 clear hr0 hc0
 have HB := aM (Below.refl w.heap.size w)
 have H : ((spec_l1New.f k l0).bind fun bt305 => ((spec_l5DrawAny.f k bt305.1 bt305.2.1 bt305.2.2).bind fun bt309 => ((spec_l6ItemsAny.f k bt305.1 bt309.2.1 bt309.2.2).bind fun bt315 => (some (bt309.1, bt315.1))))) = some (r1, r2) := h
 clear h
 replace H := Option.bind_eq_some_iff.mp H
 obtain ⟨⟨t305, t306, t307⟩, A20, H⟩ := H
 replace H : ((spec_l5DrawAny.f k t305 t306 t307).bind fun bt309 => ((spec_l6ItemsAny.f k t305 bt309.2.1 bt309.2.2).bind fun bt315 => (some (bt309.1, bt315.1)))) = some (r1, r2) := H
 have A2 := aM A20
 clear A20
 replace H := Option.bind_eq_some_iff.mp H
 obtain ⟨⟨t309, t312, t313⟩, A30, H⟩ := H
 replace H : ((spec_l6ItemsAny.f k t305 t312 t313).bind fun bt315 => (some (t309, bt315.1))) = some (r1, r2) := H
 have A3 := aM A30
 clear A30
 replace H := Option.bind_eq_some_iff.mp H
 obtain ⟨⟨t315, t318, t319⟩, A40, H⟩ := H
 replace H : (some (t309, t315)) = some (r1, r2) := H
 have A4 := aM A40
 clear A40
 simp only [Option.some.injEq, Prod.mk.injEq] at H
 obtain ⟨rfl, rfl⟩ := H
 go_enter Try.func35, Try.ntmps35
 try go_wp2_with (first | ((with_reducible refine gate_dst (N := 2) rfl ?_); refine bx_ 2 #[.slice none 0 0] 26 ?_; intro gb304 hg w5 hbox hb; have BK304 := aM (hbox); have GW304 := aM (bz_ w hg qz1); have GE304 := GW304; replace HB := bS_ hb; clear hb hbox hg) | ((with_reducible refine gate_callee (f := 75) rfl ?_); refine goesL_ (some 7) rfl rfl Try.func75 (by kernel_rfl) rfl #[.slice A0 l0.length c0] rfl qz4 ?_; (with_reducible refine (spec_l1New.calls k _ _ l0 t305 t306 t307 w _ ?side1 ?side2 ?side3 A2.out).mono ?_); (case side1 => exact qz1); (case side2 => exact HR0.out); (case side3 => exact HC0.out); rintro e w6 ⟨g308, rfl, hi, hb, hb2⟩; refine ⟨_, rfl, ?_⟩; replace HB := aM (hb); have HI308 := aM (hi); have NB308_304 := aM (IsS122.ne_blk hi (blk_below (bk_ BK304.out) hb2) (by decide)); have NB304_308 := aM (Ne.symm (IsS122.ne_blk hi (blk_below (bk_ BK304.out) hb2) (by decide))); replace BK304 := aM (blk_below (bk_ BK304.out) hb2); (try clear hb); (try clear hb2); (try clear hk); (try clear hi)) | ((with_reducible refine gate_callee (f := 76) rfl ?_); refine goesL_ (some 9) rfl rfl Try.func76 (by kernel_rfl) rfl #[.pointer (some ⟨g308, 0, none⟩)] rfl qz4 ?_; (with_reducible refine (spec_l5DrawAny.calls k g308 t305 t306 t307 t309 t312 t313 w _ ?side1 ?side2 A3.out).mono ?_); (case side1 => exact qz17); (case side2 => exact qz1); rintro e w7 ⟨v310, rfl, ho0, hi, hb, hk⟩; refine ⟨_, rfl, ?_⟩; have HO311 := aM (Kd.N_lower (Kd.N_mono (ok' := fun k_ => (w.heap.size ≤ k_) ∧ k_ ≠ gb304 ∧ k_ ≠ g308) ho0 (fun k_ hk_ => ⟨(Nat.le_trans (below_size qz1) hk_), (Kd.freshB (bk_ BK304.out) k_ hk_), (IsS122.fresh qz17 k_ hk_)⟩)) (below_size qz1)); replace BK304 := aM (KeepBut.blk hk (bk_ BK304.out) NB304_308.out (by simp)); replace HB := aM (hb); replace HI308 := aM (hi); (try clear hb); (try clear hb2); (try clear hk); (try clear hi); (try clear ho0)) | ((with_reducible refine gate_dst (N := 5) rfl ?_); refine bx_ 5 #[.slice none 0 0] 26 ?_; intro gb314 hg w8 hbox hb; replace HO311 := aM (Kd.N_below (Kd.N_elderB (by (with_reducible repeat (first | apply Kd.N_alloc | apply Kd.N_drewN | apply Kd.N_drew)); exact HO311.out) gb314 (Nat.le_of_eq hg.symm)) hb); have BK314 := aM (hbox); have GW314 := aM (bz_ w hg qz1); have GE314 := GW314; replace HB := bS_ hb; obtain ⟨NB304_314, NB314_304⟩ := nb_ hg (bk_ BK304.out); replace BK304 := bB_ BK304 hb; have NB308_314 := aM ((by rw [hg]; exact Nat.ne_of_lt (IsS122.lt (show IsS122 w _ g308 t305 t312 t313 from qz17)) : g308 ≠ gb314)); have NB314_308 := aM ((by rw [hg]; exact Nat.ne_of_gt (IsS122.lt (show IsS122 w _ g308 t305 t312 t313 from qz17)) : gb314 ≠ g308)); replace HI308 := aM (IsS122.below qz17 hb); clear hb hbox hg; obtain ⟨Ao9, co9, eo9⟩ := Kd.N_slice HO311.out; subst eo9; have hnb10 := NB314_304.out; have hnc10 := NB304_314.out; have hnb11 := NB314_308.out; have hnc11 := NB308_314.out; obtain ⟨hcz12_0, hfz12_0⟩ := bf_ BK314.out))
 generalize hq_ : (w8.setCell ⟨gb314, 0, none⟩ (.slice Ao9 t309.length co9)) = w13
 replace HO311 : Aside0 (Kd.N k79 79 w13 w.heap.size (fun k_ => (w.heap.size ≤ k_) ∧ k_ ≠ gb304 ∧ k_ ≠ g308 ∧ k_ ≠ gb314) (.slice Ao9 t309.length co9) t309) := ⟨by rw [← hq_]; exact (by (with_reducible repeat (first | apply Kd.N_alloc | apply Kd.N_drewN | apply Kd.N_drew)); exact Kd.N_mono (Kd.N_far (p := ⟨gb314, 0, none⟩) (Kd.N_mono HO311.out (fun k_ hk => (⟨hk, hk.2⟩ : _ ∧ k_ ≠ gb314))) (fun _ hk => hk.2) (.slice Ao9 t309.length co9)) (fun _ hk => ⟨hk.1.1.1, ⟨hk.1.1.2.1, ⟨hk.1.1.2.2, hk.1.2⟩⟩⟩))⟩
 replace BK304 : Aside0 (w13.heap[gb304]? = some (.cells #[.slice none 0 0] 26 (0, 0))) := ⟨by rw [← hq_]; exact (bk2_ BK304.out)⟩
 replace BK314 : Aside0 (w13.heap[gb314]? = some (.cells #[.slice Ao9 t309.length co9] 26 (0, 0))) := ⟨by rw [← hq_]; exact (by (with_reducible repeat (first | refine blk_drewN ?_ _ | refine blk_drew ?_ | refine blk_alloc ?_ _)); refine blk_put (cs := #[.slice none 0 0]) ?_ 0 _ rfl; exact bk_ BK314.out)⟩
 replace HB : Aside0 (Below w.heap.size w w13) := ⟨by rw [← hq_]; exact qz1⟩
 replace HI308 : Aside0 (IsS122 w w13 g308 t305 t312 t313) := ⟨by rw [← hq_]; exact qz17⟩
 clear hq_
 replace HO311 := aM (Kd.N_drew HO311.out)
 replace BK304 := aM (blk_drew BK304.out)
 replace BK314 := aM (blk_drew BK314.out)
 replace HI308 := aM (IsS122.drew HI308.out)
 replace HB := aM (below_drew1 HB.out)
 refine start_ (n := 5) (S := fun w' => w'.cell? ⟨gb314, 0, none⟩ = some (.slice Ao9 t309.length co9)) (ds := []) #[false, false, false, false, false] (by kernel_rfl) rfl rfl ((blk_cell BK314.out 0).trans rfl) (fun hHeld => ?_)
 generalize w13.drew = w14 at HO311 BK304 BK314 HI308 HB hHeld ⊢
 refine pure_ (i := 1) (N := some 11) (v := ?_) (a' := ?_) #[false, true, false, false, false] rfl rfl (by kernel_rfl) qzd (Or.inl ⟨by rfl, ?_⟩) ?_ ?_
 rotate_left
 {
 intro w'
 go_simp
 with_reducible rfl
 }
 rotate_left
 {
 simp only [qzs]
 rfl
 }
 refine take_ (i := 0) (N := some 10) (v := ?_) (a' := ?_) #[true, true, false, false, false] rfl rfl (by kernel_rfl) qzd (Or.inl ⟨by rfl, ?_⟩) hHeld ?_ ?_
 rotate_left
 {
 intro w' s0
 go_simp
 with_reducible rfl
 }
 rotate_left
 {
 simp only [qzs]
 rfl
 }
 refine one_ (i := 2) (N := some 12) #[true, true, true, false, false] rfl rfl (by kernel_rfl) (by decide) (fun K hK => ?_)
 refine goes_ Try.func77 (by kernel_rfl) rfl #[.pointer (some ⟨g308, 0, none⟩)] (by rfl) rfl rfl qz4 ?_
 with_reducible refine (spec_l6ItemsAny.calls k g308 t305 t312 t313 t315 t318 t319 w _ ?side1 ?side2 A4.out).mono ?_
 (case side1 => exact qz17)
 (case side2 => exact qz1)
 rintro e w15 ⟨v316, rfl, ho0, hi, hb, hk⟩
 refine ⟨_, rfl, ?_⟩
 replace BK304 := aM (KeepBut.blk hk (bk_ BK304.out) NB304_308.out (by simp))
 replace HO311 := aM (Kd.N_mono (Kd.N_told (Kd.N_oldK (Kd.N_mono (ok := fun k_ => (((w.heap.size ≤ k_)) ∧ (k_ ≠ gb304 ∧ (k_ ≠ g308 ∧ k_ ≠ gb314)))) (by (with_reducible repeat (first | apply Kd.N_alloc | apply Kd.N_drewN | apply Kd.N_drew)); exact HO311.out) (fun k_ hk_ => (⟨hk_, hk_.2.2.1⟩ : _ ∧ k_ ≠ g308))) hk) (Kd.R_base ho0)) (fun _ h_ => h_.1))
 replace BK314 := aM (KeepBut.blk hk (bk_ BK314.out) NB314_308.out (by simp))
 have HO317 := aM (Kd.R_lower (Kd.R_newM (M := fun k_ => (w.heap.size ≤ k_)) ho0 (below_size qz1) (fun k_ h_ => h_)) (below_size qz1))
 replace HB := aM (hb)
 replace HI308 := aM (hi)
 (try clear hb)
 (try clear hb2)
 (try clear hk)
 (try clear hi)
 (try clear ho0)
 refine hK.out _ _ ((blk_cell BK314.out 0).trans rfl) (fun hHeld => ?_)
 clear hK K
 refine nm_ 12 ?_
 refine one_ (i := 3) (N := none) #[true, true, true, true, false] rfl rfl (by kernel_rfl) (by decide) (fun K hK => ?_)
 have hs16 : w15.cell? ⟨gb304, 0, none⟩ = some (.slice none 0 0) := (blk_cell BK304.out 0).trans rfl
 have hfs16 := blk_frozen BK304.out 0
 have hns16_1 := NB314_304.out
 have hms16_1 := NB304_314.out
 refine sk_ ?_
 refine hK.out _ _ (((cell_far (p := ⟨gb304, _, none⟩) NB314_304.out _).trans (hHeld))) (fun hHeld => ?_)
 clear hK K
 refine pure_ (i := 4) (N := some 3) (v := ?_) (a' := ?_) #[true, true, true, true, true] rfl rfl (by kernel_rfl) qzd (Or.inl ⟨by rfl, ?_⟩) ?_ ?_
 rotate_left
 {
 intro w'
 go_simp
 with_reducible rfl
 }
 rotate_left
 {
 simp only [qzs]
 rfl
 }
 refine done_ (by kernel_rfl) ?_
 try go_wp2
 refine bodyPost_ret (results_ct rfl _ _ gb304 26 #[.slice Ao9 t309.length co9] (0, 0) _ rfl (by (with_reducible repeat (first | refine blk_drewN ?_ _ | refine blk_drew ?_ | refine blk_alloc ?_ _)); refine blk_put (cs := #[.slice none 0 0]) ?_ 0 _ rfl; exact bk_ BK304.out) Try.underlying26 rfl (by kernel_rfl)) rfl ?_
 exact ⟨_, _, qzw, by (with_reducible repeat (first | apply Kd.N_alloc | apply Kd.N_drewN | apply Kd.N_drew)); exact Kd.N_mono (Kd.N_far (p := ⟨gb304, 0, none⟩) (Kd.N_mono HO311.out (fun k_ hk => (⟨hk, hk.1.2.1⟩ : _ ∧ k_ ≠ gb304))) (fun _ hk => hk.2) (.slice Ao9 t309.length co9)) (fun _ hk => ⟨hk.1.1.1, hk.1.2⟩), by (with_reducible repeat (first | apply Kd.R_alloc | apply Kd.R_drewN | apply Kd.R_drew)); exact Kd.R_mono (Kd.R_far (p := ⟨gb304, 0, none⟩) (Kd.R_types HO317.out BK304.out (by decide)) (fun _ hk => hk.2) (.slice Ao9 t309.length co9)) (fun _ hk => hk.1.1), qz1⟩

/-! ### impl_copyStock: function 65 -/
def impl_copyStock.l0 : Nat → List (S79) → Int → Int → List (S79) → Option ((List (S79)))
 | 0, _, _, _, _ => none
 | k + 1, x7, x8, x9, x323000 => if x9 < x8 then (if 0 ≤ x9 then (if x9 < (x7.length : Int) then (if ([] : List (S72)).length + ((rd_T79 x7 x9).f2).length < 5864062014805 then (if x323000.length < 3518437208883 then (impl_copyStock.l0 k x7 x8 (wrap64 (x9 + 1)) (x323000 ++ [(⟨(rd_T79 x7 x9).f0, (rd_T79 x7 x9).f1, (([] : List (S72)) ++ ((rd_T79 x7 x9).f2))⟩ : S79)])) else (none)) else (none)) else (none)) else (none)) else (some x323000)
def impl_copyStock.f (k : Nat) (l0_0 : List (S79)) : Option ((List (S79))) := impl_copyStock.l0 k l0_0 (l0_0.length : Int) 0 ([] : List (S79))
theorem impl_copyStock.mono_l : ∀ k, (∀ y0 y1 y2 y3, LeO (impl_copyStock.l0 k y0 y1 y2 y3) (impl_copyStock.l0 (k + 1) y0 y1 y2 y3))
 | 0 => fun _ _ _ _ r h => by simp [impl_copyStock.l0] at h
 | k + 1 => by
  have ih0 := impl_copyStock.mono_l k
  {
  intro y0 y1 y2 y3
  unfold impl_copyStock.l0
  exact qL
  }
theorem impl_copyStock.mono : ∀ a0 k, LeO (impl_copyStock.f k a0) (impl_copyStock.f (k + 1) a0) := by
 intro a0 k
 have ih0 := impl_copyStock.mono_l k
 unfold impl_copyStock.f
 exact qL
set_option maxHeartbeats 8000000 in
set_option maxRecDepth 100000 in
theorem impl_copyStock.calls (k : Nat) (A0_0 : Option Addr) (c0_0 : Nat) (l0_0 : List (S79)) (r : List (S79)) (w : World) (hr0_0 : Kd.C k79 w A0_0 l0_0.length l0_0) (hc0_0 : l0_0.length ≤ c0_0) (h : impl_copyStock.f k l0_0 = some r) :
  Calls Try.prog 65 #[.agg #[.slice A0_0 l0_0.length c0_0]] w fun e w' => ∃ v0_ : Value, e = .returned (.agg #[v0_]) ∧ Kd.S k79 79 w' w.heap.size (fun _ => True) v0_ r ∧ Below w.heap.size w w' := by
 have hu26 := Try.underlying26
 have hu79 := Try.underlying79
 have HR0_0 := aM hr0_0
 have HC0_0 := aM hc0_0
 clear hr0_0 hc0_0
 have HB := aM (Below.refl w.heap.size w)
 have H : (impl_copyStock.l0 k l0_0 (l0_0.length : Int) 0 ([] : List (S79))) = some r := h
 clear h
 have H' := aM H
 clear H
 go_enter Try.func65, Try.ntmps65
 go_wp2_with (first | ((with_reducible refine gate_dst (N := 1) rfl ?_); refine bx_ 1 #[.slice A0_0 l0_0.length c0_0] 26 ?_; intro gb320 hg w2 hbox hb; have BK320 := aM (hbox); have GW320 := aM (bz_ w hg qz1); have GE320 := GW320; replace HB := bS_ hb; clear hb hbox hg) | ((with_reducible refine gate_dst (N := 2) rfl ?_); refine bx_ 2 #[.slice none 0 0] 26 ?_; intro gb321 hg w3 hbox hb; have BK321 := aM (hbox); have GW321 := aM (bz_ w hg qz1); have GE321 := GW321; replace HB := bS_ hb; obtain ⟨NB320_321, NB321_320⟩ := nb_ hg (bk_ BK320.out); replace BK320 := bB_ BK320 hb; clear hb hbox hg) | ((with_reducible refine gate_dst (N := 3) rfl ?_); refine bx_ 3 #[.slice none 0 0] 26 ?_; intro gb322 hg w4 hbox hb; have BK322 := aM (hbox); have GW322 := aM (bz_ w hg qz1); have GE322 := GW322; replace HB := bS_ hb; obtain ⟨NB320_322, NB322_320⟩ := nb_ hg (bk_ BK320.out); replace BK320 := bB_ BK320 hb; obtain ⟨NB321_322, NB322_321⟩ := nb_ hg (bk_ BK321.out); replace BK321 := bB_ BK321 hb; clear hb hbox hg; have hnb5 := NB320_321.out; have hnc5 := NB321_320.out; have hnb6 := NB320_322.out; have hnc6 := NB322_320.out; obtain ⟨hcz7_0, hfz7_0⟩ := bf_ BK320.out))
 go_loopg [9] k (fun kq v9 w' => ∃ (x9_1 : Int) (x323000_1 : List (S79)) (u323000 : Value), v9 = .int .i64 x9_1 ∧ Aside0 (impl_copyStock.l0 kq l0_0 (l0_0.length : Int) x9_1 x323000_1 = some r) ∧ Aside0 (kq ≤ k) ∧ Aside0 (Kd.S k79 79 w' w.heap.size (fun _ => True) u323000 x323000_1) ∧ Aside0 (w'.heap[gb320]? = some (.cells #[(.slice A0_0 l0_0.length c0_0)] 26 (0, 0))) ∧ Aside0 (w'.heap[gb321]? = some (.cells #[(.slice none 0 0)] 26 (0, 0))) ∧ Aside0 (w'.heap[gb322]? = some (.cells #[u323000] 26 (0, 0))) ∧ Aside0 (Below w.heap.size w w'))
 case atStart => exact ⟨(0), (([] : List (S79))), (.slice none 0 0), qz5, H', ⟨Nat.le_refl _⟩, ⟨by first | exact Kd.S_nil _ _ _ _ _ | exact Kd.N_nil _ _ _ _ _ | exact Kd.V_nil _ _ _ _ _ | exact Kd.Q_nil _ _ _ _ _ | exact Kd.R_nil _ _ _ _ _⟩, ⟨bk_ BK320.out⟩, ⟨bk_ BK321.out⟩, ⟨bk_ BK322.out⟩, ⟨qz1⟩⟩
 case round =>
  clear H'
  try clear p2
  try clear c5
  try clear c6
  try clear hcz7_0
  try clear hfz7_0
  obtain ⟨x9_1, x323000_1, u323000, rfl, HA, HK1, HO_323000, BK320, BK321, BK322, HB⟩ := hrel
  cases gk with
  | zero => exact absurd HA.out (by simp [impl_copyStock.l0])
  | succ k1 =>
   have H := HA.out
   clear HA
   simp only [impl_copyStock.l0] at H
   by_cases c8 : x9_1 < (l0_0.length : Int)
   {
   rw [if_pos c8] at H
   have c8b0 := decide_eq_true c8
   clear c8
   by_cases c9 : 0 ≤ x9_1
   {
   rw [if_pos c9] at H
   have c9b0 := decide_eq_true c9
   clear c9
   by_cases c10 : x9_1 < (l0_0.length : Int)
   {
   rw [if_pos c10] at H
   have c10b0 := decide_eq_true c10
   clear c10
   by_cases c11 : ([] : List (S72)).length + ((rd_T79 l0_0 x9_1).f2).length < 5864062014805
   {
   rw [if_pos c11] at H
   have LMc11 := aM c11
   clear c11
   obtain ⟨y325, hy325⟩ : ∃ y_ : List (S72), y_ = (([] : List (S72)) ++ ((rd_T79 l0_0 x9_1).f2)) := ⟨_, rfl⟩
   replace H : (if x323000_1.length < 3518437208883 then (impl_copyStock.l0 k1 l0_0 (l0_0.length : Int) (wrap64 (x9_1 + 1)) (x323000_1 ++ [(⟨(rd_T79 l0_0 x9_1).f0, (rd_T79 l0_0 x9_1).f1, y325⟩ : S79)])) else (none)) = some r := by first | (rw [hy325]; with_reducible exact H) | (have H2_ := (Option.bind_some _ _).symm.trans H; rw [hy325]; with_reducible exact H2_) | (have H2_ := (Option.bind_some _ _).symm.trans H; with_reducible exact H2_) | with_reducible exact H | (rw [hy325]; exact H) | exact H
   have Ny325 := aM hy325
   clear hy325
   by_cases c12 : x323000_1.length < 3518437208883
   {
   rw [if_pos c12] at H
   have LMc12 := aM c12
   clear c12
   obtain ⟨y328, hy328⟩ : ∃ y_ : List (S79), y_ = (x323000_1 ++ [(⟨(rd_T79 l0_0 x9_1).f0, (rd_T79 l0_0 x9_1).f1, y325⟩ : S79)]) := ⟨_, rfl⟩
   replace H : (impl_copyStock.l0 k1 l0_0 (l0_0.length : Int) (wrap64 (x9_1 + 1)) y328) = some r := by first | (rw [hy328]; with_reducible exact H) | (have H2_ := (Option.bind_some _ _).symm.trans H; rw [hy328]; with_reducible exact H2_) | (have H2_ := (Option.bind_some _ _).symm.trans H; with_reducible exact H2_) | with_reducible exact H | (rw [hy328]; exact H) | exact H
   have Ny328 := aM hy328
   clear hy328
   have H' := aM H
   clear H
   have p323 : 0 ≤ (x9_1 : Int) := dt_
   have q323 : x9_1 < (l0_0.length : Int) := dt_
   obtain ⟨ad323, A323_2, c323_2, e323, hx323_0, hx323_1, hx323_2, hl323_2, hi323_2⟩ := at_T79 HR0_0.out x9_1 p323 q323
   cases e323
   replace hx323_0 := cB_ hx323_0
   replace hx323_1 := cB_ hx323_1
   replace hx323_2 := cB_ hx323_2
   have HR323_2 := aM hi323_2
   have HC323_2 := aM hl323_2
   clear hi323_2 hl323_2
   replace p323 := eq_true p323
   replace q323 := eq_true q323
   go_wp2_with (first | ((with_reducible refine gate_dst (N := 5) rfl ?_); refine bx_ 5 #[.int .i64 0, .int .i64 0, .slice none 0 0] 79 ?_; intro gb324 hg w13 hbox hb; replace HO_323000 := aM (Kd.S_below (Kd.S_elderB (rs_ HO_323000.out) gb324 (Nat.le_of_eq hg.symm)) hb); have BK324 := aM (hbox); have GW324 := aM (bz_ w hg qz1); have GE324 := GW324; replace HB := bS_ hb; obtain ⟨NB320_324, NB324_320⟩ := nb_ hg (bk_ BK320.out); replace BK320 := bB_ BK320 hb; obtain ⟨NB321_324, NB324_321⟩ := nb_ hg (bk_ BK321.out); replace BK321 := bB_ BK321 hb; obtain ⟨NB322_324, NB324_322⟩ := nb_ hg (bk_ BK322.out); replace BK322 := bB_ BK322 hb; clear hb hbox hg; have hnb14 := NB324_320.out; have hnc14 := NB320_324.out; have hnb15 := NB324_321.out; have hnc15 := NB321_324.out; have hnb16 := NB324_322.out; have hnc16 := NB322_324.out; obtain ⟨hcz17_0, hcz17_1, hcz17_2, hfz17_0, hfz17_1, hfz17_2⟩ := b6_ BK324.out) | ((with_reducible refine gate_builtin (b := .append) (xs := #[.const (.slice none 0 0), .tmp 14]) rfl ?_); at_builtin; refine Kd.R_append_rows k72 (w0 := w) w.heap.size rfl (.const (.slice none 0 0)) (.tmp 14) 77 72 (.agg #[(.int .i64 0), (.int .i64 0), (.int .i64 0)]) 24 rfl Try.underlying77 info72 rfl (by decide) (by omega) (.slice none 0 0) ([] : List (S72)) ((rd_T79 l0_0 x9_1).f2) _ _ _ (fun _ => True) (fun _ => False) rfl rfl ?aO ?aR (fun _ _ h => h) (fun _ h => h.elim) ?aF ?aB ?aS ?aL ?_; (case aR => exact Kd.C_below HR323_2.out qz1); (case aB => exact qz1); (case aF => exact (fun _ _ => trivial)); (case aO => exact ((Kd.R_nil _ _ _ _ (fun _ => True)))); (case aS => exact (below_size qz1)); (case aL => have := LMc11.out; omega); intro v326 w18 ho hb hg hat; rw [← Ny325.out] at ho; replace HO_323000 := aM (Kd.S_after (Kd.S_apart_nil (by (with_reducible repeat (first | apply Kd.S_alloc | apply Kd.S_drewN | apply Kd.S_drew)); exact (Kd.S_mono (Kd.S_far (p := ⟨gb324, 2, none⟩) (Kd.S_far (p := ⟨gb324, 1, none⟩) (Kd.S_far (p := ⟨gb324, 0, none⟩) (Kd.S_mono HO_323000.out (fun k_ hk => (⟨hk, hk.2⟩ : _ ∧ k_ ≠ gb324))) (fun _ hk => hk.2) (.int .i64 ((rd_T79 l0_0 x9_1).f0))) (fun _ hk => hk.2) (.int .i64 ((rd_T79 l0_0 x9_1).f1))) (fun _ hk => hk.2) (.slice A323_2 ((rd_T79 l0_0 x9_1).f2).length c323_2)) (fun _ h_ => h_.1)))) hg hat); replace BK320 := aM (blk_grown (g := gb320) (o := .cells #[.slice (some ad323) l0_0.length c0_0] 26 (0, 0)) (bk2_ BK320.out) hg (by simp [Value.ownBlock])); replace BK321 := aM (blk_grown (g := gb321) (o := .cells #[.slice none 0 0] 26 (0, 0)) (bk2_ BK321.out) hg (by simp [Value.ownBlock])); replace BK322 := aM (blk_grown (g := gb322) (o := .cells #[u323000] 26 (0, 0)) (bk2_ BK322.out) hg (by simp [Value.ownBlock])); replace BK324 := aM (blk_grown (g := gb324) (o := .cells #[.int .i64 ((rd_T79 l0_0 x9_1).f0), .int .i64 ((rd_T79 l0_0 x9_1).f1), .slice A323_2 ((rd_T79 l0_0 x9_1).f2).length c323_2] 79 (0, 0)) (by (with_reducible repeat (first | refine blk_drewN ?_ _ | refine blk_drew ?_ | refine blk_alloc ?_ _)); refine blk_put (cs := #[.int .i64 ((rd_T79 l0_0 x9_1).f0), .int .i64 ((rd_T79 l0_0 x9_1).f1), .slice none 0 0]) ?_ 2 _ rfl; (with_reducible repeat (first | refine blk_drewN ?_ _ | refine blk_drew ?_ | refine blk_alloc ?_ _)); refine blk_put (cs := #[.int .i64 ((rd_T79 l0_0 x9_1).f0), .int .i64 0, .slice none 0 0]) ?_ 1 _ rfl; (with_reducible repeat (first | refine blk_drewN ?_ _ | refine blk_drew ?_ | refine blk_alloc ?_ _)); refine blk_put (cs := #[.int .i64 0, .int .i64 0, .slice none 0 0]) ?_ 0 _ rfl; exact bk_ BK324.out) hg (by simp [Value.ownBlock])); replace HB := aM (hb); have HO327 := aM (ho); clear ho hb hg hat; obtain ⟨Ao19, co19, eo19⟩ := Kd.R_slice HO327.out; subst eo19; obtain ⟨hcz20_0, hcz20_1, hcz20_2, hfz20_0, hfz20_1, hfz20_2⟩ := b6_ BK324.out) | ((with_reducible refine gate_store (t := 77) (p := 16) rfl ?_); refine store_event (t := 77) (p := 16) (v := ?vo_w21) (w1 := (w18.setCell ⟨gb324, 2, none⟩ (.slice Ao19 y325.length co19))) ?hg ?ho ?hn ?hr ?_; (case ho => rfl); (case hg => rfl); (case hn => rfl); (case hr => exact qz27); intro w21 hw; replace HO_323000 : Aside0 (Kd.S k79 79 w21 w.heap.size (fun k_ => some k_ ≠ (.slice Ao19 y325.length co19 : Value).ownBlock ∧ k_ ≠ gb324) u323000 x323000_1) := ⟨(by rw [hw]; exact (by (with_reducible repeat (first | apply Kd.S_alloc | apply Kd.S_drewN | apply Kd.S_drew)); exact Kd.S_mono (Kd.S_far (p := ⟨gb324, 2, none⟩) (Kd.S_mono HO_323000.out (fun k_ hk => (⟨hk, hk.1.2⟩ : _ ∧ k_ ≠ gb324))) (fun _ hk => hk.2) (.slice Ao19 y325.length co19)) (fun _ hk => ⟨hk.1.2, hk.1.1.2⟩)))⟩; replace HO327 : Aside0 (Kd.R k72 72 w21 w.heap.size (fun _ => True) (.slice Ao19 y325.length co19) y325) := ⟨(by rw [hw]; exact (by (with_reducible repeat (first | apply Kd.R_alloc | apply Kd.R_drewN | apply Kd.R_drew)); exact Kd.R_mono (Kd.R_far (p := ⟨gb324, 2, none⟩) (Kd.R_types HO327.out BK324.out (by decide)) (fun _ hk => hk.2) (.slice Ao19 y325.length co19)) (fun _ hk => trivial)))⟩; replace BK320 : Aside0 (w21.heap[gb320]? = some (.cells #[.slice (some ad323) l0_0.length c0_0] 26 (0, 0))) := ⟨(by rw [hw]; exact (bk2_ BK320.out))⟩; replace BK321 : Aside0 (w21.heap[gb321]? = some (.cells #[.slice none 0 0] 26 (0, 0))) := ⟨(by rw [hw]; exact (bk2_ BK321.out))⟩; replace BK322 : Aside0 (w21.heap[gb322]? = some (.cells #[u323000] 26 (0, 0))) := ⟨(by rw [hw]; exact (bk2_ BK322.out))⟩; replace BK324 : Aside0 (w21.heap[gb324]? = some (.cells #[.int .i64 ((rd_T79 l0_0 x9_1).f0), .int .i64 ((rd_T79 l0_0 x9_1).f1), .slice Ao19 y325.length co19] 79 (0, 0))) := ⟨(by rw [hw]; exact (by (with_reducible repeat (first | refine blk_drewN ?_ _ | refine blk_drew ?_ | refine blk_alloc ?_ _)); refine blk_put (cs := #[.int .i64 ((rd_T79 l0_0 x9_1).f0), .int .i64 ((rd_T79 l0_0 x9_1).f1), .slice A323_2 ((rd_T79 l0_0 x9_1).f2).length c323_2]) ?_ 2 _ rfl; exact bk_ BK324.out))⟩; replace HB : Aside0 (Below w.heap.size w w21) := ⟨(by rw [hw]; exact qz1)⟩; clear hw; have hnb22 := NB322_320.out; have hnc22 := NB320_322.out; have hnb23 := NB322_321.out; have hnc23 := NB321_322.out; obtain ⟨hcz24_0, hfz24_0⟩ := bf_ BK322.out; obtain ⟨hcz25_0, hcz25_1, hcz25_2, hfz25_0, hfz25_1, hfz25_2⟩ := b6_ BK324.out) | ((with_reducible refine gate_builtin (b := .append) (xs := #[.tmp 18, .tmp 20]) rfl ?_); at_builtin; refine Kd.S_append k79 (w0 := w) w.heap.size rfl (.tmp 18) (.tmp 20) 24 79 (.agg #[(.int .i64 0), (.int .i64 0), (.slice none 0 0)]) 40 rfl Try.underlying24 info79 rfl (by decide) (by omega) u323000 x323000_1 (⟨(rd_T79 l0_0 x9_1).f0, (rd_T79 l0_0 x9_1).f1, y325⟩ : S79) [.int .i64 ((rd_T79 l0_0 x9_1).f0), .int .i64 ((rd_T79 l0_0 x9_1).f1), .slice Ao19 y325.length co19] (fun k_ => k_ ≠ gb324) (fun k_ => some k_ = (.slice Ao19 y325.length co19 : Value).ownBlock) rfl rfl ?aP (fun k_ hk_ => ((Kd.R_mono (ok' := fun k_ => ((fun k_ => k_ ≠ gb324)) k_ ∧ some k_ ≠ (u323000 : Value).ownBlock) (Kd.R_types (Kd.R_apart' (HO327.out) (Kd.S_typed HO_323000.out) (by decide)) BK324.out (by decide)) (fun k_ hk => ⟨hk.2, hk.1.2⟩))).1 k_ hk_.symm) ?aF ?aO ?aB ?aS ?aL ?_; (case aP => exact k79_mkM _ _ _ (⟨(rd_T79 l0_0 x9_1).f0, (rd_T79 l0_0 x9_1).f1, y325⟩ : S79) (Kd.R_mono (Kd.R_tight rfl (Kd.R_mono (ok' := fun k_ => ((fun k_ => k_ ≠ gb324)) k_ ∧ some k_ ≠ (u323000 : Value).ownBlock) (Kd.R_types (Kd.R_apart' (HO327.out) (Kd.S_typed HO_323000.out) (by decide)) BK324.out (by decide)) (fun k_ hk => ⟨hk.2, hk.1.2⟩))) (fun _ h_ => h_))); (case aB => exact qz1); (case aF => exact (fun k_ hk => Kd.freshB (bk_ BK324.out) k_ hk)); (case aO => exact (by (with_reducible repeat (first | apply Kd.S_alloc | apply Kd.S_drewN | apply Kd.S_drew)); exact Kd.S_mono HO_323000.out (fun k_ hk => ⟨hk.2, fun e_ => hk.1 e_⟩))); (case aS => exact (below_size qz1)); (case aL => have := LMc12.out; omega); intro v329 w26 ho hb hg hat; rw [← Ny328.out] at ho; replace BK320 := aM (blk_grown (bk_ BK320.out) hg (Kd.S_ne HO_323000.out BK320.out (by decide))); replace BK321 := aM (blk_grown (bk_ BK321.out) hg (Kd.S_ne HO_323000.out BK321.out (by decide))); replace BK322 := aM (blk_grown (bk_ BK322.out) hg (Kd.S_ne HO_323000.out BK322.out (by decide))); replace BK324 := aM (blk_grown (bk_ BK324.out) hg (Kd.S_away HO_323000.out (fun _ hk => hk.2))); replace HB := aM (hb); have HO330 := aM (ho); clear HO_323000 HO327; clear ho hb hg hat; obtain ⟨Ao27, co27, eo27⟩ := Kd.S_slice HO330.out; subst eo27; obtain ⟨hcz28_0, hfz28_0⟩ := bf_ BK322.out))
   go_roundg k1
   case measure => have := HK1.out; omega
   case rel => exact ⟨(wrap64 (x9_1 + 1)), (y328), (.slice Ao27 y328.length co27), qz5, H', ⟨by have := HK1.out; omega⟩, ⟨by (with_reducible repeat (first | apply Kd.S_alloc | apply Kd.S_drewN | apply Kd.S_drew)); exact Kd.S_mono (Kd.S_far (p := ⟨gb322, 0, none⟩) (Kd.S_types HO330.out BK322.out (by decide)) (fun _ hk => hk.2) (.slice Ao27 y328.length co27)) (fun _ hk => trivial)⟩, ⟨by (with_reducible repeat (first | refine blk_drewN ?_ _ | refine blk_drew ?_ | refine blk_alloc ?_ _)); refine blk_far ?_ NB320_322.out _; exact bk_ BK320.out⟩, ⟨by (with_reducible repeat (first | refine blk_drewN ?_ _ | refine blk_drew ?_ | refine blk_alloc ?_ _)); refine blk_far ?_ NB321_322.out _; exact bk_ BK321.out⟩, ⟨by (with_reducible repeat (first | refine blk_drewN ?_ _ | refine blk_drew ?_ | refine blk_alloc ?_ _)); refine blk_put (cs := #[u323000]) ?_ 0 _ rfl; exact bk_ BK322.out⟩, ⟨qz1⟩⟩
   }
   {
   exact an_ c12 H
   }
   }
   {
   exact an_ c11 H
   }
   }
   {
   exact an_ c10 H
   }
   }
   {
   exact an_ c9 H
   }
   }
   {
   rw [if_neg c8] at H
   have c8b0 := decide_eq_false c8
   clear c8
   obtain rfl := Option.some.inj H
   simp only [Option.some.injEq, Prod.mk.injEq] at H
   obtain ⟨rfl⟩ := H
   have hnb29 := NB322_320.out
   have hnc29 := NB320_322.out
   have hnb30 := NB322_321.out
   have hnc30 := NB321_322.out
   obtain ⟨hcz31_0, hfz31_0⟩ := bf_ BK322.out
   obtain ⟨Ao32, co32, eo32⟩ := Kd.S_slice HO_323000.out
   subst eo32
   have hnb33 := NB321_320.out
   have hnc33 := NB320_321.out
   obtain ⟨hcz34_0, hfz34_0⟩ := bf_ BK321.out
   go_wp2
   refine bodyPost_ret (results_cell_row rfl _ _ gb321 26 #[.slice Ao32 x323000_1.length co32] (0, 0) _ rfl (by (with_reducible repeat (first | refine blk_drewN ?_ _ | refine blk_drew ?_ | refine blk_alloc ?_ _)); refine blk_put (cs := #[.slice none 0 0]) ?_ 0 _ rfl; exact bk_ BK321.out) Try.underlying26 rfl (by kernel_rfl)) rfl ?_
   exact ⟨_, qzw, by (with_reducible repeat (first | apply Kd.S_alloc | apply Kd.S_drewN | apply Kd.S_drew)); exact Kd.S_mono (Kd.S_far (p := ⟨gb321, 0, none⟩) (Kd.S_types HO_323000.out BK321.out (by decide)) (fun _ hk => hk.2) (.slice Ao32 x323000_1.length co32)) (fun _ hk => trivial), qz1⟩

   }
/-! ### impl_podAt: function 69 -/
def impl_podAt.l0 : Nat → Int → List (S79) → Int → Int → Option (Int)
 | 0, _, _, _, _ => none
 | k + 1, x1, x8, x9, x10 => if x10 < x9 then (if 0 ≤ x10 then (if x10 < (x8.length : Int) then (if ((rd_T79 x8 x10).f0) = x1 then (some x10) else (impl_podAt.l0 k x1 x8 x9 (wrap64 (x10 + 1)))) else (none)) else (none)) else (some (-1))
def impl_podAt.f (k : Nat) (l0_0 : List (S79)) (a1 : Int) : Option (Int) := impl_podAt.l0 k a1 l0_0 (l0_0.length : Int) 0
theorem impl_podAt.mono_l : ∀ k, (∀ y0 y1 y2 y3, LeO (impl_podAt.l0 k y0 y1 y2 y3) (impl_podAt.l0 (k + 1) y0 y1 y2 y3))
 | 0 => fun _ _ _ _ r h => by simp [impl_podAt.l0] at h
 | k + 1 => by
  have ih0 := impl_podAt.mono_l k
  {
  intro y0 y1 y2 y3
  unfold impl_podAt.l0
  exact qL
  }
theorem impl_podAt.mono : ∀ a0 a1 k, LeO (impl_podAt.f k a0 a1) (impl_podAt.f (k + 1) a0 a1) := by
 intro a0 a1 k
 have ih0 := impl_podAt.mono_l k
 unfold impl_podAt.f
 exact qL
set_option maxHeartbeats 8000000 in
set_option maxRecDepth 100000 in
theorem impl_podAt.calls (k : Nat) (A0_0 : Option Addr) (c0_0 : Nat) (l0_0 : List (S79)) (a1 : Int) (r : Int) (w : World) (hr0_0 : Kd.C k79 w A0_0 l0_0.length l0_0) (hc0_0 : l0_0.length ≤ c0_0) (h : impl_podAt.f k l0_0 a1 = some r) :
  Calls Try.prog 69 #[.agg #[.slice A0_0 l0_0.length c0_0], .int .i64 a1] w fun e w' => e = .returned (.int .i64 r) ∧ Below w.heap.size w w' := by
 have hu26 := Try.underlying26
 have hu79 := Try.underlying79
 have HR0_0 := aM hr0_0
 have HC0_0 := aM hc0_0
 clear hr0_0 hc0_0
 have HB := aM (Below.refl w.heap.size w)
 have H : (impl_podAt.l0 k a1 l0_0 (l0_0.length : Int) 0) = some r := h
 clear h
 have H' := aM H
 clear H
 go_enter Try.func69, Try.ntmps69
 go_wp2_with (first | ((with_reducible refine gate_dst (N := 2) rfl ?_); refine bx_ 2 #[.slice A0_0 l0_0.length c0_0] 26 ?_; intro gb331 hg w3 hbox hb; have BK331 := aM (hbox); have GW331 := aM (bz_ w hg qz1); have GE331 := GW331; replace HB := bS_ hb; clear hb hbox hg; obtain ⟨hcz4_0, hfz4_0⟩ := bf_ BK331.out))
 go_loopg [10] k (fun kq v10 w' => ∃ (x10_1 : Int), v10 = .int .i64 x10_1 ∧ Aside0 (impl_podAt.l0 kq a1 l0_0 (l0_0.length : Int) x10_1 = some r) ∧ Aside0 (kq ≤ k) ∧ Aside0 (w'.heap[gb331]? = some (.cells #[(.slice A0_0 l0_0.length c0_0)] 26 (0, 0))) ∧ Aside0 (Below w.heap.size w w'))
 case atStart => exact ⟨(0), qz5, H', ⟨Nat.le_refl _⟩, ⟨bk_ BK331.out⟩, ⟨qz1⟩⟩
 case round =>
  clear H'
  try clear p2
  try clear hcz4_0
  try clear hfz4_0
  obtain ⟨x10_1, rfl, HA, HK1, BK331, HB⟩ := hrel
  cases gk with
  | zero => exact absurd HA.out (by simp [impl_podAt.l0])
  | succ k1 =>
   have H := HA.out
   clear HA
   simp only [impl_podAt.l0] at H
   by_cases c5 : x10_1 < (l0_0.length : Int)
   {
   rw [if_pos c5] at H
   have c5b0 := decide_eq_true c5
   clear c5
   by_cases c6 : 0 ≤ x10_1
   {
   rw [if_pos c6] at H
   have c6b0 := decide_eq_true c6
   clear c6
   by_cases c7 : x10_1 < (l0_0.length : Int)
   {
   rw [if_pos c7] at H
   have c7b0 := decide_eq_true c7
   clear c7
   by_cases c8 : ((rd_T79 l0_0 x10_1).f0) = a1
   {
   rw [if_pos c8] at H
   have c8b0 := beq_iff_eq.mpr c8
   have c8b1 := bne_eq_false_iff_eq.mpr c8
   clear c8
   obtain rfl := Option.some.inj H
   simp only [Option.some.injEq, Prod.mk.injEq] at H
   obtain ⟨rfl⟩ := H
   have p332 : 0 ≤ (x10_1 : Int) := dt_
   have q332 : x10_1 < (l0_0.length : Int) := dt_
   obtain ⟨ad332, A332_2, c332_2, e332, hx332_0, hx332_1, hx332_2, hl332_2, hi332_2⟩ := at_T79 HR0_0.out x10_1 p332 q332
   cases e332
   replace hx332_0 := cB_ hx332_0
   replace hx332_1 := cB_ hx332_1
   replace hx332_2 := cB_ hx332_2
   have HR332_2 := aM hi332_2
   have HC332_2 := aM hl332_2
   clear hi332_2 hl332_2
   replace p332 := eq_true p332
   replace q332 := eq_true q332
   go_wp2_with (first | ((with_reducible refine gate_dst (N := 6) rfl ?_); refine bx_ 6 #[.int .i64 0, .int .i64 0, .slice none 0 0] 79 ?_; intro gb333 hg w9 hbox hb; have BK333 := aM (hbox); have GW333 := aM (bz_ w hg qz1); have GE333 := GW333; replace HB := bS_ hb; obtain ⟨NB331_333, NB333_331⟩ := nb_ hg (bk_ BK331.out); replace BK331 := bB_ BK331 hb; clear hb hbox hg; have hnb10 := NB333_331.out; have hnc10 := NB331_333.out; obtain ⟨hcz11_0, hcz11_1, hcz11_2, hfz11_0, hfz11_1, hfz11_2⟩ := b6_ BK333.out))
   go_ret
   exact ⟨qzw, qz1⟩
   }
   {
   rw [if_neg c8] at H
   have c8b0 := beq_eq_false_iff_ne.mpr c8
   have c8b1 := bne_iff_ne.mpr c8
   have H' := aM H
   clear H
   have p332 : 0 ≤ (x10_1 : Int) := dt_
   have q332 : x10_1 < (l0_0.length : Int) := dt_
   obtain ⟨ad332, A332_2, c332_2, e332, hx332_0, hx332_1, hx332_2, hl332_2, hi332_2⟩ := at_T79 HR0_0.out x10_1 p332 q332
   cases e332
   replace hx332_0 := cB_ hx332_0
   replace hx332_1 := cB_ hx332_1
   replace hx332_2 := cB_ hx332_2
   have HR332_2 := aM hi332_2
   have HC332_2 := aM hl332_2
   clear hi332_2 hl332_2
   replace p332 := eq_true p332
   replace q332 := eq_true q332
   go_wp2_with (first | ((with_reducible refine gate_dst (N := 6) rfl ?_); refine bx_ 6 #[.int .i64 0, .int .i64 0, .slice none 0 0] 79 ?_; intro gb333 hg w12 hbox hb; have BK333 := aM (hbox); have GW333 := aM (bz_ w hg qz1); have GE333 := GW333; replace HB := bS_ hb; obtain ⟨NB331_333, NB333_331⟩ := nb_ hg (bk_ BK331.out); replace BK331 := bB_ BK331 hb; clear hb hbox hg; have hnb13 := NB333_331.out; have hnc13 := NB331_333.out; obtain ⟨hcz14_0, hcz14_1, hcz14_2, hfz14_0, hfz14_1, hfz14_2⟩ := b6_ BK333.out))
   go_roundg k1
   case measure => have := HK1.out; omega
   case rel => exact ⟨(wrap64 (x10_1 + 1)), qz5, H', ⟨by have := HK1.out; omega⟩, ⟨by (with_reducible repeat (first | refine blk_drewN ?_ _ | refine blk_drew ?_ | refine blk_alloc ?_ _)); refine blk_far ?_ NB331_333.out _; (with_reducible repeat (first | refine blk_drewN ?_ _ | refine blk_drew ?_ | refine blk_alloc ?_ _)); refine blk_far ?_ NB331_333.out _; (with_reducible repeat (first | refine blk_drewN ?_ _ | refine blk_drew ?_ | refine blk_alloc ?_ _)); refine blk_far ?_ NB331_333.out _; exact bk_ BK331.out⟩, ⟨qz1⟩⟩
   }
   }
   {
   exact an_ c7 H
   }
   }
   {
   exact an_ c6 H
   }
   }
   {
   rw [if_neg c5] at H
   have c5b0 := decide_eq_false c5
   clear c5
   obtain rfl := Option.some.inj H
   simp only [Option.some.injEq, Prod.mk.injEq] at H
   obtain ⟨rfl⟩ := H
   go_wp2
   go_ret
   exact ⟨qzw, qz1⟩

   }
end Go.Proofs.Yteajnkondkfmgaa.PFnPicks
