-- Made by a program of this session out of the translation. Lean checks it.
import Derived.Test.YteajnkondkfmgaaPFnEachx14
import Derived.Test.YteajnkondkfmgaaPFnEachx15
namespace Go.Proofs.Yteajnkondkfmgaa.PFnEach
open Go.RowKit Go.Proofs.YteajnkondkfmgaaW.PrintWords Go.Proofs.YteajnkondkfmgaaW.PrintLast Go.Proofs.YteajnkondkfmgaaW.PrintMore
attribute [local go_sem] max2_int min2_int max_two min_two max_three min_three max_four min_four   -- for this text's walks alone
set_option linter.unusedVariables false
set_option linter.unusedSimpArgs false

/-! ### spec_l5BendN: function 103 -/
def spec_l5BendN.f (k : Nat) (s0_0 : List Int) (s0_1 : Int) (s0_2 : Int) (l1_0 : List (S79)) : Option ((List (S79)) × Int × Int) := (spec_l5Copy.f k l1_0).bind fun t315 => (if (t315.length : Int) = 0 then (some (t315, s0_1, s0_2)) else ((spec_l1Below.f s0_0 s0_1 s0_2 (t315.length : Int)).bind fun bt319 => ((spec_l1Below.f s0_0 bt319.2.1 bt319.2.2 6).bind fun bt322 => (if bt322.1 = 0 then ((spec_l1Int.f s0_0 bt322.2.1 bt322.2.2 (([0, 1000, 10] : List Int))).bind fun bt328 => (if 0 ≤ bt319.1 then (if bt319.1 < (t315.length : Int) then (some ((t315.set (bt319.1 : Int).toNat (⟨bt328.1, (rd_T79 t315 bt319.1).f1, (rd_T79 t315 bt319.1).f2⟩ : S79)), bt328.2.1, bt328.2.2)) else (none)) else (none))) else (if bt322.1 = 1 then ((spec_l1Int.f s0_0 bt322.2.1 bt322.2.2 (([(-1), 100, 19] : List Int))).bind fun bt335 => (if 0 ≤ bt319.1 then (if bt319.1 < (t315.length : Int) then (some ((t315.set (bt319.1 : Int).toNat (⟨(rd_T79 t315 bt319.1).f0, bt335.1, (rd_T79 t315 bt319.1).f2⟩ : S79)), bt335.2.1, bt335.2.2)) else (none)) else (none))) else (if bt322.1 = 2 then (if 0 ≤ bt319.1 then (if bt319.1 < (t315.length : Int) then ((spec_l1Int.f s0_0 bt322.2.1 bt322.2.2 (([0, 1, 1001] : List Int))).bind fun bt343 => ((spec_l1Below.f s0_0 bt343.2.1 bt343.2.2 3).bind fun bt346 => (none))) else (none)) else (none)) else (if bt322.1 = 3 then (if 0 < (t315.length : Int) then (if t315.length < 3518437208883 then (some ((t315 ++ [(⟨(rd_T79 t315 0).f0, (rd_T79 t315 0).f1, (rd_T79 t315 0).f2⟩ : S79)]), bt322.2.1, bt322.2.2)) else (none)) else (none)) else (some (t315, bt322.2.1, bt322.2.2)))))))))
theorem spec_l5BendN.mono : ∀ a0 a1 a2 a3 k, LeO (spec_l5BendN.f k a0 a1 a2 a3) (spec_l5BendN.f (k + 1) a0 a1 a2 a3) := by
 intro a0 a1 a2 a3 k
 unfold spec_l5BendN.f
 have j0 := @spec_l5Copy.mono
 exact qL
def spec_l5BendN.T7 : Bool × List (List Nat × List Nat) := (true, [([], []), ([0], [0]), ([], []), ([], []), ([], []), ([3, 4], [3, 4]), ([1, 2, 0, 1, 2, 3, 4, 5], [1, 2]), ([6, 0, 1, 2, 3, 4, 5], [6]), ([7, 5, 5, 0, 1, 2, 3, 4, 5], [5, 7])])
def spec_l5BendN.B7 : List Nat := [0, 1, 0, 0, 0, 24, 63, 127, 255]
theorem spec_l5BendN.tab7 : rtab .any (opsOf Try.f103 7) = spec_l5BendN.T7 := by kernel_rfl
theorem spec_l5BendN.bits7 : waitsOk spec_l5BendN.T7.2 spec_l5BendN.B7 = true := by kernel_rfl
def spec_l5BendN.T9 : Bool × List (List Nat × List Nat) := (true, [([], []), ([0], [0]), ([], []), ([], []), ([], []), ([3, 4], [3, 4]), ([1, 2, 0, 1, 2, 3, 4, 5], [1, 2]), ([6, 0, 1, 2, 3, 4, 5], [6]), ([7, 5, 5, 0, 1, 2, 3, 4, 5], [5, 7])])
def spec_l5BendN.B9 : List Nat := [0, 1, 0, 0, 0, 24, 63, 127, 255]
theorem spec_l5BendN.tab9 : rtab .any (opsOf Try.f103 9) = spec_l5BendN.T9 := by kernel_rfl
theorem spec_l5BendN.bits9 : waitsOk spec_l5BendN.T9.2 spec_l5BendN.B9 = true := by kernel_rfl
def spec_l5BendN.T13 : Bool × List (List Nat × List Nat) := (true, [([], []), ([0], [0]), ([], []), ([2], [2]), ([3], [3]), ([4], [4]), ([5], [5]), ([1, 6], [1, 6]), ([0, 1, 2, 3, 4, 5, 6, 7], []), ([8, 7, 7, 0, 1, 2, 3, 4, 5, 6, 7], [7, 8])])
def spec_l5BendN.B13 : List Nat := [0, 1, 0, 4, 12, 28, 60, 127, 255, 511]
theorem spec_l5BendN.tab13 : rtab .any (opsOf Try.f103 13) = spec_l5BendN.T13 := by kernel_rfl
theorem spec_l5BendN.bits13 : waitsOk spec_l5BendN.T13.2 spec_l5BendN.B13 = true := by kernel_rfl
set_option maxHeartbeats 8000000 in
set_option maxRecDepth 100000 in
theorem spec_l5BendN.calls (k : Nat) (g : Nat) (s0_0 : List Int) (s0_1 : Int) (s0_2 : Int) (A1_0 : Option Addr) (c1_0 : Nat) (l1_0 : List (S79)) (r1 : List (S79)) (r2 : Int) (r3 : Int) (w0 w : World) (hI : IsS122 w0 w g s0_0 s0_1 s0_2) (hB : Below w0.heap.size w0 w) (hr1_0 : ∀ W_, KeepBut w W_ g none → Kd.C k79 W_ A1_0 l1_0.length l1_0) (hc1_0 : l1_0.length ≤ c1_0) (h : spec_l5BendN.f k s0_0 s0_1 s0_2 l1_0 = some (r1, r2, r3)) :
  Calls Try.prog 103 #[.pointer (some ⟨g, 0, none⟩), .agg #[.slice A1_0 l1_0.length c1_0]] w fun e w' => ∃ v0_ : Value, e = .returned (.agg #[v0_]) ∧ Kd.N k79 79 w' w.heap.size (fun k_ => (w.heap.size ≤ k_)) v0_ r1 ∧ IsS122 w0 w' g s0_0 r2 r3 ∧ Below w0.heap.size w0 w' ∧ KeepBut w w' g none := by
 have hu26 := Try.underlying26
 have hu72 := Try.underlying72
 have hu79 := Try.underlying79
 have HR1_0 := aM hr1_0
 have HC1_0 := aM hc1_0
 clear hr1_0 hc1_0
 have HI0 := aM hI
 have HK := aM (KeepBut.refl w g none)
 have HL := aM hB.size
 clear hI
 have HW0 := aM hB.size
 have HB := aM hB
 clear hB
 have H : ((spec_l5Copy.f k l1_0).bind fun t315 => (if (t315.length : Int) = 0 then (some (t315, s0_1, s0_2)) else ((spec_l1Below.f s0_0 s0_1 s0_2 (t315.length : Int)).bind fun bt319 => ((spec_l1Below.f s0_0 bt319.2.1 bt319.2.2 6).bind fun bt322 => (if bt322.1 = 0 then ((spec_l1Int.f s0_0 bt322.2.1 bt322.2.2 (([0, 1000, 10] : List Int))).bind fun bt328 => (if 0 ≤ bt319.1 then (if bt319.1 < (t315.length : Int) then (some ((t315.set (bt319.1 : Int).toNat (⟨bt328.1, (rd_T79 t315 bt319.1).f1, (rd_T79 t315 bt319.1).f2⟩ : S79)), bt328.2.1, bt328.2.2)) else (none)) else (none))) else (if bt322.1 = 1 then ((spec_l1Int.f s0_0 bt322.2.1 bt322.2.2 (([(-1), 100, 19] : List Int))).bind fun bt335 => (if 0 ≤ bt319.1 then (if bt319.1 < (t315.length : Int) then (some ((t315.set (bt319.1 : Int).toNat (⟨(rd_T79 t315 bt319.1).f0, bt335.1, (rd_T79 t315 bt319.1).f2⟩ : S79)), bt335.2.1, bt335.2.2)) else (none)) else (none))) else (if bt322.1 = 2 then (if 0 ≤ bt319.1 then (if bt319.1 < (t315.length : Int) then ((spec_l1Int.f s0_0 bt322.2.1 bt322.2.2 (([0, 1, 1001] : List Int))).bind fun bt343 => ((spec_l1Below.f s0_0 bt343.2.1 bt343.2.2 3).bind fun bt346 => (none))) else (none)) else (none)) else (if bt322.1 = 3 then (if 0 < (t315.length : Int) then (if t315.length < 3518437208883 then (some ((t315 ++ [(⟨(rd_T79 t315 0).f0, (rd_T79 t315 0).f1, (rd_T79 t315 0).f2⟩ : S79)]), bt322.2.1, bt322.2.2)) else (none)) else (none)) else (some (t315, bt322.2.1, bt322.2.2)))))))))) = some (r1, r2, r3) := h
 clear h
 replace H := Option.bind_eq_some_iff.mp H
 obtain ⟨t315, A30, H⟩ := H
 replace H : (if (t315.length : Int) = 0 then (some (t315, s0_1, s0_2)) else ((spec_l1Below.f s0_0 s0_1 s0_2 (t315.length : Int)).bind fun bt319 => ((spec_l1Below.f s0_0 bt319.2.1 bt319.2.2 6).bind fun bt322 => (if bt322.1 = 0 then ((spec_l1Int.f s0_0 bt322.2.1 bt322.2.2 (([0, 1000, 10] : List Int))).bind fun bt328 => (if 0 ≤ bt319.1 then (if bt319.1 < (t315.length : Int) then (some ((t315.set (bt319.1 : Int).toNat (⟨bt328.1, (rd_T79 t315 bt319.1).f1, (rd_T79 t315 bt319.1).f2⟩ : S79)), bt328.2.1, bt328.2.2)) else (none)) else (none))) else (if bt322.1 = 1 then ((spec_l1Int.f s0_0 bt322.2.1 bt322.2.2 (([(-1), 100, 19] : List Int))).bind fun bt335 => (if 0 ≤ bt319.1 then (if bt319.1 < (t315.length : Int) then (some ((t315.set (bt319.1 : Int).toNat (⟨(rd_T79 t315 bt319.1).f0, bt335.1, (rd_T79 t315 bt319.1).f2⟩ : S79)), bt335.2.1, bt335.2.2)) else (none)) else (none))) else (if bt322.1 = 2 then (if 0 ≤ bt319.1 then (if bt319.1 < (t315.length : Int) then ((spec_l1Int.f s0_0 bt322.2.1 bt322.2.2 (([0, 1, 1001] : List Int))).bind fun bt343 => ((spec_l1Below.f s0_0 bt343.2.1 bt343.2.2 3).bind fun bt346 => (none))) else (none)) else (none)) else (if bt322.1 = 3 then (if 0 < (t315.length : Int) then (if t315.length < 3518437208883 then (some ((t315 ++ [(⟨(rd_T79 t315 0).f0, (rd_T79 t315 0).f1, (rd_T79 t315 0).f2⟩ : S79)]), bt322.2.1, bt322.2.2)) else (none)) else (none)) else (some (t315, bt322.2.1, bt322.2.2))))))))) = some (r1, r2, r3) := H
 have A3 := aM A30
 clear A30
 by_cases c4 : (t315.length : Int) = 0
 {
 rw [if_pos c4] at H
 have c4b0 := beq_iff_eq.mpr c4
 have c4b1 := bne_eq_false_iff_eq.mpr c4
 clear c4
 simp only [Option.some.injEq, Prod.mk.injEq] at H
 obtain ⟨rfl, rfl, rfl⟩ := H
 go_enter Try.func103, Try.ntmps103
 go_wp2_with (first | ((with_reducible refine gate_dst (N := 3) rfl ?_); refine bx_ 3 #[.slice A1_0 l1_0.length c1_0] 26 ?_; intro gb313 hg w5 hbox hb; replace HB := bS_ hb; have BK313 := aM (hbox); have GW313 := aM (kz_ w g hg qz2); have GE313 := aM ((Nat.le_trans HW0.out (by rw [hg]; exact (keep_size (w := w) (g := g) (row := none) qz2) : w.heap.size ≤ gb313) : w0.heap.size ≤ gb313)); replace HK := aM (KeepBut.trans qz2 (KeepBut.of_below hb g none) (.inl rfl)); have NB0_313 := aM ((by rw [hg]; exact Nat.ne_of_lt (IsS122.lt (show IsS122 w0 _ g s0_0 s0_1 s0_2 from qz3)) : g ≠ gb313)); have NB313_0 := aM ((by rw [hg]; exact Nat.ne_of_gt (IsS122.lt (show IsS122 w0 _ g s0_0 s0_1 s0_2 from qz3)) : gb313 ≠ g)); replace HI0 := aM (IsS122.below qz3 hb); clear hb hbox hg) | ((with_reducible refine gate_dst (N := 4) rfl ?_); refine bx_ 4 #[.slice none 0 0] 26 ?_; intro gb314 hg w6 hbox hb; replace HB := bS_ hb; have BK314 := aM (hbox); have GW314 := aM (kz_ w g hg qz2); have GE314 := aM ((Nat.le_trans HW0.out (by rw [hg]; exact (keep_size (w := w) (g := g) (row := none) qz2) : w.heap.size ≤ gb314) : w0.heap.size ≤ gb314)); replace HK := aM (KeepBut.trans qz2 (KeepBut.of_below hb g none) (.inl rfl)); obtain ⟨NB313_314, NB314_313⟩ := nb_ hg (bk_ BK313.out); replace BK313 := bB_ BK313 hb; have NB0_314 := aM ((by rw [hg]; exact Nat.ne_of_lt (IsS122.lt (show IsS122 w0 _ g s0_0 s0_1 s0_2 from qz3)) : g ≠ gb314)); have NB314_0 := aM ((by rw [hg]; exact Nat.ne_of_gt (IsS122.lt (show IsS122 w0 _ g s0_0 s0_1 s0_2 from qz3)) : gb314 ≠ g)); replace HI0 := aM (IsS122.below qz3 hb); clear hb hbox hg; have hnb7 := NB313_314.out; have hnc7 := NB314_313.out; have hnb8 := NB313_0.out; have hnc8 := NB0_313.out; obtain ⟨hcz9_0, hfz9_0⟩ := bf_ BK313.out) | ((with_reducible refine gate_callee (f := 62) rfl ?_); refine goesL_ (some 8) rfl rfl Try.func62 (by kernel_rfl) rfl #[.agg #[.slice A1_0 l1_0.length c1_0]] rfl qz4 ?_; (with_reducible refine (spec_l5Copy.calls k _ _ l1_0 t315 _ ?side1 ?side2 A3.out).mono ?_); (case side1 => exact Kd.C_foot_now HR1_0.out qz2); (case side2 => exact HC1_0.out); rintro e w10 ⟨v316, rfl, ho0, hb⟩; refine ⟨_, rfl, ?_⟩; have HO317 := aM (Kd.N_lower (Kd.N_mono (ok' := fun k_ => (w.heap.size ≤ k_) ∧ k_ ≠ gb313 ∧ k_ ≠ gb314 ∧ k_ ≠ g) (Kd.S_N (Kd.S_bound ho0)) (fun k_ hk_ => ⟨(Nat.le_trans (keep_size (w := w) (g := g) (row := none) qz2) hk_.2.1), (Kd.freshB (bk_ BK313.out) k_ hk_.2.1), (Kd.freshB (bk_ BK314.out) k_ hk_.2.1), (IsS122.fresh qz3 k_ hk_.2.1)⟩)) (keep_size (w := w) (g := g) (row := none) qz2)); replace BK313 := bB_ BK313 hb; replace BK314 := bB_ BK314 hb; replace HK := aM (KeepBut.trans qz2 (KeepBut.of_below hb g none) (.inl rfl)); replace HB := bS_ hb; replace HI0 := aM (IsS122.below qz3 hb); (try clear hb ho0)) | ((with_reducible refine gate_dst (N := 5) rfl ?_); refine bx_ 5 #[.slice none 0 0] 26 ?_; intro gb318 hg w11 hbox hb; replace HO317 := aM (Kd.N_below (Kd.N_elderB qz8 gb318 (Nat.le_of_eq hg.symm)) hb); replace HB := bS_ hb; have BK318 := aM (hbox); have GW318 := aM (kz_ w g hg qz2); have GE318 := aM ((Nat.le_trans HW0.out (by rw [hg]; exact (keep_size (w := w) (g := g) (row := none) qz2) : w.heap.size ≤ gb318) : w0.heap.size ≤ gb318)); replace HK := aM (KeepBut.trans qz2 (KeepBut.of_below hb g none) (.inl rfl)); obtain ⟨NB313_318, NB318_313⟩ := nb_ hg (bk_ BK313.out); replace BK313 := bB_ BK313 hb; obtain ⟨NB314_318, NB318_314⟩ := nb_ hg (bk_ BK314.out); replace BK314 := bB_ BK314 hb; have NB0_318 := aM ((by rw [hg]; exact Nat.ne_of_lt (IsS122.lt (show IsS122 w0 _ g s0_0 s0_1 s0_2 from qz3)) : g ≠ gb318)); have NB318_0 := aM ((by rw [hg]; exact Nat.ne_of_gt (IsS122.lt (show IsS122 w0 _ g s0_0 s0_1 s0_2 from qz3)) : gb318 ≠ g)); replace HI0 := aM (IsS122.below qz3 hb); clear hb hbox hg; obtain ⟨Ao12, co12, eo12⟩ := Kd.N_slice HO317.out; subst eo12; have hnb13 := NB318_313.out; have hnc13 := NB313_318.out; have hnb14 := NB318_314.out; have hnc14 := NB314_318.out; have hnb15 := NB318_0.out; have hnc15 := NB0_318.out; obtain ⟨hcz16_0, hfz16_0⟩ := bf_ BK318.out; have hnb17 := NB314_0.out; have hnc17 := NB0_314.out; obtain ⟨hcz18_0, hfz18_0⟩ := bf_ BK314.out))
 refine bodyPost_ret (results_cell_row rfl _ _ gb314 26 #[.slice Ao12 t315.length co12] (0, 0) _ rfl (by (with_reducible repeat (first | refine blk_drewN ?_ _ | refine blk_drew ?_ | refine blk_alloc ?_ _)); refine blk_put (cs := #[.slice none 0 0]) ?_ 0 _ rfl; (with_reducible repeat (first | refine blk_drewN ?_ _ | refine blk_drew ?_ | refine blk_alloc ?_ _)); exact bk2_ BK314.out) Try.underlying26 rfl (by kernel_rfl)) rfl ?_
 exact ⟨_, qzw, by (with_reducible repeat (first | apply Kd.N_alloc | apply Kd.N_drewN | apply Kd.N_drew)); exact Kd.N_mono (Kd.N_far (p := ⟨gb314, 0, none⟩) (Kd.N_far (p := ⟨gb318, 0, none⟩) (Kd.N_mono (Kd.N_mono HO317.out (fun k_ hk => (⟨hk, hk.2⟩ : _ ∧ k_ ≠ gb318))) (fun k_ hk => (⟨hk, hk.1.1.2.2.1⟩ : _ ∧ k_ ≠ gb314))) (fun _ hk => hk.1.2) (.slice Ao12 t315.length co12)) (fun _ hk => hk.2) (.slice Ao12 t315.length co12)) (fun _ hk => hk.1.1.1.1), qz3, qz1, qz2⟩
 }
 {
 rw [if_neg c4] at H
 have c4b0 := beq_eq_false_iff_ne.mpr c4
 have c4b1 := bne_iff_ne.mpr c4
 have c4b2 : ¬ (t315 = []) := fun h_ => c4 (by rw [h_]; rfl)
 replace H := Option.bind_eq_some_iff.mp H
 obtain ⟨⟨t319, t320, t321⟩, A190, H⟩ := H
 replace H : ((spec_l1Below.f s0_0 t320 t321 6).bind fun bt322 => (if bt322.1 = 0 then ((spec_l1Int.f s0_0 bt322.2.1 bt322.2.2 (([0, 1000, 10] : List Int))).bind fun bt328 => (if 0 ≤ t319 then (if t319 < (t315.length : Int) then (some ((t315.set (t319 : Int).toNat (⟨bt328.1, (rd_T79 t315 t319).f1, (rd_T79 t315 t319).f2⟩ : S79)), bt328.2.1, bt328.2.2)) else (none)) else (none))) else (if bt322.1 = 1 then ((spec_l1Int.f s0_0 bt322.2.1 bt322.2.2 (([(-1), 100, 19] : List Int))).bind fun bt335 => (if 0 ≤ t319 then (if t319 < (t315.length : Int) then (some ((t315.set (t319 : Int).toNat (⟨(rd_T79 t315 t319).f0, bt335.1, (rd_T79 t315 t319).f2⟩ : S79)), bt335.2.1, bt335.2.2)) else (none)) else (none))) else (if bt322.1 = 2 then (if 0 ≤ t319 then (if t319 < (t315.length : Int) then ((spec_l1Int.f s0_0 bt322.2.1 bt322.2.2 (([0, 1, 1001] : List Int))).bind fun bt343 => ((spec_l1Below.f s0_0 bt343.2.1 bt343.2.2 3).bind fun bt346 => (none))) else (none)) else (none)) else (if bt322.1 = 3 then (if 0 < (t315.length : Int) then (if t315.length < 3518437208883 then (some ((t315 ++ [(⟨(rd_T79 t315 0).f0, (rd_T79 t315 0).f1, (rd_T79 t315 0).f2⟩ : S79)]), bt322.2.1, bt322.2.2)) else (none)) else (none)) else (some (t315, bt322.2.1, bt322.2.2))))))) = some (r1, r2, r3) := H
 have A19 := aM A190
 clear A190
 replace H := Option.bind_eq_some_iff.mp H
 obtain ⟨⟨t322, t323, t324⟩, A200, H⟩ := H
 replace H : (if t322 = 0 then ((spec_l1Int.f s0_0 t323 t324 (([0, 1000, 10] : List Int))).bind fun bt328 => (if 0 ≤ t319 then (if t319 < (t315.length : Int) then (some ((t315.set (t319 : Int).toNat (⟨bt328.1, (rd_T79 t315 t319).f1, (rd_T79 t315 t319).f2⟩ : S79)), bt328.2.1, bt328.2.2)) else (none)) else (none))) else (if t322 = 1 then ((spec_l1Int.f s0_0 t323 t324 (([(-1), 100, 19] : List Int))).bind fun bt335 => (if 0 ≤ t319 then (if t319 < (t315.length : Int) then (some ((t315.set (t319 : Int).toNat (⟨(rd_T79 t315 t319).f0, bt335.1, (rd_T79 t315 t319).f2⟩ : S79)), bt335.2.1, bt335.2.2)) else (none)) else (none))) else (if t322 = 2 then (if 0 ≤ t319 then (if t319 < (t315.length : Int) then ((spec_l1Int.f s0_0 t323 t324 (([0, 1, 1001] : List Int))).bind fun bt343 => ((spec_l1Below.f s0_0 bt343.2.1 bt343.2.2 3).bind fun bt346 => (none))) else (none)) else (none)) else (if t322 = 3 then (if 0 < (t315.length : Int) then (if t315.length < 3518437208883 then (some ((t315 ++ [(⟨(rd_T79 t315 0).f0, (rd_T79 t315 0).f1, (rd_T79 t315 0).f2⟩ : S79)]), t323, t324)) else (none)) else (none)) else (some (t315, t323, t324)))))) = some (r1, r2, r3) := H
 have A20 := aM A200
 clear A200
 by_cases c21 : t322 = 0
 {
 rw [if_pos c21] at H
 have c21b0 := beq_iff_eq.mpr c21
 have c21b1 := bne_eq_false_iff_eq.mpr c21
 clear c21
 obtain ⟨y325, hy325⟩ : ∃ y_ : List Int, y_ = (([0, 1000, 10] : List Int)) := ⟨_, rfl⟩
 replace H : ((spec_l1Int.f s0_0 t323 t324 y325).bind fun bt328 => (if 0 ≤ t319 then (if t319 < (t315.length : Int) then (some ((t315.set (t319 : Int).toNat (⟨bt328.1, (rd_T79 t315 t319).f1, (rd_T79 t315 t319).f2⟩ : S79)), bt328.2.1, bt328.2.2)) else (none)) else (none))) = some (r1, r2, r3) := by first | (rw [hy325]; with_reducible exact H) | (have H2_ := (Option.bind_some _ _).symm.trans H; rw [hy325]; with_reducible exact H2_) | (have H2_ := (Option.bind_some _ _).symm.trans H; with_reducible exact H2_) | with_reducible exact H | (rw [hy325]; exact H) | exact H
 have Ny325 := aM hy325
 clear hy325
 replace H := Option.bind_eq_some_iff.mp H
 obtain ⟨⟨t328, t329, t330⟩, A220, H⟩ := H
 replace H : (if 0 ≤ t319 then (if t319 < (t315.length : Int) then (some ((t315.set (t319 : Int).toNat (⟨t328, (rd_T79 t315 t319).f1, (rd_T79 t315 t319).f2⟩ : S79)), t329, t330)) else (none)) else (none)) = some (r1, r2, r3) := H
 have A22 := aM A220
 clear A220
 by_cases c23 : 0 ≤ t319
 {
 rw [if_pos c23] at H
 have c23b0 := decide_eq_true c23
 clear c23
 by_cases c24 : t319 < (t315.length : Int)
 {
 rw [if_pos c24] at H
 have c24b0 := decide_eq_true c24
 clear c24
 obtain ⟨y331, hy331⟩ : ∃ y_ : List (S79), y_ = (t315.set (t319 : Int).toNat (⟨t328, (rd_T79 t315 t319).f1, (rd_T79 t315 t319).f2⟩ : S79)) := ⟨_, rfl⟩
 replace H : (some (y331, t329, t330)) = some (r1, r2, r3) := by first | (rw [hy331]; with_reducible exact H) | (have H2_ := (Option.bind_some _ _).symm.trans H; rw [hy331]; with_reducible exact H2_) | (have H2_ := (Option.bind_some _ _).symm.trans H; with_reducible exact H2_) | with_reducible exact H | (rw [hy331]; exact H) | exact H
 have Ny331 := aM hy331
 clear hy331
 simp only [Option.some.injEq, Prod.mk.injEq] at H
 obtain ⟨rfl, rfl, rfl⟩ := H
 go_enter Try.func103, Try.ntmps103
 try go_wp2_with (first | ((with_reducible refine gate_dst (N := 3) rfl ?_); refine bx_ 3 #[.slice A1_0 l1_0.length c1_0] 26 ?_; intro gb313 hg w26 hbox hb; replace HB := bS_ hb; have BK313 := aM (hbox); have GW313 := aM (kz_ w g hg qz2); have GE313 := aM ((Nat.le_trans HW0.out (by rw [hg]; exact (keep_size (w := w) (g := g) (row := none) qz2) : w.heap.size ≤ gb313) : w0.heap.size ≤ gb313)); replace HK := aM (KeepBut.trans qz2 (KeepBut.of_below hb g none) (.inl rfl)); have NB0_313 := aM ((by rw [hg]; exact Nat.ne_of_lt (IsS122.lt (show IsS122 w0 _ g s0_0 s0_1 s0_2 from qz3)) : g ≠ gb313)); have NB313_0 := aM ((by rw [hg]; exact Nat.ne_of_gt (IsS122.lt (show IsS122 w0 _ g s0_0 s0_1 s0_2 from qz3)) : gb313 ≠ g)); replace HI0 := aM (IsS122.below qz3 hb); clear hb hbox hg) | ((with_reducible refine gate_dst (N := 4) rfl ?_); refine bx_ 4 #[.slice none 0 0] 26 ?_; intro gb314 hg w27 hbox hb; replace HB := bS_ hb; have BK314 := aM (hbox); have GW314 := aM (kz_ w g hg qz2); have GE314 := aM ((Nat.le_trans HW0.out (by rw [hg]; exact (keep_size (w := w) (g := g) (row := none) qz2) : w.heap.size ≤ gb314) : w0.heap.size ≤ gb314)); replace HK := aM (KeepBut.trans qz2 (KeepBut.of_below hb g none) (.inl rfl)); obtain ⟨NB313_314, NB314_313⟩ := nb_ hg (bk_ BK313.out); replace BK313 := bB_ BK313 hb; have NB0_314 := aM ((by rw [hg]; exact Nat.ne_of_lt (IsS122.lt (show IsS122 w0 _ g s0_0 s0_1 s0_2 from qz3)) : g ≠ gb314)); have NB314_0 := aM ((by rw [hg]; exact Nat.ne_of_gt (IsS122.lt (show IsS122 w0 _ g s0_0 s0_1 s0_2 from qz3)) : gb314 ≠ g)); replace HI0 := aM (IsS122.below qz3 hb); clear hb hbox hg; have hnb28 := NB313_314.out; have hnc28 := NB314_313.out; have hnb29 := NB313_0.out; have hnc29 := NB0_313.out; obtain ⟨hcz30_0, hfz30_0⟩ := bf_ BK313.out) | ((with_reducible refine gate_callee (f := 62) rfl ?_); refine goesL_ (some 8) rfl rfl Try.func62 (by kernel_rfl) rfl #[.agg #[.slice A1_0 l1_0.length c1_0]] rfl qz4 ?_; (with_reducible refine (spec_l5Copy.calls k _ _ l1_0 t315 _ ?side1 ?side2 A3.out).mono ?_); (case side1 => exact Kd.C_foot_now HR1_0.out qz2); (case side2 => exact HC1_0.out); rintro e w31 ⟨v316, rfl, ho0, hb⟩; refine ⟨_, rfl, ?_⟩; have HO317 := aM (Kd.N_lower (Kd.N_mono (ok' := fun k_ => (w.heap.size ≤ k_) ∧ k_ ≠ gb313 ∧ k_ ≠ gb314 ∧ k_ ≠ g) (Kd.S_N (Kd.S_bound ho0)) (fun k_ hk_ => ⟨(Nat.le_trans (keep_size (w := w) (g := g) (row := none) qz2) hk_.2.1), (Kd.freshB (bk_ BK313.out) k_ hk_.2.1), (Kd.freshB (bk_ BK314.out) k_ hk_.2.1), (IsS122.fresh qz3 k_ hk_.2.1)⟩)) (keep_size (w := w) (g := g) (row := none) qz2)); replace BK313 := bB_ BK313 hb; replace BK314 := bB_ BK314 hb; replace HK := aM (KeepBut.trans qz2 (KeepBut.of_below hb g none) (.inl rfl)); replace HB := bS_ hb; replace HI0 := aM (IsS122.below qz3 hb); (try clear hb ho0)) | ((with_reducible refine gate_dst (N := 5) rfl ?_); refine bx_ 5 #[.slice none 0 0] 26 ?_; intro gb318 hg w32 hbox hb; replace HO317 := aM (Kd.N_below (Kd.N_elderB qz8 gb318 (Nat.le_of_eq hg.symm)) hb); replace HB := bS_ hb; have BK318 := aM (hbox); have GW318 := aM (kz_ w g hg qz2); have GE318 := aM ((Nat.le_trans HW0.out (by rw [hg]; exact (keep_size (w := w) (g := g) (row := none) qz2) : w.heap.size ≤ gb318) : w0.heap.size ≤ gb318)); replace HK := aM (KeepBut.trans qz2 (KeepBut.of_below hb g none) (.inl rfl)); obtain ⟨NB313_318, NB318_313⟩ := nb_ hg (bk_ BK313.out); replace BK313 := bB_ BK313 hb; obtain ⟨NB314_318, NB318_314⟩ := nb_ hg (bk_ BK314.out); replace BK314 := bB_ BK314 hb; have NB0_318 := aM ((by rw [hg]; exact Nat.ne_of_lt (IsS122.lt (show IsS122 w0 _ g s0_0 s0_1 s0_2 from qz3)) : g ≠ gb318)); have NB318_0 := aM ((by rw [hg]; exact Nat.ne_of_gt (IsS122.lt (show IsS122 w0 _ g s0_0 s0_1 s0_2 from qz3)) : gb318 ≠ g)); replace HI0 := aM (IsS122.below qz3 hb); clear hb hbox hg; obtain ⟨Ao33, co33, eo33⟩ := Kd.N_slice HO317.out; subst eo33; have hnb34 := NB318_313.out; have hnc34 := NB313_318.out; have hnb35 := NB318_314.out; have hnc35 := NB314_318.out; have hnb36 := NB318_0.out; have hnc36 := NB0_318.out; obtain ⟨hcz37_0, hfz37_0⟩ := bf_ BK318.out) | ((with_reducible refine gate_callee (f := 105) rfl ?_); refine goesL_ (some 18) rfl rfl Try.func105 (by kernel_rfl) rfl #[.pointer (some ⟨g, 0, none⟩), .int .i64 (t315.length : Int)] rfl qz4 ?_; (with_reducible refine (spec_l1Below.calls g s0_0 s0_1 s0_2 (t315.length : Int) t319 t320 t321 w0 _ ?side1 ?side2 A19.out).mono ?_); (case side1 => exact qz3); (case side2 => exact qz1); rintro e w38 ⟨rfl, hi, hb, hk⟩; refine ⟨_, rfl, ?_⟩; replace BK313 := aM (KeepBut.blk hk (g' := gb313) (o := .cells #[.slice A1_0 l1_0.length c1_0] 26 (0, 0)) (bk2_ BK313.out) NB313_0.out (by simp)); replace BK314 := aM (KeepBut.blk hk (g' := gb314) (o := .cells #[.slice none 0 0] 26 (0, 0)) (bk2_ BK314.out) NB314_0.out (by simp)); replace HO317 := aM (Kd.N_mono (Kd.N_keep (Kd.N_mono (ok := fun k_ => ((((w.heap.size ≤ k_)) ∧ (k_ ≠ gb313 ∧ (k_ ≠ gb314 ∧ k_ ≠ g))) ∧ k_ ≠ gb318)) (by (with_reducible repeat (first | apply Kd.N_alloc | apply Kd.N_drewN | apply Kd.N_drew)); exact (Kd.N_mono (Kd.N_far (p := ⟨gb318, 0, none⟩) (Kd.N_mono HO317.out (fun k_ hk => (⟨hk, hk.2⟩ : _ ∧ k_ ≠ gb318))) (fun _ hk => hk.2) (.slice Ao33 t315.length co33)) (fun _ h_ => h_.1))) (fun k_ hk_ => (⟨hk_, hk_.1.2.2.2⟩ : _ ∧ k_ ≠ g))) hk (fun _ h => h.2)) (fun _ h => h.1)); replace BK318 := aM (KeepBut.blk hk (g' := gb318) (o := .cells #[.slice Ao33 t315.length co33] 26 (0, 0)) (by (with_reducible repeat (first | refine blk_drewN ?_ _ | refine blk_drew ?_ | refine blk_alloc ?_ _)); refine blk_put (cs := #[.slice none 0 0]) ?_ 0 _ rfl; exact bk_ BK318.out) NB318_0.out (by simp)); replace HK := aM (KeepBut.trans qz2 hk (.inl rfl)); replace HB := aM (hb); replace HI0 := aM (hi); (try clear hb hk hi)) | ((with_reducible refine gate_callee (f := 105) rfl ?_); refine goesL_ (some 20) rfl rfl Try.func105 (by kernel_rfl) rfl #[.pointer (some ⟨g, 0, none⟩), .int .i64 6] rfl qz4 ?_; (with_reducible refine (spec_l1Below.calls g s0_0 t320 t321 6 t322 t323 t324 w0 _ ?side1 ?side2 A20.out).mono ?_); (case side1 => exact qz3); (case side2 => exact qz1); rintro e w39 ⟨rfl, hi, hb, hk⟩; refine ⟨_, rfl, ?_⟩; replace BK313 := aM (KeepBut.blk hk (bk_ BK313.out) NB313_0.out (by simp)); replace BK314 := aM (KeepBut.blk hk (bk_ BK314.out) NB314_0.out (by simp)); replace HO317 := aM (Kd.N_mono (Kd.N_keep (Kd.N_mono (ok := fun k_ => ((((w.heap.size ≤ k_)) ∧ (k_ ≠ gb313 ∧ (k_ ≠ gb314 ∧ k_ ≠ g))) ∧ k_ ≠ gb318)) qz8 (fun k_ hk_ => (⟨hk_, hk_.1.2.2.2⟩ : _ ∧ k_ ≠ g))) hk (fun _ h => h.2)) (fun _ h => h.1)); replace BK318 := aM (KeepBut.blk hk (bk_ BK318.out) NB318_0.out (by simp)); replace HK := aM (KeepBut.trans qz2 hk (.inl rfl)); replace HB := aM (hb); replace HI0 := aM (hi); (try clear hb hk hi)))
 replace HO317 := aM (Kd.N_drew HO317.out)
 replace BK313 := aM (blk_drew BK313.out)
 replace BK314 := aM (blk_drew BK314.out)
 replace BK318 := aM (blk_drew BK318.out)
 replace HI0 := aM (IsS122.drew HI0.out)
 replace HK := aM (keep_drew HK.out)
 replace HB := aM (below_drew1 HB.out)
 refine start_ (n := 9) (S := fun w' => w'.cell? ⟨gb318, 0, none⟩ = some (.slice Ao33 t315.length co33)) (ds := [8]) #[false, false, false, false, false, false, false, false, false] (by kernel_rfl) rfl rfl ((blk_cell BK318.out 0).trans rfl) (fun hHeld => ?_); refine with_tabW spec_l5BendN.tab7 spec_l5BendN.bits7 (fun HT_ HW_ => ?_)
 generalize w39.drew = w40 at HO317 BK313 BK314 BK318 HI0 HK HB hHeld ⊢
 refine pI_ 0 23 (bqz 9 1) ?_
 refine jI_ 2 25 ?_
 refine jI_ 3 26 ?_
 refine take_ (i := 1) (N := some 24) (v := ?_) (a' := ?_) (bqz 9 15) rfl rfl qzb qzd (Or.inl ⟨by rfl, ?_⟩) hHeld ?_ ?_
 rotate_left
 {
 intro w' s0
 go_simp
 with_reducible rfl
 }
 rotate_left
 {
 simp only [qzs]
 rfl
 }
 refine one_ (i := 4) (N := some 27) (bqz 9 31) rfl rfl qzc (by decide) (fun K hK => ?_)
 refine Kd.R_lit_step (Kd.int .i64) _ 3 ?hg (N := 27) ?hd (xs := ([0, 1000, 10] : List Int)) (inner := [.int .i64 0, .int .i64 1000, .int .i64 10]) (ok := fun _ => True) (okp := fun _ => True) ?hr ?hp (fun _ hk => hk) trivial (Below.refl _ _) (Nat.le_refl _) (by simp) ?_; (case hd => rfl); (case hg => rfl); (case hr => exact qz23); (case hp => exact (Reps.one (show Kd.M (Kd.int .i64) _ _ _ 0 [.int .i64 0] from rfl) (Reps.one (show Kd.M (Kd.int .i64) _ _ _ 1000 [.int .i64 1000] from rfl) (Reps.one (show Kd.M (Kd.int .i64) _ _ _ 10 [.int .i64 10] from rfl) (Reps.none _ _)))))
 intro v326 w41 ho42 hb hg_ hnew_
 clear hg_ hnew_
 (first | rw [← Ny325.out] at ho42 | (simp only [Int.reduceToNat] at ho42; rw [← Ny325.out] at ho42))
 replace HO317 := aM (Kd.N_elder' qz8 (Kd.R_base ho42) hb)
 have HO327 := aM (Kd.R_lower (Kd.R_newM (M := fun k_ => (w.heap.size ≤ k_)) ho42 (keep_size (w := w) (g := g) (row := none) qz2) (fun k_ h_ => h_)) (keep_size (w := w) (g := g) (row := none) qz2))
 replace BK313 := bB_ BK313 hb
 replace BK314 := bB_ BK314 hb
 replace BK318 := bB_ BK318 hb
 replace HK := aM (KeepBut.trans qz2 (KeepBut.of_below hb g none) (.inl rfl))
 replace HB := bS_ hb
 replace HI0 := aM (IsS122.below qz3 hb)
 clear hb ho42
 obtain ⟨Ao43, co43, eo43⟩ := Kd.R_slice HO327.out
 (first | subst eo43 | (injection eo43 with f1_ f2_ f3_; have f4_ := f1_.symm; have f5_ := f3_.symm; clear f1_ f2_ f3_; subst f4_; subst f5_))
 refine hK.out _ _ ((blk_cell BK318.out 0).trans rfl) (fun hHeld => ?_)
 clear hK K
 refine nm_ 27 ?_
 refine one_ (i := 5) (N := some 28) (bqz 9 63) rfl rfl qzc (by decide) (fun K hK => ?_)
 refine goes_ Try.func92 (by kernel_rfl) rfl #[.pointer (some ⟨g, 0, none⟩), .slice Ao43 y325.length co43] (by rfl) rfl rfl qz4 ?_
 with_reducible refine (spec_l1Int.calls g s0_0 t323 t324 _ _ y325 t328 t329 t330 w0 _ ?side1 ?side2 ?side3 ?side4 ?side5 A22.out).mono ?_
 (case side1 => exact qz3)
 (case side2 => exact qz1)
 (case side3 => repeat (first | exact (Kd.R_reads' HO327.out).2.2 | (with_reducible refine Kd.C_alloc ?_ _) | (with_reducible refine Kd.C_drewN ?_ _) | (with_reducible refine Kd.C_drew ?_)))
 (case side4 => exact (Kd.R_reads' HO327.out).2.1)
 (case side5 => exact far_slice (IsS122.own_ne HI0.out HO327.out (by decide)))
 rintro e w44 ⟨rfl, hi, hb, hk⟩
 refine ⟨_, rfl, ?_⟩
 replace BK313 := aM (KeepBut.blk hk (bk_ BK313.out) NB313_0.out (by simp))
 replace BK314 := aM (KeepBut.blk hk (bk_ BK314.out) NB314_0.out (by simp))
 replace HO317 := aM (Kd.N_mono (Kd.N_keep (Kd.N_mono (ok := fun k_ => (((((w.heap.size ≤ k_)) ∧ (k_ ≠ gb313 ∧ (k_ ≠ gb314 ∧ k_ ≠ g))) ∧ k_ ≠ gb318) ∧ some k_ ≠ (.slice Ao43 y325.length co43 : Value).ownBlock)) qz8 (fun k_ hk_ => (⟨hk_, hk_.1.1.2.2.2⟩ : _ ∧ k_ ≠ g))) hk (fun _ h => h.2)) (fun _ h => h.1))
 replace BK318 := aM (KeepBut.blk hk (bk_ BK318.out) NB318_0.out (by simp))
 replace HO327 := aM (Kd.R_mono (Kd.R_keep (IsS122.apart (show IsS122 w0 _ g s0_0 t323 t324 from qz3) (rr_ HO327.out) (by decide)) hk (fun _ h => h.2)) (fun _ h => h.1))
 replace HK := aM (KeepBut.trans qz2 hk (.inl rfl))
 replace HB := aM (hb)
 replace HI0 := aM (hi)
 (try clear hb)
 (try clear hb2)
 (try clear hk)
 (try clear hi)
 have p25 : 0 ≤ (t319 : Int) := dt_
 have q25 : (t319 : Int) < ((t315.length : Int) : Int) := dt_
 obtain ⟨go25, co25, eo25, gb25, gl25, cl25, HG25⟩ := Kd.N_form HO317.out (by omega)
 (first | cases eo25 | (injection eo25 with ea_ en_ ec_; (first | subst ea_ | (injection ea_ with ea_; subst ea_)); subst ec_; clear en_))
 have GB25 := aM gb25
 have GG25 := aM HG25
 clear gb25 gl25 HG25
 obtain ⟨ce25, hcl25, hM25, hcc25, hfr25⟩ := Kd.N_elem HO317.out z79 (t319 : Int) p25 q25
 obtain ⟨ua25_2, uc25_2, rfl, ul25_2, ge25_2⟩ := k79_openF hM25
 have hx25_0 : World.cell? _ ⟨go25, (t319 : Int).toNat * 3, none⟩ = some (.int .i64 ((rd_T79 t315 t319).f0)) := hcc25 0 _ rfl
 have hx25_1 : World.cell? _ ⟨go25, (t319 : Int).toNat * 3 + 1, none⟩ = some (.int .i64 ((rd_T79 t315 t319).f1)) := hcc25 1 _ rfl
 have hx25_2 : World.cell? _ ⟨go25, (t319 : Int).toNat * 3 + 2, none⟩ = some (.slice ua25_2 ((rd_T79 t315 t319).f2).length uc25_2) := hcc25 2 _ rfl
 have hf25_0 : World.frozen? _ ⟨go25, (t319 : Int).toNat * 3, none⟩ = false := hfr25 0
 have hf25_1 : World.frozen? _ ⟨go25, (t319 : Int).toNat * 3 + 1, none⟩ = false := hfr25 1
 have hf25_2 : World.frozen? _ ⟨go25, (t319 : Int).toNat * 3 + 2, none⟩ = false := hfr25 2
 clear hcl25 hcc25 hfr25; (try clear hM25)
 replace p25 := eq_true p25
 replace q25 := eq_true q25
 have HN0_go25 := aM (show g ≠ go25 from by have h_ := IsS122.own_neN HI0.out HO317.out (by decide); intro e_; exact h_ (by rw [e_]; rfl))
 have HX45 := aM (show Kd.N k79 79 _ w.heap.size (fun k_ => (w.heap.size ≤ k_) ∧ some k_ ≠ (.slice Ao43 y325.length co43 : Value).ownBlock ∧ k_ ≠ gb313 ∧ k_ ≠ gb314 ∧ k_ ≠ gb318 ∧ k_ ≠ g) (.slice (some ⟨go25, 0, none⟩) t315.length co33) t315 from (Kd.N_mono (HO317.out) (fun k_ hk => ⟨hk.1.1.1, ⟨hk.2, ⟨hk.1.1.2.1, ⟨hk.1.1.2.2.1, ⟨hk.1.2, hk.1.1.2.2.2⟩⟩⟩⟩⟩)))
 obtain ⟨ce45, hcl45, hM45, hcc45, hfr45⟩ := Kd.N_elem HX45.out z79 (t319 : Int) (dt_) (by have h_ : (t319 : Int) < ((t315.length : Int) : Int) := dt_; first | exact h_ | (have e_ := (Kd.N_reads' HO317.out).1; omega) | simpa using h_)
 obtain ⟨ua45_2, uc45_2, rfl, ul45_2, ge45_2⟩ := k79_openF hM45
 have HP45 := (Kd.N_seg HX45.out (t319 : Int) (dt_) (by have h_ : (t319 : Int) < ((t315.length : Int) : Int) := dt_; first | exact h_ | (have e_ := (Kd.N_reads' HO317.out).1; omega) | simpa using h_) (seg := [.int .i64 t328]) (j := 0) hcl45 hcc45 (show 1 ≤ 3 from by decide) (x' := (⟨t328, (rd_T79 t315 t319).f1, (rd_T79 t315 t319).f2⟩ : S79)) (k79_mkF _ _ (⟨t328, (rd_T79 t315 t319).f1, (rd_T79 t315 t319).f2⟩ : S79) ul45_2 ge45_2) (fun _ hk => hk)).1
 rw [← Ny331.out] at HP45
 have HQ45 := aM HP45
 clear hcl45 hcc45 hfr45; (try clear hM45); clear HP45
 refine hK.out _ _ ((blk_cell BK318.out 0).trans rfl) (fun hHeld => ?_)
 clear hK K
 refine nm_ 28 ?_
 refine pI_ 6 29 (bqz 9 127) ?_
 refine jI_ 7 30 ?_
 refine last_ (i := 8) (N := none) (bqz 9 511) rfl rfl qzc (by decide) (fun K hK => ?_)
 refine sk_ ?_
 refine hK.out _ _ ?_
 clear hK K
 refine done_ (done_of HT_.out (by kernel_rfl)) ?_
 generalize hq_ : (w44.setCell ⟨go25, (t319 : Int).toNat * 3, none⟩ (.int .i64 t328)) = w46
 replace HO327 : Aside0 (Kd.R (Kd.int .i64) 3 w46 w.heap.size (fun k_ => (w.heap.size ≤ k_)) (.slice Ao43 y325.length co43) y325) := ⟨by rw [← hq_]; exact (by (with_reducible repeat (first | apply Kd.R_alloc | apply Kd.R_drewN | apply Kd.R_drew)); exact Kd.R_mono (Kd.R_far (p := ⟨go25, (t319 : Int).toNat * 3, none⟩) (Kd.R_types HO327.out GG25.out (by decide)) (fun _ hk => hk.2) (.int .i64 t328)) (fun _ hk => hk.1.1))⟩
 replace BK313 : Aside0 (w46.heap[gb313]? = some (.cells #[.slice A1_0 l1_0.length c1_0] 26 (0, 0))) := ⟨by rw [← hq_]; exact (by (with_reducible repeat (first | refine blk_drewN ?_ _ | refine blk_drew ?_ | refine blk_alloc ?_ _)); refine blk_far ?_ (by have h_ := Kd.N_away HO317.out (fun _ hk => hk.1.1.2.1); intro e_; exact h_ (by rw [e_]; rfl)) _; exact bk_ BK313.out)⟩
 replace BK314 : Aside0 (w46.heap[gb314]? = some (.cells #[.slice none 0 0] 26 (0, 0))) := ⟨by rw [← hq_]; exact (by (with_reducible repeat (first | refine blk_drewN ?_ _ | refine blk_drew ?_ | refine blk_alloc ?_ _)); refine blk_far ?_ (by have h_ := Kd.N_away HO317.out (fun _ hk => hk.1.1.2.2.1); intro e_; exact h_ (by rw [e_]; rfl)) _; exact bk_ BK314.out)⟩
 replace BK318 : Aside0 (w46.heap[gb318]? = some (.cells #[.slice (some ⟨go25, 0, none⟩) t315.length co33] 26 (0, 0))) := ⟨by rw [← hq_]; exact (by (with_reducible repeat (first | refine blk_drewN ?_ _ | refine blk_drew ?_ | refine blk_alloc ?_ _)); refine blk_far ?_ (by have h_ := Kd.N_away HO317.out (fun _ hk => hk.1.2); intro e_; exact h_ (by rw [e_]; rfl)) _; exact bk_ BK318.out)⟩
 replace HO317 : Aside0 (Kd.N k79 79 w46 w.heap.size (fun k_ => (w.heap.size ≤ k_) ∧ some k_ ≠ (.slice Ao43 y325.length co43 : Value).ownBlock ∧ k_ ≠ gb313 ∧ k_ ≠ gb314 ∧ k_ ≠ g ∧ k_ ≠ gb318) (.slice (some ⟨go25, 0, none⟩) t315.length co33) y331) := ⟨by rw [← hq_]; exact (by (with_reducible repeat (first | apply Kd.N_alloc | apply Kd.N_drewN | apply Kd.N_drew)); exact Kd.N_mono HQ45.out (fun _ hk => ⟨hk.1, ⟨hk.2.1, ⟨hk.2.2.1, ⟨hk.2.2.2.1, ⟨hk.2.2.2.2.2, hk.2.2.2.2.1⟩⟩⟩⟩⟩))⟩
 replace HK : Aside0 (KeepBut w w46 g none) := ⟨by rw [← hq_]; exact qz2⟩
 replace HB : Aside0 (Below w0.heap.size w0 w46) := ⟨by rw [← hq_]; exact qz1⟩
 replace HI0 : Aside0 (IsS122 w0 w46 g s0_0 t329 t330) := ⟨by rw [← hq_]; exact qz3⟩
 clear hq_
 obtain ⟨hcz47_0, hfz47_0⟩ := bf_ BK318.out
 have hnb48 := NB314_0.out
 have hnc48 := NB0_314.out
 obtain ⟨hcz49_0, hfz49_0⟩ := bf_ BK314.out
 try go_wp2
 refine bodyPost_ret (results_cell_row rfl _ _ gb314 26 #[.slice (some ⟨go25, 0, none⟩) t315.length co33] (0, 0) _ rfl (by (with_reducible repeat (first | refine blk_drewN ?_ _ | refine blk_drew ?_ | refine blk_alloc ?_ _)); refine blk_put (cs := #[.slice none 0 0]) ?_ 0 _ rfl; exact bk_ BK314.out) Try.underlying26 rfl (by kernel_rfl)) rfl ?_
 exact ⟨_, qzw, by (with_reducible repeat (first | apply Kd.N_alloc | apply Kd.N_drewN | apply Kd.N_drew)); exact Kd.N_mono (Kd.N_far (p := ⟨gb314, 0, none⟩) (Kd.N_mono HO317.out (fun k_ hk => (⟨hk, hk.2.2.2.1⟩ : _ ∧ k_ ≠ gb314))) (fun _ hk => hk.2) (.slice (some ⟨go25, 0, none⟩) t315.length co33)) (fun _ hk => hk.1.1), qz3, qz1, qz2⟩
 }
 {
 exact an_ c24 H
 }
 }
 {
 exact an_ c23 H
 }
 }
 {
 rw [if_neg c21] at H
 have c21b0 := beq_eq_false_iff_ne.mpr c21
 have c21b1 := bne_iff_ne.mpr c21
 by_cases c50 : t322 = 1
 {
 rw [if_pos c50] at H
 have c50b0 := beq_iff_eq.mpr c50
 have c50b1 := bne_eq_false_iff_eq.mpr c50
 clear c50
 obtain ⟨y332, hy332⟩ : ∃ y_ : List Int, y_ = (([(-1), 100, 19] : List Int)) := ⟨_, rfl⟩
 replace H : ((spec_l1Int.f s0_0 t323 t324 y332).bind fun bt335 => (if 0 ≤ t319 then (if t319 < (t315.length : Int) then (some ((t315.set (t319 : Int).toNat (⟨(rd_T79 t315 t319).f0, bt335.1, (rd_T79 t315 t319).f2⟩ : S79)), bt335.2.1, bt335.2.2)) else (none)) else (none))) = some (r1, r2, r3) := by first | (rw [hy332]; with_reducible exact H) | (have H2_ := (Option.bind_some _ _).symm.trans H; rw [hy332]; with_reducible exact H2_) | (have H2_ := (Option.bind_some _ _).symm.trans H; with_reducible exact H2_) | with_reducible exact H | (rw [hy332]; exact H) | exact H
 have Ny332 := aM hy332
 clear hy332
 replace H := Option.bind_eq_some_iff.mp H
 obtain ⟨⟨t335, t336, t337⟩, A510, H⟩ := H
 replace H : (if 0 ≤ t319 then (if t319 < (t315.length : Int) then (some ((t315.set (t319 : Int).toNat (⟨(rd_T79 t315 t319).f0, t335, (rd_T79 t315 t319).f2⟩ : S79)), t336, t337)) else (none)) else (none)) = some (r1, r2, r3) := H
 have A51 := aM A510
 clear A510
 by_cases c52 : 0 ≤ t319
 {
 rw [if_pos c52] at H
 have c52b0 := decide_eq_true c52
 clear c52
 by_cases c53 : t319 < (t315.length : Int)
 {
 rw [if_pos c53] at H
 have c53b0 := decide_eq_true c53
 clear c53
 obtain ⟨y338, hy338⟩ : ∃ y_ : List (S79), y_ = (t315.set (t319 : Int).toNat (⟨(rd_T79 t315 t319).f0, t335, (rd_T79 t315 t319).f2⟩ : S79)) := ⟨_, rfl⟩
 replace H : (some (y338, t336, t337)) = some (r1, r2, r3) := by first | (rw [hy338]; with_reducible exact H) | (have H2_ := (Option.bind_some _ _).symm.trans H; rw [hy338]; with_reducible exact H2_) | (have H2_ := (Option.bind_some _ _).symm.trans H; with_reducible exact H2_) | with_reducible exact H | (rw [hy338]; exact H) | exact H
 have Ny338 := aM hy338
 clear hy338
 simp only [Option.some.injEq, Prod.mk.injEq] at H
 obtain ⟨rfl, rfl, rfl⟩ := H
 go_enter Try.func103, Try.ntmps103
 try go_wp2_with (first | ((with_reducible refine gate_dst (N := 3) rfl ?_); refine bx_ 3 #[.slice A1_0 l1_0.length c1_0] 26 ?_; intro gb313 hg w55 hbox hb; replace HB := bS_ hb; have BK313 := aM (hbox); have GW313 := aM (kz_ w g hg qz2); have GE313 := aM ((Nat.le_trans HW0.out (by rw [hg]; exact (keep_size (w := w) (g := g) (row := none) qz2) : w.heap.size ≤ gb313) : w0.heap.size ≤ gb313)); replace HK := aM (KeepBut.trans qz2 (KeepBut.of_below hb g none) (.inl rfl)); have NB0_313 := aM ((by rw [hg]; exact Nat.ne_of_lt (IsS122.lt (show IsS122 w0 _ g s0_0 s0_1 s0_2 from qz3)) : g ≠ gb313)); have NB313_0 := aM ((by rw [hg]; exact Nat.ne_of_gt (IsS122.lt (show IsS122 w0 _ g s0_0 s0_1 s0_2 from qz3)) : gb313 ≠ g)); replace HI0 := aM (IsS122.below qz3 hb); clear hb hbox hg) | ((with_reducible refine gate_dst (N := 4) rfl ?_); refine bx_ 4 #[.slice none 0 0] 26 ?_; intro gb314 hg w56 hbox hb; replace HB := bS_ hb; have BK314 := aM (hbox); have GW314 := aM (kz_ w g hg qz2); have GE314 := aM ((Nat.le_trans HW0.out (by rw [hg]; exact (keep_size (w := w) (g := g) (row := none) qz2) : w.heap.size ≤ gb314) : w0.heap.size ≤ gb314)); replace HK := aM (KeepBut.trans qz2 (KeepBut.of_below hb g none) (.inl rfl)); obtain ⟨NB313_314, NB314_313⟩ := nb_ hg (bk_ BK313.out); replace BK313 := bB_ BK313 hb; have NB0_314 := aM ((by rw [hg]; exact Nat.ne_of_lt (IsS122.lt (show IsS122 w0 _ g s0_0 s0_1 s0_2 from qz3)) : g ≠ gb314)); have NB314_0 := aM ((by rw [hg]; exact Nat.ne_of_gt (IsS122.lt (show IsS122 w0 _ g s0_0 s0_1 s0_2 from qz3)) : gb314 ≠ g)); replace HI0 := aM (IsS122.below qz3 hb); clear hb hbox hg; have hnb57 := NB313_314.out; have hnc57 := NB314_313.out; have hnb58 := NB313_0.out; have hnc58 := NB0_313.out; obtain ⟨hcz59_0, hfz59_0⟩ := bf_ BK313.out) | ((with_reducible refine gate_callee (f := 62) rfl ?_); refine goesL_ (some 8) rfl rfl Try.func62 (by kernel_rfl) rfl #[.agg #[.slice A1_0 l1_0.length c1_0]] rfl qz4 ?_; (with_reducible refine (spec_l5Copy.calls k _ _ l1_0 t315 _ ?side1 ?side2 A3.out).mono ?_); (case side1 => exact Kd.C_foot_now HR1_0.out qz2); (case side2 => exact HC1_0.out); rintro e w60 ⟨v316, rfl, ho0, hb⟩; refine ⟨_, rfl, ?_⟩; have HO317 := aM (Kd.N_lower (Kd.N_mono (ok' := fun k_ => (w.heap.size ≤ k_) ∧ k_ ≠ gb313 ∧ k_ ≠ gb314 ∧ k_ ≠ g) (Kd.S_N (Kd.S_bound ho0)) (fun k_ hk_ => ⟨(Nat.le_trans (keep_size (w := w) (g := g) (row := none) qz2) hk_.2.1), (Kd.freshB (bk_ BK313.out) k_ hk_.2.1), (Kd.freshB (bk_ BK314.out) k_ hk_.2.1), (IsS122.fresh qz3 k_ hk_.2.1)⟩)) (keep_size (w := w) (g := g) (row := none) qz2)); replace BK313 := bB_ BK313 hb; replace BK314 := bB_ BK314 hb; replace HK := aM (KeepBut.trans qz2 (KeepBut.of_below hb g none) (.inl rfl)); replace HB := bS_ hb; replace HI0 := aM (IsS122.below qz3 hb); (try clear hb ho0)) | ((with_reducible refine gate_dst (N := 5) rfl ?_); refine bx_ 5 #[.slice none 0 0] 26 ?_; intro gb318 hg w61 hbox hb; replace HO317 := aM (Kd.N_below (Kd.N_elderB qz8 gb318 (Nat.le_of_eq hg.symm)) hb); replace HB := bS_ hb; have BK318 := aM (hbox); have GW318 := aM (kz_ w g hg qz2); have GE318 := aM ((Nat.le_trans HW0.out (by rw [hg]; exact (keep_size (w := w) (g := g) (row := none) qz2) : w.heap.size ≤ gb318) : w0.heap.size ≤ gb318)); replace HK := aM (KeepBut.trans qz2 (KeepBut.of_below hb g none) (.inl rfl)); obtain ⟨NB313_318, NB318_313⟩ := nb_ hg (bk_ BK313.out); replace BK313 := bB_ BK313 hb; obtain ⟨NB314_318, NB318_314⟩ := nb_ hg (bk_ BK314.out); replace BK314 := bB_ BK314 hb; have NB0_318 := aM ((by rw [hg]; exact Nat.ne_of_lt (IsS122.lt (show IsS122 w0 _ g s0_0 s0_1 s0_2 from qz3)) : g ≠ gb318)); have NB318_0 := aM ((by rw [hg]; exact Nat.ne_of_gt (IsS122.lt (show IsS122 w0 _ g s0_0 s0_1 s0_2 from qz3)) : gb318 ≠ g)); replace HI0 := aM (IsS122.below qz3 hb); clear hb hbox hg; obtain ⟨Ao62, co62, eo62⟩ := Kd.N_slice HO317.out; subst eo62; have hnb63 := NB318_313.out; have hnc63 := NB313_318.out; have hnb64 := NB318_314.out; have hnc64 := NB314_318.out; have hnb65 := NB318_0.out; have hnc65 := NB0_318.out; obtain ⟨hcz66_0, hfz66_0⟩ := bf_ BK318.out) | ((with_reducible refine gate_callee (f := 105) rfl ?_); refine goesL_ (some 18) rfl rfl Try.func105 (by kernel_rfl) rfl #[.pointer (some ⟨g, 0, none⟩), .int .i64 (t315.length : Int)] rfl qz4 ?_; (with_reducible refine (spec_l1Below.calls g s0_0 s0_1 s0_2 (t315.length : Int) t319 t320 t321 w0 _ ?side1 ?side2 A19.out).mono ?_); (case side1 => exact qz3); (case side2 => exact qz1); rintro e w67 ⟨rfl, hi, hb, hk⟩; refine ⟨_, rfl, ?_⟩; replace BK313 := aM (KeepBut.blk hk (g' := gb313) (o := .cells #[.slice A1_0 l1_0.length c1_0] 26 (0, 0)) (bk2_ BK313.out) NB313_0.out (by simp)); replace BK314 := aM (KeepBut.blk hk (g' := gb314) (o := .cells #[.slice none 0 0] 26 (0, 0)) (bk2_ BK314.out) NB314_0.out (by simp)); replace HO317 := aM (Kd.N_mono (Kd.N_keep (Kd.N_mono (ok := fun k_ => ((((w.heap.size ≤ k_)) ∧ (k_ ≠ gb313 ∧ (k_ ≠ gb314 ∧ k_ ≠ g))) ∧ k_ ≠ gb318)) (by (with_reducible repeat (first | apply Kd.N_alloc | apply Kd.N_drewN | apply Kd.N_drew)); exact (Kd.N_mono (Kd.N_far (p := ⟨gb318, 0, none⟩) (Kd.N_mono HO317.out (fun k_ hk => (⟨hk, hk.2⟩ : _ ∧ k_ ≠ gb318))) (fun _ hk => hk.2) (.slice Ao62 t315.length co62)) (fun _ h_ => h_.1))) (fun k_ hk_ => (⟨hk_, hk_.1.2.2.2⟩ : _ ∧ k_ ≠ g))) hk (fun _ h => h.2)) (fun _ h => h.1)); replace BK318 := aM (KeepBut.blk hk (g' := gb318) (o := .cells #[.slice Ao62 t315.length co62] 26 (0, 0)) (by (with_reducible repeat (first | refine blk_drewN ?_ _ | refine blk_drew ?_ | refine blk_alloc ?_ _)); refine blk_put (cs := #[.slice none 0 0]) ?_ 0 _ rfl; exact bk_ BK318.out) NB318_0.out (by simp)); replace HK := aM (KeepBut.trans qz2 hk (.inl rfl)); replace HB := aM (hb); replace HI0 := aM (hi); (try clear hb hk hi)) | ((with_reducible refine gate_callee (f := 105) rfl ?_); refine goesL_ (some 20) rfl rfl Try.func105 (by kernel_rfl) rfl #[.pointer (some ⟨g, 0, none⟩), .int .i64 6] rfl qz4 ?_; (with_reducible refine (spec_l1Below.calls g s0_0 t320 t321 6 t322 t323 t324 w0 _ ?side1 ?side2 A20.out).mono ?_); (case side1 => exact qz3); (case side2 => exact qz1); rintro e w68 ⟨rfl, hi, hb, hk⟩; refine ⟨_, rfl, ?_⟩; replace BK313 := aM (KeepBut.blk hk (bk_ BK313.out) NB313_0.out (by simp)); replace BK314 := aM (KeepBut.blk hk (bk_ BK314.out) NB314_0.out (by simp)); replace HO317 := aM (Kd.N_mono (Kd.N_keep (Kd.N_mono (ok := fun k_ => ((((w.heap.size ≤ k_)) ∧ (k_ ≠ gb313 ∧ (k_ ≠ gb314 ∧ k_ ≠ g))) ∧ k_ ≠ gb318)) qz8 (fun k_ hk_ => (⟨hk_, hk_.1.2.2.2⟩ : _ ∧ k_ ≠ g))) hk (fun _ h => h.2)) (fun _ h => h.1)); replace BK318 := aM (KeepBut.blk hk (bk_ BK318.out) NB318_0.out (by simp)); replace HK := aM (KeepBut.trans qz2 hk (.inl rfl)); replace HB := aM (hb); replace HI0 := aM (hi); (try clear hb hk hi)))
 replace HO317 := aM (Kd.N_drew HO317.out)
 replace BK313 := aM (blk_drew BK313.out)
 replace BK314 := aM (blk_drew BK314.out)
 replace BK318 := aM (blk_drew BK318.out)
 replace HI0 := aM (IsS122.drew HI0.out)
 replace HK := aM (keep_drew HK.out)
 replace HB := aM (below_drew1 HB.out)
 refine start_ (n := 9) (S := fun w' => w'.cell? ⟨gb318, 0, none⟩ = some (.slice Ao62 t315.length co62)) (ds := [8]) #[false, false, false, false, false, false, false, false, false] (by kernel_rfl) rfl rfl ((blk_cell BK318.out 0).trans rfl) (fun hHeld => ?_); refine with_tabW spec_l5BendN.tab9 spec_l5BendN.bits9 (fun HT_ HW_ => ?_)
 generalize w68.drew = w69 at HO317 BK313 BK314 BK318 HI0 HK HB hHeld ⊢
 refine pI_ 0 33 (bqz 9 1) ?_
 refine jI_ 2 35 ?_
 refine jI_ 3 36 ?_
 refine take_ (i := 1) (N := some 34) (v := ?_) (a' := ?_) (bqz 9 15) rfl rfl qzb qzd (Or.inl ⟨by rfl, ?_⟩) hHeld ?_ ?_
 rotate_left
 {
 intro w' s0
 go_simp
 with_reducible rfl
 }
 rotate_left
 {
 simp only [qzs]
 rfl
 }
 refine one_ (i := 4) (N := some 37) (bqz 9 31) rfl rfl qzc (by decide) (fun K hK => ?_)
 refine Kd.R_lit_step (Kd.int .i64) _ 3 ?hg (N := 37) ?hd (xs := ([(-1), 100, 19] : List Int)) (inner := [.int .i64 (-1), .int .i64 100, .int .i64 19]) (ok := fun _ => True) (okp := fun _ => True) ?hr ?hp (fun _ hk => hk) trivial (Below.refl _ _) (Nat.le_refl _) (by simp) ?_; (case hd => rfl); (case hg => rfl); (case hr => exact qz23); (case hp => exact (Reps.one (show Kd.M (Kd.int .i64) _ _ _ (-1) [.int .i64 (-1)] from rfl) (Reps.one (show Kd.M (Kd.int .i64) _ _ _ 100 [.int .i64 100] from rfl) (Reps.one (show Kd.M (Kd.int .i64) _ _ _ 19 [.int .i64 19] from rfl) (Reps.none _ _)))))
 intro v333 w70 ho71 hb hg_ hnew_
 clear hg_ hnew_
 (first | rw [← Ny332.out] at ho71 | (simp only [Int.reduceToNat] at ho71; rw [← Ny332.out] at ho71))
 replace HO317 := aM (Kd.N_elder' qz8 (Kd.R_base ho71) hb)
 have HO334 := aM (Kd.R_lower (Kd.R_newM (M := fun k_ => (w.heap.size ≤ k_)) ho71 (keep_size (w := w) (g := g) (row := none) qz2) (fun k_ h_ => h_)) (keep_size (w := w) (g := g) (row := none) qz2))
 replace BK313 := bB_ BK313 hb
 replace BK314 := bB_ BK314 hb
 replace BK318 := bB_ BK318 hb
 replace HK := aM (KeepBut.trans qz2 (KeepBut.of_below hb g none) (.inl rfl))
 replace HB := bS_ hb
 replace HI0 := aM (IsS122.below qz3 hb)
 clear hb ho71
 obtain ⟨Ao72, co72, eo72⟩ := Kd.R_slice HO334.out
 (first | subst eo72 | (injection eo72 with f1_ f2_ f3_; have f4_ := f1_.symm; have f5_ := f3_.symm; clear f1_ f2_ f3_; subst f4_; subst f5_))
 refine hK.out _ _ ((blk_cell BK318.out 0).trans rfl) (fun hHeld => ?_)
 clear hK K
 refine nm_ 37 ?_
 refine one_ (i := 5) (N := some 38) (bqz 9 63) rfl rfl qzc (by decide) (fun K hK => ?_)
 refine goes_ Try.func92 (by kernel_rfl) rfl #[.pointer (some ⟨g, 0, none⟩), .slice Ao72 y332.length co72] (by rfl) rfl rfl qz4 ?_
 with_reducible refine (spec_l1Int.calls g s0_0 t323 t324 _ _ y332 t335 t336 t337 w0 _ ?side1 ?side2 ?side3 ?side4 ?side5 A51.out).mono ?_
 (case side1 => exact qz3)
 (case side2 => exact qz1)
 (case side3 => repeat (first | exact (Kd.R_reads' HO334.out).2.2 | (with_reducible refine Kd.C_alloc ?_ _) | (with_reducible refine Kd.C_drewN ?_ _) | (with_reducible refine Kd.C_drew ?_)))
 (case side4 => exact (Kd.R_reads' HO334.out).2.1)
 (case side5 => exact far_slice (IsS122.own_ne HI0.out HO334.out (by decide)))
 rintro e w73 ⟨rfl, hi, hb, hk⟩
 refine ⟨_, rfl, ?_⟩
 replace BK313 := aM (KeepBut.blk hk (bk_ BK313.out) NB313_0.out (by simp))
 replace BK314 := aM (KeepBut.blk hk (bk_ BK314.out) NB314_0.out (by simp))
 replace HO317 := aM (Kd.N_mono (Kd.N_keep (Kd.N_mono (ok := fun k_ => (((((w.heap.size ≤ k_)) ∧ (k_ ≠ gb313 ∧ (k_ ≠ gb314 ∧ k_ ≠ g))) ∧ k_ ≠ gb318) ∧ some k_ ≠ (.slice Ao72 y332.length co72 : Value).ownBlock)) qz8 (fun k_ hk_ => (⟨hk_, hk_.1.1.2.2.2⟩ : _ ∧ k_ ≠ g))) hk (fun _ h => h.2)) (fun _ h => h.1))
 replace BK318 := aM (KeepBut.blk hk (bk_ BK318.out) NB318_0.out (by simp))
 replace HO334 := aM (Kd.R_mono (Kd.R_keep (IsS122.apart (show IsS122 w0 _ g s0_0 t323 t324 from qz3) (rr_ HO334.out) (by decide)) hk (fun _ h => h.2)) (fun _ h => h.1))
 replace HK := aM (KeepBut.trans qz2 hk (.inl rfl))
 replace HB := aM (hb)
 replace HI0 := aM (hi)
 (try clear hb)
 (try clear hb2)
 (try clear hk)
 (try clear hi)
 have p54 : 0 ≤ (t319 : Int) := dt_
 have q54 : (t319 : Int) < ((t315.length : Int) : Int) := dt_
 obtain ⟨go54, co54, eo54, gb54, gl54, cl54, HG54⟩ := Kd.N_form HO317.out (by omega)
 (first | cases eo54 | (injection eo54 with ea_ en_ ec_; (first | subst ea_ | (injection ea_ with ea_; subst ea_)); subst ec_; clear en_))
 have GB54 := aM gb54
 have GG54 := aM HG54
 clear gb54 gl54 HG54
 obtain ⟨ce54, hcl54, hM54, hcc54, hfr54⟩ := Kd.N_elem HO317.out z79 (t319 : Int) p54 q54
 obtain ⟨ua54_2, uc54_2, rfl, ul54_2, ge54_2⟩ := k79_openF hM54
 have hx54_0 : World.cell? _ ⟨go54, (t319 : Int).toNat * 3, none⟩ = some (.int .i64 ((rd_T79 t315 t319).f0)) := hcc54 0 _ rfl
 have hx54_1 : World.cell? _ ⟨go54, (t319 : Int).toNat * 3 + 1, none⟩ = some (.int .i64 ((rd_T79 t315 t319).f1)) := hcc54 1 _ rfl
 have hx54_2 : World.cell? _ ⟨go54, (t319 : Int).toNat * 3 + 2, none⟩ = some (.slice ua54_2 ((rd_T79 t315 t319).f2).length uc54_2) := hcc54 2 _ rfl
 have hf54_0 : World.frozen? _ ⟨go54, (t319 : Int).toNat * 3, none⟩ = false := hfr54 0
 have hf54_1 : World.frozen? _ ⟨go54, (t319 : Int).toNat * 3 + 1, none⟩ = false := hfr54 1
 have hf54_2 : World.frozen? _ ⟨go54, (t319 : Int).toNat * 3 + 2, none⟩ = false := hfr54 2
 clear hcl54 hcc54 hfr54; (try clear hM54)
 replace p54 := eq_true p54
 replace q54 := eq_true q54
 have HN0_go54 := aM (show g ≠ go54 from by have h_ := IsS122.own_neN HI0.out HO317.out (by decide); intro e_; exact h_ (by rw [e_]; rfl))
 have HX74 := aM (show Kd.N k79 79 _ w.heap.size (fun k_ => (w.heap.size ≤ k_) ∧ some k_ ≠ (.slice Ao72 y332.length co72 : Value).ownBlock ∧ k_ ≠ gb313 ∧ k_ ≠ gb314 ∧ k_ ≠ gb318 ∧ k_ ≠ g) (.slice (some ⟨go54, 0, none⟩) t315.length co62) t315 from (Kd.N_mono (HO317.out) (fun k_ hk => ⟨hk.1.1.1, ⟨hk.2, ⟨hk.1.1.2.1, ⟨hk.1.1.2.2.1, ⟨hk.1.2, hk.1.1.2.2.2⟩⟩⟩⟩⟩)))
 obtain ⟨ce74, hcl74, hM74, hcc74, hfr74⟩ := Kd.N_elem HX74.out z79 (t319 : Int) (dt_) (by have h_ : (t319 : Int) < ((t315.length : Int) : Int) := dt_; first | exact h_ | (have e_ := (Kd.N_reads' HO317.out).1; omega) | simpa using h_)
 obtain ⟨ua74_2, uc74_2, rfl, ul74_2, ge74_2⟩ := k79_openF hM74
 have HP74 := (Kd.N_seg HX74.out (t319 : Int) (dt_) (by have h_ : (t319 : Int) < ((t315.length : Int) : Int) := dt_; first | exact h_ | (have e_ := (Kd.N_reads' HO317.out).1; omega) | simpa using h_) (seg := [.int .i64 t335]) (j := 1) hcl74 hcc74 (show 2 ≤ 3 from by decide) (x' := (⟨(rd_T79 t315 t319).f0, t335, (rd_T79 t315 t319).f2⟩ : S79)) (k79_mkF _ _ (⟨(rd_T79 t315 t319).f0, t335, (rd_T79 t315 t319).f2⟩ : S79) ul74_2 ge74_2) (fun _ hk => hk)).1
 rw [← Ny338.out] at HP74
 have HQ74 := aM HP74
 clear hcl74 hcc74 hfr74; (try clear hM74); clear HP74
 refine hK.out _ _ ((blk_cell BK318.out 0).trans rfl) (fun hHeld => ?_)
 clear hK K
 refine nm_ 38 ?_
 refine pI_ 6 39 (bqz 9 127) ?_
 refine jI_ 7 40 ?_
 refine last_ (i := 8) (N := none) (bqz 9 511) rfl rfl qzc (by decide) (fun K hK => ?_)
 refine sk_ ?_
 refine hK.out _ _ ?_
 clear hK K
 refine done_ (done_of HT_.out (by kernel_rfl)) ?_
 generalize hq_ : (w73.setCell ⟨go54, (t319 : Int).toNat * 3 + 1, none⟩ (.int .i64 t335)) = w75
 replace HO334 : Aside0 (Kd.R (Kd.int .i64) 3 w75 w.heap.size (fun k_ => (w.heap.size ≤ k_)) (.slice Ao72 y332.length co72) y332) := ⟨by rw [← hq_]; exact (by (with_reducible repeat (first | apply Kd.R_alloc | apply Kd.R_drewN | apply Kd.R_drew)); exact Kd.R_mono (Kd.R_far (p := ⟨go54, (t319 : Int).toNat * 3 + 1, none⟩) (Kd.R_types HO334.out GG54.out (by decide)) (fun _ hk => hk.2) (.int .i64 t335)) (fun _ hk => hk.1.1))⟩
 replace BK313 : Aside0 (w75.heap[gb313]? = some (.cells #[.slice A1_0 l1_0.length c1_0] 26 (0, 0))) := ⟨by rw [← hq_]; exact (by (with_reducible repeat (first | refine blk_drewN ?_ _ | refine blk_drew ?_ | refine blk_alloc ?_ _)); refine blk_far ?_ (by have h_ := Kd.N_away HO317.out (fun _ hk => hk.1.1.2.1); intro e_; exact h_ (by rw [e_]; rfl)) _; exact bk_ BK313.out)⟩
 replace BK314 : Aside0 (w75.heap[gb314]? = some (.cells #[.slice none 0 0] 26 (0, 0))) := ⟨by rw [← hq_]; exact (by (with_reducible repeat (first | refine blk_drewN ?_ _ | refine blk_drew ?_ | refine blk_alloc ?_ _)); refine blk_far ?_ (by have h_ := Kd.N_away HO317.out (fun _ hk => hk.1.1.2.2.1); intro e_; exact h_ (by rw [e_]; rfl)) _; exact bk_ BK314.out)⟩
 replace BK318 : Aside0 (w75.heap[gb318]? = some (.cells #[.slice (some ⟨go54, 0, none⟩) t315.length co62] 26 (0, 0))) := ⟨by rw [← hq_]; exact (by (with_reducible repeat (first | refine blk_drewN ?_ _ | refine blk_drew ?_ | refine blk_alloc ?_ _)); refine blk_far ?_ (by have h_ := Kd.N_away HO317.out (fun _ hk => hk.1.2); intro e_; exact h_ (by rw [e_]; rfl)) _; exact bk_ BK318.out)⟩
 replace HO317 : Aside0 (Kd.N k79 79 w75 w.heap.size (fun k_ => (w.heap.size ≤ k_) ∧ some k_ ≠ (.slice Ao72 y332.length co72 : Value).ownBlock ∧ k_ ≠ gb313 ∧ k_ ≠ gb314 ∧ k_ ≠ g ∧ k_ ≠ gb318) (.slice (some ⟨go54, 0, none⟩) t315.length co62) y338) := ⟨by rw [← hq_]; exact (by (with_reducible repeat (first | apply Kd.N_alloc | apply Kd.N_drewN | apply Kd.N_drew)); exact Kd.N_mono HQ74.out (fun _ hk => ⟨hk.1, ⟨hk.2.1, ⟨hk.2.2.1, ⟨hk.2.2.2.1, ⟨hk.2.2.2.2.2, hk.2.2.2.2.1⟩⟩⟩⟩⟩))⟩
 replace HK : Aside0 (KeepBut w w75 g none) := ⟨by rw [← hq_]; exact qz2⟩
 replace HB : Aside0 (Below w0.heap.size w0 w75) := ⟨by rw [← hq_]; exact qz1⟩
 replace HI0 : Aside0 (IsS122 w0 w75 g s0_0 t336 t337) := ⟨by rw [← hq_]; exact qz3⟩
 clear hq_
 obtain ⟨hcz76_0, hfz76_0⟩ := bf_ BK318.out
 have hnb77 := NB314_0.out
 have hnc77 := NB0_314.out
 obtain ⟨hcz78_0, hfz78_0⟩ := bf_ BK314.out
 try go_wp2
 refine bodyPost_ret (results_cell_row rfl _ _ gb314 26 #[.slice (some ⟨go54, 0, none⟩) t315.length co62] (0, 0) _ rfl (by (with_reducible repeat (first | refine blk_drewN ?_ _ | refine blk_drew ?_ | refine blk_alloc ?_ _)); refine blk_put (cs := #[.slice none 0 0]) ?_ 0 _ rfl; exact bk_ BK314.out) Try.underlying26 rfl (by kernel_rfl)) rfl ?_
 exact ⟨_, qzw, by (with_reducible repeat (first | apply Kd.N_alloc | apply Kd.N_drewN | apply Kd.N_drew)); exact Kd.N_mono (Kd.N_far (p := ⟨gb314, 0, none⟩) (Kd.N_mono HO317.out (fun k_ hk => (⟨hk, hk.2.2.2.1⟩ : _ ∧ k_ ≠ gb314))) (fun _ hk => hk.2) (.slice (some ⟨go54, 0, none⟩) t315.length co62)) (fun _ hk => hk.1.1), qz3, qz1, qz2⟩
 }
 {
 exact an_ c53 H
 }
 }
 {
 exact an_ c52 H
 }
 }
 {
 rw [if_neg c50] at H
 have c50b0 := beq_eq_false_iff_ne.mpr c50
 have c50b1 := bne_iff_ne.mpr c50
 by_cases c79 : t322 = 2
 {
 rw [if_pos c79] at H
 have c79b0 := beq_iff_eq.mpr c79
 have c79b1 := bne_eq_false_iff_eq.mpr c79
 clear c79
 by_cases c80 : 0 ≤ t319
 {
 rw [if_pos c80] at H
 have c80b0 := decide_eq_true c80
 clear c80
 by_cases c81 : t319 < (t315.length : Int)
 {
 rw [if_pos c81] at H
 have c81b0 := decide_eq_true c81
 clear c81
 obtain ⟨y340, hy340⟩ : ∃ y_ : List Int, y_ = (([0, 1, 1001] : List Int)) := ⟨_, rfl⟩
 replace H : ((spec_l1Int.f s0_0 t323 t324 y340).bind fun bt343 => ((spec_l1Below.f s0_0 bt343.2.1 bt343.2.2 3).bind fun bt346 => (none))) = some (r1, r2, r3) := by first | (rw [hy340]; with_reducible exact H) | (have H2_ := (Option.bind_some _ _).symm.trans H; rw [hy340]; with_reducible exact H2_) | (have H2_ := (Option.bind_some _ _).symm.trans H; with_reducible exact H2_) | with_reducible exact H | (rw [hy340]; exact H) | exact H
 have Ny340 := aM hy340
 clear hy340
 replace H := Option.bind_eq_some_iff.mp H
 obtain ⟨⟨t343, t344, t345⟩, A820, H⟩ := H
 replace H : ((spec_l1Below.f s0_0 t344 t345 3).bind fun bt346 => (none)) = some (r1, r2, r3) := H
 have A82 := aM A820
 clear A820
 replace H := Option.bind_eq_some_iff.mp H
 obtain ⟨⟨t346, t347, t348⟩, A830, H⟩ := H
 replace H : (none) = some (r1, r2, r3) := H
 have A83 := aM A830
 clear A830
 exact absurd H (by simp)
 }
 {
 exact an_ c81 H
 }
 }
 {
 exact an_ c80 H
 }
 }
 {
 rw [if_neg c79] at H
 have c79b0 := beq_eq_false_iff_ne.mpr c79
 have c79b1 := bne_iff_ne.mpr c79
 by_cases c84 : t322 = 3
 {
 rw [if_pos c84] at H
 have c84b0 := beq_iff_eq.mpr c84
 have c84b1 := bne_eq_false_iff_eq.mpr c84
 clear c84
 by_cases c85 : 0 < (t315.length : Int)
 {
 rw [if_pos c85] at H
 have c85b0 := decide_eq_true c85
 have c85b1 : decide (0 < t315.length) = true := decide_eq_true (by omega)
 clear c85
 by_cases c86 : t315.length < 3518437208883
 {
 rw [if_pos c86] at H
 have LMc86 := aM c86
 clear c86
 obtain ⟨y350, hy350⟩ : ∃ y_ : List (S79), y_ = (t315 ++ [(⟨(rd_T79 t315 0).f0, (rd_T79 t315 0).f1, (rd_T79 t315 0).f2⟩ : S79)]) := ⟨_, rfl⟩
 replace H : (some (y350, t323, t324)) = some (r1, r2, r3) := by first | (rw [hy350]; with_reducible exact H) | (have H2_ := (Option.bind_some _ _).symm.trans H; rw [hy350]; with_reducible exact H2_) | (have H2_ := (Option.bind_some _ _).symm.trans H; with_reducible exact H2_) | with_reducible exact H | (rw [hy350]; exact H) | exact H
 have Ny350 := aM hy350
 clear hy350
 simp only [Option.some.injEq, Prod.mk.injEq] at H
 obtain ⟨rfl, rfl, rfl⟩ := H
 go_enter Try.func103, Try.ntmps103
 try go_wp2_with (first | ((with_reducible refine gate_dst (N := 3) rfl ?_); refine bx_ 3 #[.slice A1_0 l1_0.length c1_0] 26 ?_; intro gb313 hg w87 hbox hb; replace HB := bS_ hb; have BK313 := aM (hbox); have GW313 := aM (kz_ w g hg qz2); have GE313 := aM ((Nat.le_trans HW0.out (by rw [hg]; exact (keep_size (w := w) (g := g) (row := none) qz2) : w.heap.size ≤ gb313) : w0.heap.size ≤ gb313)); replace HK := aM (KeepBut.trans qz2 (KeepBut.of_below hb g none) (.inl rfl)); have NB0_313 := aM ((by rw [hg]; exact Nat.ne_of_lt (IsS122.lt (show IsS122 w0 _ g s0_0 s0_1 s0_2 from qz3)) : g ≠ gb313)); have NB313_0 := aM ((by rw [hg]; exact Nat.ne_of_gt (IsS122.lt (show IsS122 w0 _ g s0_0 s0_1 s0_2 from qz3)) : gb313 ≠ g)); replace HI0 := aM (IsS122.below qz3 hb); clear hb hbox hg) | ((with_reducible refine gate_dst (N := 4) rfl ?_); refine bx_ 4 #[.slice none 0 0] 26 ?_; intro gb314 hg w88 hbox hb; replace HB := bS_ hb; have BK314 := aM (hbox); have GW314 := aM (kz_ w g hg qz2); have GE314 := aM ((Nat.le_trans HW0.out (by rw [hg]; exact (keep_size (w := w) (g := g) (row := none) qz2) : w.heap.size ≤ gb314) : w0.heap.size ≤ gb314)); replace HK := aM (KeepBut.trans qz2 (KeepBut.of_below hb g none) (.inl rfl)); obtain ⟨NB313_314, NB314_313⟩ := nb_ hg (bk_ BK313.out); replace BK313 := bB_ BK313 hb; have NB0_314 := aM ((by rw [hg]; exact Nat.ne_of_lt (IsS122.lt (show IsS122 w0 _ g s0_0 s0_1 s0_2 from qz3)) : g ≠ gb314)); have NB314_0 := aM ((by rw [hg]; exact Nat.ne_of_gt (IsS122.lt (show IsS122 w0 _ g s0_0 s0_1 s0_2 from qz3)) : gb314 ≠ g)); replace HI0 := aM (IsS122.below qz3 hb); clear hb hbox hg; have hnb89 := NB313_314.out; have hnc89 := NB314_313.out; have hnb90 := NB313_0.out; have hnc90 := NB0_313.out; obtain ⟨hcz91_0, hfz91_0⟩ := bf_ BK313.out) | ((with_reducible refine gate_callee (f := 62) rfl ?_); refine goesL_ (some 8) rfl rfl Try.func62 (by kernel_rfl) rfl #[.agg #[.slice A1_0 l1_0.length c1_0]] rfl qz4 ?_; (with_reducible refine (spec_l5Copy.calls k _ _ l1_0 t315 _ ?side1 ?side2 A3.out).mono ?_); (case side1 => exact Kd.C_foot_now HR1_0.out qz2); (case side2 => exact HC1_0.out); rintro e w92 ⟨v316, rfl, ho0, hb⟩; refine ⟨_, rfl, ?_⟩; have HO317 := aM (Kd.N_lower (Kd.N_mono (ok' := fun k_ => (w.heap.size ≤ k_) ∧ k_ ≠ gb313 ∧ k_ ≠ gb314 ∧ k_ ≠ g) (Kd.S_N (Kd.S_bound ho0)) (fun k_ hk_ => ⟨(Nat.le_trans (keep_size (w := w) (g := g) (row := none) qz2) hk_.2.1), (Kd.freshB (bk_ BK313.out) k_ hk_.2.1), (Kd.freshB (bk_ BK314.out) k_ hk_.2.1), (IsS122.fresh qz3 k_ hk_.2.1)⟩)) (keep_size (w := w) (g := g) (row := none) qz2)); replace BK313 := bB_ BK313 hb; replace BK314 := bB_ BK314 hb; replace HK := aM (KeepBut.trans qz2 (KeepBut.of_below hb g none) (.inl rfl)); replace HB := bS_ hb; replace HI0 := aM (IsS122.below qz3 hb); (try clear hb ho0)) | ((with_reducible refine gate_dst (N := 5) rfl ?_); refine bx_ 5 #[.slice none 0 0] 26 ?_; intro gb318 hg w93 hbox hb; replace HO317 := aM (Kd.N_below (Kd.N_elderB qz8 gb318 (Nat.le_of_eq hg.symm)) hb); replace HB := bS_ hb; have BK318 := aM (hbox); have GW318 := aM (kz_ w g hg qz2); have GE318 := aM ((Nat.le_trans HW0.out (by rw [hg]; exact (keep_size (w := w) (g := g) (row := none) qz2) : w.heap.size ≤ gb318) : w0.heap.size ≤ gb318)); replace HK := aM (KeepBut.trans qz2 (KeepBut.of_below hb g none) (.inl rfl)); obtain ⟨NB313_318, NB318_313⟩ := nb_ hg (bk_ BK313.out); replace BK313 := bB_ BK313 hb; obtain ⟨NB314_318, NB318_314⟩ := nb_ hg (bk_ BK314.out); replace BK314 := bB_ BK314 hb; have NB0_318 := aM ((by rw [hg]; exact Nat.ne_of_lt (IsS122.lt (show IsS122 w0 _ g s0_0 s0_1 s0_2 from qz3)) : g ≠ gb318)); have NB318_0 := aM ((by rw [hg]; exact Nat.ne_of_gt (IsS122.lt (show IsS122 w0 _ g s0_0 s0_1 s0_2 from qz3)) : gb318 ≠ g)); replace HI0 := aM (IsS122.below qz3 hb); clear hb hbox hg; obtain ⟨Ao94, co94, eo94⟩ := Kd.N_slice HO317.out; subst eo94; have hnb95 := NB318_313.out; have hnc95 := NB313_318.out; have hnb96 := NB318_314.out; have hnc96 := NB314_318.out; have hnb97 := NB318_0.out; have hnc97 := NB0_318.out; obtain ⟨hcz98_0, hfz98_0⟩ := bf_ BK318.out) | ((with_reducible refine gate_callee (f := 105) rfl ?_); refine goesL_ (some 18) rfl rfl Try.func105 (by kernel_rfl) rfl #[.pointer (some ⟨g, 0, none⟩), .int .i64 (t315.length : Int)] rfl qz4 ?_; (with_reducible refine (spec_l1Below.calls g s0_0 s0_1 s0_2 (t315.length : Int) t319 t320 t321 w0 _ ?side1 ?side2 A19.out).mono ?_); (case side1 => exact qz3); (case side2 => exact qz1); rintro e w99 ⟨rfl, hi, hb, hk⟩; refine ⟨_, rfl, ?_⟩; replace BK313 := aM (KeepBut.blk hk (g' := gb313) (o := .cells #[.slice A1_0 l1_0.length c1_0] 26 (0, 0)) (bk2_ BK313.out) NB313_0.out (by simp)); replace BK314 := aM (KeepBut.blk hk (g' := gb314) (o := .cells #[.slice none 0 0] 26 (0, 0)) (bk2_ BK314.out) NB314_0.out (by simp)); replace HO317 := aM (Kd.N_mono (Kd.N_keep (Kd.N_mono (ok := fun k_ => ((((w.heap.size ≤ k_)) ∧ (k_ ≠ gb313 ∧ (k_ ≠ gb314 ∧ k_ ≠ g))) ∧ k_ ≠ gb318)) (by (with_reducible repeat (first | apply Kd.N_alloc | apply Kd.N_drewN | apply Kd.N_drew)); exact (Kd.N_mono (Kd.N_far (p := ⟨gb318, 0, none⟩) (Kd.N_mono HO317.out (fun k_ hk => (⟨hk, hk.2⟩ : _ ∧ k_ ≠ gb318))) (fun _ hk => hk.2) (.slice Ao94 t315.length co94)) (fun _ h_ => h_.1))) (fun k_ hk_ => (⟨hk_, hk_.1.2.2.2⟩ : _ ∧ k_ ≠ g))) hk (fun _ h => h.2)) (fun _ h => h.1)); replace BK318 := aM (KeepBut.blk hk (g' := gb318) (o := .cells #[.slice Ao94 t315.length co94] 26 (0, 0)) (by (with_reducible repeat (first | refine blk_drewN ?_ _ | refine blk_drew ?_ | refine blk_alloc ?_ _)); refine blk_put (cs := #[.slice none 0 0]) ?_ 0 _ rfl; exact bk_ BK318.out) NB318_0.out (by simp)); replace HK := aM (KeepBut.trans qz2 hk (.inl rfl)); replace HB := aM (hb); replace HI0 := aM (hi); (try clear hb hk hi)) | ((with_reducible refine gate_callee (f := 105) rfl ?_); refine goesL_ (some 20) rfl rfl Try.func105 (by kernel_rfl) rfl #[.pointer (some ⟨g, 0, none⟩), .int .i64 6] rfl qz4 ?_; (with_reducible refine (spec_l1Below.calls g s0_0 t320 t321 6 t322 t323 t324 w0 _ ?side1 ?side2 A20.out).mono ?_); (case side1 => exact qz3); (case side2 => exact qz1); rintro e w100 ⟨rfl, hi, hb, hk⟩; refine ⟨_, rfl, ?_⟩; replace BK313 := aM (KeepBut.blk hk (bk_ BK313.out) NB313_0.out (by simp)); replace BK314 := aM (KeepBut.blk hk (bk_ BK314.out) NB314_0.out (by simp)); replace HO317 := aM (Kd.N_mono (Kd.N_keep (Kd.N_mono (ok := fun k_ => ((((w.heap.size ≤ k_)) ∧ (k_ ≠ gb313 ∧ (k_ ≠ gb314 ∧ k_ ≠ g))) ∧ k_ ≠ gb318)) qz8 (fun k_ hk_ => (⟨hk_, hk_.1.2.2.2⟩ : _ ∧ k_ ≠ g))) hk (fun _ h => h.2)) (fun _ h => h.1)); replace BK318 := aM (KeepBut.blk hk (bk_ BK318.out) NB318_0.out (by simp)); replace HK := aM (KeepBut.trans qz2 hk (.inl rfl)); replace HB := aM (hb); replace HI0 := aM (hi); (try clear hb hk hi)))
 replace HO317 := aM (Kd.N_drew HO317.out)
 replace BK313 := aM (blk_drew BK313.out)
 replace BK314 := aM (blk_drew BK314.out)
 replace BK318 := aM (blk_drew BK318.out)
 replace HI0 := aM (IsS122.drew HI0.out)
 replace HK := aM (keep_drew HK.out)
 replace HB := aM (below_drew1 HB.out)
 have p349 : 0 ≤ (0 : Int) := (by omega)
 have q349 : 0 < (t315.length : Int) := dt_
 obtain ⟨ad349, A349_2, c349_2, e349, hx349_0, hx349_1, hx349_2, hl349_2, hi349_2⟩ := at_T79 (Kd.N_reads' HO317.out).2.2 0 p349 q349
 cases e349
 obtain ⟨ce349, hce349, hMe349, hcc349⟩ := Kd.N_get HO317.out z79 0 p349 (by first | exact q349 | exact dt_ | (have e_ := (Kd.N_reads' HO317.out).1; omega))
 obtain ⟨ua349_2, uc349_2, rfl, ul349_2, ge349_2⟩ := k79_openF hMe349
 have hv349_2 := hcc349 2 _ rfl
 rw [add_field _ _ 2 (by omega)] at hv349_2
 replace hv349_2 := Option.some.inj (hv349_2.symm.trans hx349_2)
 injection hv349_2 with hva_ hvn_ hvc_
 rw [hva_] at ge349_2
 rw [hvc_] at ul349_2
 have HL349_2 := aM (show Kd.V k72 72 _ w.heap.size _ _ ((rd_T79 t315 0).f2) from Kd.V_mk ul349_2 ge349_2)
 clear hva_ hvn_ hvc_ ge349_2 ul349_2 hcc349 hce349
 have qi349 : (0 < t315.length) = True := eq_true (by omega)
 (try rw [show ((0 : Int)).toNat = 0 from rfl] at hx349_0)
 (try rw [show 0 * 3 = 0 from rfl] at hx349_0)
 (try rw [Addr.add_zero'] at hx349_0)
 (try rw [show ((0 : Int)).toNat = 0 from rfl] at hx349_1)
 (try rw [show 0 * 3 = 0 from rfl] at hx349_1)
 (try rw [Addr.add_zero'] at hx349_1)
 (try rw [show ((0 : Int)).toNat = 0 from rfl] at hx349_2)
 (try rw [show 0 * 3 = 0 from rfl] at hx349_2)
 (try rw [Addr.add_zero'] at hx349_2)
 have HR349_2 := aM hi349_2
 have HC349_2 := aM hl349_2
 clear hi349_2 hl349_2
 replace p349 := eq_true p349
 replace q349 := eq_true q349
 refine start_ (n := 10) (S := fun w' => w'.cell? ⟨gb318, 0, none⟩ = some (.slice (some ad349) t315.length co94) ∧ w'.cell? ad349 = some (.int .i64 ((rd_T79 t315 0).f0)) ∧ w'.cell? ⟨ad349.block, ad349.off + 1, none⟩ = some (.int .i64 ((rd_T79 t315 0).f1)) ∧ w'.cell? ⟨ad349.block, ad349.off + 2, none⟩ = some (.slice A349_2 ((rd_T79 t315 0).f2).length c349_2)) (ds := [7, 9]) #[false, false, false, false, false, false, false, false, false, false] (by kernel_rfl) rfl rfl ⟨(blk_cell BK318.out 0).trans rfl, hx349_0, hx349_1, hx349_2⟩ (fun hHeld => ?_); refine with_tabW spec_l5BendN.tab13 spec_l5BendN.bits13 (fun HT_ HW_ => ?_)
 generalize w100.drew = w101 at HO317 BK313 BK314 BK318 HI0 HK HB HL349_2 HR349_2 hx349_0 hx349_1 hx349_2 hHeld ⊢
 refine pI_ 0 64 (bqz 10 1) ?_
 refine jI_ 2 66 ?_
 refine sI4_ 1 65 ?_
 refine sI4_ 3 67 ?_
 refine jI_ 4 68 ?_
 refine sI4_ 5 69 ?_
 refine one_ (i := 6) (N := some 70) (bqz 10 127) rfl rfl qzc (by decide) (fun K hK => ?_)
 refine value_ (w1 := ?_) (v := ?_) (by rfl) rfl ?_ ?_
 rotate_left 2
 {
 go_simp
 constructor
 {
 rfl
 }
 {
 rfl
 }
 }
 refine hK.out _ _ ⟨(blk_cell (blk_alloc BK318.out _) 0).trans rfl, (World.cell?_alloc_lt _ _ _ (World.block_lt_of_cell? _ _ (hHeld.2.1))).trans (hHeld.2.1), (World.cell?_alloc_lt _ _ _ (World.block_lt_of_cell? _ _ (hHeld.2.2.1))).trans (hHeld.2.2.1), (World.cell?_alloc_lt _ _ _ (World.block_lt_of_cell? _ _ (hHeld.2.2.2))).trans (hHeld.2.2.2)⟩ (fun hHeld => ?_)
 clear hK K
 refine nm_ 70 ?_
 refine last_ (i := 7) (N := some 71) (bqz 10 255) rfl rfl qzc (by decide) (fun K hK => ?_)
 refine Kd.N_append_step k79 w.heap.size (by rfl) (.tmp 65) (.tmp 70) 24 79 (.agg #[(.int .i64 0), (.int .i64 0), (.slice none 0 0)]) 40 rfl Try.underlying24 info79 rfl (by decide) (by omega) (.slice (some ad349) t315.length co94) t315 (⟨(rd_T79 t315 0).f0, (rd_T79 t315 0).f1, (rd_T79 t315 0).f2⟩ : S79) [.int .i64 ((rd_T79 t315 0).f0), .int .i64 ((rd_T79 t315 0).f1), .slice A349_2 ((rd_T79 t315 0).f2).length c349_2] (fun k_ => (w.heap.size ≤ k_) ∧ k_ ≠ gb313 ∧ k_ ≠ gb314 ∧ k_ ≠ gb318 ∧ k_ ≠ g) (fun k_ => ((fun k_ => (w.heap.size ≤ k_) ∧ k_ ≠ gb313 ∧ k_ ≠ gb314 ∧ k_ ≠ gb318 ∧ k_ ≠ g)) k_ ∧ some k_ ≠ (.slice (some ad349) t315.length co94 : Value).ownBlock) rfl rfl ?aP (fun _ hk => hk) ?aF ?aO (Below.refl _ _) ?aS ?aL ?_
 (case aP => exact (k79_mkF _ _ (⟨(rd_T79 t315 0).f0, (rd_T79 t315 0).f1, (rd_T79 t315 0).f2⟩ : S79) (Kd.V_reads' (Kd.V_mono (ok' := (fun k_ => ((fun k_ => (w.heap.size ≤ k_) ∧ k_ ≠ gb313 ∧ k_ ≠ gb314 ∧ k_ ≠ gb318 ∧ k_ ≠ g)) k_ ∧ some k_ ≠ (.slice (some ad349) t315.length co94 : Value).ownBlock)) (HL349_2.out) (fun k_ hk => ⟨⟨hk.1.1.1, ⟨hk.1.1.2.1, ⟨hk.1.1.2.2.1, ⟨hk.1.2, hk.1.1.2.2.2⟩⟩⟩⟩, hk.2⟩))).2.1 (Kd.V_F (Kd.V_mono (ok' := (fun k_ => ((fun k_ => (w.heap.size ≤ k_) ∧ k_ ≠ gb313 ∧ k_ ≠ gb314 ∧ k_ ≠ gb318 ∧ k_ ≠ g)) k_ ∧ some k_ ≠ (.slice (some ad349) t315.length co94 : Value).ownBlock)) (HL349_2.out) (fun k_ hk => ⟨⟨hk.1.1.1, ⟨hk.1.1.2.1, ⟨hk.1.1.2.2.1, ⟨hk.1.2, hk.1.1.2.2.2⟩⟩⟩⟩, hk.2⟩)))))
 (case aF => exact (fun k_ hk => ⟨(Nat.le_trans (keep_size (w := w) (g := g) (row := none) qz2) hk), Kd.freshB (bk_ BK313.out) k_ hk, Kd.freshB (bk_ BK314.out) k_ hk, Kd.freshB (bk_ BK318.out) k_ hk, IsS122.fresh qz3 k_ hk⟩))
 (case aO => exact (by (with_reducible repeat (first | apply Kd.N_alloc | apply Kd.N_drewN | apply Kd.N_drew)); exact Kd.N_mono HO317.out (fun _ hk => ⟨hk.1.1, ⟨hk.1.2.1, ⟨hk.1.2.2.1, ⟨hk.2, hk.1.2.2.2⟩⟩⟩⟩)))
 (case aS => exact (keep_size (w := w) (g := g) (row := none) qz2))
 (case aL => have := LMc86.out; omega)
 intro v351 w102 ho hb hg hat
 rw [← Ny350.out] at ho
 replace BK313 := aM (blk_grown (bk_ BK313.out) hg (Kd.N_ne HO317.out BK313.out (by decide)))
 replace BK314 := aM (blk_grown (bk_ BK314.out) hg (Kd.N_ne HO317.out BK314.out (by decide)))
 replace BK318 := aM (blk_grown (bk_ BK318.out) hg (Kd.N_ne HO317.out BK318.out (by decide)))
 replace HL349_2 := aM (Kd.V_afterv (ok := (fun k_ => (w.heap.size ≤ k_) ∧ k_ ≠ gb313 ∧ k_ ≠ gb314 ∧ k_ ≠ g ∧ k_ ≠ gb318)) (by (with_reducible repeat (first | apply Kd.V_alloc | apply Kd.V_drewN | apply Kd.V_drew)); exact Kd.V_mono HL349_2.out (fun _ hk => ⟨⟨hk.1.1.1, ⟨hk.1.1.2.1, ⟨hk.1.1.2.2.1, ⟨hk.1.1.2.2.2, hk.1.2⟩⟩⟩⟩, hk.2⟩)) hg hat)
 replace HB := aM (below_weaken qz1 HL.out hb)
 replace HI0 := aM (IsS122.grown qz3 hg (IsS122.own_neN HI0.out HO317.out (by decide)))
 replace HK := aM (KeepBut.trans qz2 (KeepBut.of_grown hg g) (Kd.N_base2 HO317.out))
 have HO352 := aM (ho)
 clear HO317 ho hb hg hat
 obtain ⟨Ao103, co103, eo103⟩ := Kd.N_slice HO352.out
 (first | subst eo103 | (injection eo103 with f1_ f2_ f3_; have f4_ := f1_.symm; have f5_ := f3_.symm; clear f1_ f2_ f3_; subst f4_; subst f5_))
 refine hK.out _ _ ?_
 clear hK K
 refine nm_ 71 ?_
 refine pI_ 8 72 (bqz 10 511) ?_
 refine last_ (i := 9) (N := none) (bqz 10 1023) rfl rfl qzc (by decide) (fun K hK => ?_)
 have hs104 : w102.cell? ⟨gb318, 0, none⟩ = some (.slice (some ad349) t315.length co94) := (blk_cell BK318.out 0).trans rfl
 have hfs104 := blk_frozen BK318.out 0
 have hns104_0 := NB313_318.out
 have hns104_1 := NB314_318.out
 have hms104_0 := NB318_313.out
 have hms104_1 := NB318_314.out
 refine sk_ ?_
 refine hK.out _ _ ?_
 clear hK K
 refine done_ (done_of HT_.out (by kernel_rfl)) ?_
 obtain ⟨hcz105_0, hfz105_0⟩ := bf_ BK318.out
 have hnb106 := NB314_0.out
 have hnc106 := NB0_314.out
 obtain ⟨hcz107_0, hfz107_0⟩ := bf_ BK314.out
 try go_wp2
 refine bodyPost_ret (results_cell_row rfl _ _ gb314 26 #[.slice Ao103 y350.length co103] (0, 0) _ rfl (by (with_reducible repeat (first | refine blk_drewN ?_ _ | refine blk_drew ?_ | refine blk_alloc ?_ _)); refine blk_put (cs := #[.slice none 0 0]) ?_ 0 _ rfl; (with_reducible repeat (first | refine blk_drewN ?_ _ | refine blk_drew ?_ | refine blk_alloc ?_ _)); exact bk2_ BK314.out) Try.underlying26 rfl (by kernel_rfl)) rfl ?_
 exact ⟨_, qzw, by (with_reducible repeat (first | apply Kd.N_alloc | apply Kd.N_drewN | apply Kd.N_drew)); exact Kd.N_mono (Kd.N_far (p := ⟨gb314, 0, none⟩) (Kd.N_far (p := ⟨gb318, 0, none⟩) (Kd.N_mono (Kd.N_mono HO352.out (fun k_ hk => (⟨hk, hk.2.2.2.1⟩ : _ ∧ k_ ≠ gb318))) (fun k_ hk => (⟨hk, hk.1.2.2.1⟩ : _ ∧ k_ ≠ gb314))) (fun _ hk => hk.1.2) (.slice Ao103 y350.length co103)) (fun _ hk => hk.2) (.slice Ao103 y350.length co103)) (fun _ hk => hk.1.1.1), qz3, qz1, qz2⟩
 }
 {
 exact an_ c86 H
 }
 }
 {
 exact an_ c85 H
 }
 }
 {
 rw [if_neg c84] at H
 have c84b0 := beq_eq_false_iff_ne.mpr c84
 have c84b1 := bne_iff_ne.mpr c84
 simp only [Option.some.injEq, Prod.mk.injEq] at H
 obtain ⟨rfl, rfl, rfl⟩ := H
 go_enter Try.func103, Try.ntmps103
 go_wp2_with (first | ((with_reducible refine gate_dst (N := 3) rfl ?_); refine bx_ 3 #[.slice A1_0 l1_0.length c1_0] 26 ?_; intro gb313 hg w108 hbox hb; replace HB := bS_ hb; have BK313 := aM (hbox); have GW313 := aM (kz_ w g hg qz2); have GE313 := aM ((Nat.le_trans HW0.out (by rw [hg]; exact (keep_size (w := w) (g := g) (row := none) qz2) : w.heap.size ≤ gb313) : w0.heap.size ≤ gb313)); replace HK := aM (KeepBut.trans qz2 (KeepBut.of_below hb g none) (.inl rfl)); have NB0_313 := aM ((by rw [hg]; exact Nat.ne_of_lt (IsS122.lt (show IsS122 w0 _ g s0_0 s0_1 s0_2 from qz3)) : g ≠ gb313)); have NB313_0 := aM ((by rw [hg]; exact Nat.ne_of_gt (IsS122.lt (show IsS122 w0 _ g s0_0 s0_1 s0_2 from qz3)) : gb313 ≠ g)); replace HI0 := aM (IsS122.below qz3 hb); clear hb hbox hg) | ((with_reducible refine gate_dst (N := 4) rfl ?_); refine bx_ 4 #[.slice none 0 0] 26 ?_; intro gb314 hg w109 hbox hb; replace HB := bS_ hb; have BK314 := aM (hbox); have GW314 := aM (kz_ w g hg qz2); have GE314 := aM ((Nat.le_trans HW0.out (by rw [hg]; exact (keep_size (w := w) (g := g) (row := none) qz2) : w.heap.size ≤ gb314) : w0.heap.size ≤ gb314)); replace HK := aM (KeepBut.trans qz2 (KeepBut.of_below hb g none) (.inl rfl)); obtain ⟨NB313_314, NB314_313⟩ := nb_ hg (bk_ BK313.out); replace BK313 := bB_ BK313 hb; have NB0_314 := aM ((by rw [hg]; exact Nat.ne_of_lt (IsS122.lt (show IsS122 w0 _ g s0_0 s0_1 s0_2 from qz3)) : g ≠ gb314)); have NB314_0 := aM ((by rw [hg]; exact Nat.ne_of_gt (IsS122.lt (show IsS122 w0 _ g s0_0 s0_1 s0_2 from qz3)) : gb314 ≠ g)); replace HI0 := aM (IsS122.below qz3 hb); clear hb hbox hg; have hnb110 := NB313_314.out; have hnc110 := NB314_313.out; have hnb111 := NB313_0.out; have hnc111 := NB0_313.out; obtain ⟨hcz112_0, hfz112_0⟩ := bf_ BK313.out) | ((with_reducible refine gate_callee (f := 62) rfl ?_); refine goesL_ (some 8) rfl rfl Try.func62 (by kernel_rfl) rfl #[.agg #[.slice A1_0 l1_0.length c1_0]] rfl qz4 ?_; (with_reducible refine (spec_l5Copy.calls k _ _ l1_0 t315 _ ?side1 ?side2 A3.out).mono ?_); (case side1 => exact Kd.C_foot_now HR1_0.out qz2); (case side2 => exact HC1_0.out); rintro e w113 ⟨v316, rfl, ho0, hb⟩; refine ⟨_, rfl, ?_⟩; have HO317 := aM (Kd.N_lower (Kd.N_mono (ok' := fun k_ => (w.heap.size ≤ k_) ∧ k_ ≠ gb313 ∧ k_ ≠ gb314 ∧ k_ ≠ g) (Kd.S_N (Kd.S_bound ho0)) (fun k_ hk_ => ⟨(Nat.le_trans (keep_size (w := w) (g := g) (row := none) qz2) hk_.2.1), (Kd.freshB (bk_ BK313.out) k_ hk_.2.1), (Kd.freshB (bk_ BK314.out) k_ hk_.2.1), (IsS122.fresh qz3 k_ hk_.2.1)⟩)) (keep_size (w := w) (g := g) (row := none) qz2)); replace BK313 := bB_ BK313 hb; replace BK314 := bB_ BK314 hb; replace HK := aM (KeepBut.trans qz2 (KeepBut.of_below hb g none) (.inl rfl)); replace HB := bS_ hb; replace HI0 := aM (IsS122.below qz3 hb); (try clear hb ho0)) | ((with_reducible refine gate_dst (N := 5) rfl ?_); refine bx_ 5 #[.slice none 0 0] 26 ?_; intro gb318 hg w114 hbox hb; replace HO317 := aM (Kd.N_below (Kd.N_elderB qz8 gb318 (Nat.le_of_eq hg.symm)) hb); replace HB := bS_ hb; have BK318 := aM (hbox); have GW318 := aM (kz_ w g hg qz2); have GE318 := aM ((Nat.le_trans HW0.out (by rw [hg]; exact (keep_size (w := w) (g := g) (row := none) qz2) : w.heap.size ≤ gb318) : w0.heap.size ≤ gb318)); replace HK := aM (KeepBut.trans qz2 (KeepBut.of_below hb g none) (.inl rfl)); obtain ⟨NB313_318, NB318_313⟩ := nb_ hg (bk_ BK313.out); replace BK313 := bB_ BK313 hb; obtain ⟨NB314_318, NB318_314⟩ := nb_ hg (bk_ BK314.out); replace BK314 := bB_ BK314 hb; have NB0_318 := aM ((by rw [hg]; exact Nat.ne_of_lt (IsS122.lt (show IsS122 w0 _ g s0_0 s0_1 s0_2 from qz3)) : g ≠ gb318)); have NB318_0 := aM ((by rw [hg]; exact Nat.ne_of_gt (IsS122.lt (show IsS122 w0 _ g s0_0 s0_1 s0_2 from qz3)) : gb318 ≠ g)); replace HI0 := aM (IsS122.below qz3 hb); clear hb hbox hg; obtain ⟨Ao115, co115, eo115⟩ := Kd.N_slice HO317.out; subst eo115; have hnb116 := NB318_313.out; have hnc116 := NB313_318.out; have hnb117 := NB318_314.out; have hnc117 := NB314_318.out; have hnb118 := NB318_0.out; have hnc118 := NB0_318.out; obtain ⟨hcz119_0, hfz119_0⟩ := bf_ BK318.out) | ((with_reducible refine gate_callee (f := 105) rfl ?_); refine goesL_ (some 18) rfl rfl Try.func105 (by kernel_rfl) rfl #[.pointer (some ⟨g, 0, none⟩), .int .i64 (t315.length : Int)] rfl qz4 ?_; (with_reducible refine (spec_l1Below.calls g s0_0 s0_1 s0_2 (t315.length : Int) t319 t320 t321 w0 _ ?side1 ?side2 A19.out).mono ?_); (case side1 => exact qz3); (case side2 => exact qz1); rintro e w120 ⟨rfl, hi, hb, hk⟩; refine ⟨_, rfl, ?_⟩; replace BK313 := aM (KeepBut.blk hk (g' := gb313) (o := .cells #[.slice A1_0 l1_0.length c1_0] 26 (0, 0)) (bk2_ BK313.out) NB313_0.out (by simp)); replace BK314 := aM (KeepBut.blk hk (g' := gb314) (o := .cells #[.slice none 0 0] 26 (0, 0)) (bk2_ BK314.out) NB314_0.out (by simp)); replace HO317 := aM (Kd.N_mono (Kd.N_keep (Kd.N_mono (ok := fun k_ => ((((w.heap.size ≤ k_)) ∧ (k_ ≠ gb313 ∧ (k_ ≠ gb314 ∧ k_ ≠ g))) ∧ k_ ≠ gb318)) (by (with_reducible repeat (first | apply Kd.N_alloc | apply Kd.N_drewN | apply Kd.N_drew)); exact (Kd.N_mono (Kd.N_far (p := ⟨gb318, 0, none⟩) (Kd.N_mono HO317.out (fun k_ hk => (⟨hk, hk.2⟩ : _ ∧ k_ ≠ gb318))) (fun _ hk => hk.2) (.slice Ao115 t315.length co115)) (fun _ h_ => h_.1))) (fun k_ hk_ => (⟨hk_, hk_.1.2.2.2⟩ : _ ∧ k_ ≠ g))) hk (fun _ h => h.2)) (fun _ h => h.1)); replace BK318 := aM (KeepBut.blk hk (g' := gb318) (o := .cells #[.slice Ao115 t315.length co115] 26 (0, 0)) (by (with_reducible repeat (first | refine blk_drewN ?_ _ | refine blk_drew ?_ | refine blk_alloc ?_ _)); refine blk_put (cs := #[.slice none 0 0]) ?_ 0 _ rfl; exact bk_ BK318.out) NB318_0.out (by simp)); replace HK := aM (KeepBut.trans qz2 hk (.inl rfl)); replace HB := aM (hb); replace HI0 := aM (hi); (try clear hb hk hi)) | ((with_reducible refine gate_callee (f := 105) rfl ?_); refine goesL_ (some 20) rfl rfl Try.func105 (by kernel_rfl) rfl #[.pointer (some ⟨g, 0, none⟩), .int .i64 6] rfl qz4 ?_; (with_reducible refine (spec_l1Below.calls g s0_0 t320 t321 6 t322 t323 t324 w0 _ ?side1 ?side2 A20.out).mono ?_); (case side1 => exact qz3); (case side2 => exact qz1); rintro e w121 ⟨rfl, hi, hb, hk⟩; refine ⟨_, rfl, ?_⟩; replace BK313 := aM (KeepBut.blk hk (bk_ BK313.out) NB313_0.out (by simp)); replace BK314 := aM (KeepBut.blk hk (bk_ BK314.out) NB314_0.out (by simp)); replace HO317 := aM (Kd.N_mono (Kd.N_keep (Kd.N_mono (ok := fun k_ => ((((w.heap.size ≤ k_)) ∧ (k_ ≠ gb313 ∧ (k_ ≠ gb314 ∧ k_ ≠ g))) ∧ k_ ≠ gb318)) qz8 (fun k_ hk_ => (⟨hk_, hk_.1.2.2.2⟩ : _ ∧ k_ ≠ g))) hk (fun _ h => h.2)) (fun _ h => h.1)); replace BK318 := aM (KeepBut.blk hk (bk_ BK318.out) NB318_0.out (by simp)); replace HK := aM (KeepBut.trans qz2 hk (.inl rfl)); replace HB := aM (hb); replace HI0 := aM (hi); (try clear hb hk hi); obtain ⟨hcz122_0, hfz122_0⟩ := bf_ BK318.out; have hnb123 := NB314_0.out; have hnc123 := NB0_314.out; obtain ⟨hcz124_0, hfz124_0⟩ := bf_ BK314.out))
 refine bodyPost_ret (results_cell_row rfl _ _ gb314 26 #[.slice Ao115 t315.length co115] (0, 0) _ rfl (by (with_reducible repeat (first | refine blk_drewN ?_ _ | refine blk_drew ?_ | refine blk_alloc ?_ _)); refine blk_put (cs := #[.slice none 0 0]) ?_ 0 _ rfl; exact bk_ BK314.out) Try.underlying26 rfl (by kernel_rfl)) rfl ?_
 exact ⟨_, qzw, by (with_reducible repeat (first | apply Kd.N_alloc | apply Kd.N_drewN | apply Kd.N_drew)); exact Kd.N_mono (Kd.N_far (p := ⟨gb314, 0, none⟩) (Kd.N_mono HO317.out (fun k_ hk => (⟨hk, hk.1.2.2.1⟩ : _ ∧ k_ ≠ gb314))) (fun _ hk => hk.2) (.slice Ao115 t315.length co115)) (fun _ hk => hk.1.1.1), qz3, qz1, qz2⟩

 }
 }
 }
 }
 }
/-! ### spec_l5BendS: function 103 -/
def spec_l5BendS.f (k : Nat) (s0_0 : List Int) (s0_1 : Int) (s0_2 : Int) (l1_0 : List (S79)) : Option ((List (S79)) × Int × Int) := (spec_l5Copy.f k l1_0).bind fun t315 => (if (t315.length : Int) = 0 then (some (t315, s0_1, s0_2)) else ((spec_l1Below.f s0_0 s0_1 s0_2 (t315.length : Int)).bind fun bt319 => ((spec_l1Below.f s0_0 bt319.2.1 bt319.2.2 6).bind fun bt322 => (if bt322.1 = 0 then (none) else (if bt322.1 = 1 then (none) else (if bt322.1 = 2 then (if 0 ≤ bt319.1 then (if bt319.1 < (t315.length : Int) then ((spec_l1Int.f s0_0 bt322.2.1 bt322.2.2 (([0, 1, 1001] : List Int))).bind fun bt329 => ((spec_l1Below.f s0_0 bt329.2.1 bt329.2.2 3).bind fun bt332 => (if ((rd_T79 t315 bt319.1).f2).length < 5864062014805 then (some ((t315.set (bt319.1 : Int).toNat (⟨(rd_T79 t315 bt319.1).f0, (rd_T79 t315 bt319.1).f1, (((rd_T79 t315 bt319.1).f2) ++ [(⟨9, bt329.1, bt332.1⟩ : S72)])⟩ : S79)), bt332.2.1, bt332.2.2)) else (none)))) else (none)) else (none)) else (if bt322.1 = 3 then (if 0 < (t315.length : Int) then (none) else (none)) else (some (t315, bt322.2.1, bt322.2.2)))))))))
theorem spec_l5BendS.mono : ∀ a0 a1 a2 a3 k, LeO (spec_l5BendS.f k a0 a1 a2 a3) (spec_l5BendS.f (k + 1) a0 a1 a2 a3) := by
 intro a0 a1 a2 a3 k
 unfold spec_l5BendS.f
 have j0 := @spec_l5Copy.mono
 exact qL
def spec_l5BendS.T11 : Bool × List (List Nat × List Nat) := (true, [([], []), ([0], [0]), ([], []), ([], []), ([3], [3]), ([], []), ([4, 5], [4, 5]), ([6], [6]), ([7], [7]), ([], []), ([], []), ([9, 10], [9, 10]), ([], []), ([12, 11], [12]), ([11, 13], [11, 13]), ([14], [14]), ([8, 15, 13], [8, 15]), ([1, 2, 0, 1, 2, 3, 4, 5, 6, 7, 8, 9, 10, 11, 12, 13, 14, 15, 16], [1, 2]), ([17, 0, 1, 2, 3, 4, 5, 6, 7, 8, 9, 10, 11, 12, 13, 14, 15, 16], [17]), ([18, 16, 16, 0, 1, 2, 3, 4, 5, 6, 7, 8, 9, 10, 11, 12, 13, 14, 15, 16], [16, 18])])
def spec_l5BendS.B11 : List Nat := [0, 1, 0, 0, 8, 0, 56, 120, 248, 0, 0, 1536, 0, 7680, 15872, 32256, 65528, 131071, 262143, 524287]
theorem spec_l5BendS.tab11 : rtab .any (opsOf Try.f103 11) = spec_l5BendS.T11 := by kernel_rfl
theorem spec_l5BendS.bits11 : waitsOk spec_l5BendS.T11.2 spec_l5BendS.B11 = true := by kernel_rfl
set_option maxHeartbeats 8000000 in
set_option maxRecDepth 100000 in
theorem spec_l5BendS.calls (k : Nat) (g : Nat) (s0_0 : List Int) (s0_1 : Int) (s0_2 : Int) (A1_0 : Option Addr) (c1_0 : Nat) (l1_0 : List (S79)) (r1 : List (S79)) (r2 : Int) (r3 : Int) (w0 w : World) (hI : IsS122 w0 w g s0_0 s0_1 s0_2) (hB : Below w0.heap.size w0 w) (hr1_0 : ∀ W_, KeepBut w W_ g none → Kd.C k79 W_ A1_0 l1_0.length l1_0) (hc1_0 : l1_0.length ≤ c1_0) (h : spec_l5BendS.f k s0_0 s0_1 s0_2 l1_0 = some (r1, r2, r3)) :
  Calls Try.prog 103 #[.pointer (some ⟨g, 0, none⟩), .agg #[.slice A1_0 l1_0.length c1_0]] w fun e w' => ∃ v0_ : Value, e = .returned (.agg #[v0_]) ∧ Kd.S k79 79 w' w.heap.size (fun _ => True) v0_ r1 ∧ IsS122 w0 w' g s0_0 r2 r3 ∧ Below w0.heap.size w0 w' ∧ KeepBut w w' g none := by
 have hu26 := Try.underlying26
 have hu72 := Try.underlying72
 have hu79 := Try.underlying79
 have HR1_0 := aM hr1_0
 have HC1_0 := aM hc1_0
 clear hr1_0 hc1_0
 have HI0 := aM hI
 have HK := aM (KeepBut.refl w g none)
 have HL := aM hB.size
 clear hI
 have HW0 := aM hB.size
 have HB := aM hB
 clear hB
 have H : ((spec_l5Copy.f k l1_0).bind fun t315 => (if (t315.length : Int) = 0 then (some (t315, s0_1, s0_2)) else ((spec_l1Below.f s0_0 s0_1 s0_2 (t315.length : Int)).bind fun bt319 => ((spec_l1Below.f s0_0 bt319.2.1 bt319.2.2 6).bind fun bt322 => (if bt322.1 = 0 then (none) else (if bt322.1 = 1 then (none) else (if bt322.1 = 2 then (if 0 ≤ bt319.1 then (if bt319.1 < (t315.length : Int) then ((spec_l1Int.f s0_0 bt322.2.1 bt322.2.2 (([0, 1, 1001] : List Int))).bind fun bt329 => ((spec_l1Below.f s0_0 bt329.2.1 bt329.2.2 3).bind fun bt332 => (if ((rd_T79 t315 bt319.1).f2).length < 5864062014805 then (some ((t315.set (bt319.1 : Int).toNat (⟨(rd_T79 t315 bt319.1).f0, (rd_T79 t315 bt319.1).f1, (((rd_T79 t315 bt319.1).f2) ++ [(⟨9, bt329.1, bt332.1⟩ : S72)])⟩ : S79)), bt332.2.1, bt332.2.2)) else (none)))) else (none)) else (none)) else (if bt322.1 = 3 then (if 0 < (t315.length : Int) then (none) else (none)) else (some (t315, bt322.2.1, bt322.2.2)))))))))) = some (r1, r2, r3) := h
 clear h
 replace H := Option.bind_eq_some_iff.mp H
 obtain ⟨t315, A30, H⟩ := H
 replace H : (if (t315.length : Int) = 0 then (some (t315, s0_1, s0_2)) else ((spec_l1Below.f s0_0 s0_1 s0_2 (t315.length : Int)).bind fun bt319 => ((spec_l1Below.f s0_0 bt319.2.1 bt319.2.2 6).bind fun bt322 => (if bt322.1 = 0 then (none) else (if bt322.1 = 1 then (none) else (if bt322.1 = 2 then (if 0 ≤ bt319.1 then (if bt319.1 < (t315.length : Int) then ((spec_l1Int.f s0_0 bt322.2.1 bt322.2.2 (([0, 1, 1001] : List Int))).bind fun bt329 => ((spec_l1Below.f s0_0 bt329.2.1 bt329.2.2 3).bind fun bt332 => (if ((rd_T79 t315 bt319.1).f2).length < 5864062014805 then (some ((t315.set (bt319.1 : Int).toNat (⟨(rd_T79 t315 bt319.1).f0, (rd_T79 t315 bt319.1).f1, (((rd_T79 t315 bt319.1).f2) ++ [(⟨9, bt329.1, bt332.1⟩ : S72)])⟩ : S79)), bt332.2.1, bt332.2.2)) else (none)))) else (none)) else (none)) else (if bt322.1 = 3 then (if 0 < (t315.length : Int) then (none) else (none)) else (some (t315, bt322.2.1, bt322.2.2))))))))) = some (r1, r2, r3) := H
 have A3 := aM A30
 clear A30
 by_cases c4 : (t315.length : Int) = 0
 {
 rw [if_pos c4] at H
 have c4b0 := beq_iff_eq.mpr c4
 have c4b1 := bne_eq_false_iff_eq.mpr c4
 clear c4
 simp only [Option.some.injEq, Prod.mk.injEq] at H
 obtain ⟨rfl, rfl, rfl⟩ := H
 go_enter Try.func103, Try.ntmps103
 go_wp2_with (first | ((with_reducible refine gate_dst (N := 3) rfl ?_); refine bx_ 3 #[.slice A1_0 l1_0.length c1_0] 26 ?_; intro gb313 hg w5 hbox hb; replace HB := bS_ hb; have BK313 := aM (hbox); have GW313 := aM (kz_ w g hg qz2); have GE313 := aM ((Nat.le_trans HW0.out (by rw [hg]; exact (keep_size (w := w) (g := g) (row := none) qz2) : w.heap.size ≤ gb313) : w0.heap.size ≤ gb313)); replace HK := aM (KeepBut.trans qz2 (KeepBut.of_below hb g none) (.inl rfl)); have NB0_313 := aM ((by rw [hg]; exact Nat.ne_of_lt (IsS122.lt (show IsS122 w0 _ g s0_0 s0_1 s0_2 from qz3)) : g ≠ gb313)); have NB313_0 := aM ((by rw [hg]; exact Nat.ne_of_gt (IsS122.lt (show IsS122 w0 _ g s0_0 s0_1 s0_2 from qz3)) : gb313 ≠ g)); replace HI0 := aM (IsS122.below qz3 hb); clear hb hbox hg) | ((with_reducible refine gate_dst (N := 4) rfl ?_); refine bx_ 4 #[.slice none 0 0] 26 ?_; intro gb314 hg w6 hbox hb; replace HB := bS_ hb; have BK314 := aM (hbox); have GW314 := aM (kz_ w g hg qz2); have GE314 := aM ((Nat.le_trans HW0.out (by rw [hg]; exact (keep_size (w := w) (g := g) (row := none) qz2) : w.heap.size ≤ gb314) : w0.heap.size ≤ gb314)); replace HK := aM (KeepBut.trans qz2 (KeepBut.of_below hb g none) (.inl rfl)); obtain ⟨NB313_314, NB314_313⟩ := nb_ hg (bk_ BK313.out); replace BK313 := bB_ BK313 hb; have NB0_314 := aM ((by rw [hg]; exact Nat.ne_of_lt (IsS122.lt (show IsS122 w0 _ g s0_0 s0_1 s0_2 from qz3)) : g ≠ gb314)); have NB314_0 := aM ((by rw [hg]; exact Nat.ne_of_gt (IsS122.lt (show IsS122 w0 _ g s0_0 s0_1 s0_2 from qz3)) : gb314 ≠ g)); replace HI0 := aM (IsS122.below qz3 hb); clear hb hbox hg; have hnb7 := NB313_314.out; have hnc7 := NB314_313.out; have hnb8 := NB313_0.out; have hnc8 := NB0_313.out; obtain ⟨hcz9_0, hfz9_0⟩ := bf_ BK313.out) | ((with_reducible refine gate_callee (f := 62) rfl ?_); refine goesL_ (some 8) rfl rfl Try.func62 (by kernel_rfl) rfl #[.agg #[.slice A1_0 l1_0.length c1_0]] rfl qz4 ?_; (with_reducible refine (spec_l5Copy.calls k _ _ l1_0 t315 _ ?side1 ?side2 A3.out).mono ?_); (case side1 => exact Kd.C_foot_now HR1_0.out qz2); (case side2 => exact HC1_0.out); rintro e w10 ⟨v316, rfl, ho0, hb⟩; refine ⟨_, rfl, ?_⟩; have HO317 := aM (Kd.S_lower ho0 (keep_size (w := w) (g := g) (row := none) qz2)); replace BK313 := bB_ BK313 hb; replace BK314 := bB_ BK314 hb; replace HK := aM (KeepBut.trans qz2 (KeepBut.of_below hb g none) (.inl rfl)); replace HB := bS_ hb; replace HI0 := aM (IsS122.below qz3 hb); (try clear hb ho0)) | ((with_reducible refine gate_dst (N := 5) rfl ?_); refine bx_ 5 #[.slice none 0 0] 26 ?_; intro gb318 hg w11 hbox hb; replace HO317 := aM (Kd.S_below (rs_ HO317.out) hb); replace HB := bS_ hb; have BK318 := aM (hbox); have GW318 := aM (kz_ w g hg qz2); have GE318 := aM ((Nat.le_trans HW0.out (by rw [hg]; exact (keep_size (w := w) (g := g) (row := none) qz2) : w.heap.size ≤ gb318) : w0.heap.size ≤ gb318)); replace HK := aM (KeepBut.trans qz2 (KeepBut.of_below hb g none) (.inl rfl)); obtain ⟨NB313_318, NB318_313⟩ := nb_ hg (bk_ BK313.out); replace BK313 := bB_ BK313 hb; obtain ⟨NB314_318, NB318_314⟩ := nb_ hg (bk_ BK314.out); replace BK314 := bB_ BK314 hb; have NB0_318 := aM ((by rw [hg]; exact Nat.ne_of_lt (IsS122.lt (show IsS122 w0 _ g s0_0 s0_1 s0_2 from qz3)) : g ≠ gb318)); have NB318_0 := aM ((by rw [hg]; exact Nat.ne_of_gt (IsS122.lt (show IsS122 w0 _ g s0_0 s0_1 s0_2 from qz3)) : gb318 ≠ g)); replace HI0 := aM (IsS122.below qz3 hb); clear hb hbox hg; obtain ⟨Ao12, co12, eo12⟩ := Kd.S_slice HO317.out; subst eo12; have hnb13 := NB318_313.out; have hnc13 := NB313_318.out; have hnb14 := NB318_314.out; have hnc14 := NB314_318.out; have hnb15 := NB318_0.out; have hnc15 := NB0_318.out; obtain ⟨hcz16_0, hfz16_0⟩ := bf_ BK318.out; have hnb17 := NB314_0.out; have hnc17 := NB0_314.out; obtain ⟨hcz18_0, hfz18_0⟩ := bf_ BK314.out))
 refine bodyPost_ret (results_cell_row rfl _ _ gb314 26 #[.slice Ao12 t315.length co12] (0, 0) _ rfl (by (with_reducible repeat (first | refine blk_drewN ?_ _ | refine blk_drew ?_ | refine blk_alloc ?_ _)); refine blk_put (cs := #[.slice none 0 0]) ?_ 0 _ rfl; (with_reducible repeat (first | refine blk_drewN ?_ _ | refine blk_drew ?_ | refine blk_alloc ?_ _)); exact bk2_ BK314.out) Try.underlying26 rfl (by kernel_rfl)) rfl ?_
 exact ⟨_, qzw, by (with_reducible repeat (first | apply Kd.S_alloc | apply Kd.S_drewN | apply Kd.S_drew)); exact Kd.S_mono (Kd.S_far (p := ⟨gb314, 0, none⟩) (Kd.S_far (p := ⟨gb318, 0, none⟩) (Kd.S_types (Kd.S_types HO317.out BK318.out (by decide)) BK314.out (by decide)) (fun _ hk => hk.1.2) (.slice Ao12 t315.length co12)) (fun _ hk => hk.2) (.slice Ao12 t315.length co12)) (fun _ hk => trivial), qz3, qz1, qz2⟩
 }
 {
 rw [if_neg c4] at H
 have c4b0 := beq_eq_false_iff_ne.mpr c4
 have c4b1 := bne_iff_ne.mpr c4
 have c4b2 : ¬ (t315 = []) := fun h_ => c4 (by rw [h_]; rfl)
 replace H := Option.bind_eq_some_iff.mp H
 obtain ⟨⟨t319, t320, t321⟩, A190, H⟩ := H
 replace H : ((spec_l1Below.f s0_0 t320 t321 6).bind fun bt322 => (if bt322.1 = 0 then (none) else (if bt322.1 = 1 then (none) else (if bt322.1 = 2 then (if 0 ≤ t319 then (if t319 < (t315.length : Int) then ((spec_l1Int.f s0_0 bt322.2.1 bt322.2.2 (([0, 1, 1001] : List Int))).bind fun bt329 => ((spec_l1Below.f s0_0 bt329.2.1 bt329.2.2 3).bind fun bt332 => (if ((rd_T79 t315 t319).f2).length < 5864062014805 then (some ((t315.set (t319 : Int).toNat (⟨(rd_T79 t315 t319).f0, (rd_T79 t315 t319).f1, (((rd_T79 t315 t319).f2) ++ [(⟨9, bt329.1, bt332.1⟩ : S72)])⟩ : S79)), bt332.2.1, bt332.2.2)) else (none)))) else (none)) else (none)) else (if bt322.1 = 3 then (if 0 < (t315.length : Int) then (none) else (none)) else (some (t315, bt322.2.1, bt322.2.2))))))) = some (r1, r2, r3) := H
 have A19 := aM A190
 clear A190
 replace H := Option.bind_eq_some_iff.mp H
 obtain ⟨⟨t322, t323, t324⟩, A200, H⟩ := H
 replace H : (if t322 = 0 then (none) else (if t322 = 1 then (none) else (if t322 = 2 then (if 0 ≤ t319 then (if t319 < (t315.length : Int) then ((spec_l1Int.f s0_0 t323 t324 (([0, 1, 1001] : List Int))).bind fun bt329 => ((spec_l1Below.f s0_0 bt329.2.1 bt329.2.2 3).bind fun bt332 => (if ((rd_T79 t315 t319).f2).length < 5864062014805 then (some ((t315.set (t319 : Int).toNat (⟨(rd_T79 t315 t319).f0, (rd_T79 t315 t319).f1, (((rd_T79 t315 t319).f2) ++ [(⟨9, bt329.1, bt332.1⟩ : S72)])⟩ : S79)), bt332.2.1, bt332.2.2)) else (none)))) else (none)) else (none)) else (if t322 = 3 then (if 0 < (t315.length : Int) then (none) else (none)) else (some (t315, t323, t324)))))) = some (r1, r2, r3) := H
 have A20 := aM A200
 clear A200
 by_cases c21 : t322 = 0
 {
 rw [if_pos c21] at H
 have c21b0 := beq_iff_eq.mpr c21
 have c21b1 := bne_eq_false_iff_eq.mpr c21
 clear c21
 exact absurd H (by simp)
 }
 {
 rw [if_neg c21] at H
 have c21b0 := beq_eq_false_iff_ne.mpr c21
 have c21b1 := bne_iff_ne.mpr c21
 by_cases c22 : t322 = 1
 {
 rw [if_pos c22] at H
 have c22b0 := beq_iff_eq.mpr c22
 have c22b1 := bne_eq_false_iff_eq.mpr c22
 clear c22
 exact absurd H (by simp)
 }
 {
 rw [if_neg c22] at H
 have c22b0 := beq_eq_false_iff_ne.mpr c22
 have c22b1 := bne_iff_ne.mpr c22
 by_cases c23 : t322 = 2
 {
 rw [if_pos c23] at H
 have c23b0 := beq_iff_eq.mpr c23
 have c23b1 := bne_eq_false_iff_eq.mpr c23
 clear c23
 by_cases c24 : 0 ≤ t319
 {
 rw [if_pos c24] at H
 have c24b0 := decide_eq_true c24
 clear c24
 by_cases c25 : t319 < (t315.length : Int)
 {
 rw [if_pos c25] at H
 have c25b0 := decide_eq_true c25
 clear c25
 obtain ⟨y326, hy326⟩ : ∃ y_ : List Int, y_ = (([0, 1, 1001] : List Int)) := ⟨_, rfl⟩
 replace H : ((spec_l1Int.f s0_0 t323 t324 y326).bind fun bt329 => ((spec_l1Below.f s0_0 bt329.2.1 bt329.2.2 3).bind fun bt332 => (if ((rd_T79 t315 t319).f2).length < 5864062014805 then (some ((t315.set (t319 : Int).toNat (⟨(rd_T79 t315 t319).f0, (rd_T79 t315 t319).f1, (((rd_T79 t315 t319).f2) ++ [(⟨9, bt329.1, bt332.1⟩ : S72)])⟩ : S79)), bt332.2.1, bt332.2.2)) else (none)))) = some (r1, r2, r3) := by first | (rw [hy326]; with_reducible exact H) | (have H2_ := (Option.bind_some _ _).symm.trans H; rw [hy326]; with_reducible exact H2_) | (have H2_ := (Option.bind_some _ _).symm.trans H; with_reducible exact H2_) | with_reducible exact H | (rw [hy326]; exact H) | exact H
 have Ny326 := aM hy326
 clear hy326
 replace H := Option.bind_eq_some_iff.mp H
 obtain ⟨⟨t329, t330, t331⟩, A260, H⟩ := H
 replace H : ((spec_l1Below.f s0_0 t330 t331 3).bind fun bt332 => (if ((rd_T79 t315 t319).f2).length < 5864062014805 then (some ((t315.set (t319 : Int).toNat (⟨(rd_T79 t315 t319).f0, (rd_T79 t315 t319).f1, (((rd_T79 t315 t319).f2) ++ [(⟨9, t329, bt332.1⟩ : S72)])⟩ : S79)), bt332.2.1, bt332.2.2)) else (none))) = some (r1, r2, r3) := H
 have A26 := aM A260
 clear A260
 replace H := Option.bind_eq_some_iff.mp H
 obtain ⟨⟨t332, t333, t334⟩, A270, H⟩ := H
 replace H : (if ((rd_T79 t315 t319).f2).length < 5864062014805 then (some ((t315.set (t319 : Int).toNat (⟨(rd_T79 t315 t319).f0, (rd_T79 t315 t319).f1, (((rd_T79 t315 t319).f2) ++ [(⟨9, t329, t332⟩ : S72)])⟩ : S79)), t333, t334)) else (none)) = some (r1, r2, r3) := H
 have A27 := aM A270
 clear A270
 by_cases c28 : ((rd_T79 t315 t319).f2).length < 5864062014805
 {
 rw [if_pos c28] at H
 have LMc28 := aM c28
 clear c28
 obtain ⟨y335, hy335⟩ : ∃ y_ : List (S72), y_ = (((rd_T79 t315 t319).f2) ++ [(⟨9, t329, t332⟩ : S72)]) := ⟨_, rfl⟩
 replace H : (some ((t315.set (t319 : Int).toNat (⟨(rd_T79 t315 t319).f0, (rd_T79 t315 t319).f1, y335⟩ : S79)), t333, t334)) = some (r1, r2, r3) := by first | (rw [hy335]; with_reducible exact H) | (have H2_ := (Option.bind_some _ _).symm.trans H; rw [hy335]; with_reducible exact H2_) | (have H2_ := (Option.bind_some _ _).symm.trans H; with_reducible exact H2_) | with_reducible exact H | (rw [hy335]; exact H) | exact H
 have Ny335 := aM hy335
 clear hy335
 obtain ⟨y338, hy338⟩ : ∃ y_ : List (S79), y_ = (t315.set (t319 : Int).toNat (⟨(rd_T79 t315 t319).f0, (rd_T79 t315 t319).f1, y335⟩ : S79)) := ⟨_, rfl⟩
 replace H : (some (y338, t333, t334)) = some (r1, r2, r3) := by first | (rw [hy338]; with_reducible exact H) | (have H2_ := (Option.bind_some _ _).symm.trans H; rw [hy338]; with_reducible exact H2_) | (have H2_ := (Option.bind_some _ _).symm.trans H; with_reducible exact H2_) | with_reducible exact H | (rw [hy338]; exact H) | exact H
 have Ny338 := aM hy338
 clear hy338
 simp only [Option.some.injEq, Prod.mk.injEq] at H
 obtain ⟨rfl, rfl, rfl⟩ := H
 go_enter Try.func103, Try.ntmps103
 try go_wp2_with (first | ((with_reducible refine gate_dst (N := 3) rfl ?_); refine bx_ 3 #[.slice A1_0 l1_0.length c1_0] 26 ?_; intro gb313 hg w30 hbox hb; replace HB := bS_ hb; have BK313 := aM (hbox); have GW313 := aM (kz_ w g hg qz2); have GE313 := aM ((Nat.le_trans HW0.out (by rw [hg]; exact (keep_size (w := w) (g := g) (row := none) qz2) : w.heap.size ≤ gb313) : w0.heap.size ≤ gb313)); replace HK := aM (KeepBut.trans qz2 (KeepBut.of_below hb g none) (.inl rfl)); have NB0_313 := aM ((by rw [hg]; exact Nat.ne_of_lt (IsS122.lt (show IsS122 w0 _ g s0_0 s0_1 s0_2 from qz3)) : g ≠ gb313)); have NB313_0 := aM ((by rw [hg]; exact Nat.ne_of_gt (IsS122.lt (show IsS122 w0 _ g s0_0 s0_1 s0_2 from qz3)) : gb313 ≠ g)); replace HI0 := aM (IsS122.below qz3 hb); clear hb hbox hg) | ((with_reducible refine gate_dst (N := 4) rfl ?_); refine bx_ 4 #[.slice none 0 0] 26 ?_; intro gb314 hg w31 hbox hb; replace HB := bS_ hb; have BK314 := aM (hbox); have GW314 := aM (kz_ w g hg qz2); have GE314 := aM ((Nat.le_trans HW0.out (by rw [hg]; exact (keep_size (w := w) (g := g) (row := none) qz2) : w.heap.size ≤ gb314) : w0.heap.size ≤ gb314)); replace HK := aM (KeepBut.trans qz2 (KeepBut.of_below hb g none) (.inl rfl)); obtain ⟨NB313_314, NB314_313⟩ := nb_ hg (bk_ BK313.out); replace BK313 := bB_ BK313 hb; have NB0_314 := aM ((by rw [hg]; exact Nat.ne_of_lt (IsS122.lt (show IsS122 w0 _ g s0_0 s0_1 s0_2 from qz3)) : g ≠ gb314)); have NB314_0 := aM ((by rw [hg]; exact Nat.ne_of_gt (IsS122.lt (show IsS122 w0 _ g s0_0 s0_1 s0_2 from qz3)) : gb314 ≠ g)); replace HI0 := aM (IsS122.below qz3 hb); clear hb hbox hg; have hnb32 := NB313_314.out; have hnc32 := NB314_313.out; have hnb33 := NB313_0.out; have hnc33 := NB0_313.out; obtain ⟨hcz34_0, hfz34_0⟩ := bf_ BK313.out) | ((with_reducible refine gate_callee (f := 62) rfl ?_); refine goesL_ (some 8) rfl rfl Try.func62 (by kernel_rfl) rfl #[.agg #[.slice A1_0 l1_0.length c1_0]] rfl qz4 ?_; (with_reducible refine (spec_l5Copy.calls k _ _ l1_0 t315 _ ?side1 ?side2 A3.out).mono ?_); (case side1 => exact Kd.C_foot_now HR1_0.out qz2); (case side2 => exact HC1_0.out); rintro e w35 ⟨v316, rfl, ho0, hb⟩; refine ⟨_, rfl, ?_⟩; have HO317 := aM (Kd.S_lower ho0 (keep_size (w := w) (g := g) (row := none) qz2)); replace BK313 := bB_ BK313 hb; replace BK314 := bB_ BK314 hb; replace HK := aM (KeepBut.trans qz2 (KeepBut.of_below hb g none) (.inl rfl)); replace HB := bS_ hb; replace HI0 := aM (IsS122.below qz3 hb); (try clear hb ho0)) | ((with_reducible refine gate_dst (N := 5) rfl ?_); refine bx_ 5 #[.slice none 0 0] 26 ?_; intro gb318 hg w36 hbox hb; replace HO317 := aM (Kd.S_below (rs_ HO317.out) hb); replace HB := bS_ hb; have BK318 := aM (hbox); have GW318 := aM (kz_ w g hg qz2); have GE318 := aM ((Nat.le_trans HW0.out (by rw [hg]; exact (keep_size (w := w) (g := g) (row := none) qz2) : w.heap.size ≤ gb318) : w0.heap.size ≤ gb318)); replace HK := aM (KeepBut.trans qz2 (KeepBut.of_below hb g none) (.inl rfl)); obtain ⟨NB313_318, NB318_313⟩ := nb_ hg (bk_ BK313.out); replace BK313 := bB_ BK313 hb; obtain ⟨NB314_318, NB318_314⟩ := nb_ hg (bk_ BK314.out); replace BK314 := bB_ BK314 hb; have NB0_318 := aM ((by rw [hg]; exact Nat.ne_of_lt (IsS122.lt (show IsS122 w0 _ g s0_0 s0_1 s0_2 from qz3)) : g ≠ gb318)); have NB318_0 := aM ((by rw [hg]; exact Nat.ne_of_gt (IsS122.lt (show IsS122 w0 _ g s0_0 s0_1 s0_2 from qz3)) : gb318 ≠ g)); replace HI0 := aM (IsS122.below qz3 hb); clear hb hbox hg; obtain ⟨Ao37, co37, eo37⟩ := Kd.S_slice HO317.out; subst eo37; have hnb38 := NB318_313.out; have hnc38 := NB313_318.out; have hnb39 := NB318_314.out; have hnc39 := NB314_318.out; have hnb40 := NB318_0.out; have hnc40 := NB0_318.out; obtain ⟨hcz41_0, hfz41_0⟩ := bf_ BK318.out) | ((with_reducible refine gate_callee (f := 105) rfl ?_); refine goesL_ (some 18) rfl rfl Try.func105 (by kernel_rfl) rfl #[.pointer (some ⟨g, 0, none⟩), .int .i64 (t315.length : Int)] rfl qz4 ?_; (with_reducible refine (spec_l1Below.calls g s0_0 s0_1 s0_2 (t315.length : Int) t319 t320 t321 w0 _ ?side1 ?side2 A19.out).mono ?_); (case side1 => exact qz3); (case side2 => exact qz1); rintro e w42 ⟨rfl, hi, hb, hk⟩; refine ⟨_, rfl, ?_⟩; replace BK313 := aM (KeepBut.blk hk (g' := gb313) (o := .cells #[.slice A1_0 l1_0.length c1_0] 26 (0, 0)) (bk2_ BK313.out) NB313_0.out (by simp)); replace BK314 := aM (KeepBut.blk hk (g' := gb314) (o := .cells #[.slice none 0 0] 26 (0, 0)) (bk2_ BK314.out) NB314_0.out (by simp)); replace HO317 := aM (Kd.S_mono (Kd.S_keep (IsS122.apartS (show IsS122 w0 _ g s0_0 s0_1 s0_2 from qz3) (by (with_reducible repeat (first | apply Kd.S_alloc | apply Kd.S_drewN | apply Kd.S_drew)); exact (Kd.S_mono (Kd.S_far (p := ⟨gb318, 0, none⟩) (Kd.S_types HO317.out BK318.out (by decide)) (fun _ hk => hk.2) (.slice Ao37 t315.length co37)) (fun _ h_ => h_.1))) (by decide)) hk (fun _ h => h.2)) (fun _ h => h.1)); replace BK318 := aM (KeepBut.blk hk (g' := gb318) (o := .cells #[.slice Ao37 t315.length co37] 26 (0, 0)) (by (with_reducible repeat (first | refine blk_drewN ?_ _ | refine blk_drew ?_ | refine blk_alloc ?_ _)); refine blk_put (cs := #[.slice none 0 0]) ?_ 0 _ rfl; exact bk_ BK318.out) NB318_0.out (by simp)); replace HK := aM (KeepBut.trans qz2 hk (.inl rfl)); replace HB := aM (hb); replace HI0 := aM (hi); (try clear hb hk hi)) | ((with_reducible refine gate_callee (f := 105) rfl ?_); refine goesL_ (some 20) rfl rfl Try.func105 (by kernel_rfl) rfl #[.pointer (some ⟨g, 0, none⟩), .int .i64 6] rfl qz4 ?_; (with_reducible refine (spec_l1Below.calls g s0_0 t320 t321 6 t322 t323 t324 w0 _ ?side1 ?side2 A20.out).mono ?_); (case side1 => exact qz3); (case side2 => exact qz1); rintro e w43 ⟨rfl, hi, hb, hk⟩; refine ⟨_, rfl, ?_⟩; replace BK313 := aM (KeepBut.blk hk (bk_ BK313.out) NB313_0.out (by simp)); replace BK314 := aM (KeepBut.blk hk (bk_ BK314.out) NB314_0.out (by simp)); replace HO317 := aM (Kd.S_mono (Kd.S_keep (IsS122.apartS (show IsS122 w0 _ g s0_0 t320 t321 from qz3) (rs_ HO317.out) (by decide)) hk (fun _ h => h.2)) (fun _ h => h.1)); replace BK318 := aM (KeepBut.blk hk (bk_ BK318.out) NB318_0.out (by simp)); replace HK := aM (KeepBut.trans qz2 hk (.inl rfl)); replace HB := aM (hb); replace HI0 := aM (hi); (try clear hb hk hi)))
 replace HO317 := aM (Kd.S_drew HO317.out)
 replace BK313 := aM (blk_drew BK313.out)
 replace BK314 := aM (blk_drew BK314.out)
 replace BK318 := aM (blk_drew BK318.out)
 replace HI0 := aM (IsS122.drew HI0.out)
 replace HK := aM (keep_drew HK.out)
 replace HB := aM (below_drew1 HB.out)
 have p325 : 0 ≤ (t319 : Int) := dt_
 have q325 : t319 < (t315.length : Int) := dt_
 obtain ⟨ad325, A325_2, c325_2, e325, hx325_0, hx325_1, hx325_2, hl325_2, hi325_2⟩ := at_T79 (Kd.S_reads' HO317.out).2.2 t319 p325 q325
 cases e325
 obtain ⟨ce325, hce325, hMe325, hcc325⟩ := Kd.S_get HO317.out z79 t319 p325 (by first | exact q325 | exact dt_ | (have e_ := (Kd.S_reads' HO317.out).1; omega))
 obtain ⟨ve325_2, rfl, ge325_2⟩ := k79_openM hMe325
 have hv325_2 := hcc325 2 _ rfl
 rw [add_field _ _ 2 (by omega)] at hv325_2
 replace hv325_2 := Option.some.inj (hv325_2.symm.trans hx325_2)
 rw [hv325_2] at ge325_2
 have HL325_2 := aM (show Kd.R k72 72 _ _ _ _ ((rd_T79 t315 t319).f2) from ge325_2)
 clear hv325_2 ge325_2
 have HX325_2 := aM hx325_2
 clear hcc325 hce325
 have HR325_2 := aM hi325_2
 have HC325_2 := aM hl325_2
 clear hi325_2 hl325_2
 replace p325 := eq_true p325
 replace q325 := eq_true q325
 refine start_ (n := 20) (S := fun w' => w'.cell? ⟨gb318, 0, none⟩ = some (.slice (some ad325) t315.length co37) ∧ w'.cell? (ad325.add ((t319).toNat * 3)) = some (.int .i64 ((rd_T79 t315 t319).f0)) ∧ w'.cell? ⟨(ad325.add ((t319).toNat * 3)).block, (ad325.add ((t319).toNat * 3)).off + 1, none⟩ = some (.int .i64 ((rd_T79 t315 t319).f1)) ∧ w'.cell? ⟨(ad325.add ((t319).toNat * 3)).block, (ad325.add ((t319).toNat * 3)).off + 2, none⟩ = some (.slice A325_2 ((rd_T79 t315 t319).f2).length c325_2)) (ds := [19]) #[false, false, false, false, false, false, false, false, false, false, false, false, false, false, false, false, false, false, false, false] (by kernel_rfl) rfl rfl ⟨(blk_cell BK318.out 0).trans rfl, hx325_0, hx325_1, hx325_2⟩ (fun hHeld => ?_); refine with_tabW spec_l5BendS.tab11 spec_l5BendS.bits11 (fun HT_ HW_ => ?_)
 generalize w43.drew = w44 at HO317 BK313 BK314 BK318 HI0 HK HB HL325_2 HR325_2 HX325_2 hx325_0 hx325_1 hx325_2 hHeld ⊢
 refine pI_ 0 43 (bqz 20 1) ?_
 refine jI_ 2 45 ?_
 refine jI_ 3 46 ?_
 refine jI_ 5 48 ?_
 refine jI_ 9 52 ?_
 refine jI_ 12 55 ?_
 refine sI4_ 1 44 ?_
 refine sI4_ 4 47 ?_
 refine jI_ 6 49 ?_
 refine jI_ 7 50 ?_
 refine sI4_ 8 51 ?_
 refine one_ (i := 10) (N := some 53) (bqz 20 6143) rfl rfl qzc (by decide) (fun K hK => ?_)
 refine Kd.R_lit_step (Kd.int .i64) _ 3 ?hg (N := 53) ?hd (xs := ([0, 1, 1001] : List Int)) (inner := [.int .i64 0, .int .i64 1, .int .i64 1001]) (ok := fun _ => True) (okp := fun _ => True) ?hr ?hp (fun _ hk => hk) trivial (Below.refl _ _) (Nat.le_refl _) (by simp) ?_; (case hd => rfl); (case hg => rfl); (case hr => exact qz23); (case hp => exact (Reps.one (show Kd.M (Kd.int .i64) _ _ _ 0 [.int .i64 0] from rfl) (Reps.one (show Kd.M (Kd.int .i64) _ _ _ 1 [.int .i64 1] from rfl) (Reps.one (show Kd.M (Kd.int .i64) _ _ _ 1001 [.int .i64 1001] from rfl) (Reps.none _ _)))))
 intro v327 w45 ho46 hb hg_ hnew_
 have HS1_ := (hb.cell (World.block_lt_of_cell? _ _ (hHeld.2.1))).trans (hHeld.2.1)
 have HS2_ := (hb.cell (World.block_lt_of_cell? _ _ (hHeld.2.2.1))).trans (hHeld.2.2.1)
 have HS3_ := (hb.cell (World.block_lt_of_cell? _ _ (hHeld.2.2.2))).trans (hHeld.2.2.2)
 clear hg_ hnew_
 (first | rw [← Ny326.out] at ho46 | (simp only [Int.reduceToNat] at ho46; rw [← Ny326.out] at ho46))
 replace HO317 := aM (Kd.S_below (rs_ HO317.out) hb)
 replace HL325_2 := aM (Kd.R_below (rr_ HL325_2.out) hb)
 have HO328 := aM (Kd.R_lower ho46 (keep_size (w := w) (g := g) (row := none) qz2))
 replace BK313 := bB_ BK313 hb
 replace BK314 := bB_ BK314 hb
 replace BK318 := bB_ BK318 hb
 replace HR325_2 := aM (Kd.C_below (by repeat (first | (with_reducible exact HR325_2.out) | (with_reducible refine Kd.C_alloc ?_ _) | (with_reducible refine Kd.C_drewN ?_ _) | (with_reducible refine Kd.C_drew ?_) | exact HR325_2.out)) hb)
 replace HX325_2 := aM (pw_cell_below hb HX325_2.out)
 replace HK := aM (KeepBut.trans qz2 (KeepBut.of_below hb g none) (.inl rfl))
 replace HB := bS_ hb
 replace HI0 := aM (IsS122.below qz3 hb)
 clear hb ho46
 obtain ⟨Ao47, co47, eo47⟩ := Kd.R_slice HO328.out
 (first | subst eo47 | (injection eo47 with f1_ f2_ f3_; have f4_ := f1_.symm; have f5_ := f3_.symm; clear f1_ f2_ f3_; subst f4_; subst f5_))
 refine hK.out _ _ ⟨(blk_cell BK318.out 0).trans rfl, HS1_, HS2_, HS3_⟩ (fun hHeld => ?_)
 clear hK K
 refine nm_ 53 ?_
 refine one_ (i := 11) (N := some 54) (bqz 20 8191) rfl rfl qzc (by decide) (fun K hK => ?_)
 refine goes_ Try.func92 (by kernel_rfl) rfl #[.pointer (some ⟨g, 0, none⟩), .slice Ao47 y326.length co47] (by rfl) rfl rfl qz4 ?_
 with_reducible refine (spec_l1Int.calls g s0_0 t323 t324 _ _ y326 t329 t330 t331 w0 _ ?side1 ?side2 ?side3 ?side4 ?side5 A26.out).mono ?_
 (case side1 => exact qz3)
 (case side2 => exact qz1)
 (case side3 => repeat (first | exact (Kd.R_reads' HO328.out).2.2 | (with_reducible refine Kd.C_alloc ?_ _) | (with_reducible refine Kd.C_drewN ?_ _) | (with_reducible refine Kd.C_drew ?_)))
 (case side4 => exact (Kd.R_reads' HO328.out).2.1)
 (case side5 => exact far_slice (IsS122.own_ne HI0.out HO328.out (by decide)))
 rintro e w48 ⟨rfl, hi, hb, hk⟩
 have HS1_ := keep_cell hk (hHeld.2.1) qz7
 have HS2_ := keep_cell hk (hHeld.2.2.1) qz7
 have HS3_ := keep_cell hk (hHeld.2.2.2) qz7
 refine ⟨_, rfl, ?_⟩
 replace BK313 := aM (KeepBut.blk hk (bk_ BK313.out) NB313_0.out (by simp))
 replace BK314 := aM (KeepBut.blk hk (bk_ BK314.out) NB314_0.out (by simp))
 replace BK318 := aM (KeepBut.blk hk (bk_ BK318.out) NB318_0.out (by simp))
 replace HL325_2 := aM (Kd.R_mono (Kd.R_keep (IsS122.apart (show IsS122 w0 _ g s0_0 t323 t324 from qz3) (rr_ HL325_2.out) (by decide)) hk (fun _ h => h.2)) (fun _ h => h.1))
 replace HX325_2 := aM (keep_cell hk HX325_2.out qz44)
 replace HO317 := aM (Kd.S_mono (Kd.S_keep (IsS122.apartS (show IsS122 w0 _ g s0_0 t323 t324 from qz3) (rs_ HO317.out) (by decide)) hk (fun _ h => h.2)) (fun _ h => h.1))
 replace HO328 := aM (Kd.R_mono (Kd.R_keep (IsS122.apart (show IsS122 w0 _ g s0_0 t323 t324 from qz3) (rr_ HO328.out) (by decide)) hk (fun _ h => h.2)) (fun _ h => h.1))
 replace HK := aM (KeepBut.trans qz2 hk (.inl rfl))
 replace HB := aM (hb)
 replace HI0 := aM (hi)
 (try clear hb)
 (try clear hb2)
 (try clear hk)
 (try clear hi)
 refine hK.out _ _ ⟨(blk_cell BK318.out 0).trans rfl, HS1_, HS2_, HS3_⟩ (fun hHeld => ?_)
 clear hK K
 refine nm_ 54 ?_
 refine one_ (i := 13) (N := some 56) (bqz 20 16383) rfl rfl qzc (by decide) (fun K hK => ?_)
 refine goes_ Try.func105 (by kernel_rfl) rfl #[.pointer (some ⟨g, 0, none⟩), .int .i64 3] (by rfl) rfl rfl qz4 ?_
 with_reducible refine (spec_l1Below.calls g s0_0 t330 t331 3 t332 t333 t334 w0 _ ?side1 ?side2 A27.out).mono ?_
 (case side1 => exact qz3)
 (case side2 => exact qz1)
 rintro e w49 ⟨rfl, hi, hb, hk⟩
 have HS1_ := keep_cell hk (hHeld.2.1) qz7
 have HS2_ := keep_cell hk (hHeld.2.2.1) qz7
 have HS3_ := keep_cell hk (hHeld.2.2.2) qz7
 refine ⟨_, rfl, ?_⟩
 replace BK313 := aM (KeepBut.blk hk (bk_ BK313.out) NB313_0.out (by simp))
 replace BK314 := aM (KeepBut.blk hk (bk_ BK314.out) NB314_0.out (by simp))
 replace BK318 := aM (KeepBut.blk hk (bk_ BK318.out) NB318_0.out (by simp))
 replace HL325_2 := aM (Kd.R_mono (Kd.R_keep (IsS122.apart (show IsS122 w0 _ g s0_0 t330 t331 from qz3) (rr_ HL325_2.out) (by decide)) hk (fun _ h => h.2)) (fun _ h => h.1))
 replace HX325_2 := aM (keep_cell hk HX325_2.out qz44)
 replace HO317 := aM (Kd.S_mono (Kd.S_keep (IsS122.apartS (show IsS122 w0 _ g s0_0 t330 t331 from qz3) (rs_ HO317.out) (by decide)) hk (fun _ h => h.2)) (fun _ h => h.1))
 replace HO328 := aM (Kd.R_mono (Kd.R_keep (IsS122.apart (show IsS122 w0 _ g s0_0 t330 t331 from qz3) (rr_ HO328.out) (by decide)) hk (fun _ h => h.2)) (fun _ h => h.1))
 replace HK := aM (KeepBut.trans qz2 hk (.inl rfl))
 replace HB := aM (hb)
 replace HI0 := aM (hi)
 (try clear hb)
 (try clear hb2)
 (try clear hk)
 (try clear hi)
 obtain ⟨go50, co50, eo50, gb50, gl50, cl50, HG50⟩ := Kd.S_form HO317.out (by have h_ : (t319 : Int) < ((t315.length : Int) : Int) := dt_; have h2_ : 0 ≤ (t319 : Int) := (dt_); omega)
 (first | cases eo50 | (injection eo50 with ea_ en_ ec_; (first | subst ea_ | (injection ea_ with ea_; subst ea_)); subst ec_; clear en_))
 have GB50 := aM gb50
 have GG50 := aM HG50
 clear gb50 gl50 HG50
 (first | simp only [add_plain] at hx325_0 | skip)
 (first | simp only [add_plain] at hx325_1 | skip)
 (first | simp only [add_plain] at hx325_2 | skip)
 obtain ⟨oki50, ce50, hcl50, hM50, hcc50, _, _, hH50⟩ := Kd.S_elem HO317.out z79 (t319 : Int) (dt_) (by have h_ : (t319 : Int) < ((t315.length : Int) : Int) := dt_; first | exact h_ | (have e_ := (Kd.S_reads' HO317.out).1; omega) | simpa using h_)
 obtain ⟨ve50_2, rfl, ge50_2⟩ := k79_openM hM50
 have hv50 := hcc50 2 _ rfl
 have hX50 := HX325_2.out
 (try simp only [add_plain] at hX50)
 (try simp only [Nat.add_zero] at hv50)
 replace hv50 := Option.some.inj (hv50.symm.trans hX50)
 subst hv50
 clear hX50 hcc50 hcl50
 have UU50 := aM (show Kd.R k72 72 _ w.heap.size oki50 (.slice A325_2 ((rd_T79 t315 t319).f2).length c325_2) ((rd_T79 t315 t319).f2) from ge50_2)
 have HH50 := aM hH50
 have HN50 := aM (Kd.S_reads' HO317.out).1
 clear hH50 ge50_2
 refine hK.out _ _ ⟨(blk_cell BK318.out 0).trans rfl, HS1_, HS2_, HS3_⟩ (fun hHeld => ?_)
 clear hK K
 refine nm_ 56 ?_
 refine pI_ 14 57 (bqz 20 32767) ?_
 refine one_ (i := 15) (N := some 58) (bqz 20 65535) rfl rfl qzc (by decide) (fun K hK => ?_)
 refine value_ (w1 := ?_) (v := ?_) (by rfl) rfl ?_ ?_
 rotate_left 2
 {
 go_simp
 constructor
 {
 rfl
 }
 {
 rfl
 }
 }
 refine hK.out _ _ ⟨(blk_cell (blk_alloc BK318.out _) 0).trans rfl, (World.cell?_alloc_lt _ _ _ (World.block_lt_of_cell? _ _ (hHeld.2.1))).trans (hHeld.2.1), (World.cell?_alloc_lt _ _ _ (World.block_lt_of_cell? _ _ (hHeld.2.2.1))).trans (hHeld.2.2.1), (World.cell?_alloc_lt _ _ _ (World.block_lt_of_cell? _ _ (hHeld.2.2.2))).trans (hHeld.2.2.2)⟩ (fun hHeld => ?_)
 clear hK K
 refine nm_ 58 ?_
 refine one_ (i := 16) (N := some 59) (bqz 20 131071) rfl rfl qzc (by decide) (fun K hK => ?_)
 refine Kd.R_append_step k72 w.heap.size (by rfl) (.tmp 51) (.tmp 58) 77 72 (.agg #[(.int .i64 0), (.int .i64 0), (.int .i64 0)]) 24 rfl Try.underlying77 info72 rfl (by decide) (by omega) (.slice A325_2 ((rd_T79 t315 t319).f2).length c325_2) ((rd_T79 t315 t319).f2) (⟨9, t329, t332⟩ : S72) [.int .i64 9, .int .i64 t329, .int .i64 t332] (fun k_ => oki50 k_ ∨ ((fun _ => True)) k_ ∧ w49.heap.size ≤ k_) (fun _ => False) rfl rfl ?aP (fun _ hk => hk.elim) ?aF ?aO (Below.refl _ _) ?aS ?aL ?_
 (case aP => exact k72_mkM _ _ _ (⟨9, t329, t332⟩ : S72))
 (case aF => exact (fun k_ hk => .inr ⟨trivial, hk⟩))
 (case aO => exact (by (with_reducible repeat (first | apply Kd.R_alloc | apply Kd.R_drewN | apply Kd.R_drew)); exact Kd.R_mono UU50.out (fun _ hk => .inl hk)))
 (case aS => exact (keep_size (w := w) (g := g) (row := none) qz2))
 (case aL => have := LMc28.out; omega)
 intro v336 w51 ho hb hg hat
 (first | have HS1_ := cell_grown hg (hHeld.2.1) qz9 | have HS1_ := cell_grown hg (cell_unalloc (hHeld.2.1) qz37) qz9)
 (first | have HS2_ := cell_grown hg (hHeld.2.2.1) qz9 | have HS2_ := cell_grown hg (cell_unalloc (hHeld.2.2.1) qz37) qz9)
 (first | have HS3_ := cell_grown hg (hHeld.2.2.2) qz9 | have HS3_ := cell_grown hg (cell_unalloc (hHeld.2.2.2) qz37) qz9)
 rw [← Ny335.out] at ho
 replace BK313 := aM (blk_grown (bk_ BK313.out) hg (Kd.R_ne HL325_2.out BK313.out (by decide)))
 replace BK314 := aM (blk_grown (bk_ BK314.out) hg (Kd.R_ne HL325_2.out BK314.out (by decide)))
 replace BK318 := aM (blk_grown (bk_ BK318.out) hg (Kd.R_ne HL325_2.out BK318.out (by decide)))
 replace HO328 := aM (Kd.R_over' (v := (.slice A325_2 ((rd_T79 t315 t319).f2).length c325_2)) (rr_ HO328.out) (Kd.R_typed HL325_2.out) (by decide) hg)
 replace HB := aM (below_weaken qz1 HL.out hb)
 replace HI0 := aM (IsS122.grown qz3 hg (IsS122.own_ne HI0.out HL325_2.out (by decide)))
 replace HK := aM (KeepBut.trans qz2 (KeepBut.of_grown hg g) (Kd.R_base2 HL325_2.out))
 replace HH50 := aM (Kd.H_grown (Kd.H_widen (by repeat (first | exact HH50.out | refine Kd.H_alloc ?_ _ | refine Kd.H_drewN ?_ _ | refine Kd.H_drew ?_))) hg (fun k_ e_ => .inl (UU50.out.1 k_ e_)))
 have HO337 := aM (ho)
 clear HO317 UU50 HL325_2 ho hb hg hat
 have p29 : 0 ≤ (t319 : Int) := dt_
 have q29 : (t319 : Int) < ((t315.length : Int) : Int) := dt_
 replace p29 := eq_true p29
 replace q29 := eq_true q29
 obtain ⟨Ao54, co54, eo54⟩ := Kd.R_slice HO337.out
 (first | subst eo54 | (injection eo54 with f1_ f2_ f3_; have f4_ := f1_.symm; have f5_ := f3_.symm; clear f1_ f2_ f3_; subst f4_; subst f5_))
 obtain ⟨_, _, hraw52, _, _, hcc52, _⟩ := Kd.H_raw HH50.out (dt_) (by have h_ : (t319 : Int) < ((t315.length : Int) : Int) := dt_; first | exact h_ | (have e_ := (HN50.out); omega) | simpa using h_)
 obtain ⟨_, hfr52⟩ := Kd.H_at HH50.out (dt_) (by have h_ : (t319 : Int) < ((t315.length : Int) : Int) := dt_; first | exact h_ | (have e_ := (HN50.out); omega) | simpa using h_)
 have hx52_0 := hcc52 2 _ rfl
 have hf52_0 := hfr52 2
 (try rw [show (k79).sz = 3 from rfl] at hx52_0)
 (try rw [show (k79).sz = 3 from rfl] at hf52_0)
 have HP52 := Kd.S_seg0 HH50.out (dt_) (by have h_ : (t319 : Int) < ((t315.length : Int) : Int) := dt_; first | exact h_ | (have e_ := (HN50.out); omega) | simpa using h_) (seg := [.slice Ao54 y335.length co54]) (j := 2) (show 3 ≤ 3 from by decide) (x' := (⟨(rd_T79 t315 t319).f0, (rd_T79 t315 t319).f1, y335⟩ : S79)) (k79_mkM _ _ _ (⟨(rd_T79 t315 t319).f0, (rd_T79 t315 t319).f1, y335⟩ : S79) HO337.out) (fun _ hk => hk)
 clear hcc52 hfr52
 have HN0_go50 := aM (show g ≠ go50 from by have h_ := IsS122.own_ne HI0.out hraw52 (by decide); intro e_; exact h_ (by rw [e_]; rfl))
 have HNB313_go50 := aM (show gb313 ≠ go50 from by have h_ := Kd.R_ne hraw52 BK313.out (by decide); intro e_; exact h_ (by rw [e_]; rfl))
 have HNB314_go50 := aM (show gb314 ≠ go50 from by have h_ := Kd.R_ne hraw52 BK314.out (by decide); intro e_; exact h_ (by rw [e_]; rfl))
 have HNB318_go50 := aM (show gb318 ≠ go50 from by have h_ := Kd.R_ne hraw52 BK318.out (by decide); intro e_; exact h_ (by rw [e_]; rfl))
 have HS52 := HP52.1
 rw [← Ny338.out] at HS52
 have HQ52 := aM HS52
 obtain ⟨_, hgg52⟩ := Kd.R_typed hraw52 go50 rfl
 have GG52_ := aM hgg52
 clear HP52 HS52 hgg52
 refine hK.out _ _ ⟨(blk_cell BK318.out 0).trans rfl, HS1_, HS2_, HS3_⟩ (fun hHeld => ?_)
 clear hK K
 refine nm_ 59 ?_
 refine pI_ 17 60 (bqz 20 262143) ?_
 refine jI_ 18 61 ?_
 refine last_ (i := 19) (N := none) (bqz 20 1048575) rfl rfl qzc (by decide) (fun K hK => ?_)
 refine sk_ ?_
 refine hK.out _ _ ?_
 clear hK K
 refine done_ (done_of HT_.out (by kernel_rfl)) ?_
 generalize hq_ : (w51.setCell ⟨go50, (t319 : Int).toNat * 3 + 2, none⟩ (.slice Ao54 y335.length co54)) = w55
 replace HO328 : Aside0 (Kd.R (Kd.int .i64) 3 w55 w.heap.size (fun _ => True) (.slice Ao47 y326.length co47) y326) := ⟨by rw [← hq_]; exact (by (with_reducible repeat (first | apply Kd.R_alloc | apply Kd.R_drewN | apply Kd.R_drew)); exact Kd.R_mono (Kd.R_far (p := ⟨go50, (t319 : Int).toNat * 3 + 2, none⟩) (Kd.R_types HO328.out GG52_.out (by decide)) (fun _ hk => hk.2) (.slice Ao54 y335.length co54)) (fun _ hk => trivial))⟩
 replace HO317 : Aside0 (Kd.S k79 79 w55 w.heap.size (fun _ => True) (.slice (some ⟨go50, 0, none⟩) t315.length co37) y338) := ⟨by rw [← hq_]; exact (rs_ HQ52.out)⟩
 replace BK313 : Aside0 (w55.heap[gb313]? = some (.cells #[.slice A1_0 l1_0.length c1_0] 26 (0, 0))) := ⟨by rw [← hq_]; exact (bk2_ BK313.out)⟩
 replace BK314 : Aside0 (w55.heap[gb314]? = some (.cells #[.slice none 0 0] 26 (0, 0))) := ⟨by rw [← hq_]; exact (bk2_ BK314.out)⟩
 replace BK318 : Aside0 (w55.heap[gb318]? = some (.cells #[.slice (some ⟨go50, 0, none⟩) t315.length co37] 26 (0, 0))) := ⟨by rw [← hq_]; exact (bk2_ BK318.out)⟩
 replace HK : Aside0 (KeepBut w w55 g none) := ⟨by rw [← hq_]; exact qz2⟩
 replace HB : Aside0 (Below w0.heap.size w0 w55) := ⟨by rw [← hq_]; exact qz1⟩
 replace HI0 : Aside0 (IsS122 w0 w55 g s0_0 t333 t334) := ⟨by rw [← hq_]; exact qz3⟩
 clear hq_
 obtain ⟨hcz56_0, hfz56_0⟩ := bf_ BK318.out
 have hnb57 := NB314_0.out
 have hnc57 := NB0_314.out
 obtain ⟨hcz58_0, hfz58_0⟩ := bf_ BK314.out
 try go_wp2
 refine bodyPost_ret (results_cell_row rfl _ _ gb314 26 #[.slice (some ⟨go50, 0, none⟩) t315.length co37] (0, 0) _ rfl (by (with_reducible repeat (first | refine blk_drewN ?_ _ | refine blk_drew ?_ | refine blk_alloc ?_ _)); refine blk_put (cs := #[.slice none 0 0]) ?_ 0 _ rfl; exact bk_ BK314.out) Try.underlying26 rfl (by kernel_rfl)) rfl ?_
 exact ⟨_, qzw, by (with_reducible repeat (first | apply Kd.S_alloc | apply Kd.S_drewN | apply Kd.S_drew)); exact Kd.S_mono (Kd.S_far (p := ⟨gb314, 0, none⟩) (Kd.S_types HO317.out BK314.out (by decide)) (fun _ hk => hk.2) (.slice (some ⟨go50, 0, none⟩) t315.length co37)) (fun _ hk => trivial), qz3, qz1, qz2⟩
 }
 {
 exact an_ c28 H
 }
 }
 {
 exact an_ c25 H
 }
 }
 {
 exact an_ c24 H
 }
 }
 {
 rw [if_neg c23] at H
 have c23b0 := beq_eq_false_iff_ne.mpr c23
 have c23b1 := bne_iff_ne.mpr c23
 by_cases c59 : t322 = 3
 {
 rw [if_pos c59] at H
 have c59b0 := beq_iff_eq.mpr c59
 have c59b1 := bne_eq_false_iff_eq.mpr c59
 clear c59
 by_cases c60 : 0 < (t315.length : Int)
 {
 rw [if_pos c60] at H
 have c60b0 := decide_eq_true c60
 have c60b1 : decide (0 < t315.length) = true := decide_eq_true (by omega)
 clear c60
 exact absurd H (by simp)
 }
 {
 exact an_ c60 H
 }
 }
 {
 rw [if_neg c59] at H
 have c59b0 := beq_eq_false_iff_ne.mpr c59
 have c59b1 := bne_iff_ne.mpr c59
 simp only [Option.some.injEq, Prod.mk.injEq] at H
 obtain ⟨rfl, rfl, rfl⟩ := H
 go_enter Try.func103, Try.ntmps103
 go_wp2_with (first | ((with_reducible refine gate_dst (N := 3) rfl ?_); refine bx_ 3 #[.slice A1_0 l1_0.length c1_0] 26 ?_; intro gb313 hg w61 hbox hb; replace HB := bS_ hb; have BK313 := aM (hbox); have GW313 := aM (kz_ w g hg qz2); have GE313 := aM ((Nat.le_trans HW0.out (by rw [hg]; exact (keep_size (w := w) (g := g) (row := none) qz2) : w.heap.size ≤ gb313) : w0.heap.size ≤ gb313)); replace HK := aM (KeepBut.trans qz2 (KeepBut.of_below hb g none) (.inl rfl)); have NB0_313 := aM ((by rw [hg]; exact Nat.ne_of_lt (IsS122.lt (show IsS122 w0 _ g s0_0 s0_1 s0_2 from qz3)) : g ≠ gb313)); have NB313_0 := aM ((by rw [hg]; exact Nat.ne_of_gt (IsS122.lt (show IsS122 w0 _ g s0_0 s0_1 s0_2 from qz3)) : gb313 ≠ g)); replace HI0 := aM (IsS122.below qz3 hb); clear hb hbox hg) | ((with_reducible refine gate_dst (N := 4) rfl ?_); refine bx_ 4 #[.slice none 0 0] 26 ?_; intro gb314 hg w62 hbox hb; replace HB := bS_ hb; have BK314 := aM (hbox); have GW314 := aM (kz_ w g hg qz2); have GE314 := aM ((Nat.le_trans HW0.out (by rw [hg]; exact (keep_size (w := w) (g := g) (row := none) qz2) : w.heap.size ≤ gb314) : w0.heap.size ≤ gb314)); replace HK := aM (KeepBut.trans qz2 (KeepBut.of_below hb g none) (.inl rfl)); obtain ⟨NB313_314, NB314_313⟩ := nb_ hg (bk_ BK313.out); replace BK313 := bB_ BK313 hb; have NB0_314 := aM ((by rw [hg]; exact Nat.ne_of_lt (IsS122.lt (show IsS122 w0 _ g s0_0 s0_1 s0_2 from qz3)) : g ≠ gb314)); have NB314_0 := aM ((by rw [hg]; exact Nat.ne_of_gt (IsS122.lt (show IsS122 w0 _ g s0_0 s0_1 s0_2 from qz3)) : gb314 ≠ g)); replace HI0 := aM (IsS122.below qz3 hb); clear hb hbox hg; have hnb63 := NB313_314.out; have hnc63 := NB314_313.out; have hnb64 := NB313_0.out; have hnc64 := NB0_313.out; obtain ⟨hcz65_0, hfz65_0⟩ := bf_ BK313.out) | ((with_reducible refine gate_callee (f := 62) rfl ?_); refine goesL_ (some 8) rfl rfl Try.func62 (by kernel_rfl) rfl #[.agg #[.slice A1_0 l1_0.length c1_0]] rfl qz4 ?_; (with_reducible refine (spec_l5Copy.calls k _ _ l1_0 t315 _ ?side1 ?side2 A3.out).mono ?_); (case side1 => exact Kd.C_foot_now HR1_0.out qz2); (case side2 => exact HC1_0.out); rintro e w66 ⟨v316, rfl, ho0, hb⟩; refine ⟨_, rfl, ?_⟩; have HO317 := aM (Kd.S_lower ho0 (keep_size (w := w) (g := g) (row := none) qz2)); replace BK313 := bB_ BK313 hb; replace BK314 := bB_ BK314 hb; replace HK := aM (KeepBut.trans qz2 (KeepBut.of_below hb g none) (.inl rfl)); replace HB := bS_ hb; replace HI0 := aM (IsS122.below qz3 hb); (try clear hb ho0)) | ((with_reducible refine gate_dst (N := 5) rfl ?_); refine bx_ 5 #[.slice none 0 0] 26 ?_; intro gb318 hg w67 hbox hb; replace HO317 := aM (Kd.S_below (rs_ HO317.out) hb); replace HB := bS_ hb; have BK318 := aM (hbox); have GW318 := aM (kz_ w g hg qz2); have GE318 := aM ((Nat.le_trans HW0.out (by rw [hg]; exact (keep_size (w := w) (g := g) (row := none) qz2) : w.heap.size ≤ gb318) : w0.heap.size ≤ gb318)); replace HK := aM (KeepBut.trans qz2 (KeepBut.of_below hb g none) (.inl rfl)); obtain ⟨NB313_318, NB318_313⟩ := nb_ hg (bk_ BK313.out); replace BK313 := bB_ BK313 hb; obtain ⟨NB314_318, NB318_314⟩ := nb_ hg (bk_ BK314.out); replace BK314 := bB_ BK314 hb; have NB0_318 := aM ((by rw [hg]; exact Nat.ne_of_lt (IsS122.lt (show IsS122 w0 _ g s0_0 s0_1 s0_2 from qz3)) : g ≠ gb318)); have NB318_0 := aM ((by rw [hg]; exact Nat.ne_of_gt (IsS122.lt (show IsS122 w0 _ g s0_0 s0_1 s0_2 from qz3)) : gb318 ≠ g)); replace HI0 := aM (IsS122.below qz3 hb); clear hb hbox hg; obtain ⟨Ao68, co68, eo68⟩ := Kd.S_slice HO317.out; subst eo68; have hnb69 := NB318_313.out; have hnc69 := NB313_318.out; have hnb70 := NB318_314.out; have hnc70 := NB314_318.out; have hnb71 := NB318_0.out; have hnc71 := NB0_318.out; obtain ⟨hcz72_0, hfz72_0⟩ := bf_ BK318.out) | ((with_reducible refine gate_callee (f := 105) rfl ?_); refine goesL_ (some 18) rfl rfl Try.func105 (by kernel_rfl) rfl #[.pointer (some ⟨g, 0, none⟩), .int .i64 (t315.length : Int)] rfl qz4 ?_; (with_reducible refine (spec_l1Below.calls g s0_0 s0_1 s0_2 (t315.length : Int) t319 t320 t321 w0 _ ?side1 ?side2 A19.out).mono ?_); (case side1 => exact qz3); (case side2 => exact qz1); rintro e w73 ⟨rfl, hi, hb, hk⟩; refine ⟨_, rfl, ?_⟩; replace BK313 := aM (KeepBut.blk hk (g' := gb313) (o := .cells #[.slice A1_0 l1_0.length c1_0] 26 (0, 0)) (bk2_ BK313.out) NB313_0.out (by simp)); replace BK314 := aM (KeepBut.blk hk (g' := gb314) (o := .cells #[.slice none 0 0] 26 (0, 0)) (bk2_ BK314.out) NB314_0.out (by simp)); replace HO317 := aM (Kd.S_mono (Kd.S_keep (IsS122.apartS (show IsS122 w0 _ g s0_0 s0_1 s0_2 from qz3) (by (with_reducible repeat (first | apply Kd.S_alloc | apply Kd.S_drewN | apply Kd.S_drew)); exact (Kd.S_mono (Kd.S_far (p := ⟨gb318, 0, none⟩) (Kd.S_types HO317.out BK318.out (by decide)) (fun _ hk => hk.2) (.slice Ao68 t315.length co68)) (fun _ h_ => h_.1))) (by decide)) hk (fun _ h => h.2)) (fun _ h => h.1)); replace BK318 := aM (KeepBut.blk hk (g' := gb318) (o := .cells #[.slice Ao68 t315.length co68] 26 (0, 0)) (by (with_reducible repeat (first | refine blk_drewN ?_ _ | refine blk_drew ?_ | refine blk_alloc ?_ _)); refine blk_put (cs := #[.slice none 0 0]) ?_ 0 _ rfl; exact bk_ BK318.out) NB318_0.out (by simp)); replace HK := aM (KeepBut.trans qz2 hk (.inl rfl)); replace HB := aM (hb); replace HI0 := aM (hi); (try clear hb hk hi)) | ((with_reducible refine gate_callee (f := 105) rfl ?_); refine goesL_ (some 20) rfl rfl Try.func105 (by kernel_rfl) rfl #[.pointer (some ⟨g, 0, none⟩), .int .i64 6] rfl qz4 ?_; (with_reducible refine (spec_l1Below.calls g s0_0 t320 t321 6 t322 t323 t324 w0 _ ?side1 ?side2 A20.out).mono ?_); (case side1 => exact qz3); (case side2 => exact qz1); rintro e w74 ⟨rfl, hi, hb, hk⟩; refine ⟨_, rfl, ?_⟩; replace BK313 := aM (KeepBut.blk hk (bk_ BK313.out) NB313_0.out (by simp)); replace BK314 := aM (KeepBut.blk hk (bk_ BK314.out) NB314_0.out (by simp)); replace HO317 := aM (Kd.S_mono (Kd.S_keep (IsS122.apartS (show IsS122 w0 _ g s0_0 t320 t321 from qz3) (rs_ HO317.out) (by decide)) hk (fun _ h => h.2)) (fun _ h => h.1)); replace BK318 := aM (KeepBut.blk hk (bk_ BK318.out) NB318_0.out (by simp)); replace HK := aM (KeepBut.trans qz2 hk (.inl rfl)); replace HB := aM (hb); replace HI0 := aM (hi); (try clear hb hk hi); obtain ⟨hcz75_0, hfz75_0⟩ := bf_ BK318.out; have hnb76 := NB314_0.out; have hnc76 := NB0_314.out; obtain ⟨hcz77_0, hfz77_0⟩ := bf_ BK314.out))
 refine bodyPost_ret (results_cell_row rfl _ _ gb314 26 #[.slice Ao68 t315.length co68] (0, 0) _ rfl (by (with_reducible repeat (first | refine blk_drewN ?_ _ | refine blk_drew ?_ | refine blk_alloc ?_ _)); refine blk_put (cs := #[.slice none 0 0]) ?_ 0 _ rfl; exact bk_ BK314.out) Try.underlying26 rfl (by kernel_rfl)) rfl ?_
 exact ⟨_, qzw, by (with_reducible repeat (first | apply Kd.S_alloc | apply Kd.S_drewN | apply Kd.S_drew)); exact Kd.S_mono (Kd.S_far (p := ⟨gb314, 0, none⟩) (Kd.S_types HO317.out BK314.out (by decide)) (fun _ hk => hk.2) (.slice Ao68 t315.length co68)) (fun _ hk => trivial), qz3, qz1, qz2⟩

 }
 }
 }
 }
 }
/-! ### spec_l5Bend: function 103, told out of the two -/
def spec_l5Bend.f (k : Nat) (s0_0 : List Int) (s0_1 : Int) (s0_2 : Int) (l1_0 : List (S79)) : Option ((List (S79)) × Int × Int) := (spec_l5Copy.f k l1_0).bind fun t315 => (if (t315.length : Int) = 0 then (some (t315, s0_1, s0_2)) else ((spec_l1Below.f s0_0 s0_1 s0_2 (t315.length : Int)).bind fun bt319 => ((spec_l1Below.f s0_0 bt319.2.1 bt319.2.2 6).bind fun bt322 => (if bt322.1 = 0 then ((spec_l1Int.f s0_0 bt322.2.1 bt322.2.2 (([0, 1000, 10] : List Int))).bind fun bt328 => (if 0 ≤ bt319.1 then (if bt319.1 < (t315.length : Int) then (some ((t315.set (bt319.1 : Int).toNat (⟨bt328.1, (rd_T79 t315 bt319.1).f1, (rd_T79 t315 bt319.1).f2⟩ : S79)), bt328.2.1, bt328.2.2)) else (none)) else (none))) else (if bt322.1 = 1 then ((spec_l1Int.f s0_0 bt322.2.1 bt322.2.2 (([(-1), 100, 19] : List Int))).bind fun bt335 => (if 0 ≤ bt319.1 then (if bt319.1 < (t315.length : Int) then (some ((t315.set (bt319.1 : Int).toNat (⟨(rd_T79 t315 bt319.1).f0, bt335.1, (rd_T79 t315 bt319.1).f2⟩ : S79)), bt335.2.1, bt335.2.2)) else (none)) else (none))) else (if bt322.1 = 2 then (if 0 ≤ bt319.1 then (if bt319.1 < (t315.length : Int) then ((spec_l1Int.f s0_0 bt322.2.1 bt322.2.2 (([0, 1, 1001] : List Int))).bind fun bt343 => ((spec_l1Below.f s0_0 bt343.2.1 bt343.2.2 3).bind fun bt346 => (if ((rd_T79 t315 bt319.1).f2).length < 5864062014805 then (some ((t315.set (bt319.1 : Int).toNat (⟨(rd_T79 t315 bt319.1).f0, (rd_T79 t315 bt319.1).f1, (((rd_T79 t315 bt319.1).f2) ++ [(⟨9, bt343.1, bt346.1⟩ : S72)])⟩ : S79)), bt346.2.1, bt346.2.2)) else (none)))) else (none)) else (none)) else (if bt322.1 = 3 then (if 0 < (t315.length : Int) then (if t315.length < 3518437208883 then (some ((t315 ++ [(⟨(rd_T79 t315 0).f0, (rd_T79 t315 0).f1, (rd_T79 t315 0).f2⟩ : S79)]), bt322.2.1, bt322.2.2)) else (none)) else (none)) else (some (t315, bt322.2.1, bt322.2.2)))))))))
theorem spec_l5Bend.mono : ∀ a0 a1 a2 a3 k, LeO (spec_l5Bend.f k a0 a1 a2 a3) (spec_l5Bend.f (k + 1) a0 a1 a2 a3) := by
 intro a0 a1 a2 a3 k
 unfold spec_l5Bend.f
 have j0 := @spec_l5Copy.mono
 exact qL
theorem spec_l5Bend.or (k : Nat) (s0_0 : List Int) (s0_1 : Int) (s0_2 : Int) (l1_0 : List (S79)) (r : (List (S79)) × Int × Int) (h : spec_l5Bend.f k s0_0 s0_1 s0_2 l1_0 = some r) : spec_l5BendS.f k s0_0 s0_1 s0_2 l1_0 = some r ∨ spec_l5BendN.f k s0_0 s0_1 s0_2 l1_0 = some r := by
 unfold spec_l5Bend.f at h
 unfold spec_l5BendS.f spec_l5BendN.f
 obtain ⟨t1, h1, h⟩ := Option.bind_eq_some_iff.mp h
 rw [h1]
 simp only [Option.bind_some]
 by_cases c1 : (t1.length : Int) = 0
 {
 rw [if_pos c1] at h; rw [if_pos c1, if_pos c1]; exact .inr h
 }
 {
 rw [if_neg c1] at h; rw [if_neg c1, if_neg c1]
 obtain ⟨t2, h2, h⟩ := Option.bind_eq_some_iff.mp h
 rw [h2]
 simp only [Option.bind_some]
 obtain ⟨t3, h3, h⟩ := Option.bind_eq_some_iff.mp h
 rw [h3]
 simp only [Option.bind_some]
 by_cases c2 : t3.1 = 0
 {
 rw [if_pos c2] at h; rw [if_pos c2, if_pos c2]; exact .inr h
 }
 {
 rw [if_neg c2] at h; rw [if_neg c2, if_neg c2]
 by_cases c3 : t3.1 = 1
 {
 rw [if_pos c3] at h; rw [if_pos c3, if_pos c3]; exact .inr h
 }
 {
 rw [if_neg c3] at h; rw [if_neg c3, if_neg c3]
 by_cases c4 : t3.1 = 2
 {
 rw [if_pos c4] at h; rw [if_pos c4]; exact .inl h
 }
 {
 rw [if_neg c4] at h; rw [if_neg c4, if_neg c4]; exact .inr h
 }
 }
 }
 }
set_option maxHeartbeats 8000000 in
theorem spec_l5Bend.calls (k : Nat) (g : Nat) (s0_0 : List Int) (s0_1 : Int) (s0_2 : Int) (A1_0 : Option Addr) (c1_0 : Nat) (l1_0 : List (S79)) (r1 : List (S79)) (r2 : Int) (r3 : Int) (w0 w : World) (hI : IsS122 w0 w g s0_0 s0_1 s0_2) (hB : Below w0.heap.size w0 w) (hr1_0 : ∀ W_, KeepBut w W_ g none → Kd.C k79 W_ A1_0 l1_0.length l1_0) (hc1_0 : l1_0.length ≤ c1_0) (h : spec_l5Bend.f k s0_0 s0_1 s0_2 l1_0 = some (r1, r2, r3)) :
  Calls Try.prog 103 #[.pointer (some ⟨g, 0, none⟩), .agg #[.slice A1_0 l1_0.length c1_0]] w fun e w' => ∃ v0_ : Value, e = .returned (.agg #[v0_]) ∧ Kd.N k79 79 w' w.heap.size (fun k_ => (w.heap.size ≤ k_)) v0_ r1 ∧ IsS122 w0 w' g s0_0 r2 r3 ∧ Below w0.heap.size w0 w' ∧ KeepBut w w' g none := by
 rcases spec_l5Bend.or k s0_0 s0_1 s0_2 l1_0 _ h with h | h
 {
 refine (spec_l5BendS.calls k g s0_0 s0_1 s0_2 A1_0 c1_0 l1_0 r1 r2 r3 w0 w hI hB hr1_0 hc1_0 h).mono ?_
 rintro e w' ⟨v0_, he, hS, hr⟩
 exact ⟨v0_, he, Kd.S_N (Kd.S_mono (Kd.S_bound hS) (fun k hk => hk.2.1)), hr⟩
 }
 {
 exact spec_l5BendN.calls k g s0_0 s0_1 s0_2 A1_0 c1_0 l1_0 r1 r2 r3 w0 w hI hB hr1_0 hc1_0 h
 }
end Go.Proofs.Yteajnkondkfmgaa.PFnEach
