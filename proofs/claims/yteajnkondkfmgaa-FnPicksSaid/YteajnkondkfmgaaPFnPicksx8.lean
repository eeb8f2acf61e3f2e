-- Made by a program of this session out of the translation. Lean checks it.
import Derived.Test.YteajnkondkfmgaaPFnPicksx0
import Derived.Test.YteajnkondkfmgaaPFnPicksx5
import Derived.Test.YteajnkondkfmgaaPFnPicksx7
namespace Go.Proofs.Yteajnkondkfmgaa.PFnPicks
open Go.RowKit Go.Proofs.YteajnkondkfmgaaW.PrintWords Go.Proofs.YteajnkondkfmgaaW.PrintLast Go.Proofs.YteajnkondkfmgaaW.PrintMore
attribute [local go_sem] max2_int min2_int max_two min_two max_three min_three max_four min_four   -- for this text's walks alone
set_option linter.unusedVariables false
set_option linter.unusedSimpArgs false

/-! ### spec_l5BendN: function 103 -/
def spec_l5BendN.f (k : Nat) (s0_0 : List Int) (s0_1 : Int) (s0_2 : Int) (l1_0 : List (S79)) : Option ((List (S79)) × Int × Int) := (spec_l5Copy.f k l1_0).bind fun t213 => (if (t213.length : Int) = 0 then (some (t213, s0_1, s0_2)) else ((spec_l1Below.f s0_0 s0_1 s0_2 (t213.length : Int)).bind fun bt217 => ((spec_l1Below.f s0_0 bt217.2.1 bt217.2.2 6).bind fun bt220 => (if bt220.1 = 0 then ((spec_l1Int.f s0_0 bt220.2.1 bt220.2.2 (([0, 1000, 10] : List Int))).bind fun bt226 => (if 0 ≤ bt217.1 then (if bt217.1 < (t213.length : Int) then (some ((t213.set (bt217.1 : Int).toNat (⟨bt226.1, (rd_T79 t213 bt217.1).f1, (rd_T79 t213 bt217.1).f2⟩ : S79)), bt226.2.1, bt226.2.2)) else (none)) else (none))) else (if bt220.1 = 1 then ((spec_l1Int.f s0_0 bt220.2.1 bt220.2.2 (([(-1), 100, 19] : List Int))).bind fun bt233 => (if 0 ≤ bt217.1 then (if bt217.1 < (t213.length : Int) then (some ((t213.set (bt217.1 : Int).toNat (⟨(rd_T79 t213 bt217.1).f0, bt233.1, (rd_T79 t213 bt217.1).f2⟩ : S79)), bt233.2.1, bt233.2.2)) else (none)) else (none))) else (if bt220.1 = 2 then (if 0 ≤ bt217.1 then (if bt217.1 < (t213.length : Int) then ((spec_l1Int.f s0_0 bt220.2.1 bt220.2.2 (([0, 1, 1001] : List Int))).bind fun bt241 => ((spec_l1Below.f s0_0 bt241.2.1 bt241.2.2 3).bind fun bt244 => (none))) else (none)) else (none)) else (if bt220.1 = 3 then (if 0 < (t213.length : Int) then (if t213.length < 3518437208883 then (some ((t213 ++ [(⟨(rd_T79 t213 0).f0, (rd_T79 t213 0).f1, (rd_T79 t213 0).f2⟩ : S79)]), bt220.2.1, bt220.2.2)) else (none)) else (none)) else (some (t213, bt220.2.1, bt220.2.2)))))))))
theorem spec_l5BendN.mono : ∀ a0 a1 a2 a3 k, LeO (spec_l5BendN.f k a0 a1 a2 a3) (spec_l5BendN.f (k + 1) a0 a1 a2 a3) := by
 intro a0 a1 a2 a3 k
 unfold spec_l5BendN.f
 have j0 := @spec_l5Copy.mono
 exact qL
def spec_l5BendN.T7 : Bool × List (List Nat × List Nat) := (true, [([], []), ([0], [0]), ([], []), ([], []), ([], []), ([3, 4], [3, 4]), ([1, 2, 0, 1, 2, 3, 4, 5], [1, 2]), ([6, 0, 1, 2, 3, 4, 5], [6]), ([7, 5, 5, 0, 1, 2, 3, 4, 5], [5, 7])])
def spec_l5BendN.B7 : List Nat := [0, 1, 0, 0, 0, 24, 63, 127, 255]
theorem spec_l5BendN.tab7 : rtab .any (opsOf Try.f103 7) = spec_l5BendN.T7 := by kernel_rfl
theorem spec_l5BendN.bits7 : waitsOk spec_l5BendN.T7.2 spec_l5BendN.B7 = true := by kernel_rfl
def spec_l5BendN.T9 : Bool × List (List Nat × List Nat) := (true, [([], []), ([0], [0]), ([], []), ([], []), ([], []), ([3, 4], [3, 4]), ([1, 2, 0, 1, 2, 3, 4, 5], [1, 2]), ([6, 0, 1, 2, 3, 4, 5], [6]), ([7, 5, 5, 0, 1, 2, 3, 4, 5], [5, 7])])
def spec_l5BendN.B9 : List Nat := [0, 1, 0, 0, 0, 24, 63, 127, 255]
theorem spec_l5BendN.tab9 : rtab .any (opsOf Try.f103 9) = spec_l5BendN.T9 := by kernel_rfl
theorem spec_l5BendN.bits9 : waitsOk spec_l5BendN.T9.2 spec_l5BendN.B9 = true := by kernel_rfl
def spec_l5BendN.T13 : Bool × List (List Nat × List Nat) := (true, [([], []), ([0], [0]), ([], []), ([2], [2]), ([3], [3]), ([4], [4]), ([5], [5]), ([1, 6], [1, 6]), ([0, 1, 2, 3, 4, 5, 6, 7], []), ([8, 7, 7, 0, 1, 2, 3, 4, 5, 6, 7], [7, 8])])
def spec_l5BendN.B13 : List Nat := [0, 1, 0, 4, 12, 28, 60, 127, 255, 511]
theorem spec_l5BendN.tab13 : rtab .any (opsOf Try.f103 13) = spec_l5BendN.T13 := by kernel_rfl
theorem spec_l5BendN.bits13 : waitsOk spec_l5BendN.T13.2 spec_l5BendN.B13 = true := by kernel_rfl
set_option maxHeartbeats 8000000 in
set_option maxRecDepth 100000 in
theorem spec_l5BendN.calls (k : Nat) (g : Nat) (s0_0 : List Int) (s0_1 : Int) (s0_2 : Int) (A1_0 : Option Addr) (c1_0 : Nat) (l1_0 : List (S79)) (r1 : List (S79)) (r2 : Int) (r3 : Int) (w0 w : World) (hI : IsS122 w0 w g s0_0 s0_1 s0_2) (hB : Below w0.heap.size w0 w) (hr1_0 : ∀ W_, KeepBut w W_ g none → Kd.C k79 W_ A1_0 l1_0.length l1_0) (hc1_0 : l1_0.length ≤ c1_0) (h : spec_l5BendN.f k s0_0 s0_1 s0_2 l1_0 = some (r1, r2, r3)) :
  Calls Try.prog 103 #[.pointer (some ⟨g, 0, none⟩), .agg #[.slice A1_0 l1_0.length c1_0]] w fun e w' => ∃ v0_ : Value, e = .returned (.agg #[v0_]) ∧ Kd.N k79 79 w' w.heap.size (fun k_ => (w.heap.size ≤ k_)) v0_ r1 ∧ IsS122 w0 w' g s0_0 r2 r3 ∧ Below w0.heap.size w0 w' ∧ KeepBut w w' g none := by
 have hu26 := Try.underlying26
 have hu72 := Try.underlying72
 have hu79 := Try.underlying79
 have HR1_0 := aM hr1_0
 have HC1_0 := aM hc1_0
 clear hr1_0 hc1_0
 have HI0 := aM hI
 have HK := aM (KeepBut.refl w g none)
 have HL := aM hB.size
 clear hI
 have HW0 := aM hB.size
 have HB := aM hB
 clear hB
 have H : ((spec_l5Copy.f k l1_0).bind fun t213 => (if (t213.length : Int) = 0 then (some (t213, s0_1, s0_2)) else ((spec_l1Below.f s0_0 s0_1 s0_2 (t213.length : Int)).bind fun bt217 => ((spec_l1Below.f s0_0 bt217.2.1 bt217.2.2 6).bind fun bt220 => (if bt220.1 = 0 then ((spec_l1Int.f s0_0 bt220.2.1 bt220.2.2 (([0, 1000, 10] : List Int))).bind fun bt226 => (if 0 ≤ bt217.1 then (if bt217.1 < (t213.length : Int) then (some ((t213.set (bt217.1 : Int).toNat (⟨bt226.1, (rd_T79 t213 bt217.1).f1, (rd_T79 t213 bt217.1).f2⟩ : S79)), bt226.2.1, bt226.2.2)) else (none)) else (none))) else (if bt220.1 = 1 then ((spec_l1Int.f s0_0 bt220.2.1 bt220.2.2 (([(-1), 100, 19] : List Int))).bind fun bt233 => (if 0 ≤ bt217.1 then (if bt217.1 < (t213.length : Int) then (some ((t213.set (bt217.1 : Int).toNat (⟨(rd_T79 t213 bt217.1).f0, bt233.1, (rd_T79 t213 bt217.1).f2⟩ : S79)), bt233.2.1, bt233.2.2)) else (none)) else (none))) else (if bt220.1 = 2 then (if 0 ≤ bt217.1 then (if bt217.1 < (t213.length : Int) then ((spec_l1Int.f s0_0 bt220.2.1 bt220.2.2 (([0, 1, 1001] : List Int))).bind fun bt241 => ((spec_l1Below.f s0_0 bt241.2.1 bt241.2.2 3).bind fun bt244 => (none))) else (none)) else (none)) else (if bt220.1 = 3 then (if 0 < (t213.length : Int) then (if t213.length < 3518437208883 then (some ((t213 ++ [(⟨(rd_T79 t213 0).f0, (rd_T79 t213 0).f1, (rd_T79 t213 0).f2⟩ : S79)]), bt220.2.1, bt220.2.2)) else (none)) else (none)) else (some (t213, bt220.2.1, bt220.2.2)))))))))) = some (r1, r2, r3) := h
 clear h
 replace H := Option.bind_eq_some_iff.mp H
 obtain ⟨t213, A30, H⟩ := H
 replace H : (if (t213.length : Int) = 0 then (some (t213, s0_1, s0_2)) else ((spec_l1Below.f s0_0 s0_1 s0_2 (t213.length : Int)).bind fun bt217 => ((spec_l1Below.f s0_0 bt217.2.1 bt217.2.2 6).bind fun bt220 => (if bt220.1 = 0 then ((spec_l1Int.f s0_0 bt220.2.1 bt220.2.2 (([0, 1000, 10] : List Int))).bind fun bt226 => (if 0 ≤ bt217.1 then (if bt217.1 < (t213.length : Int) then (some ((t213.set (bt217.1 : Int).toNat (⟨bt226.1, (rd_T79 t213 bt217.1).f1, (rd_T79 t213 bt217.1).f2⟩ : S79)), bt226.2.1, bt226.2.2)) else (none)) else (none))) else (if bt220.1 = 1 then ((spec_l1Int.f s0_0 bt220.2.1 bt220.2.2 (([(-1), 100, 19] : List Int))).bind fun bt233 => (if 0 ≤ bt217.1 then (if bt217.1 < (t213.length : Int) then (some ((t213.set (bt217.1 : Int).toNat (⟨(rd_T79 t213 bt217.1).f0, bt233.1, (rd_T79 t213 bt217.1).f2⟩ : S79)), bt233.2.1, bt233.2.2)) else (none)) else (none))) else (if bt220.1 = 2 then (if 0 ≤ bt217.1 then (if bt217.1 < (t213.length : Int) then ((spec_l1Int.f s0_0 bt220.2.1 bt220.2.2 (([0, 1, 1001] : List Int))).bind fun bt241 => ((spec_l1Below.f s0_0 bt241.2.1 bt241.2.2 3).bind fun bt244 => (none))) else (none)) else (none)) else (if bt220.1 = 3 then (if 0 < (t213.length : Int) then (if t213.length < 3518437208883 then (some ((t213 ++ [(⟨(rd_T79 t213 0).f0, (rd_T79 t213 0).f1, (rd_T79 t213 0).f2⟩ : S79)]), bt220.2.1, bt220.2.2)) else (none)) else (none)) else (some (t213, bt220.2.1, bt220.2.2))))))))) = some (r1, r2, r3) := H
 have A3 := aM A30
 clear A30
 by_cases c4 : (t213.length : Int) = 0
 {
 rw [if_pos c4] at H
 have c4b0 := beq_iff_eq.mpr c4
 have c4b1 := bne_eq_false_iff_eq.mpr c4
 clear c4
 simp only [Option.some.injEq, Prod.mk.injEq] at H
 obtain ⟨rfl, rfl, rfl⟩ := H
 go_enter Try.func103, Try.ntmps103
 go_wp2_with (first | ((with_reducible refine gate_dst (N := 3) rfl ?_); refine bx_ 3 #[.slice A1_0 l1_0.length c1_0] 26 ?_; intro gb211 hg w5 hbox hb; replace HB := bS_ hb; have BK211 := aM (hbox); have GW211 := aM (kz_ w g hg qz2); have GE211 := aM ((Nat.le_trans HW0.out (by rw [hg]; exact (keep_size (w := w) (g := g) (row := none) qz2) : w.heap.size ≤ gb211) : w0.heap.size ≤ gb211)); replace HK := aM (KeepBut.trans qz2 (KeepBut.of_below hb g none) (.inl rfl)); have NB0_211 := aM ((by rw [hg]; exact Nat.ne_of_lt (IsS122.lt (show IsS122 w0 _ g s0_0 s0_1 s0_2 from qz3)) : g ≠ gb211)); have NB211_0 := aM ((by rw [hg]; exact Nat.ne_of_gt (IsS122.lt (show IsS122 w0 _ g s0_0 s0_1 s0_2 from qz3)) : gb211 ≠ g)); replace HI0 := aM (IsS122.below qz3 hb); clear hb hbox hg) | ((with_reducible refine gate_dst (N := 4) rfl ?_); refine bx_ 4 #[.slice none 0 0] 26 ?_; intro gb212 hg w6 hbox hb; replace HB := bS_ hb; have BK212 := aM (hbox); have GW212 := aM (kz_ w g hg qz2); have GE212 := aM ((Nat.le_trans HW0.out (by rw [hg]; exact (keep_size (w := w) (g := g) (row := none) qz2) : w.heap.size ≤ gb212) : w0.heap.size ≤ gb212)); replace HK := aM (KeepBut.trans qz2 (KeepBut.of_below hb g none) (.inl rfl)); obtain ⟨NB211_212, NB212_211⟩ := nb_ hg (bk_ BK211.out); replace BK211 := bB_ BK211 hb; have NB0_212 := aM ((by rw [hg]; exact Nat.ne_of_lt (IsS122.lt (show IsS122 w0 _ g s0_0 s0_1 s0_2 from qz3)) : g ≠ gb212)); have NB212_0 := aM ((by rw [hg]; exact Nat.ne_of_gt (IsS122.lt (show IsS122 w0 _ g s0_0 s0_1 s0_2 from qz3)) : gb212 ≠ g)); replace HI0 := aM (IsS122.below qz3 hb); clear hb hbox hg; have hnb7 := NB211_212.out; have hnc7 := NB212_211.out; have hnb8 := NB211_0.out; have hnc8 := NB0_211.out; obtain ⟨hcz9_0, hfz9_0⟩ := bf_ BK211.out) | ((with_reducible refine gate_callee (f := 62) rfl ?_); refine goesL_ (some 8) rfl rfl Try.func62 (by kernel_rfl) rfl #[.agg #[.slice A1_0 l1_0.length c1_0]] rfl qz4 ?_; (with_reducible refine (spec_l5Copy.calls k _ _ l1_0 t213 _ ?side1 ?side2 A3.out).mono ?_); (case side1 => exact Kd.C_foot_now HR1_0.out qz2); (case side2 => exact HC1_0.out); rintro e w10 ⟨v214, rfl, ho0, hb⟩; refine ⟨_, rfl, ?_⟩; have HO215 := aM (Kd.N_lower (Kd.N_mono (ok' := fun k_ => (w.heap.size ≤ k_) ∧ k_ ≠ gb211 ∧ k_ ≠ gb212 ∧ k_ ≠ g) (Kd.S_N (Kd.S_bound ho0)) (fun k_ hk_ => ⟨(Nat.le_trans (keep_size (w := w) (g := g) (row := none) qz2) hk_.2.1), (Kd.freshB (bk_ BK211.out) k_ hk_.2.1), (Kd.freshB (bk_ BK212.out) k_ hk_.2.1), (IsS122.fresh qz3 k_ hk_.2.1)⟩)) (keep_size (w := w) (g := g) (row := none) qz2)); replace BK211 := bB_ BK211 hb; replace BK212 := bB_ BK212 hb; replace HK := aM (KeepBut.trans qz2 (KeepBut.of_below hb g none) (.inl rfl)); replace HB := bS_ hb; replace HI0 := aM (IsS122.below qz3 hb); (try clear hb); (try clear hb2); (try clear hk); (try clear hi); (try clear ho0)) | ((with_reducible refine gate_dst (N := 5) rfl ?_); refine bx_ 5 #[.slice none 0 0] 26 ?_; intro gb216 hg w11 hbox hb; replace HO215 := aM (Kd.N_below (Kd.N_elderB qz10 gb216 (Nat.le_of_eq hg.symm)) hb); replace HB := bS_ hb; have BK216 := aM (hbox); have GW216 := aM (kz_ w g hg qz2); have GE216 := aM ((Nat.le_trans HW0.out (by rw [hg]; exact (keep_size (w := w) (g := g) (row := none) qz2) : w.heap.size ≤ gb216) : w0.heap.size ≤ gb216)); replace HK := aM (KeepBut.trans qz2 (KeepBut.of_below hb g none) (.inl rfl)); obtain ⟨NB211_216, NB216_211⟩ := nb_ hg (bk_ BK211.out); replace BK211 := bB_ BK211 hb; obtain ⟨NB212_216, NB216_212⟩ := nb_ hg (bk_ BK212.out); replace BK212 := bB_ BK212 hb; have NB0_216 := aM ((by rw [hg]; exact Nat.ne_of_lt (IsS122.lt (show IsS122 w0 _ g s0_0 s0_1 s0_2 from qz3)) : g ≠ gb216)); have NB216_0 := aM ((by rw [hg]; exact Nat.ne_of_gt (IsS122.lt (show IsS122 w0 _ g s0_0 s0_1 s0_2 from qz3)) : gb216 ≠ g)); replace HI0 := aM (IsS122.below qz3 hb); clear hb hbox hg; obtain ⟨Ao12, co12, eo12⟩ := Kd.N_slice HO215.out; subst eo12; have hnb13 := NB216_211.out; have hnc13 := NB211_216.out; have hnb14 := NB216_212.out; have hnc14 := NB212_216.out; have hnb15 := NB216_0.out; have hnc15 := NB0_216.out; obtain ⟨hcz16_0, hfz16_0⟩ := bf_ BK216.out; have hnb17 := NB212_0.out; have hnc17 := NB0_212.out; obtain ⟨hcz18_0, hfz18_0⟩ := bf_ BK212.out))
 refine bodyPost_ret (results_cell_row rfl _ _ gb212 26 #[.slice Ao12 t213.length co12] (0, 0) _ rfl (by (with_reducible repeat (first | refine blk_drewN ?_ _ | refine blk_drew ?_ | refine blk_alloc ?_ _)); refine blk_put (cs := #[.slice none 0 0]) ?_ 0 _ rfl; (with_reducible repeat (first | refine blk_drewN ?_ _ | refine blk_drew ?_ | refine blk_alloc ?_ _)); exact bk2_ BK212.out) Try.underlying26 rfl (by kernel_rfl)) rfl ?_
 exact ⟨_, qzw, by (with_reducible repeat (first | apply Kd.N_alloc | apply Kd.N_drewN | apply Kd.N_drew)); exact Kd.N_mono (Kd.N_far (p := ⟨gb212, 0, none⟩) (Kd.N_far (p := ⟨gb216, 0, none⟩) (Kd.N_mono (Kd.N_mono HO215.out (fun k_ hk => (⟨hk, hk.2⟩ : _ ∧ k_ ≠ gb216))) (fun k_ hk => (⟨hk, hk.1.1.2.2.1⟩ : _ ∧ k_ ≠ gb212))) (fun _ hk => hk.1.2) (.slice Ao12 t213.length co12)) (fun _ hk => hk.2) (.slice Ao12 t213.length co12)) (fun _ hk => hk.1.1.1.1), qz3, qz1, qz2⟩
 }
 {
 rw [if_neg c4] at H
 have c4b0 := beq_eq_false_iff_ne.mpr c4
 have c4b1 := bne_iff_ne.mpr c4
 have c4b2 : ¬ (t213 = []) := fun h_ => c4 (by rw [h_]; rfl)
 replace H := Option.bind_eq_some_iff.mp H
 obtain ⟨⟨t217, t218, t219⟩, A190, H⟩ := H
 replace H : ((spec_l1Below.f s0_0 t218 t219 6).bind fun bt220 => (if bt220.1 = 0 then ((spec_l1Int.f s0_0 bt220.2.1 bt220.2.2 (([0, 1000, 10] : List Int))).bind fun bt226 => (if 0 ≤ t217 then (if t217 < (t213.length : Int) then (some ((t213.set (t217 : Int).toNat (⟨bt226.1, (rd_T79 t213 t217).f1, (rd_T79 t213 t217).f2⟩ : S79)), bt226.2.1, bt226.2.2)) else (none)) else (none))) else (if bt220.1 = 1 then ((spec_l1Int.f s0_0 bt220.2.1 bt220.2.2 (([(-1), 100, 19] : List Int))).bind fun bt233 => (if 0 ≤ t217 then (if t217 < (t213.length : Int) then (some ((t213.set (t217 : Int).toNat (⟨(rd_T79 t213 t217).f0, bt233.1, (rd_T79 t213 t217).f2⟩ : S79)), bt233.2.1, bt233.2.2)) else (none)) else (none))) else (if bt220.1 = 2 then (if 0 ≤ t217 then (if t217 < (t213.length : Int) then ((spec_l1Int.f s0_0 bt220.2.1 bt220.2.2 (([0, 1, 1001] : List Int))).bind fun bt241 => ((spec_l1Below.f s0_0 bt241.2.1 bt241.2.2 3).bind fun bt244 => (none))) else (none)) else (none)) else (if bt220.1 = 3 then (if 0 < (t213.length : Int) then (if t213.length < 3518437208883 then (some ((t213 ++ [(⟨(rd_T79 t213 0).f0, (rd_T79 t213 0).f1, (rd_T79 t213 0).f2⟩ : S79)]), bt220.2.1, bt220.2.2)) else (none)) else (none)) else (some (t213, bt220.2.1, bt220.2.2))))))) = some (r1, r2, r3) := H
 have A19 := aM A190
 clear A190
 replace H := Option.bind_eq_some_iff.mp H
 obtain ⟨⟨t220, t221, t222⟩, A200, H⟩ := H
 replace H : (if t220 = 0 then ((spec_l1Int.f s0_0 t221 t222 (([0, 1000, 10] : List Int))).bind fun bt226 => (if 0 ≤ t217 then (if t217 < (t213.length : Int) then (some ((t213.set (t217 : Int).toNat (⟨bt226.1, (rd_T79 t213 t217).f1, (rd_T79 t213 t217).f2⟩ : S79)), bt226.2.1, bt226.2.2)) else (none)) else (none))) else (if t220 = 1 then ((spec_l1Int.f s0_0 t221 t222 (([(-1), 100, 19] : List Int))).bind fun bt233 => (if 0 ≤ t217 then (if t217 < (t213.length : Int) then (some ((t213.set (t217 : Int).toNat (⟨(rd_T79 t213 t217).f0, bt233.1, (rd_T79 t213 t217).f2⟩ : S79)), bt233.2.1, bt233.2.2)) else (none)) else (none))) else (if t220 = 2 then (if 0 ≤ t217 then (if t217 < (t213.length : Int) then ((spec_l1Int.f s0_0 t221 t222 (([0, 1, 1001] : List Int))).bind fun bt241 => ((spec_l1Below.f s0_0 bt241.2.1 bt241.2.2 3).bind fun bt244 => (none))) else (none)) else (none)) else (if t220 = 3 then (if 0 < (t213.length : Int) then (if t213.length < 3518437208883 then (some ((t213 ++ [(⟨(rd_T79 t213 0).f0, (rd_T79 t213 0).f1, (rd_T79 t213 0).f2⟩ : S79)]), t221, t222)) else (none)) else (none)) else (some (t213, t221, t222)))))) = some (r1, r2, r3) := H
 have A20 := aM A200
 clear A200
 by_cases c21 : t220 = 0
 {
 rw [if_pos c21] at H
 have c21b0 := beq_iff_eq.mpr c21
 have c21b1 := bne_eq_false_iff_eq.mpr c21
 clear c21
 obtain ⟨y223, hy223⟩ : ∃ y_ : List Int, y_ = (([0, 1000, 10] : List Int)) := ⟨_, rfl⟩
 replace H : ((spec_l1Int.f s0_0 t221 t222 y223).bind fun bt226 => (if 0 ≤ t217 then (if t217 < (t213.length : Int) then (some ((t213.set (t217 : Int).toNat (⟨bt226.1, (rd_T79 t213 t217).f1, (rd_T79 t213 t217).f2⟩ : S79)), bt226.2.1, bt226.2.2)) else (none)) else (none))) = some (r1, r2, r3) := by first | (rw [hy223]; with_reducible exact H) | (have H2_ := (Option.bind_some _ _).symm.trans H; rw [hy223]; with_reducible exact H2_) | (have H2_ := (Option.bind_some _ _).symm.trans H; with_reducible exact H2_) | with_reducible exact H | (rw [hy223]; exact H) | exact H
 have Ny223 := aM hy223
 clear hy223
 replace H := Option.bind_eq_some_iff.mp H
 obtain ⟨⟨t226, t227, t228⟩, A220, H⟩ := H
 replace H : (if 0 ≤ t217 then (if t217 < (t213.length : Int) then (some ((t213.set (t217 : Int).toNat (⟨t226, (rd_T79 t213 t217).f1, (rd_T79 t213 t217).f2⟩ : S79)), t227, t228)) else (none)) else (none)) = some (r1, r2, r3) := H
 have A22 := aM A220
 clear A220
 by_cases c23 : 0 ≤ t217
 {
 rw [if_pos c23] at H
 have c23b0 := decide_eq_true c23
 clear c23
 by_cases c24 : t217 < (t213.length : Int)
 {
 rw [if_pos c24] at H
 have c24b0 := decide_eq_true c24
 clear c24
 obtain ⟨y229, hy229⟩ : ∃ y_ : List (S79), y_ = (t213.set (t217 : Int).toNat (⟨t226, (rd_T79 t213 t217).f1, (rd_T79 t213 t217).f2⟩ : S79)) := ⟨_, rfl⟩
 replace H : (some (y229, t227, t228)) = some (r1, r2, r3) := by first | (rw [hy229]; with_reducible exact H) | (have H2_ := (Option.bind_some _ _).symm.trans H; rw [hy229]; with_reducible exact H2_) | (have H2_ := (Option.bind_some _ _).symm.trans H; with_reducible exact H2_) | with_reducible exact H | (rw [hy229]; exact H) | exact H
 have Ny229 := aM hy229
 clear hy229
 simp only [Option.some.injEq, Prod.mk.injEq] at H
 obtain ⟨rfl, rfl, rfl⟩ := H
 go_enter Try.func103, Try.ntmps103
 try go_wp2_with (first | ((with_reducible refine gate_dst (N := 3) rfl ?_); refine bx_ 3 #[.slice A1_0 l1_0.length c1_0] 26 ?_; intro gb211 hg w26 hbox hb; replace HB := bS_ hb; have BK211 := aM (hbox); have GW211 := aM (kz_ w g hg qz2); have GE211 := aM ((Nat.le_trans HW0.out (by rw [hg]; exact (keep_size (w := w) (g := g) (row := none) qz2) : w.heap.size ≤ gb211) : w0.heap.size ≤ gb211)); replace HK := aM (KeepBut.trans qz2 (KeepBut.of_below hb g none) (.inl rfl)); have NB0_211 := aM ((by rw [hg]; exact Nat.ne_of_lt (IsS122.lt (show IsS122 w0 _ g s0_0 s0_1 s0_2 from qz3)) : g ≠ gb211)); have NB211_0 := aM ((by rw [hg]; exact Nat.ne_of_gt (IsS122.lt (show IsS122 w0 _ g s0_0 s0_1 s0_2 from qz3)) : gb211 ≠ g)); replace HI0 := aM (IsS122.below qz3 hb); clear hb hbox hg) | ((with_reducible refine gate_dst (N := 4) rfl ?_); refine bx_ 4 #[.slice none 0 0] 26 ?_; intro gb212 hg w27 hbox hb; replace HB := bS_ hb; have BK212 := aM (hbox); have GW212 := aM (kz_ w g hg qz2); have GE212 := aM ((Nat.le_trans HW0.out (by rw [hg]; exact (keep_size (w := w) (g := g) (row := none) qz2) : w.heap.size ≤ gb212) : w0.heap.size ≤ gb212)); replace HK := aM (KeepBut.trans qz2 (KeepBut.of_below hb g none) (.inl rfl)); obtain ⟨NB211_212, NB212_211⟩ := nb_ hg (bk_ BK211.out); replace BK211 := bB_ BK211 hb; have NB0_212 := aM ((by rw [hg]; exact Nat.ne_of_lt (IsS122.lt (show IsS122 w0 _ g s0_0 s0_1 s0_2 from qz3)) : g ≠ gb212)); have NB212_0 := aM ((by rw [hg]; exact Nat.ne_of_gt (IsS122.lt (show IsS122 w0 _ g s0_0 s0_1 s0_2 from qz3)) : gb212 ≠ g)); replace HI0 := aM (IsS122.below qz3 hb); clear hb hbox hg; have hnb28 := NB211_212.out; have hnc28 := NB212_211.out; have hnb29 := NB211_0.out; have hnc29 := NB0_211.out; obtain ⟨hcz30_0, hfz30_0⟩ := bf_ BK211.out) | ((with_reducible refine gate_callee (f := 62) rfl ?_); refine goesL_ (some 8) rfl rfl Try.func62 (by kernel_rfl) rfl #[.agg #[.slice A1_0 l1_0.length c1_0]] rfl qz4 ?_; (with_reducible refine (spec_l5Copy.calls k _ _ l1_0 t213 _ ?side1 ?side2 A3.out).mono ?_); (case side1 => exact Kd.C_foot_now HR1_0.out qz2); (case side2 => exact HC1_0.out); rintro e w31 ⟨v214, rfl, ho0, hb⟩; refine ⟨_, rfl, ?_⟩; have HO215 := aM (Kd.N_lower (Kd.N_mono (ok' := fun k_ => (w.heap.size ≤ k_) ∧ k_ ≠ gb211 ∧ k_ ≠ gb212 ∧ k_ ≠ g) (Kd.S_N (Kd.S_bound ho0)) (fun k_ hk_ => ⟨(Nat.le_trans (keep_size (w := w) (g := g) (row := none) qz2) hk_.2.1), (Kd.freshB (bk_ BK211.out) k_ hk_.2.1), (Kd.freshB (bk_ BK212.out) k_ hk_.2.1), (IsS122.fresh qz3 k_ hk_.2.1)⟩)) (keep_size (w := w) (g := g) (row := none) qz2)); replace BK211 := bB_ BK211 hb; replace BK212 := bB_ BK212 hb; replace HK := aM (KeepBut.trans qz2 (KeepBut.of_below hb g none) (.inl rfl)); replace HB := bS_ hb; replace HI0 := aM (IsS122.below qz3 hb); (try clear hb); (try clear hb2); (try clear hk); (try clear hi); (try clear ho0)) | ((with_reducible refine gate_dst (N := 5) rfl ?_); refine bx_ 5 #[.slice none 0 0] 26 ?_; intro gb216 hg w32 hbox hb; replace HO215 := aM (Kd.N_below (Kd.N_elderB qz10 gb216 (Nat.le_of_eq hg.symm)) hb); replace HB := bS_ hb; have BK216 := aM (hbox); have GW216 := aM (kz_ w g hg qz2); have GE216 := aM ((Nat.le_trans HW0.out (by rw [hg]; exact (keep_size (w := w) (g := g) (row := none) qz2) : w.heap.size ≤ gb216) : w0.heap.size ≤ gb216)); replace HK := aM (KeepBut.trans qz2 (KeepBut.of_below hb g none) (.inl rfl)); obtain ⟨NB211_216, NB216_211⟩ := nb_ hg (bk_ BK211.out); replace BK211 := bB_ BK211 hb; obtain ⟨NB212_216, NB216_212⟩ := nb_ hg (bk_ BK212.out); replace BK212 := bB_ BK212 hb; have NB0_216 := aM ((by rw [hg]; exact Nat.ne_of_lt (IsS122.lt (show IsS122 w0 _ g s0_0 s0_1 s0_2 from qz3)) : g ≠ gb216)); have NB216_0 := aM ((by rw [hg]; exact Nat.ne_of_gt (IsS122.lt (show IsS122 w0 _ g s0_0 s0_1 s0_2 from qz3)) : gb216 ≠ g)); replace HI0 := aM (IsS122.below qz3 hb); clear hb hbox hg; obtain ⟨Ao33, co33, eo33⟩ := Kd.N_slice HO215.out; subst eo33; have hnb34 := NB216_211.out; have hnc34 := NB211_216.out; have hnb35 := NB216_212.out; have hnc35 := NB212_216.out; have hnb36 := NB216_0.out; have hnc36 := NB0_216.out; obtain ⟨hcz37_0, hfz37_0⟩ := bf_ BK216.out) | ((with_reducible refine gate_callee (f := 105) rfl ?_); refine goesL_ (some 18) rfl rfl Try.func105 (by kernel_rfl) rfl #[.pointer (some ⟨g, 0, none⟩), .int .i64 (t213.length : Int)] rfl qz4 ?_; (with_reducible refine (spec_l1Below.calls g s0_0 s0_1 s0_2 (t213.length : Int) t217 t218 t219 w0 _ ?side1 ?side2 A19.out).mono ?_); (case side1 => exact qz3); (case side2 => exact qz1); rintro e w38 ⟨rfl, hi, hb, hk⟩; refine ⟨_, rfl, ?_⟩; replace BK211 := aM (KeepBut.blk hk (g' := gb211) (o := .cells #[.slice A1_0 l1_0.length c1_0] 26 (0, 0)) (bk2_ BK211.out) NB211_0.out (by simp)); replace BK212 := aM (KeepBut.blk hk (g' := gb212) (o := .cells #[.slice none 0 0] 26 (0, 0)) (bk2_ BK212.out) NB212_0.out (by simp)); replace HO215 := aM (Kd.N_mono (Kd.N_keep (Kd.N_mono (ok := fun k_ => ((((w.heap.size ≤ k_)) ∧ (k_ ≠ gb211 ∧ (k_ ≠ gb212 ∧ k_ ≠ g))) ∧ k_ ≠ gb216)) (by (with_reducible repeat (first | apply Kd.N_alloc | apply Kd.N_drewN | apply Kd.N_drew)); exact (Kd.N_mono (Kd.N_far (p := ⟨gb216, 0, none⟩) (Kd.N_mono HO215.out (fun k_ hk => (⟨hk, hk.2⟩ : _ ∧ k_ ≠ gb216))) (fun _ hk => hk.2) (.slice Ao33 t213.length co33)) (fun _ h_ => h_.1))) (fun k_ hk_ => (⟨hk_, hk_.1.2.2.2⟩ : _ ∧ k_ ≠ g))) hk (fun _ h => h.2)) (fun _ h => h.1)); replace BK216 := aM (KeepBut.blk hk (g' := gb216) (o := .cells #[.slice Ao33 t213.length co33] 26 (0, 0)) (by (with_reducible repeat (first | refine blk_drewN ?_ _ | refine blk_drew ?_ | refine blk_alloc ?_ _)); refine blk_put (cs := #[.slice none 0 0]) ?_ 0 _ rfl; exact bk_ BK216.out) NB216_0.out (by simp)); replace HK := aM (KeepBut.trans qz2 hk (.inl rfl)); replace HB := aM (hb); replace HI0 := aM (hi); (try clear hb); (try clear hb2); (try clear hk); (try clear hi)) | ((with_reducible refine gate_callee (f := 105) rfl ?_); refine goesL_ (some 20) rfl rfl Try.func105 (by kernel_rfl) rfl #[.pointer (some ⟨g, 0, none⟩), .int .i64 6] rfl qz4 ?_; (with_reducible refine (spec_l1Below.calls g s0_0 t218 t219 6 t220 t221 t222 w0 _ ?side1 ?side2 A20.out).mono ?_); (case side1 => exact qz3); (case side2 => exact qz1); rintro e w39 ⟨rfl, hi, hb, hk⟩; refine ⟨_, rfl, ?_⟩; replace BK211 := aM (KeepBut.blk hk (bk_ BK211.out) NB211_0.out (by simp)); replace BK212 := aM (KeepBut.blk hk (bk_ BK212.out) NB212_0.out (by simp)); replace HO215 := aM (Kd.N_mono (Kd.N_keep (Kd.N_mono (ok := fun k_ => ((((w.heap.size ≤ k_)) ∧ (k_ ≠ gb211 ∧ (k_ ≠ gb212 ∧ k_ ≠ g))) ∧ k_ ≠ gb216)) qz10 (fun k_ hk_ => (⟨hk_, hk_.1.2.2.2⟩ : _ ∧ k_ ≠ g))) hk (fun _ h => h.2)) (fun _ h => h.1)); replace BK216 := aM (KeepBut.blk hk (bk_ BK216.out) NB216_0.out (by simp)); replace HK := aM (KeepBut.trans qz2 hk (.inl rfl)); replace HB := aM (hb); replace HI0 := aM (hi); (try clear hb); (try clear hb2); (try clear hk); (try clear hi)))
 replace HO215 := aM (Kd.N_drew HO215.out)
 replace BK211 := aM (blk_drew BK211.out)
 replace BK212 := aM (blk_drew BK212.out)
 replace BK216 := aM (blk_drew BK216.out)
 replace HI0 := aM (IsS122.drew HI0.out)
 replace HK := aM (keep_drew HK.out)
 replace HB := aM (below_drew1 HB.out)
 refine start_ (n := 9) (S := fun w' => w'.cell? ⟨gb216, 0, none⟩ = some (.slice Ao33 t213.length co33)) (ds := [8]) #[false, false, false, false, false, false, false, false, false] (by kernel_rfl) rfl rfl ((blk_cell BK216.out 0).trans rfl) (fun hHeld => ?_); refine with_tabW spec_l5BendN.tab7 spec_l5BendN.bits7 (fun HT_ HW_ => ?_)
 generalize w39.drew = w40 at HO215 BK211 BK212 BK216 HI0 HK HB hHeld ⊢
 refine pI_ 0 23 (bqz 9 1) ?_
 refine jI_ 2 25 ?_
 refine jI_ 3 26 ?_
 refine take_ (i := 1) (N := some 24) (v := ?_) (a' := ?_) (bqz 9 15) rfl rfl qzb qzd (Or.inl ⟨by rfl, ?_⟩) hHeld ?_ ?_
 rotate_left
 {
 intro w' s0
 go_simp
 with_reducible rfl
 }
 rotate_left
 {
 simp only [qzs]
 rfl
 }
 refine one_ (i := 4) (N := some 27) (bqz 9 31) rfl rfl qzc (by decide) (fun K hK => ?_)
 refine Kd.R_lit_step (Kd.int .i64) _ 3 ?hg (N := 27) ?hd (xs := ([0, 1000, 10] : List Int)) (inner := [.int .i64 0, .int .i64 1000, .int .i64 10]) (ok := fun _ => True) (okp := fun _ => True) ?hr ?hp (fun _ hk => hk) trivial (Below.refl _ _) (Nat.le_refl _) (by simp) ?_; (case hd => rfl); (case hg => rfl); (case hr => exact qz27); (case hp => exact (Reps.one (show Kd.M (Kd.int .i64) _ _ _ 0 [.int .i64 0] from rfl) (Reps.one (show Kd.M (Kd.int .i64) _ _ _ 1000 [.int .i64 1000] from rfl) (Reps.one (show Kd.M (Kd.int .i64) _ _ _ 10 [.int .i64 10] from rfl) (Reps.none _ _)))))
 intro v224 w41 ho42 hb hg_ hnew_
 clear hg_ hnew_
 (first | rw [← Ny223.out] at ho42 | (simp only [Int.reduceToNat] at ho42; rw [← Ny223.out] at ho42))
 replace HO215 := aM (Kd.N_elder' qz10 (Kd.R_base ho42) hb)
 have HO225 := aM (Kd.R_lower (Kd.R_newM (M := fun k_ => (w.heap.size ≤ k_)) ho42 (keep_size (w := w) (g := g) (row := none) qz2) (fun k_ h_ => h_)) (keep_size (w := w) (g := g) (row := none) qz2))
 replace BK211 := bB_ BK211 hb
 replace BK212 := bB_ BK212 hb
 replace BK216 := bB_ BK216 hb
 replace HK := aM (KeepBut.trans qz2 (KeepBut.of_below hb g none) (.inl rfl))
 replace HB := bS_ hb
 replace HI0 := aM (IsS122.below qz3 hb)
 clear hb ho42
 obtain ⟨Ao43, co43, eo43⟩ := Kd.R_slice HO225.out
 (first | subst eo43 | (injection eo43 with f1_ f2_ f3_; have f4_ := f1_.symm; have f5_ := f3_.symm; clear f1_ f2_ f3_; subst f4_; subst f5_))
 refine hK.out _ _ ((blk_cell BK216.out 0).trans rfl) (fun hHeld => ?_)
 clear hK K
 refine nm_ 27 ?_
 refine one_ (i := 5) (N := some 28) (bqz 9 63) rfl rfl qzc (by decide) (fun K hK => ?_)
 refine goes_ Try.func92 (by kernel_rfl) rfl #[.pointer (some ⟨g, 0, none⟩), .slice Ao43 y223.length co43] (by rfl) rfl rfl qz4 ?_
 with_reducible refine (spec_l1Int.calls g s0_0 t221 t222 _ _ y223 t226 t227 t228 w0 _ ?side1 ?side2 ?side3 ?side4 ?side5 A22.out).mono ?_
 (case side1 => exact qz3)
 (case side2 => exact qz1)
 (case side3 => repeat (first | exact (Kd.R_reads' HO225.out).2.2 | (with_reducible refine Kd.C_alloc ?_ _) | (with_reducible refine Kd.C_drewN ?_ _) | (with_reducible refine Kd.C_drew ?_)))
 (case side4 => exact (Kd.R_reads' HO225.out).2.1)
 (case side5 => exact far_slice (IsS122.own_ne HI0.out HO225.out (by decide)))
 rintro e w44 ⟨rfl, hi, hb, hk⟩
 refine ⟨_, rfl, ?_⟩
 replace BK211 := aM (KeepBut.blk hk (bk_ BK211.out) NB211_0.out (by simp))
 replace BK212 := aM (KeepBut.blk hk (bk_ BK212.out) NB212_0.out (by simp))
 replace HO215 := aM (Kd.N_mono (Kd.N_keep (Kd.N_mono (ok := fun k_ => (((((w.heap.size ≤ k_)) ∧ (k_ ≠ gb211 ∧ (k_ ≠ gb212 ∧ k_ ≠ g))) ∧ k_ ≠ gb216) ∧ some k_ ≠ (.slice Ao43 y223.length co43 : Value).ownBlock)) qz10 (fun k_ hk_ => (⟨hk_, hk_.1.1.2.2.2⟩ : _ ∧ k_ ≠ g))) hk (fun _ h => h.2)) (fun _ h => h.1))
 replace BK216 := aM (KeepBut.blk hk (bk_ BK216.out) NB216_0.out (by simp))
 replace HO225 := aM (Kd.R_mono (Kd.R_keep (IsS122.apart (show IsS122 w0 _ g s0_0 t221 t222 from qz3) (rr_ HO225.out) (by decide)) hk (fun _ h => h.2)) (fun _ h => h.1))
 replace HK := aM (KeepBut.trans qz2 hk (.inl rfl))
 replace HB := aM (hb)
 replace HI0 := aM (hi)
 (try clear hb)
 (try clear hb2)
 (try clear hk)
 (try clear hi)
 have p25 : 0 ≤ (t217 : Int) := dt_
 have q25 : (t217 : Int) < ((t213.length : Int) : Int) := dt_
 obtain ⟨go25, co25, eo25, gb25, gl25, cl25, HG25⟩ := Kd.N_form HO215.out (by omega)
 (first | cases eo25 | (injection eo25 with ea_ en_ ec_; (first | subst ea_ | (injection ea_ with ea_; subst ea_)); subst ec_; clear en_))
 have GB25 := aM gb25
 have GG25 := aM HG25
 clear gb25 gl25 HG25
 obtain ⟨ce25, hcl25, hM25, hcc25, hfr25⟩ := Kd.N_elem HO215.out z79 (t217 : Int) p25 q25
 obtain ⟨ua25_2, uc25_2, rfl, ul25_2, ge25_2⟩ := k79_openF hM25
 have hx25_0 : World.cell? _ ⟨go25, (t217 : Int).toNat * 3, none⟩ = some (.int .i64 ((rd_T79 t213 t217).f0)) := hcc25 0 _ rfl
 have hx25_1 : World.cell? _ ⟨go25, (t217 : Int).toNat * 3 + 1, none⟩ = some (.int .i64 ((rd_T79 t213 t217).f1)) := hcc25 1 _ rfl
 have hx25_2 : World.cell? _ ⟨go25, (t217 : Int).toNat * 3 + 2, none⟩ = some (.slice ua25_2 ((rd_T79 t213 t217).f2).length uc25_2) := hcc25 2 _ rfl
 have hf25_0 : World.frozen? _ ⟨go25, (t217 : Int).toNat * 3, none⟩ = false := hfr25 0
 have hf25_1 : World.frozen? _ ⟨go25, (t217 : Int).toNat * 3 + 1, none⟩ = false := hfr25 1
 have hf25_2 : World.frozen? _ ⟨go25, (t217 : Int).toNat * 3 + 2, none⟩ = false := hfr25 2
 clear hcl25 hcc25 hfr25; (try clear hM25)
 replace p25 := eq_true p25
 replace q25 := eq_true q25
 have HN0_go25 := aM (show g ≠ go25 from by have h_ := IsS122.own_neN HI0.out HO215.out (by decide); intro e_; exact h_ (by rw [e_]; rfl))
 have HX45 := aM (show Kd.N k79 79 _ w.heap.size (fun k_ => (w.heap.size ≤ k_) ∧ some k_ ≠ (.slice Ao43 y223.length co43 : Value).ownBlock ∧ k_ ≠ gb211 ∧ k_ ≠ gb212 ∧ k_ ≠ gb216 ∧ k_ ≠ g) (.slice (some ⟨go25, 0, none⟩) t213.length co33) t213 from (Kd.N_mono (HO215.out) (fun k_ hk => ⟨hk.1.1.1, ⟨hk.2, ⟨hk.1.1.2.1, ⟨hk.1.1.2.2.1, ⟨hk.1.2, hk.1.1.2.2.2⟩⟩⟩⟩⟩)))
 obtain ⟨ce45, hcl45, hM45, hcc45, hfr45⟩ := Kd.N_elem HX45.out z79 (t217 : Int) (dt_) (by have h_ : (t217 : Int) < ((t213.length : Int) : Int) := dt_; first | exact h_ | (have e_ := (Kd.N_reads' HO215.out).1; omega) | simpa using h_)
 obtain ⟨ua45_2, uc45_2, rfl, ul45_2, ge45_2⟩ := k79_openF hM45
 have HP45 := (Kd.N_seg HX45.out (t217 : Int) (dt_) (by have h_ : (t217 : Int) < ((t213.length : Int) : Int) := dt_; first | exact h_ | (have e_ := (Kd.N_reads' HO215.out).1; omega) | simpa using h_) (seg := [.int .i64 t226]) (j := 0) hcl45 hcc45 (show 1 ≤ 3 from by decide) (x' := (⟨t226, (rd_T79 t213 t217).f1, (rd_T79 t213 t217).f2⟩ : S79)) (k79_mkF _ _ (⟨t226, (rd_T79 t213 t217).f1, (rd_T79 t213 t217).f2⟩ : S79) ul45_2 ge45_2) (fun _ hk => hk)).1
 rw [← Ny229.out] at HP45
 have HQ45 := aM HP45
 clear hcl45 hcc45 hfr45; (try clear hM45); clear HP45
 refine hK.out _ _ ((blk_cell BK216.out 0).trans rfl) (fun hHeld => ?_)
 clear hK K
 refine nm_ 28 ?_
 refine pI_ 6 29 (bqz 9 127) ?_
 refine jI_ 7 30 ?_
 refine last_ (i := 8) (N := none) (bqz 9 511) rfl rfl qzc (by decide) (fun K hK => ?_)
 refine sk_ ?_
 refine hK.out _ _ ?_
 clear hK K
 refine done_ (done_of HT_.out (by kernel_rfl)) ?_
 generalize hq_ : (w44.setCell ⟨go25, (t217 : Int).toNat * 3, none⟩ (.int .i64 t226)) = w46
 replace HO225 : Aside0 (Kd.R (Kd.int .i64) 3 w46 w.heap.size (fun k_ => (w.heap.size ≤ k_)) (.slice Ao43 y223.length co43) y223) := ⟨by rw [← hq_]; exact (by (with_reducible repeat (first | apply Kd.R_alloc | apply Kd.R_drewN | apply Kd.R_drew)); exact Kd.R_mono (Kd.R_far (p := ⟨go25, (t217 : Int).toNat * 3, none⟩) (Kd.R_types HO225.out GG25.out (by decide)) (fun _ hk => hk.2) (.int .i64 t226)) (fun _ hk => hk.1.1))⟩
 replace BK211 : Aside0 (w46.heap[gb211]? = some (.cells #[.slice A1_0 l1_0.length c1_0] 26 (0, 0))) := ⟨by rw [← hq_]; exact (by (with_reducible repeat (first | refine blk_drewN ?_ _ | refine blk_drew ?_ | refine blk_alloc ?_ _)); refine blk_far ?_ (by have h_ := Kd.N_away HO215.out (fun _ hk => hk.1.1.2.1); intro e_; exact h_ (by rw [e_]; rfl)) _; exact bk_ BK211.out)⟩
 replace BK212 : Aside0 (w46.heap[gb212]? = some (.cells #[.slice none 0 0] 26 (0, 0))) := ⟨by rw [← hq_]; exact (by (with_reducible repeat (first | refine blk_drewN ?_ _ | refine blk_drew ?_ | refine blk_alloc ?_ _)); refine blk_far ?_ (by have h_ := Kd.N_away HO215.out (fun _ hk => hk.1.1.2.2.1); intro e_; exact h_ (by rw [e_]; rfl)) _; exact bk_ BK212.out)⟩
 replace BK216 : Aside0 (w46.heap[gb216]? = some (.cells #[.slice (some ⟨go25, 0, none⟩) t213.length co33] 26 (0, 0))) := ⟨by rw [← hq_]; exact (by (with_reducible repeat (first | refine blk_drewN ?_ _ | refine blk_drew ?_ | refine blk_alloc ?_ _)); refine blk_far ?_ (by have h_ := Kd.N_away HO215.out (fun _ hk => hk.1.2); intro e_; exact h_ (by rw [e_]; rfl)) _; exact bk_ BK216.out)⟩
 replace HO215 : Aside0 (Kd.N k79 79 w46 w.heap.size (fun k_ => (w.heap.size ≤ k_) ∧ some k_ ≠ (.slice Ao43 y223.length co43 : Value).ownBlock ∧ k_ ≠ gb211 ∧ k_ ≠ gb212 ∧ k_ ≠ g ∧ k_ ≠ gb216) (.slice (some ⟨go25, 0, none⟩) t213.length co33) y229) := ⟨by rw [← hq_]; exact (by (with_reducible repeat (first | apply Kd.N_alloc | apply Kd.N_drewN | apply Kd.N_drew)); exact Kd.N_mono HQ45.out (fun _ hk => ⟨hk.1, ⟨hk.2.1, ⟨hk.2.2.1, ⟨hk.2.2.2.1, ⟨hk.2.2.2.2.2, hk.2.2.2.2.1⟩⟩⟩⟩⟩))⟩
 replace HK : Aside0 (KeepBut w w46 g none) := ⟨by rw [← hq_]; exact qz2⟩
 replace HB : Aside0 (Below w0.heap.size w0 w46) := ⟨by rw [← hq_]; exact qz1⟩
 replace HI0 : Aside0 (IsS122 w0 w46 g s0_0 t227 t228) := ⟨by rw [← hq_]; exact qz3⟩
 clear hq_
 obtain ⟨hcz47_0, hfz47_0⟩ := bf_ BK216.out
 have hnb48 := NB212_0.out
 have hnc48 := NB0_212.out
 obtain ⟨hcz49_0, hfz49_0⟩ := bf_ BK212.out
 try go_wp2
 refine bodyPost_ret (results_cell_row rfl _ _ gb212 26 #[.slice (some ⟨go25, 0, none⟩) t213.length co33] (0, 0) _ rfl (by (with_reducible repeat (first | refine blk_drewN ?_ _ | refine blk_drew ?_ | refine blk_alloc ?_ _)); refine blk_put (cs := #[.slice none 0 0]) ?_ 0 _ rfl; exact bk_ BK212.out) Try.underlying26 rfl (by kernel_rfl)) rfl ?_
 exact ⟨_, qzw, by (with_reducible repeat (first | apply Kd.N_alloc | apply Kd.N_drewN | apply Kd.N_drew)); exact Kd.N_mono (Kd.N_far (p := ⟨gb212, 0, none⟩) (Kd.N_mono HO215.out (fun k_ hk => (⟨hk, hk.2.2.2.1⟩ : _ ∧ k_ ≠ gb212))) (fun _ hk => hk.2) (.slice (some ⟨go25, 0, none⟩) t213.length co33)) (fun _ hk => hk.1.1), qz3, qz1, qz2⟩
 }
 {
 exact an_ c24 H
 }
 }
 {
 exact an_ c23 H
 }
 }
 {
 rw [if_neg c21] at H
 have c21b0 := beq_eq_false_iff_ne.mpr c21
 have c21b1 := bne_iff_ne.mpr c21
 by_cases c50 : t220 = 1
 {
 rw [if_pos c50] at H
 have c50b0 := beq_iff_eq.mpr c50
 have c50b1 := bne_eq_false_iff_eq.mpr c50
 clear c50
 obtain ⟨y230, hy230⟩ : ∃ y_ : List Int, y_ = (([(-1), 100, 19] : List Int)) := ⟨_, rfl⟩
 replace H : ((spec_l1Int.f s0_0 t221 t222 y230).bind fun bt233 => (if 0 ≤ t217 then (if t217 < (t213.length : Int) then (some ((t213.set (t217 : Int).toNat (⟨(rd_T79 t213 t217).f0, bt233.1, (rd_T79 t213 t217).f2⟩ : S79)), bt233.2.1, bt233.2.2)) else (none)) else (none))) = some (r1, r2, r3) := by first | (rw [hy230]; with_reducible exact H) | (have H2_ := (Option.bind_some _ _).symm.trans H; rw [hy230]; with_reducible exact H2_) | (have H2_ := (Option.bind_some _ _).symm.trans H; with_reducible exact H2_) | with_reducible exact H | (rw [hy230]; exact H) | exact H
 have Ny230 := aM hy230
 clear hy230
 replace H := Option.bind_eq_some_iff.mp H
 obtain ⟨⟨t233, t234, t235⟩, A510, H⟩ := H
 replace H : (if 0 ≤ t217 then (if t217 < (t213.length : Int) then (some ((t213.set (t217 : Int).toNat (⟨(rd_T79 t213 t217).f0, t233, (rd_T79 t213 t217).f2⟩ : S79)), t234, t235)) else (none)) else (none)) = some (r1, r2, r3) := H
 have A51 := aM A510
 clear A510
 by_cases c52 : 0 ≤ t217
 {
 rw [if_pos c52] at H
 have c52b0 := decide_eq_true c52
 clear c52
 by_cases c53 : t217 < (t213.length : Int)
 {
 rw [if_pos c53] at H
 have c53b0 := decide_eq_true c53
 clear c53
 obtain ⟨y236, hy236⟩ : ∃ y_ : List (S79), y_ = (t213.set (t217 : Int).toNat (⟨(rd_T79 t213 t217).f0, t233, (rd_T79 t213 t217).f2⟩ : S79)) := ⟨_, rfl⟩
 replace H : (some (y236, t234, t235)) = some (r1, r2, r3) := by first | (rw [hy236]; with_reducible exact H) | (have H2_ := (Option.bind_some _ _).symm.trans H; rw [hy236]; with_reducible exact H2_) | (have H2_ := (Option.bind_some _ _).symm.trans H; with_reducible exact H2_) | with_reducible exact H | (rw [hy236]; exact H) | exact H
 have Ny236 := aM hy236
 clear hy236
 simp only [Option.some.injEq, Prod.mk.injEq] at H
 obtain ⟨rfl, rfl, rfl⟩ := H
 go_enter Try.func103, Try.ntmps103
 try go_wp2_with (first | ((with_reducible refine gate_dst (N := 3) rfl ?_); refine bx_ 3 #[.slice A1_0 l1_0.length c1_0] 26 ?_; intro gb211 hg w55 hbox hb; replace HB := bS_ hb; have BK211 := aM (hbox); have GW211 := aM (kz_ w g hg qz2); have GE211 := aM ((Nat.le_trans HW0.out (by rw [hg]; exact (keep_size (w := w) (g := g) (row := none) qz2) : w.heap.size ≤ gb211) : w0.heap.size ≤ gb211)); replace HK := aM (KeepBut.trans qz2 (KeepBut.of_below hb g none) (.inl rfl)); have NB0_211 := aM ((by rw [hg]; exact Nat.ne_of_lt (IsS122.lt (show IsS122 w0 _ g s0_0 s0_1 s0_2 from qz3)) : g ≠ gb211)); have NB211_0 := aM ((by rw [hg]; exact Nat.ne_of_gt (IsS122.lt (show IsS122 w0 _ g s0_0 s0_1 s0_2 from qz3)) : gb211 ≠ g)); replace HI0 := aM (IsS122.below qz3 hb); clear hb hbox hg) | ((with_reducible refine gate_dst (N := 4) rfl ?_); refine bx_ 4 #[.slice none 0 0] 26 ?_; intro gb212 hg w56 hbox hb; replace HB := bS_ hb; have BK212 := aM (hbox); have GW212 := aM (kz_ w g hg qz2); have GE212 := aM ((Nat.le_trans HW0.out (by rw [hg]; exact (keep_size (w := w) (g := g) (row := none) qz2) : w.heap.size ≤ gb212) : w0.heap.size ≤ gb212)); replace HK := aM (KeepBut.trans qz2 (KeepBut.of_below hb g none) (.inl rfl)); obtain ⟨NB211_212, NB212_211⟩ := nb_ hg (bk_ BK211.out); replace BK211 := bB_ BK211 hb; have NB0_212 := aM ((by rw [hg]; exact Nat.ne_of_lt (IsS122.lt (show IsS122 w0 _ g s0_0 s0_1 s0_2 from qz3)) : g ≠ gb212)); have NB212_0 := aM ((by rw [hg]; exact Nat.ne_of_gt (IsS122.lt (show IsS122 w0 _ g s0_0 s0_1 s0_2 from qz3)) : gb212 ≠ g)); replace HI0 := aM (IsS122.below qz3 hb); clear hb hbox hg; have hnb57 := NB211_212.out; have hnc57 := NB212_211.out; have hnb58 := NB211_0.out; have hnc58 := NB0_211.out; obtain ⟨hcz59_0, hfz59_0⟩ := bf_ BK211.out) | ((with_reducible refine gate_callee (f := 62) rfl ?_); refine goesL_ (some 8) rfl rfl Try.func62 (by kernel_rfl) rfl #[.agg #[.slice A1_0 l1_0.length c1_0]] rfl qz4 ?_; (with_reducible refine (spec_l5Copy.calls k _ _ l1_0 t213 _ ?side1 ?side2 A3.out).mono ?_); (case side1 => exact Kd.C_foot_now HR1_0.out qz2); (case side2 => exact HC1_0.out); rintro e w60 ⟨v214, rfl, ho0, hb⟩; refine ⟨_, rfl, ?_⟩; have HO215 := aM (Kd.N_lower (Kd.N_mono (ok' := fun k_ => (w.heap.size ≤ k_) ∧ k_ ≠ gb211 ∧ k_ ≠ gb212 ∧ k_ ≠ g) (Kd.S_N (Kd.S_bound ho0)) (fun k_ hk_ => ⟨(Nat.le_trans (keep_size (w := w) (g := g) (row := none) qz2) hk_.2.1), (Kd.freshB (bk_ BK211.out) k_ hk_.2.1), (Kd.freshB (bk_ BK212.out) k_ hk_.2.1), (IsS122.fresh qz3 k_ hk_.2.1)⟩)) (keep_size (w := w) (g := g) (row := none) qz2)); replace BK211 := bB_ BK211 hb; replace BK212 := bB_ BK212 hb; replace HK := aM (KeepBut.trans qz2 (KeepBut.of_below hb g none) (.inl rfl)); replace HB := bS_ hb; replace HI0 := aM (IsS122.below qz3 hb); (try clear hb); (try clear hb2); (try clear hk); (try clear hi); (try clear ho0)) | ((with_reducible refine gate_dst (N := 5) rfl ?_); refine bx_ 5 #[.slice none 0 0] 26 ?_; intro gb216 hg w61 hbox hb; replace HO215 := aM (Kd.N_below (Kd.N_elderB qz10 gb216 (Nat.le_of_eq hg.symm)) hb); replace HB := bS_ hb; have BK216 := aM (hbox); have GW216 := aM (kz_ w g hg qz2); have GE216 := aM ((Nat.le_trans HW0.out (by rw [hg]; exact (keep_size (w := w) (g := g) (row := none) qz2) : w.heap.size ≤ gb216) : w0.heap.size ≤ gb216)); replace HK := aM (KeepBut.trans qz2 (KeepBut.of_below hb g none) (.inl rfl)); obtain ⟨NB211_216, NB216_211⟩ := nb_ hg (bk_ BK211.out); replace BK211 := bB_ BK211 hb; obtain ⟨NB212_216, NB216_212⟩ := nb_ hg (bk_ BK212.out); replace BK212 := bB_ BK212 hb; have NB0_216 := aM ((by rw [hg]; exact Nat.ne_of_lt (IsS122.lt (show IsS122 w0 _ g s0_0 s0_1 s0_2 from qz3)) : g ≠ gb216)); have NB216_0 := aM ((by rw [hg]; exact Nat.ne_of_gt (IsS122.lt (show IsS122 w0 _ g s0_0 s0_1 s0_2 from qz3)) : gb216 ≠ g)); replace HI0 := aM (IsS122.below qz3 hb); clear hb hbox hg; obtain ⟨Ao62, co62, eo62⟩ := Kd.N_slice HO215.out; subst eo62; have hnb63 := NB216_211.out; have hnc63 := NB211_216.out; have hnb64 := NB216_212.out; have hnc64 := NB212_216.out; have hnb65 := NB216_0.out; have hnc65 := NB0_216.out; obtain ⟨hcz66_0, hfz66_0⟩ := bf_ BK216.out) | ((with_reducible refine gate_callee (f := 105) rfl ?_); refine goesL_ (some 18) rfl rfl Try.func105 (by kernel_rfl) rfl #[.pointer (some ⟨g, 0, none⟩), .int .i64 (t213.length : Int)] rfl qz4 ?_; (with_reducible refine (spec_l1Below.calls g s0_0 s0_1 s0_2 (t213.length : Int) t217 t218 t219 w0 _ ?side1 ?side2 A19.out).mono ?_); (case side1 => exact qz3); (case side2 => exact qz1); rintro e w67 ⟨rfl, hi, hb, hk⟩; refine ⟨_, rfl, ?_⟩; replace BK211 := aM (KeepBut.blk hk (g' := gb211) (o := .cells #[.slice A1_0 l1_0.length c1_0] 26 (0, 0)) (bk2_ BK211.out) NB211_0.out (by simp)); replace BK212 := aM (KeepBut.blk hk (g' := gb212) (o := .cells #[.slice none 0 0] 26 (0, 0)) (bk2_ BK212.out) NB212_0.out (by simp)); replace HO215 := aM (Kd.N_mono (Kd.N_keep (Kd.N_mono (ok := fun k_ => ((((w.heap.size ≤ k_)) ∧ (k_ ≠ gb211 ∧ (k_ ≠ gb212 ∧ k_ ≠ g))) ∧ k_ ≠ gb216)) (by (with_reducible repeat (first | apply Kd.N_alloc | apply Kd.N_drewN | apply Kd.N_drew)); exact (Kd.N_mono (Kd.N_far (p := ⟨gb216, 0, none⟩) (Kd.N_mono HO215.out (fun k_ hk => (⟨hk, hk.2⟩ : _ ∧ k_ ≠ gb216))) (fun _ hk => hk.2) (.slice Ao62 t213.length co62)) (fun _ h_ => h_.1))) (fun k_ hk_ => (⟨hk_, hk_.1.2.2.2⟩ : _ ∧ k_ ≠ g))) hk (fun _ h => h.2)) (fun _ h => h.1)); replace BK216 := aM (KeepBut.blk hk (g' := gb216) (o := .cells #[.slice Ao62 t213.length co62] 26 (0, 0)) (by (with_reducible repeat (first | refine blk_drewN ?_ _ | refine blk_drew ?_ | refine blk_alloc ?_ _)); refine blk_put (cs := #[.slice none 0 0]) ?_ 0 _ rfl; exact bk_ BK216.out) NB216_0.out (by simp)); replace HK := aM (KeepBut.trans qz2 hk (.inl rfl)); replace HB := aM (hb); replace HI0 := aM (hi); (try clear hb); (try clear hb2); (try clear hk); (try clear hi)) | ((with_reducible refine gate_callee (f := 105) rfl ?_); refine goesL_ (some 20) rfl rfl Try.func105 (by kernel_rfl) rfl #[.pointer (some ⟨g, 0, none⟩), .int .i64 6] rfl qz4 ?_; (with_reducible refine (spec_l1Below.calls g s0_0 t218 t219 6 t220 t221 t222 w0 _ ?side1 ?side2 A20.out).mono ?_); (case side1 => exact qz3); (case side2 => exact qz1); rintro e w68 ⟨rfl, hi, hb, hk⟩; refine ⟨_, rfl, ?_⟩; replace BK211 := aM (KeepBut.blk hk (bk_ BK211.out) NB211_0.out (by simp)); replace BK212 := aM (KeepBut.blk hk (bk_ BK212.out) NB212_0.out (by simp)); replace HO215 := aM (Kd.N_mono (Kd.N_keep (Kd.N_mono (ok := fun k_ => ((((w.heap.size ≤ k_)) ∧ (k_ ≠ gb211 ∧ (k_ ≠ gb212 ∧ k_ ≠ g))) ∧ k_ ≠ gb216)) qz10 (fun k_ hk_ => (⟨hk_, hk_.1.2.2.2⟩ : _ ∧ k_ ≠ g))) hk (fun _ h => h.2)) (fun _ h => h.1)); replace BK216 := aM (KeepBut.blk hk (bk_ BK216.out) NB216_0.out (by simp)); replace HK := aM (KeepBut.trans qz2 hk (.inl rfl)); replace HB := aM (hb); replace HI0 := aM (hi); (try clear hb); (try clear hb2); (try clear hk); (try clear hi)))
 replace HO215 := aM (Kd.N_drew HO215.out)
 replace BK211 := aM (blk_drew BK211.out)
 replace BK212 := aM (blk_drew BK212.out)
 replace BK216 := aM (blk_drew BK216.out)
 replace HI0 := aM (IsS122.drew HI0.out)
 replace HK := aM (keep_drew HK.out)
 replace HB := aM (below_drew1 HB.out)
 refine start_ (n := 9) (S := fun w' => w'.cell? ⟨gb216, 0, none⟩ = some (.slice Ao62 t213.length co62)) (ds := [8]) #[false, false, false, false, false, false, false, false, false] (by kernel_rfl) rfl rfl ((blk_cell BK216.out 0).trans rfl) (fun hHeld => ?_); refine with_tabW spec_l5BendN.tab9 spec_l5BendN.bits9 (fun HT_ HW_ => ?_)
 generalize w68.drew = w69 at HO215 BK211 BK212 BK216 HI0 HK HB hHeld ⊢
 refine pI_ 0 33 (bqz 9 1) ?_
 refine jI_ 2 35 ?_
 refine jI_ 3 36 ?_
 refine take_ (i := 1) (N := some 34) (v := ?_) (a' := ?_) (bqz 9 15) rfl rfl qzb qzd (Or.inl ⟨by rfl, ?_⟩) hHeld ?_ ?_
 rotate_left
 {
 intro w' s0
 go_simp
 with_reducible rfl
 }
 rotate_left
 {
 simp only [qzs]
 rfl
 }
 refine one_ (i := 4) (N := some 37) (bqz 9 31) rfl rfl qzc (by decide) (fun K hK => ?_)
 refine Kd.R_lit_step (Kd.int .i64) _ 3 ?hg (N := 37) ?hd (xs := ([(-1), 100, 19] : List Int)) (inner := [.int .i64 (-1), .int .i64 100, .int .i64 19]) (ok := fun _ => True) (okp := fun _ => True) ?hr ?hp (fun _ hk => hk) trivial (Below.refl _ _) (Nat.le_refl _) (by simp) ?_; (case hd => rfl); (case hg => rfl); (case hr => exact qz27); (case hp => exact (Reps.one (show Kd.M (Kd.int .i64) _ _ _ (-1) [.int .i64 (-1)] from rfl) (Reps.one (show Kd.M (Kd.int .i64) _ _ _ 100 [.int .i64 100] from rfl) (Reps.one (show Kd.M (Kd.int .i64) _ _ _ 19 [.int .i64 19] from rfl) (Reps.none _ _)))))
 intro v231 w70 ho71 hb hg_ hnew_
 clear hg_ hnew_
 (first | rw [← Ny230.out] at ho71 | (simp only [Int.reduceToNat] at ho71; rw [← Ny230.out] at ho71))
 replace HO215 := aM (Kd.N_elder' qz10 (Kd.R_base ho71) hb)
 have HO232 := aM (Kd.R_lower (Kd.R_newM (M := fun k_ => (w.heap.size ≤ k_)) ho71 (keep_size (w := w) (g := g) (row := none) qz2) (fun k_ h_ => h_)) (keep_size (w := w) (g := g) (row := none) qz2))
 replace BK211 := bB_ BK211 hb
 replace BK212 := bB_ BK212 hb
 replace BK216 := bB_ BK216 hb
 replace HK := aM (KeepBut.trans qz2 (KeepBut.of_below hb g none) (.inl rfl))
 replace HB := bS_ hb
 replace HI0 := aM (IsS122.below qz3 hb)
 clear hb ho71
 obtain ⟨Ao72, co72, eo72⟩ := Kd.R_slice HO232.out
 (first | subst eo72 | (injection eo72 with f1_ f2_ f3_; have f4_ := f1_.symm; have f5_ := f3_.symm; clear f1_ f2_ f3_; subst f4_; subst f5_))
 refine hK.out _ _ ((blk_cell BK216.out 0).trans rfl) (fun hHeld => ?_)
 clear hK K
 refine nm_ 37 ?_
 refine one_ (i := 5) (N := some 38) (bqz 9 63) rfl rfl qzc (by decide) (fun K hK => ?_)
 refine goes_ Try.func92 (by kernel_rfl) rfl #[.pointer (some ⟨g, 0, none⟩), .slice Ao72 y230.length co72] (by rfl) rfl rfl qz4 ?_
 with_reducible refine (spec_l1Int.calls g s0_0 t221 t222 _ _ y230 t233 t234 t235 w0 _ ?side1 ?side2 ?side3 ?side4 ?side5 A51.out).mono ?_
 (case side1 => exact qz3)
 (case side2 => exact qz1)
 (case side3 => repeat (first | exact (Kd.R_reads' HO232.out).2.2 | (with_reducible refine Kd.C_alloc ?_ _) | (with_reducible refine Kd.C_drewN ?_ _) | (with_reducible refine Kd.C_drew ?_)))
 (case side4 => exact (Kd.R_reads' HO232.out).2.1)
 (case side5 => exact far_slice (IsS122.own_ne HI0.out HO232.out (by decide)))
 rintro e w73 ⟨rfl, hi, hb, hk⟩
 refine ⟨_, rfl, ?_⟩
 replace BK211 := aM (KeepBut.blk hk (bk_ BK211.out) NB211_0.out (by simp))
 replace BK212 := aM (KeepBut.blk hk (bk_ BK212.out) NB212_0.out (by simp))
 replace HO215 := aM (Kd.N_mono (Kd.N_keep (Kd.N_mono (ok := fun k_ => (((((w.heap.size ≤ k_)) ∧ (k_ ≠ gb211 ∧ (k_ ≠ gb212 ∧ k_ ≠ g))) ∧ k_ ≠ gb216) ∧ some k_ ≠ (.slice Ao72 y230.length co72 : Value).ownBlock)) qz10 (fun k_ hk_ => (⟨hk_, hk_.1.1.2.2.2⟩ : _ ∧ k_ ≠ g))) hk (fun _ h => h.2)) (fun _ h => h.1))
 replace BK216 := aM (KeepBut.blk hk (bk_ BK216.out) NB216_0.out (by simp))
 replace HO232 := aM (Kd.R_mono (Kd.R_keep (IsS122.apart (show IsS122 w0 _ g s0_0 t221 t222 from qz3) (rr_ HO232.out) (by decide)) hk (fun _ h => h.2)) (fun _ h => h.1))
 replace HK := aM (KeepBut.trans qz2 hk (.inl rfl))
 replace HB := aM (hb)
 replace HI0 := aM (hi)
 (try clear hb)
 (try clear hb2)
 (try clear hk)
 (try clear hi)
 have p54 : 0 ≤ (t217 : Int) := dt_
 have q54 : (t217 : Int) < ((t213.length : Int) : Int) := dt_
 obtain ⟨go54, co54, eo54, gb54, gl54, cl54, HG54⟩ := Kd.N_form HO215.out (by omega)
 (first | cases eo54 | (injection eo54 with ea_ en_ ec_; (first | subst ea_ | (injection ea_ with ea_; subst ea_)); subst ec_; clear en_))
 have GB54 := aM gb54
 have GG54 := aM HG54
 clear gb54 gl54 HG54
 obtain ⟨ce54, hcl54, hM54, hcc54, hfr54⟩ := Kd.N_elem HO215.out z79 (t217 : Int) p54 q54
 obtain ⟨ua54_2, uc54_2, rfl, ul54_2, ge54_2⟩ := k79_openF hM54
 have hx54_0 : World.cell? _ ⟨go54, (t217 : Int).toNat * 3, none⟩ = some (.int .i64 ((rd_T79 t213 t217).f0)) := hcc54 0 _ rfl
 have hx54_1 : World.cell? _ ⟨go54, (t217 : Int).toNat * 3 + 1, none⟩ = some (.int .i64 ((rd_T79 t213 t217).f1)) := hcc54 1 _ rfl
 have hx54_2 : World.cell? _ ⟨go54, (t217 : Int).toNat * 3 + 2, none⟩ = some (.slice ua54_2 ((rd_T79 t213 t217).f2).length uc54_2) := hcc54 2 _ rfl
 have hf54_0 : World.frozen? _ ⟨go54, (t217 : Int).toNat * 3, none⟩ = false := hfr54 0
 have hf54_1 : World.frozen? _ ⟨go54, (t217 : Int).toNat * 3 + 1, none⟩ = false := hfr54 1
 have hf54_2 : World.frozen? _ ⟨go54, (t217 : Int).toNat * 3 + 2, none⟩ = false := hfr54 2
 clear hcl54 hcc54 hfr54; (try clear hM54)
 replace p54 := eq_true p54
 replace q54 := eq_true q54
 have HN0_go54 := aM (show g ≠ go54 from by have h_ := IsS122.own_neN HI0.out HO215.out (by decide); intro e_; exact h_ (by rw [e_]; rfl))
 have HX74 := aM (show Kd.N k79 79 _ w.heap.size (fun k_ => (w.heap.size ≤ k_) ∧ some k_ ≠ (.slice Ao72 y230.length co72 : Value).ownBlock ∧ k_ ≠ gb211 ∧ k_ ≠ gb212 ∧ k_ ≠ gb216 ∧ k_ ≠ g) (.slice (some ⟨go54, 0, none⟩) t213.length co62) t213 from (Kd.N_mono (HO215.out) (fun k_ hk => ⟨hk.1.1.1, ⟨hk.2, ⟨hk.1.1.2.1, ⟨hk.1.1.2.2.1, ⟨hk.1.2, hk.1.1.2.2.2⟩⟩⟩⟩⟩)))
 obtain ⟨ce74, hcl74, hM74, hcc74, hfr74⟩ := Kd.N_elem HX74.out z79 (t217 : Int) (dt_) (by have h_ : (t217 : Int) < ((t213.length : Int) : Int) := dt_; first | exact h_ | (have e_ := (Kd.N_reads' HO215.out).1; omega) | simpa using h_)
 obtain ⟨ua74_2, uc74_2, rfl, ul74_2, ge74_2⟩ := k79_openF hM74
 have HP74 := (Kd.N_seg HX74.out (t217 : Int) (dt_) (by have h_ : (t217 : Int) < ((t213.length : Int) : Int) := dt_; first | exact h_ | (have e_ := (Kd.N_reads' HO215.out).1; omega) | simpa using h_) (seg := [.int .i64 t233]) (j := 1) hcl74 hcc74 (show 2 ≤ 3 from by decide) (x' := (⟨(rd_T79 t213 t217).f0, t233, (rd_T79 t213 t217).f2⟩ : S79)) (k79_mkF _ _ (⟨(rd_T79 t213 t217).f0, t233, (rd_T79 t213 t217).f2⟩ : S79) ul74_2 ge74_2) (fun _ hk => hk)).1
 rw [← Ny236.out] at HP74
 have HQ74 := aM HP74
 clear hcl74 hcc74 hfr74; (try clear hM74); clear HP74
 refine hK.out _ _ ((blk_cell BK216.out 0).trans rfl) (fun hHeld => ?_)
 clear hK K
 refine nm_ 38 ?_
 refine pI_ 6 39 (bqz 9 127) ?_
 refine jI_ 7 40 ?_
 refine last_ (i := 8) (N := none) (bqz 9 511) rfl rfl qzc (by decide) (fun K hK => ?_)
 refine sk_ ?_
 refine hK.out _ _ ?_
 clear hK K
 refine done_ (done_of HT_.out (by kernel_rfl)) ?_
 generalize hq_ : (w73.setCell ⟨go54, (t217 : Int).toNat * 3 + 1, none⟩ (.int .i64 t233)) = w75
 replace HO232 : Aside0 (Kd.R (Kd.int .i64) 3 w75 w.heap.size (fun k_ => (w.heap.size ≤ k_)) (.slice Ao72 y230.length co72) y230) := ⟨by rw [← hq_]; exact (by (with_reducible repeat (first | apply Kd.R_alloc | apply Kd.R_drewN | apply Kd.R_drew)); exact Kd.R_mono (Kd.R_far (p := ⟨go54, (t217 : Int).toNat * 3 + 1, none⟩) (Kd.R_types HO232.out GG54.out (by decide)) (fun _ hk => hk.2) (.int .i64 t233)) (fun _ hk => hk.1.1))⟩
 replace BK211 : Aside0 (w75.heap[gb211]? = some (.cells #[.slice A1_0 l1_0.length c1_0] 26 (0, 0))) := ⟨by rw [← hq_]; exact (by (with_reducible repeat (first | refine blk_drewN ?_ _ | refine blk_drew ?_ | refine blk_alloc ?_ _)); refine blk_far ?_ (by have h_ := Kd.N_away HO215.out (fun _ hk => hk.1.1.2.1); intro e_; exact h_ (by rw [e_]; rfl)) _; exact bk_ BK211.out)⟩
 replace BK212 : Aside0 (w75.heap[gb212]? = some (.cells #[.slice none 0 0] 26 (0, 0))) := ⟨by rw [← hq_]; exact (by (with_reducible repeat (first | refine blk_drewN ?_ _ | refine blk_drew ?_ | refine blk_alloc ?_ _)); refine blk_far ?_ (by have h_ := Kd.N_away HO215.out (fun _ hk => hk.1.1.2.2.1); intro e_; exact h_ (by rw [e_]; rfl)) _; exact bk_ BK212.out)⟩
 replace BK216 : Aside0 (w75.heap[gb216]? = some (.cells #[.slice (some ⟨go54, 0, none⟩) t213.length co62] 26 (0, 0))) := ⟨by rw [← hq_]; exact (by (with_reducible repeat (first | refine blk_drewN ?_ _ | refine blk_drew ?_ | refine blk_alloc ?_ _)); refine blk_far ?_ (by have h_ := Kd.N_away HO215.out (fun _ hk => hk.1.2); intro e_; exact h_ (by rw [e_]; rfl)) _; exact bk_ BK216.out)⟩
 replace HO215 : Aside0 (Kd.N k79 79 w75 w.heap.size (fun k_ => (w.heap.size ≤ k_) ∧ some k_ ≠ (.slice Ao72 y230.length co72 : Value).ownBlock ∧ k_ ≠ gb211 ∧ k_ ≠ gb212 ∧ k_ ≠ g ∧ k_ ≠ gb216) (.slice (some ⟨go54, 0, none⟩) t213.length co62) y236) := ⟨by rw [← hq_]; exact (by (with_reducible repeat (first | apply Kd.N_alloc | apply Kd.N_drewN | apply Kd.N_drew)); exact Kd.N_mono HQ74.out (fun _ hk => ⟨hk.1, ⟨hk.2.1, ⟨hk.2.2.1, ⟨hk.2.2.2.1, ⟨hk.2.2.2.2.2, hk.2.2.2.2.1⟩⟩⟩⟩⟩))⟩
 replace HK : Aside0 (KeepBut w w75 g none) := ⟨by rw [← hq_]; exact qz2⟩
 replace HB : Aside0 (Below w0.heap.size w0 w75) := ⟨by rw [← hq_]; exact qz1⟩
 replace HI0 : Aside0 (IsS122 w0 w75 g s0_0 t234 t235) := ⟨by rw [← hq_]; exact qz3⟩
 clear hq_
 obtain ⟨hcz76_0, hfz76_0⟩ := bf_ BK216.out
 have hnb77 := NB212_0.out
 have hnc77 := NB0_212.out
 obtain ⟨hcz78_0, hfz78_0⟩ := bf_ BK212.out
 try go_wp2
 refine bodyPost_ret (results_cell_row rfl _ _ gb212 26 #[.slice (some ⟨go54, 0, none⟩) t213.length co62] (0, 0) _ rfl (by (with_reducible repeat (first | refine blk_drewN ?_ _ | refine blk_drew ?_ | refine blk_alloc ?_ _)); refine blk_put (cs := #[.slice none 0 0]) ?_ 0 _ rfl; exact bk_ BK212.out) Try.underlying26 rfl (by kernel_rfl)) rfl ?_
 exact ⟨_, qzw, by (with_reducible repeat (first | apply Kd.N_alloc | apply Kd.N_drewN | apply Kd.N_drew)); exact Kd.N_mono (Kd.N_far (p := ⟨gb212, 0, none⟩) (Kd.N_mono HO215.out (fun k_ hk => (⟨hk, hk.2.2.2.1⟩ : _ ∧ k_ ≠ gb212))) (fun _ hk => hk.2) (.slice (some ⟨go54, 0, none⟩) t213.length co62)) (fun _ hk => hk.1.1), qz3, qz1, qz2⟩
 }
 {
 exact an_ c53 H
 }
 }
 {
 exact an_ c52 H
 }
 }
 {
 rw [if_neg c50] at H
 have c50b0 := beq_eq_false_iff_ne.mpr c50
 have c50b1 := bne_iff_ne.mpr c50
 by_cases c79 : t220 = 2
 {
 rw [if_pos c79] at H
 have c79b0 := beq_iff_eq.mpr c79
 have c79b1 := bne_eq_false_iff_eq.mpr c79
 clear c79
 by_cases c80 : 0 ≤ t217
 {
 rw [if_pos c80] at H
 have c80b0 := decide_eq_true c80
 clear c80
 by_cases c81 : t217 < (t213.length : Int)
 {
 rw [if_pos c81] at H
 have c81b0 := decide_eq_true c81
 clear c81
 obtain ⟨y238, hy238⟩ : ∃ y_ : List Int, y_ = (([0, 1, 1001] : List Int)) := ⟨_, rfl⟩
 replace H : ((spec_l1Int.f s0_0 t221 t222 y238).bind fun bt241 => ((spec_l1Below.f s0_0 bt241.2.1 bt241.2.2 3).bind fun bt244 => (none))) = some (r1, r2, r3) := by first | (rw [hy238]; with_reducible exact H) | (have H2_ := (Option.bind_some _ _).symm.trans H; rw [hy238]; with_reducible exact H2_) | (have H2_ := (Option.bind_some _ _).symm.trans H; with_reducible exact H2_) | with_reducible exact H | (rw [hy238]; exact H) | exact H
 have Ny238 := aM hy238
 clear hy238
 replace H := Option.bind_eq_some_iff.mp H
 obtain ⟨⟨t241, t242, t243⟩, A820, H⟩ := H
 replace H : ((spec_l1Below.f s0_0 t242 t243 3).bind fun bt244 => (none)) = some (r1, r2, r3) := H
 have A82 := aM A820
 clear A820
 replace H := Option.bind_eq_some_iff.mp H
 obtain ⟨⟨t244, t245, t246⟩, A830, H⟩ := H
 replace H : (none) = some (r1, r2, r3) := H
 have A83 := aM A830
 clear A830
 exact absurd H (by simp)
 }
 {
 exact an_ c81 H
 }
 }
 {
 exact an_ c80 H
 }
 }
 {
 rw [if_neg c79] at H
 have c79b0 := beq_eq_false_iff_ne.mpr c79
 have c79b1 := bne_iff_ne.mpr c79
 by_cases c84 : t220 = 3
 {
 rw [if_pos c84] at H
 have c84b0 := beq_iff_eq.mpr c84
 have c84b1 := bne_eq_false_iff_eq.mpr c84
 clear c84
 by_cases c85 : 0 < (t213.length : Int)
 {
 rw [if_pos c85] at H
 have c85b0 := decide_eq_true c85
 have c85b1 : decide (0 < t213.length) = true := decide_eq_true (by omega)
 clear c85
 by_cases c86 : t213.length < 3518437208883
 {
 rw [if_pos c86] at H
 have LMc86 := aM c86
 clear c86
 obtain ⟨y248, hy248⟩ : ∃ y_ : List (S79), y_ = (t213 ++ [(⟨(rd_T79 t213 0).f0, (rd_T79 t213 0).f1, (rd_T79 t213 0).f2⟩ : S79)]) := ⟨_, rfl⟩
 replace H : (some (y248, t221, t222)) = some (r1, r2, r3) := by first | (rw [hy248]; with_reducible exact H) | (have H2_ := (Option.bind_some _ _).symm.trans H; rw [hy248]; with_reducible exact H2_) | (have H2_ := (Option.bind_some _ _).symm.trans H; with_reducible exact H2_) | with_reducible exact H | (rw [hy248]; exact H) | exact H
 have Ny248 := aM hy248
 clear hy248
 simp only [Option.some.injEq, Prod.mk.injEq] at H
 obtain ⟨rfl, rfl, rfl⟩ := H
 go_enter Try.func103, Try.ntmps103
 try go_wp2_with (first | ((with_reducible refine gate_dst (N := 3) rfl ?_); refine bx_ 3 #[.slice A1_0 l1_0.length c1_0] 26 ?_; intro gb211 hg w87 hbox hb; replace HB := bS_ hb; have BK211 := aM (hbox); have GW211 := aM (kz_ w g hg qz2); have GE211 := aM ((Nat.le_trans HW0.out (by rw [hg]; exact (keep_size (w := w) (g := g) (row := none) qz2) : w.heap.size ≤ gb211) : w0.heap.size ≤ gb211)); replace HK := aM (KeepBut.trans qz2 (KeepBut.of_below hb g none) (.inl rfl)); have NB0_211 := aM ((by rw [hg]; exact Nat.ne_of_lt (IsS122.lt (show IsS122 w0 _ g s0_0 s0_1 s0_2 from qz3)) : g ≠ gb211)); have NB211_0 := aM ((by rw [hg]; exact Nat.ne_of_gt (IsS122.lt (show IsS122 w0 _ g s0_0 s0_1 s0_2 from qz3)) : gb211 ≠ g)); replace HI0 := aM (IsS122.below qz3 hb); clear hb hbox hg) | ((with_reducible refine gate_dst (N := 4) rfl ?_); refine bx_ 4 #[.slice none 0 0] 26 ?_; intro gb212 hg w88 hbox hb; replace HB := bS_ hb; have BK212 := aM (hbox); have GW212 := aM (kz_ w g hg qz2); have GE212 := aM ((Nat.le_trans HW0.out (by rw [hg]; exact (keep_size (w := w) (g := g) (row := none) qz2) : w.heap.size ≤ gb212) : w0.heap.size ≤ gb212)); replace HK := aM (KeepBut.trans qz2 (KeepBut.of_below hb g none) (.inl rfl)); obtain ⟨NB211_212, NB212_211⟩ := nb_ hg (bk_ BK211.out); replace BK211 := bB_ BK211 hb; have NB0_212 := aM ((by rw [hg]; exact Nat.ne_of_lt (IsS122.lt (show IsS122 w0 _ g s0_0 s0_1 s0_2 from qz3)) : g ≠ gb212)); have NB212_0 := aM ((by rw [hg]; exact Nat.ne_of_gt (IsS122.lt (show IsS122 w0 _ g s0_0 s0_1 s0_2 from qz3)) : gb212 ≠ g)); replace HI0 := aM (IsS122.below qz3 hb); clear hb hbox hg; have hnb89 := NB211_212.out; have hnc89 := NB212_211.out; have hnb90 := NB211_0.out; have hnc90 := NB0_211.out; obtain ⟨hcz91_0, hfz91_0⟩ := bf_ BK211.out) | ((with_reducible refine gate_callee (f := 62) rfl ?_); refine goesL_ (some 8) rfl rfl Try.func62 (by kernel_rfl) rfl #[.agg #[.slice A1_0 l1_0.length c1_0]] rfl qz4 ?_; (with_reducible refine (spec_l5Copy.calls k _ _ l1_0 t213 _ ?side1 ?side2 A3.out).mono ?_); (case side1 => exact Kd.C_foot_now HR1_0.out qz2); (case side2 => exact HC1_0.out); rintro e w92 ⟨v214, rfl, ho0, hb⟩; refine ⟨_, rfl, ?_⟩; have HO215 := aM (Kd.N_lower (Kd.N_mono (ok' := fun k_ => (w.heap.size ≤ k_) ∧ k_ ≠ gb211 ∧ k_ ≠ gb212 ∧ k_ ≠ g) (Kd.S_N (Kd.S_bound ho0)) (fun k_ hk_ => ⟨(Nat.le_trans (keep_size (w := w) (g := g) (row := none) qz2) hk_.2.1), (Kd.freshB (bk_ BK211.out) k_ hk_.2.1), (Kd.freshB (bk_ BK212.out) k_ hk_.2.1), (IsS122.fresh qz3 k_ hk_.2.1)⟩)) (keep_size (w := w) (g := g) (row := none) qz2)); replace BK211 := bB_ BK211 hb; replace BK212 := bB_ BK212 hb; replace HK := aM (KeepBut.trans qz2 (KeepBut.of_below hb g none) (.inl rfl)); replace HB := bS_ hb; replace HI0 := aM (IsS122.below qz3 hb); (try clear hb); (try clear hb2); (try clear hk); (try clear hi); (try clear ho0)) | ((with_reducible refine gate_dst (N := 5) rfl ?_); refine bx_ 5 #[.slice none 0 0] 26 ?_; intro gb216 hg w93 hbox hb; replace HO215 := aM (Kd.N_below (Kd.N_elderB qz10 gb216 (Nat.le_of_eq hg.symm)) hb); replace HB := bS_ hb; have BK216 := aM (hbox); have GW216 := aM (kz_ w g hg qz2); have GE216 := aM ((Nat.le_trans HW0.out (by rw [hg]; exact (keep_size (w := w) (g := g) (row := none) qz2) : w.heap.size ≤ gb216) : w0.heap.size ≤ gb216)); replace HK := aM (KeepBut.trans qz2 (KeepBut.of_below hb g none) (.inl rfl)); obtain ⟨NB211_216, NB216_211⟩ := nb_ hg (bk_ BK211.out); replace BK211 := bB_ BK211 hb; obtain ⟨NB212_216, NB216_212⟩ := nb_ hg (bk_ BK212.out); replace BK212 := bB_ BK212 hb; have NB0_216 := aM ((by rw [hg]; exact Nat.ne_of_lt (IsS122.lt (show IsS122 w0 _ g s0_0 s0_1 s0_2 from qz3)) : g ≠ gb216)); have NB216_0 := aM ((by rw [hg]; exact Nat.ne_of_gt (IsS122.lt (show IsS122 w0 _ g s0_0 s0_1 s0_2 from qz3)) : gb216 ≠ g)); replace HI0 := aM (IsS122.below qz3 hb); clear hb hbox hg; obtain ⟨Ao94, co94, eo94⟩ := Kd.N_slice HO215.out; subst eo94; have hnb95 := NB216_211.out; have hnc95 := NB211_216.out; have hnb96 := NB216_212.out; have hnc96 := NB212_216.out; have hnb97 := NB216_0.out; have hnc97 := NB0_216.out; obtain ⟨hcz98_0, hfz98_0⟩ := bf_ BK216.out) | ((with_reducible refine gate_callee (f := 105) rfl ?_); refine goesL_ (some 18) rfl rfl Try.func105 (by kernel_rfl) rfl #[.pointer (some ⟨g, 0, none⟩), .int .i64 (t213.length : Int)] rfl qz4 ?_; (with_reducible refine (spec_l1Below.calls g s0_0 s0_1 s0_2 (t213.length : Int) t217 t218 t219 w0 _ ?side1 ?side2 A19.out).mono ?_); (case side1 => exact qz3); (case side2 => exact qz1); rintro e w99 ⟨rfl, hi, hb, hk⟩; refine ⟨_, rfl, ?_⟩; replace BK211 := aM (KeepBut.blk hk (g' := gb211) (o := .cells #[.slice A1_0 l1_0.length c1_0] 26 (0, 0)) (bk2_ BK211.out) NB211_0.out (by simp)); replace BK212 := aM (KeepBut.blk hk (g' := gb212) (o := .cells #[.slice none 0 0] 26 (0, 0)) (bk2_ BK212.out) NB212_0.out (by simp)); replace HO215 := aM (Kd.N_mono (Kd.N_keep (Kd.N_mono (ok := fun k_ => ((((w.heap.size ≤ k_)) ∧ (k_ ≠ gb211 ∧ (k_ ≠ gb212 ∧ k_ ≠ g))) ∧ k_ ≠ gb216)) (by (with_reducible repeat (first | apply Kd.N_alloc | apply Kd.N_drewN | apply Kd.N_drew)); exact (Kd.N_mono (Kd.N_far (p := ⟨gb216, 0, none⟩) (Kd.N_mono HO215.out (fun k_ hk => (⟨hk, hk.2⟩ : _ ∧ k_ ≠ gb216))) (fun _ hk => hk.2) (.slice Ao94 t213.length co94)) (fun _ h_ => h_.1))) (fun k_ hk_ => (⟨hk_, hk_.1.2.2.2⟩ : _ ∧ k_ ≠ g))) hk (fun _ h => h.2)) (fun _ h => h.1)); replace BK216 := aM (KeepBut.blk hk (g' := gb216) (o := .cells #[.slice Ao94 t213.length co94] 26 (0, 0)) (by (with_reducible repeat (first | refine blk_drewN ?_ _ | refine blk_drew ?_ | refine blk_alloc ?_ _)); refine blk_put (cs := #[.slice none 0 0]) ?_ 0 _ rfl; exact bk_ BK216.out) NB216_0.out (by simp)); replace HK := aM (KeepBut.trans qz2 hk (.inl rfl)); replace HB := aM (hb); replace HI0 := aM (hi); (try clear hb); (try clear hb2); (try clear hk); (try clear hi)) | ((with_reducible refine gate_callee (f := 105) rfl ?_); refine goesL_ (some 20) rfl rfl Try.func105 (by kernel_rfl) rfl #[.pointer (some ⟨g, 0, none⟩), .int .i64 6] rfl qz4 ?_; (with_reducible refine (spec_l1Below.calls g s0_0 t218 t219 6 t220 t221 t222 w0 _ ?side1 ?side2 A20.out).mono ?_); (case side1 => exact qz3); (case side2 => exact qz1); rintro e w100 ⟨rfl, hi, hb, hk⟩; refine ⟨_, rfl, ?_⟩; replace BK211 := aM (KeepBut.blk hk (bk_ BK211.out) NB211_0.out (by simp)); replace BK212 := aM (KeepBut.blk hk (bk_ BK212.out) NB212_0.out (by simp)); replace HO215 := aM (Kd.N_mono (Kd.N_keep (Kd.N_mono (ok := fun k_ => ((((w.heap.size ≤ k_)) ∧ (k_ ≠ gb211 ∧ (k_ ≠ gb212 ∧ k_ ≠ g))) ∧ k_ ≠ gb216)) qz10 (fun k_ hk_ => (⟨hk_, hk_.1.2.2.2⟩ : _ ∧ k_ ≠ g))) hk (fun _ h => h.2)) (fun _ h => h.1)); replace BK216 := aM (KeepBut.blk hk (bk_ BK216.out) NB216_0.out (by simp)); replace HK := aM (KeepBut.trans qz2 hk (.inl rfl)); replace HB := aM (hb); replace HI0 := aM (hi); (try clear hb); (try clear hb2); (try clear hk); (try clear hi)))
 replace HO215 := aM (Kd.N_drew HO215.out)
 replace BK211 := aM (blk_drew BK211.out)
 replace BK212 := aM (blk_drew BK212.out)
 replace BK216 := aM (blk_drew BK216.out)
 replace HI0 := aM (IsS122.drew HI0.out)
 replace HK := aM (keep_drew HK.out)
 replace HB := aM (below_drew1 HB.out)
 have p247 : 0 ≤ (0 : Int) := (by omega)
 have q247 : 0 < (t213.length : Int) := dt_
 obtain ⟨ad247, A247_2, c247_2, e247, hx247_0, hx247_1, hx247_2, hl247_2, hi247_2⟩ := at_T79 (Kd.N_reads' HO215.out).2.2 0 p247 q247
 cases e247
 obtain ⟨ce247, hce247, hMe247, hcc247⟩ := Kd.N_get HO215.out z79 0 p247 (by first | exact q247 | exact dt_ | (have e_ := (Kd.N_reads' HO215.out).1; omega))
 obtain ⟨ua247_2, uc247_2, rfl, ul247_2, ge247_2⟩ := k79_openF hMe247
 have hv247_2 := hcc247 2 _ rfl
 rw [add_field _ _ 2 (by omega)] at hv247_2
 replace hv247_2 := Option.some.inj (hv247_2.symm.trans hx247_2)
 injection hv247_2 with hva_ hvn_ hvc_
 rw [hva_] at ge247_2
 rw [hvc_] at ul247_2
 have HL247_2 := aM (show Kd.V k72 72 _ w.heap.size _ _ ((rd_T79 t213 0).f2) from Kd.V_mk ul247_2 ge247_2)
 clear hva_ hvn_ hvc_ ge247_2 ul247_2 hcc247 hce247
 have qi247 : (0 < t213.length) = True := eq_true (by omega)
 (try rw [show ((0 : Int)).toNat = 0 from rfl] at hx247_0)
 (try rw [show 0 * 3 = 0 from rfl] at hx247_0)
 (try rw [Addr.add_zero'] at hx247_0)
 (try rw [show ((0 : Int)).toNat = 0 from rfl] at hx247_1)
 (try rw [show 0 * 3 = 0 from rfl] at hx247_1)
 (try rw [Addr.add_zero'] at hx247_1)
 (try rw [show ((0 : Int)).toNat = 0 from rfl] at hx247_2)
 (try rw [show 0 * 3 = 0 from rfl] at hx247_2)
 (try rw [Addr.add_zero'] at hx247_2)
 have HR247_2 := aM hi247_2
 have HC247_2 := aM hl247_2
 clear hi247_2 hl247_2
 replace p247 := eq_true p247
 replace q247 := eq_true q247
 refine start_ (n := 10) (S := fun w' => w'.cell? ⟨gb216, 0, none⟩ = some (.slice (some ad247) t213.length co94) ∧ w'.cell? ad247 = some (.int .i64 ((rd_T79 t213 0).f0)) ∧ w'.cell? ⟨ad247.block, ad247.off + 1, none⟩ = some (.int .i64 ((rd_T79 t213 0).f1)) ∧ w'.cell? ⟨ad247.block, ad247.off + 2, none⟩ = some (.slice A247_2 ((rd_T79 t213 0).f2).length c247_2)) (ds := [7, 9]) #[false, false, false, false, false, false, false, false, false, false] (by kernel_rfl) rfl rfl ⟨(blk_cell BK216.out 0).trans rfl, hx247_0, hx247_1, hx247_2⟩ (fun hHeld => ?_); refine with_tabW spec_l5BendN.tab13 spec_l5BendN.bits13 (fun HT_ HW_ => ?_)
 generalize w100.drew = w101 at HO215 BK211 BK212 BK216 HI0 HK HB HL247_2 HR247_2 hx247_0 hx247_1 hx247_2 hHeld ⊢
 refine pI_ 0 64 (bqz 10 1) ?_
 refine jI_ 2 66 ?_
 refine sI4_ 1 65 ?_
 refine sI4_ 3 67 ?_
 refine jI_ 4 68 ?_
 refine sI4_ 5 69 ?_
 refine one_ (i := 6) (N := some 70) (bqz 10 127) rfl rfl qzc (by decide) (fun K hK => ?_)
 refine value_ (w1 := ?_) (v := ?_) (by rfl) rfl ?_ ?_
 rotate_left 2
 {
 go_simp
 constructor
 {
 rfl
 }
 {
 rfl
 }
 }
 refine hK.out _ _ ⟨(blk_cell (blk_alloc BK216.out _) 0).trans rfl, (World.cell?_alloc_lt _ _ _ (World.block_lt_of_cell? _ _ (hHeld.2.1))).trans (hHeld.2.1), (World.cell?_alloc_lt _ _ _ (World.block_lt_of_cell? _ _ (hHeld.2.2.1))).trans (hHeld.2.2.1), (World.cell?_alloc_lt _ _ _ (World.block_lt_of_cell? _ _ (hHeld.2.2.2))).trans (hHeld.2.2.2)⟩ (fun hHeld => ?_)
 clear hK K
 refine nm_ 70 ?_
 refine last_ (i := 7) (N := some 71) (bqz 10 255) rfl rfl qzc (by decide) (fun K hK => ?_)
 refine Kd.N_append_step k79 w.heap.size (by rfl) (.tmp 65) (.tmp 70) 24 79 (.agg #[(.int .i64 0), (.int .i64 0), (.slice none 0 0)]) 40 rfl Try.underlying24 info79 rfl (by decide) (by omega) (.slice (some ad247) t213.length co94) t213 (⟨(rd_T79 t213 0).f0, (rd_T79 t213 0).f1, (rd_T79 t213 0).f2⟩ : S79) [.int .i64 ((rd_T79 t213 0).f0), .int .i64 ((rd_T79 t213 0).f1), .slice A247_2 ((rd_T79 t213 0).f2).length c247_2] (fun k_ => (w.heap.size ≤ k_) ∧ k_ ≠ gb211 ∧ k_ ≠ gb212 ∧ k_ ≠ gb216 ∧ k_ ≠ g) (fun k_ => ((fun k_ => (w.heap.size ≤ k_) ∧ k_ ≠ gb211 ∧ k_ ≠ gb212 ∧ k_ ≠ gb216 ∧ k_ ≠ g)) k_ ∧ some k_ ≠ (.slice (some ad247) t213.length co94 : Value).ownBlock) rfl rfl ?aP (fun _ hk => hk) ?aF ?aO (Below.refl _ _) ?aS ?aL ?_
 (case aP => exact (k79_mkF _ _ (⟨(rd_T79 t213 0).f0, (rd_T79 t213 0).f1, (rd_T79 t213 0).f2⟩ : S79) (Kd.V_reads' (Kd.V_mono (ok' := (fun k_ => ((fun k_ => (w.heap.size ≤ k_) ∧ k_ ≠ gb211 ∧ k_ ≠ gb212 ∧ k_ ≠ gb216 ∧ k_ ≠ g)) k_ ∧ some k_ ≠ (.slice (some ad247) t213.length co94 : Value).ownBlock)) (HL247_2.out) (fun k_ hk => ⟨⟨hk.1.1.1, ⟨hk.1.1.2.1, ⟨hk.1.1.2.2.1, ⟨hk.1.2, hk.1.1.2.2.2⟩⟩⟩⟩, hk.2⟩))).2.1 (Kd.V_F (Kd.V_mono (ok' := (fun k_ => ((fun k_ => (w.heap.size ≤ k_) ∧ k_ ≠ gb211 ∧ k_ ≠ gb212 ∧ k_ ≠ gb216 ∧ k_ ≠ g)) k_ ∧ some k_ ≠ (.slice (some ad247) t213.length co94 : Value).ownBlock)) (HL247_2.out) (fun k_ hk => ⟨⟨hk.1.1.1, ⟨hk.1.1.2.1, ⟨hk.1.1.2.2.1, ⟨hk.1.2, hk.1.1.2.2.2⟩⟩⟩⟩, hk.2⟩)))))
 (case aF => exact (fun k_ hk => ⟨(Nat.le_trans (keep_size (w := w) (g := g) (row := none) qz2) hk), Kd.freshB (bk_ BK211.out) k_ hk, Kd.freshB (bk_ BK212.out) k_ hk, Kd.freshB (bk_ BK216.out) k_ hk, IsS122.fresh qz3 k_ hk⟩))
 (case aO => exact (by (with_reducible repeat (first | apply Kd.N_alloc | apply Kd.N_drewN | apply Kd.N_drew)); exact Kd.N_mono HO215.out (fun _ hk => ⟨hk.1.1, ⟨hk.1.2.1, ⟨hk.1.2.2.1, ⟨hk.2, hk.1.2.2.2⟩⟩⟩⟩)))
 (case aS => exact (keep_size (w := w) (g := g) (row := none) qz2))
 (case aL => have := LMc86.out; omega)
 intro v249 w102 ho hb hg hat
 rw [← Ny248.out] at ho
 replace BK211 := aM (blk_grown (bk_ BK211.out) hg (Kd.N_ne HO215.out BK211.out (by decide)))
 replace BK212 := aM (blk_grown (bk_ BK212.out) hg (Kd.N_ne HO215.out BK212.out (by decide)))
 replace BK216 := aM (blk_grown (bk_ BK216.out) hg (Kd.N_ne HO215.out BK216.out (by decide)))
 replace HL247_2 := aM (Kd.V_afterv (ok := (fun k_ => (w.heap.size ≤ k_) ∧ k_ ≠ gb211 ∧ k_ ≠ gb212 ∧ k_ ≠ g ∧ k_ ≠ gb216)) (by (with_reducible repeat (first | apply Kd.V_alloc | apply Kd.V_drewN | apply Kd.V_drew)); exact Kd.V_mono HL247_2.out (fun _ hk => ⟨⟨hk.1.1.1, ⟨hk.1.1.2.1, ⟨hk.1.1.2.2.1, ⟨hk.1.1.2.2.2, hk.1.2⟩⟩⟩⟩, hk.2⟩)) hg hat)
 replace HB := aM (below_weaken qz1 HL.out hb)
 replace HI0 := aM (IsS122.grown qz3 hg (IsS122.own_neN HI0.out HO215.out (by decide)))
 replace HK := aM (KeepBut.trans qz2 (KeepBut.of_grown hg g) (Kd.N_base2 HO215.out))
 have HO250 := aM (ho)
 clear HO215 ho hb hg hat
 obtain ⟨Ao103, co103, eo103⟩ := Kd.N_slice HO250.out
 (first | subst eo103 | (injection eo103 with f1_ f2_ f3_; have f4_ := f1_.symm; have f5_ := f3_.symm; clear f1_ f2_ f3_; subst f4_; subst f5_))
 refine hK.out _ _ ?_
 clear hK K
 refine nm_ 71 ?_
 refine pI_ 8 72 (bqz 10 511) ?_
 refine last_ (i := 9) (N := none) (bqz 10 1023) rfl rfl qzc (by decide) (fun K hK => ?_)
 have hs104 : w102.cell? ⟨gb216, 0, none⟩ = some (.slice (some ad247) t213.length co94) := (blk_cell BK216.out 0).trans rfl
 have hfs104 := blk_frozen BK216.out 0
 have hns104_0 := NB211_216.out
 have hns104_1 := NB212_216.out
 have hms104_0 := NB216_211.out
 have hms104_1 := NB216_212.out
 refine sk_ ?_
 refine hK.out _ _ ?_
 clear hK K
 refine done_ (done_of HT_.out (by kernel_rfl)) ?_
 obtain ⟨hcz105_0, hfz105_0⟩ := bf_ BK216.out
 have hnb106 := NB212_0.out
 have hnc106 := NB0_212.out
 obtain ⟨hcz107_0, hfz107_0⟩ := bf_ BK212.out
 try go_wp2
 refine bodyPost_ret (results_cell_row rfl _ _ gb212 26 #[.slice Ao103 y248.length co103] (0, 0) _ rfl (by (with_reducible repeat (first | refine blk_drewN ?_ _ | refine blk_drew ?_ | refine blk_alloc ?_ _)); refine blk_put (cs := #[.slice none 0 0]) ?_ 0 _ rfl; (with_reducible repeat (first | refine blk_drewN ?_ _ | refine blk_drew ?_ | refine blk_alloc ?_ _)); exact bk2_ BK212.out) Try.underlying26 rfl (by kernel_rfl)) rfl ?_
 exact ⟨_, qzw, by (with_reducible repeat (first | apply Kd.N_alloc | apply Kd.N_drewN | apply Kd.N_drew)); exact Kd.N_mono (Kd.N_far (p := ⟨gb212, 0, none⟩) (Kd.N_far (p := ⟨gb216, 0, none⟩) (Kd.N_mono (Kd.N_mono HO250.out (fun k_ hk => (⟨hk, hk.2.2.2.1⟩ : _ ∧ k_ ≠ gb216))) (fun k_ hk => (⟨hk, hk.1.2.2.1⟩ : _ ∧ k_ ≠ gb212))) (fun _ hk => hk.1.2) (.slice Ao103 y248.length co103)) (fun _ hk => hk.2) (.slice Ao103 y248.length co103)) (fun _ hk => hk.1.1.1), qz3, qz1, qz2⟩
 }
 {
 exact an_ c86 H
 }
 }
 {
 exact an_ c85 H
 }
 }
 {
 rw [if_neg c84] at H
 have c84b0 := beq_eq_false_iff_ne.mpr c84
 have c84b1 := bne_iff_ne.mpr c84
 simp only [Option.some.injEq, Prod.mk.injEq] at H
 obtain ⟨rfl, rfl, rfl⟩ := H
 go_enter Try.func103, Try.ntmps103
 go_wp2_with (first | ((with_reducible refine gate_dst (N := 3) rfl ?_); refine bx_ 3 #[.slice A1_0 l1_0.length c1_0] 26 ?_; intro gb211 hg w108 hbox hb; replace HB := bS_ hb; have BK211 := aM (hbox); have GW211 := aM (kz_ w g hg qz2); have GE211 := aM ((Nat.le_trans HW0.out (by rw [hg]; exact (keep_size (w := w) (g := g) (row := none) qz2) : w.heap.size ≤ gb211) : w0.heap.size ≤ gb211)); replace HK := aM (KeepBut.trans qz2 (KeepBut.of_below hb g none) (.inl rfl)); have NB0_211 := aM ((by rw [hg]; exact Nat.ne_of_lt (IsS122.lt (show IsS122 w0 _ g s0_0 s0_1 s0_2 from qz3)) : g ≠ gb211)); have NB211_0 := aM ((by rw [hg]; exact Nat.ne_of_gt (IsS122.lt (show IsS122 w0 _ g s0_0 s0_1 s0_2 from qz3)) : gb211 ≠ g)); replace HI0 := aM (IsS122.below qz3 hb); clear hb hbox hg) | ((with_reducible refine gate_dst (N := 4) rfl ?_); refine bx_ 4 #[.slice none 0 0] 26 ?_; intro gb212 hg w109 hbox hb; replace HB := bS_ hb; have BK212 := aM (hbox); have GW212 := aM (kz_ w g hg qz2); have GE212 := aM ((Nat.le_trans HW0.out (by rw [hg]; exact (keep_size (w := w) (g := g) (row := none) qz2) : w.heap.size ≤ gb212) : w0.heap.size ≤ gb212)); replace HK := aM (KeepBut.trans qz2 (KeepBut.of_below hb g none) (.inl rfl)); obtain ⟨NB211_212, NB212_211⟩ := nb_ hg (bk_ BK211.out); replace BK211 := bB_ BK211 hb; have NB0_212 := aM ((by rw [hg]; exact Nat.ne_of_lt (IsS122.lt (show IsS122 w0 _ g s0_0 s0_1 s0_2 from qz3)) : g ≠ gb212)); have NB212_0 := aM ((by rw [hg]; exact Nat.ne_of_gt (IsS122.lt (show IsS122 w0 _ g s0_0 s0_1 s0_2 from qz3)) : gb212 ≠ g)); replace HI0 := aM (IsS122.below qz3 hb); clear hb hbox hg; have hnb110 := NB211_212.out; have hnc110 := NB212_211.out; have hnb111 := NB211_0.out; have hnc111 := NB0_211.out; obtain ⟨hcz112_0, hfz112_0⟩ := bf_ BK211.out) | ((with_reducible refine gate_callee (f := 62) rfl ?_); refine goesL_ (some 8) rfl rfl Try.func62 (by kernel_rfl) rfl #[.agg #[.slice A1_0 l1_0.length c1_0]] rfl qz4 ?_; (with_reducible refine (spec_l5Copy.calls k _ _ l1_0 t213 _ ?side1 ?side2 A3.out).mono ?_); (case side1 => exact Kd.C_foot_now HR1_0.out qz2); (case side2 => exact HC1_0.out); rintro e w113 ⟨v214, rfl, ho0, hb⟩; refine ⟨_, rfl, ?_⟩; have HO215 := aM (Kd.N_lower (Kd.N_mono (ok' := fun k_ => (w.heap.size ≤ k_) ∧ k_ ≠ gb211 ∧ k_ ≠ gb212 ∧ k_ ≠ g) (Kd.S_N (Kd.S_bound ho0)) (fun k_ hk_ => ⟨(Nat.le_trans (keep_size (w := w) (g := g) (row := none) qz2) hk_.2.1), (Kd.freshB (bk_ BK211.out) k_ hk_.2.1), (Kd.freshB (bk_ BK212.out) k_ hk_.2.1), (IsS122.fresh qz3 k_ hk_.2.1)⟩)) (keep_size (w := w) (g := g) (row := none) qz2)); replace BK211 := bB_ BK211 hb; replace BK212 := bB_ BK212 hb; replace HK := aM (KeepBut.trans qz2 (KeepBut.of_below hb g none) (.inl rfl)); replace HB := bS_ hb; replace HI0 := aM (IsS122.below qz3 hb); (try clear hb); (try clear hb2); (try clear hk); (try clear hi); (try clear ho0)) | ((with_reducible refine gate_dst (N := 5) rfl ?_); refine bx_ 5 #[.slice none 0 0] 26 ?_; intro gb216 hg w114 hbox hb; replace HO215 := aM (Kd.N_below (Kd.N_elderB qz10 gb216 (Nat.le_of_eq hg.symm)) hb); replace HB := bS_ hb; have BK216 := aM (hbox); have GW216 := aM (kz_ w g hg qz2); have GE216 := aM ((Nat.le_trans HW0.out (by rw [hg]; exact (keep_size (w := w) (g := g) (row := none) qz2) : w.heap.size ≤ gb216) : w0.heap.size ≤ gb216)); replace HK := aM (KeepBut.trans qz2 (KeepBut.of_below hb g none) (.inl rfl)); obtain ⟨NB211_216, NB216_211⟩ := nb_ hg (bk_ BK211.out); replace BK211 := bB_ BK211 hb; obtain ⟨NB212_216, NB216_212⟩ := nb_ hg (bk_ BK212.out); replace BK212 := bB_ BK212 hb; have NB0_216 := aM ((by rw [hg]; exact Nat.ne_of_lt (IsS122.lt (show IsS122 w0 _ g s0_0 s0_1 s0_2 from qz3)) : g ≠ gb216)); have NB216_0 := aM ((by rw [hg]; exact Nat.ne_of_gt (IsS122.lt (show IsS122 w0 _ g s0_0 s0_1 s0_2 from qz3)) : gb216 ≠ g)); replace HI0 := aM (IsS122.below qz3 hb); clear hb hbox hg; obtain ⟨Ao115, co115, eo115⟩ := Kd.N_slice HO215.out; subst eo115; have hnb116 := NB216_211.out; have hnc116 := NB211_216.out; have hnb117 := NB216_212.out; have hnc117 := NB212_216.out; have hnb118 := NB216_0.out; have hnc118 := NB0_216.out; obtain ⟨hcz119_0, hfz119_0⟩ := bf_ BK216.out) | ((with_reducible refine gate_callee (f := 105) rfl ?_); refine goesL_ (some 18) rfl rfl Try.func105 (by kernel_rfl) rfl #[.pointer (some ⟨g, 0, none⟩), .int .i64 (t213.length : Int)] rfl qz4 ?_; (with_reducible refine (spec_l1Below.calls g s0_0 s0_1 s0_2 (t213.length : Int) t217 t218 t219 w0 _ ?side1 ?side2 A19.out).mono ?_); (case side1 => exact qz3); (case side2 => exact qz1); rintro e w120 ⟨rfl, hi, hb, hk⟩; refine ⟨_, rfl, ?_⟩; replace BK211 := aM (KeepBut.blk hk (g' := gb211) (o := .cells #[.slice A1_0 l1_0.length c1_0] 26 (0, 0)) (bk2_ BK211.out) NB211_0.out (by simp)); replace BK212 := aM (KeepBut.blk hk (g' := gb212) (o := .cells #[.slice none 0 0] 26 (0, 0)) (bk2_ BK212.out) NB212_0.out (by simp)); replace HO215 := aM (Kd.N_mono (Kd.N_keep (Kd.N_mono (ok := fun k_ => ((((w.heap.size ≤ k_)) ∧ (k_ ≠ gb211 ∧ (k_ ≠ gb212 ∧ k_ ≠ g))) ∧ k_ ≠ gb216)) (by (with_reducible repeat (first | apply Kd.N_alloc | apply Kd.N_drewN | apply Kd.N_drew)); exact (Kd.N_mono (Kd.N_far (p := ⟨gb216, 0, none⟩) (Kd.N_mono HO215.out (fun k_ hk => (⟨hk, hk.2⟩ : _ ∧ k_ ≠ gb216))) (fun _ hk => hk.2) (.slice Ao115 t213.length co115)) (fun _ h_ => h_.1))) (fun k_ hk_ => (⟨hk_, hk_.1.2.2.2⟩ : _ ∧ k_ ≠ g))) hk (fun _ h => h.2)) (fun _ h => h.1)); replace BK216 := aM (KeepBut.blk hk (g' := gb216) (o := .cells #[.slice Ao115 t213.length co115] 26 (0, 0)) (by (with_reducible repeat (first | refine blk_drewN ?_ _ | refine blk_drew ?_ | refine blk_alloc ?_ _)); refine blk_put (cs := #[.slice none 0 0]) ?_ 0 _ rfl; exact bk_ BK216.out) NB216_0.out (by simp)); replace HK := aM (KeepBut.trans qz2 hk (.inl rfl)); replace HB := aM (hb); replace HI0 := aM (hi); (try clear hb); (try clear hb2); (try clear hk); (try clear hi)) | ((with_reducible refine gate_callee (f := 105) rfl ?_); refine goesL_ (some 20) rfl rfl Try.func105 (by kernel_rfl) rfl #[.pointer (some ⟨g, 0, none⟩), .int .i64 6] rfl qz4 ?_; (with_reducible refine (spec_l1Below.calls g s0_0 t218 t219 6 t220 t221 t222 w0 _ ?side1 ?side2 A20.out).mono ?_); (case side1 => exact qz3); (case side2 => exact qz1); rintro e w121 ⟨rfl, hi, hb, hk⟩; refine ⟨_, rfl, ?_⟩; replace BK211 := aM (KeepBut.blk hk (bk_ BK211.out) NB211_0.out (by simp)); replace BK212 := aM (KeepBut.blk hk (bk_ BK212.out) NB212_0.out (by simp)); replace HO215 := aM (Kd.N_mono (Kd.N_keep (Kd.N_mono (ok := fun k_ => ((((w.heap.size ≤ k_)) ∧ (k_ ≠ gb211 ∧ (k_ ≠ gb212 ∧ k_ ≠ g))) ∧ k_ ≠ gb216)) qz10 (fun k_ hk_ => (⟨hk_, hk_.1.2.2.2⟩ : _ ∧ k_ ≠ g))) hk (fun _ h => h.2)) (fun _ h => h.1)); replace BK216 := aM (KeepBut.blk hk (bk_ BK216.out) NB216_0.out (by simp)); replace HK := aM (KeepBut.trans qz2 hk (.inl rfl)); replace HB := aM (hb); replace HI0 := aM (hi); (try clear hb); (try clear hb2); (try clear hk); (try clear hi); obtain ⟨hcz122_0, hfz122_0⟩ := bf_ BK216.out; have hnb123 := NB212_0.out; have hnc123 := NB0_212.out; obtain ⟨hcz124_0, hfz124_0⟩ := bf_ BK212.out))
 refine bodyPost_ret (results_cell_row rfl _ _ gb212 26 #[.slice Ao115 t213.length co115] (0, 0) _ rfl (by (with_reducible repeat (first | refine blk_drewN ?_ _ | refine blk_drew ?_ | refine blk_alloc ?_ _)); refine blk_put (cs := #[.slice none 0 0]) ?_ 0 _ rfl; exact bk_ BK212.out) Try.underlying26 rfl (by kernel_rfl)) rfl ?_
 exact ⟨_, qzw, by (with_reducible repeat (first | apply Kd.N_alloc | apply Kd.N_drewN | apply Kd.N_drew)); exact Kd.N_mono (Kd.N_far (p := ⟨gb212, 0, none⟩) (Kd.N_mono HO215.out (fun k_ hk => (⟨hk, hk.1.2.2.1⟩ : _ ∧ k_ ≠ gb212))) (fun _ hk => hk.2) (.slice Ao115 t213.length co115)) (fun _ hk => hk.1.1.1), qz3, qz1, qz2⟩

 }
 }
 }
 }
 }
/-! ### spec_l5BendS: function 103 -/
def spec_l5BendS.f (k : Nat) (s0_0 : List Int) (s0_1 : Int) (s0_2 : Int) (l1_0 : List (S79)) : Option ((List (S79)) × Int × Int) := (spec_l5Copy.f k l1_0).bind fun t213 => (if (t213.length : Int) = 0 then (some (t213, s0_1, s0_2)) else ((spec_l1Below.f s0_0 s0_1 s0_2 (t213.length : Int)).bind fun bt217 => ((spec_l1Below.f s0_0 bt217.2.1 bt217.2.2 6).bind fun bt220 => (if bt220.1 = 0 then (none) else (if bt220.1 = 1 then (none) else (if bt220.1 = 2 then (if 0 ≤ bt217.1 then (if bt217.1 < (t213.length : Int) then ((spec_l1Int.f s0_0 bt220.2.1 bt220.2.2 (([0, 1, 1001] : List Int))).bind fun bt227 => ((spec_l1Below.f s0_0 bt227.2.1 bt227.2.2 3).bind fun bt230 => (if ((rd_T79 t213 bt217.1).f2).length < 5864062014805 then (some ((t213.set (bt217.1 : Int).toNat (⟨(rd_T79 t213 bt217.1).f0, (rd_T79 t213 bt217.1).f1, (((rd_T79 t213 bt217.1).f2) ++ [(⟨9, bt227.1, bt230.1⟩ : S72)])⟩ : S79)), bt230.2.1, bt230.2.2)) else (none)))) else (none)) else (none)) else (if bt220.1 = 3 then (if 0 < (t213.length : Int) then (none) else (none)) else (some (t213, bt220.2.1, bt220.2.2)))))))))
theorem spec_l5BendS.mono : ∀ a0 a1 a2 a3 k, LeO (spec_l5BendS.f k a0 a1 a2 a3) (spec_l5BendS.f (k + 1) a0 a1 a2 a3) := by
 intro a0 a1 a2 a3 k
 unfold spec_l5BendS.f
 have j0 := @spec_l5Copy.mono
 exact qL
def spec_l5BendS.T11 : Bool × List (List Nat × List Nat) := (true, [([], []), ([0], [0]), ([], []), ([], []), ([3], [3]), ([], []), ([4, 5], [4, 5]), ([6], [6]), ([7], [7]), ([], []), ([], []), ([9, 10], [9, 10]), ([], []), ([12, 11], [12]), ([11, 13], [11, 13]), ([14], [14]), ([8, 15, 13], [8, 15]), ([1, 2, 0, 1, 2, 3, 4, 5, 6, 7, 8, 9, 10, 11, 12, 13, 14, 15, 16], [1, 2]), ([17, 0, 1, 2, 3, 4, 5, 6, 7, 8, 9, 10, 11, 12, 13, 14, 15, 16], [17]), ([18, 16, 16, 0, 1, 2, 3, 4, 5, 6, 7, 8, 9, 10, 11, 12, 13, 14, 15, 16], [16, 18])])
def spec_l5BendS.B11 : List Nat := [0, 1, 0, 0, 8, 0, 56, 120, 248, 0, 0, 1536, 0, 7680, 15872, 32256, 65528, 131071, 262143, 524287]
theorem spec_l5BendS.tab11 : rtab .any (opsOf Try.f103 11) = spec_l5BendS.T11 := by kernel_rfl
theorem spec_l5BendS.bits11 : waitsOk spec_l5BendS.T11.2 spec_l5BendS.B11 = true := by kernel_rfl
set_option maxHeartbeats 8000000 in
set_option maxRecDepth 100000 in
theorem spec_l5BendS.calls (k : Nat) (g : Nat) (s0_0 : List Int) (s0_1 : Int) (s0_2 : Int) (A1_0 : Option Addr) (c1_0 : Nat) (l1_0 : List (S79)) (r1 : List (S79)) (r2 : Int) (r3 : Int) (w0 w : World) (hI : IsS122 w0 w g s0_0 s0_1 s0_2) (hB : Below w0.heap.size w0 w) (hr1_0 : ∀ W_, KeepBut w W_ g none → Kd.C k79 W_ A1_0 l1_0.length l1_0) (hc1_0 : l1_0.length ≤ c1_0) (h : spec_l5BendS.f k s0_0 s0_1 s0_2 l1_0 = some (r1, r2, r3)) :
  Calls Try.prog 103 #[.pointer (some ⟨g, 0, none⟩), .agg #[.slice A1_0 l1_0.length c1_0]] w fun e w' => ∃ v0_ : Value, e = .returned (.agg #[v0_]) ∧ Kd.S k79 79 w' w.heap.size (fun _ => True) v0_ r1 ∧ IsS122 w0 w' g s0_0 r2 r3 ∧ Below w0.heap.size w0 w' ∧ KeepBut w w' g none := by
 have hu26 := Try.underlying26
 have hu72 := Try.underlying72
 have hu79 := Try.underlying79
 have HR1_0 := aM hr1_0
 have HC1_0 := aM hc1_0
 clear hr1_0 hc1_0
 have HI0 := aM hI
 have HK := aM (KeepBut.refl w g none)
 have HL := aM hB.size
 clear hI
 have HW0 := aM hB.size
 have HB := aM hB
 clear hB
 have H : ((spec_l5Copy.f k l1_0).bind fun t213 => (if (t213.length : Int) = 0 then (some (t213, s0_1, s0_2)) else ((spec_l1Below.f s0_0 s0_1 s0_2 (t213.length : Int)).bind fun bt217 => ((spec_l1Below.f s0_0 bt217.2.1 bt217.2.2 6).bind fun bt220 => (if bt220.1 = 0 then (none) else (if bt220.1 = 1 then (none) else (if bt220.1 = 2 then (if 0 ≤ bt217.1 then (if bt217.1 < (t213.length : Int) then ((spec_l1Int.f s0_0 bt220.2.1 bt220.2.2 (([0, 1, 1001] : List Int))).bind fun bt227 => ((spec_l1Below.f s0_0 bt227.2.1 bt227.2.2 3).bind fun bt230 => (if ((rd_T79 t213 bt217.1).f2).length < 5864062014805 then (some ((t213.set (bt217.1 : Int).toNat (⟨(rd_T79 t213 bt217.1).f0, (rd_T79 t213 bt217.1).f1, (((rd_T79 t213 bt217.1).f2) ++ [(⟨9, bt227.1, bt230.1⟩ : S72)])⟩ : S79)), bt230.2.1, bt230.2.2)) else (none)))) else (none)) else (none)) else (if bt220.1 = 3 then (if 0 < (t213.length : Int) then (none) else (none)) else (some (t213, bt220.2.1, bt220.2.2)))))))))) = some (r1, r2, r3) := h
 clear h
 replace H := Option.bind_eq_some_iff.mp H
 obtain ⟨t213, A30, H⟩ := H
 replace H : (if (t213.length : Int) = 0 then (some (t213, s0_1, s0_2)) else ((spec_l1Below.f s0_0 s0_1 s0_2 (t213.length : Int)).bind fun bt217 => ((spec_l1Below.f s0_0 bt217.2.1 bt217.2.2 6).bind fun bt220 => (if bt220.1 = 0 then (none) else (if bt220.1 = 1 then (none) else (if bt220.1 = 2 then (if 0 ≤ bt217.1 then (if bt217.1 < (t213.length : Int) then ((spec_l1Int.f s0_0 bt220.2.1 bt220.2.2 (([0, 1, 1001] : List Int))).bind fun bt227 => ((spec_l1Below.f s0_0 bt227.2.1 bt227.2.2 3).bind fun bt230 => (if ((rd_T79 t213 bt217.1).f2).length < 5864062014805 then (some ((t213.set (bt217.1 : Int).toNat (⟨(rd_T79 t213 bt217.1).f0, (rd_T79 t213 bt217.1).f1, (((rd_T79 t213 bt217.1).f2) ++ [(⟨9, bt227.1, bt230.1⟩ : S72)])⟩ : S79)), bt230.2.1, bt230.2.2)) else (none)))) else (none)) else (none)) else (if bt220.1 = 3 then (if 0 < (t213.length : Int) then (none) else (none)) else (some (t213, bt220.2.1, bt220.2.2))))))))) = some (r1, r2, r3) := H
 have A3 := aM A30
 clear A30
 by_cases c4 : (t213.length : Int) = 0
 {
 rw [if_pos c4] at H
 have c4b0 := beq_iff_eq.mpr c4
 have c4b1 := bne_eq_false_iff_eq.mpr c4
 clear c4
 simp only [Option.some.injEq, Prod.mk.injEq] at H
 obtain ⟨rfl, rfl, rfl⟩ := H
 go_enter Try.func103, Try.ntmps103
 go_wp2_with (first | ((with_reducible refine gate_dst (N := 3) rfl ?_); refine bx_ 3 #[.slice A1_0 l1_0.length c1_0] 26 ?_; intro gb211 hg w5 hbox hb; replace HB := bS_ hb; have BK211 := aM (hbox); have GW211 := aM (kz_ w g hg qz2); have GE211 := aM ((Nat.le_trans HW0.out (by rw [hg]; exact (keep_size (w := w) (g := g) (row := none) qz2) : w.heap.size ≤ gb211) : w0.heap.size ≤ gb211)); replace HK := aM (KeepBut.trans qz2 (KeepBut.of_below hb g none) (.inl rfl)); have NB0_211 := aM ((by rw [hg]; exact Nat.ne_of_lt (IsS122.lt (show IsS122 w0 _ g s0_0 s0_1 s0_2 from qz3)) : g ≠ gb211)); have NB211_0 := aM ((by rw [hg]; exact Nat.ne_of_gt (IsS122.lt (show IsS122 w0 _ g s0_0 s0_1 s0_2 from qz3)) : gb211 ≠ g)); replace HI0 := aM (IsS122.below qz3 hb); clear hb hbox hg) | ((with_reducible refine gate_dst (N := 4) rfl ?_); refine bx_ 4 #[.slice none 0 0] 26 ?_; intro gb212 hg w6 hbox hb; replace HB := bS_ hb; have BK212 := aM (hbox); have GW212 := aM (kz_ w g hg qz2); have GE212 := aM ((Nat.le_trans HW0.out (by rw [hg]; exact (keep_size (w := w) (g := g) (row := none) qz2) : w.heap.size ≤ gb212) : w0.heap.size ≤ gb212)); replace HK := aM (KeepBut.trans qz2 (KeepBut.of_below hb g none) (.inl rfl)); obtain ⟨NB211_212, NB212_211⟩ := nb_ hg (bk_ BK211.out); replace BK211 := bB_ BK211 hb; have NB0_212 := aM ((by rw [hg]; exact Nat.ne_of_lt (IsS122.lt (show IsS122 w0 _ g s0_0 s0_1 s0_2 from qz3)) : g ≠ gb212)); have NB212_0 := aM ((by rw [hg]; exact Nat.ne_of_gt (IsS122.lt (show IsS122 w0 _ g s0_0 s0_1 s0_2 from qz3)) : gb212 ≠ g)); replace HI0 := aM (IsS122.below qz3 hb); clear hb hbox hg; have hnb7 := NB211_212.out; have hnc7 := NB212_211.out; have hnb8 := NB211_0.out; have hnc8 := NB0_211.out; obtain ⟨hcz9_0, hfz9_0⟩ := bf_ BK211.out) | ((with_reducible refine gate_callee (f := 62) rfl ?_); refine goesL_ (some 8) rfl rfl Try.func62 (by kernel_rfl) rfl #[.agg #[.slice A1_0 l1_0.length c1_0]] rfl qz4 ?_; (with_reducible refine (spec_l5Copy.calls k _ _ l1_0 t213 _ ?side1 ?side2 A3.out).mono ?_); (case side1 => exact Kd.C_foot_now HR1_0.out qz2); (case side2 => exact HC1_0.out); rintro e w10 ⟨v214, rfl, ho0, hb⟩; refine ⟨_, rfl, ?_⟩; have HO215 := aM (Kd.S_lower ho0 (keep_size (w := w) (g := g) (row := none) qz2)); replace BK211 := bB_ BK211 hb; replace BK212 := bB_ BK212 hb; replace HK := aM (KeepBut.trans qz2 (KeepBut.of_below hb g none) (.inl rfl)); replace HB := bS_ hb; replace HI0 := aM (IsS122.below qz3 hb); (try clear hb); (try clear hb2); (try clear hk); (try clear hi); (try clear ho0)) | ((with_reducible refine gate_dst (N := 5) rfl ?_); refine bx_ 5 #[.slice none 0 0] 26 ?_; intro gb216 hg w11 hbox hb; replace HO215 := aM (Kd.S_below (rs_ HO215.out) hb); replace HB := bS_ hb; have BK216 := aM (hbox); have GW216 := aM (kz_ w g hg qz2); have GE216 := aM ((Nat.le_trans HW0.out (by rw [hg]; exact (keep_size (w := w) (g := g) (row := none) qz2) : w.heap.size ≤ gb216) : w0.heap.size ≤ gb216)); replace HK := aM (KeepBut.trans qz2 (KeepBut.of_below hb g none) (.inl rfl)); obtain ⟨NB211_216, NB216_211⟩ := nb_ hg (bk_ BK211.out); replace BK211 := bB_ BK211 hb; obtain ⟨NB212_216, NB216_212⟩ := nb_ hg (bk_ BK212.out); replace BK212 := bB_ BK212 hb; have NB0_216 := aM ((by rw [hg]; exact Nat.ne_of_lt (IsS122.lt (show IsS122 w0 _ g s0_0 s0_1 s0_2 from qz3)) : g ≠ gb216)); have NB216_0 := aM ((by rw [hg]; exact Nat.ne_of_gt (IsS122.lt (show IsS122 w0 _ g s0_0 s0_1 s0_2 from qz3)) : gb216 ≠ g)); replace HI0 := aM (IsS122.below qz3 hb); clear hb hbox hg; obtain ⟨Ao12, co12, eo12⟩ := Kd.S_slice HO215.out; subst eo12; have hnb13 := NB216_211.out; have hnc13 := NB211_216.out; have hnb14 := NB216_212.out; have hnc14 := NB212_216.out; have hnb15 := NB216_0.out; have hnc15 := NB0_216.out; obtain ⟨hcz16_0, hfz16_0⟩ := bf_ BK216.out; have hnb17 := NB212_0.out; have hnc17 := NB0_212.out; obtain ⟨hcz18_0, hfz18_0⟩ := bf_ BK212.out))
 refine bodyPost_ret (results_cell_row rfl _ _ gb212 26 #[.slice Ao12 t213.length co12] (0, 0) _ rfl (by (with_reducible repeat (first | refine blk_drewN ?_ _ | refine blk_drew ?_ | refine blk_alloc ?_ _)); refine blk_put (cs := #[.slice none 0 0]) ?_ 0 _ rfl; (with_reducible repeat (first | refine blk_drewN ?_ _ | refine blk_drew ?_ | refine blk_alloc ?_ _)); exact bk2_ BK212.out) Try.underlying26 rfl (by kernel_rfl)) rfl ?_
 exact ⟨_, qzw, by (with_reducible repeat (first | apply Kd.S_alloc | apply Kd.S_drewN | apply Kd.S_drew)); exact Kd.S_mono (Kd.S_far (p := ⟨gb212, 0, none⟩) (Kd.S_far (p := ⟨gb216, 0, none⟩) (Kd.S_types (Kd.S_types HO215.out BK216.out (by decide)) BK212.out (by decide)) (fun _ hk => hk.1.2) (.slice Ao12 t213.length co12)) (fun _ hk => hk.2) (.slice Ao12 t213.length co12)) (fun _ hk => trivial), qz3, qz1, qz2⟩
 }
 {
 rw [if_neg c4] at H
 have c4b0 := beq_eq_false_iff_ne.mpr c4
 have c4b1 := bne_iff_ne.mpr c4
 have c4b2 : ¬ (t213 = []) := fun h_ => c4 (by rw [h_]; rfl)
 replace H := Option.bind_eq_some_iff.mp H
 obtain ⟨⟨t217, t218, t219⟩, A190, H⟩ := H
 replace H : ((spec_l1Below.f s0_0 t218 t219 6).bind fun bt220 => (if bt220.1 = 0 then (none) else (if bt220.1 = 1 then (none) else (if bt220.1 = 2 then (if 0 ≤ t217 then (if t217 < (t213.length : Int) then ((spec_l1Int.f s0_0 bt220.2.1 bt220.2.2 (([0, 1, 1001] : List Int))).bind fun bt227 => ((spec_l1Below.f s0_0 bt227.2.1 bt227.2.2 3).bind fun bt230 => (if ((rd_T79 t213 t217).f2).length < 5864062014805 then (some ((t213.set (t217 : Int).toNat (⟨(rd_T79 t213 t217).f0, (rd_T79 t213 t217).f1, (((rd_T79 t213 t217).f2) ++ [(⟨9, bt227.1, bt230.1⟩ : S72)])⟩ : S79)), bt230.2.1, bt230.2.2)) else (none)))) else (none)) else (none)) else (if bt220.1 = 3 then (if 0 < (t213.length : Int) then (none) else (none)) else (some (t213, bt220.2.1, bt220.2.2))))))) = some (r1, r2, r3) := H
 have A19 := aM A190
 clear A190
 replace H := Option.bind_eq_some_iff.mp H
 obtain ⟨⟨t220, t221, t222⟩, A200, H⟩ := H
 replace H : (if t220 = 0 then (none) else (if t220 = 1 then (none) else (if t220 = 2 then (if 0 ≤ t217 then (if t217 < (t213.length : Int) then ((spec_l1Int.f s0_0 t221 t222 (([0, 1, 1001] : List Int))).bind fun bt227 => ((spec_l1Below.f s0_0 bt227.2.1 bt227.2.2 3).bind fun bt230 => (if ((rd_T79 t213 t217).f2).length < 5864062014805 then (some ((t213.set (t217 : Int).toNat (⟨(rd_T79 t213 t217).f0, (rd_T79 t213 t217).f1, (((rd_T79 t213 t217).f2) ++ [(⟨9, bt227.1, bt230.1⟩ : S72)])⟩ : S79)), bt230.2.1, bt230.2.2)) else (none)))) else (none)) else (none)) else (if t220 = 3 then (if 0 < (t213.length : Int) then (none) else (none)) else (some (t213, t221, t222)))))) = some (r1, r2, r3) := H
 have A20 := aM A200
 clear A200
 by_cases c21 : t220 = 0
 {
 rw [if_pos c21] at H
 have c21b0 := beq_iff_eq.mpr c21
 have c21b1 := bne_eq_false_iff_eq.mpr c21
 clear c21
 exact absurd H (by simp)
 }
 {
 rw [if_neg c21] at H
 have c21b0 := beq_eq_false_iff_ne.mpr c21
 have c21b1 := bne_iff_ne.mpr c21
 by_cases c22 : t220 = 1
 {
 rw [if_pos c22] at H
 have c22b0 := beq_iff_eq.mpr c22
 have c22b1 := bne_eq_false_iff_eq.mpr c22
 clear c22
 exact absurd H (by simp)
 }
 {
 rw [if_neg c22] at H
 have c22b0 := beq_eq_false_iff_ne.mpr c22
 have c22b1 := bne_iff_ne.mpr c22
 by_cases c23 : t220 = 2
 {
 rw [if_pos c23] at H
 have c23b0 := beq_iff_eq.mpr c23
 have c23b1 := bne_eq_false_iff_eq.mpr c23
 clear c23
 by_cases c24 : 0 ≤ t217
 {
 rw [if_pos c24] at H
 have c24b0 := decide_eq_true c24
 clear c24
 by_cases c25 : t217 < (t213.length : Int)
 {
 rw [if_pos c25] at H
 have c25b0 := decide_eq_true c25
 clear c25
 obtain ⟨y224, hy224⟩ : ∃ y_ : List Int, y_ = (([0, 1, 1001] : List Int)) := ⟨_, rfl⟩
 replace H : ((spec_l1Int.f s0_0 t221 t222 y224).bind fun bt227 => ((spec_l1Below.f s0_0 bt227.2.1 bt227.2.2 3).bind fun bt230 => (if ((rd_T79 t213 t217).f2).length < 5864062014805 then (some ((t213.set (t217 : Int).toNat (⟨(rd_T79 t213 t217).f0, (rd_T79 t213 t217).f1, (((rd_T79 t213 t217).f2) ++ [(⟨9, bt227.1, bt230.1⟩ : S72)])⟩ : S79)), bt230.2.1, bt230.2.2)) else (none)))) = some (r1, r2, r3) := by first | (rw [hy224]; with_reducible exact H) | (have H2_ := (Option.bind_some _ _).symm.trans H; rw [hy224]; with_reducible exact H2_) | (have H2_ := (Option.bind_some _ _).symm.trans H; with_reducible exact H2_) | with_reducible exact H | (rw [hy224]; exact H) | exact H
 have Ny224 := aM hy224
 clear hy224
 replace H := Option.bind_eq_some_iff.mp H
 obtain ⟨⟨t227, t228, t229⟩, A260, H⟩ := H
 replace H : ((spec_l1Below.f s0_0 t228 t229 3).bind fun bt230 => (if ((rd_T79 t213 t217).f2).length < 5864062014805 then (some ((t213.set (t217 : Int).toNat (⟨(rd_T79 t213 t217).f0, (rd_T79 t213 t217).f1, (((rd_T79 t213 t217).f2) ++ [(⟨9, t227, bt230.1⟩ : S72)])⟩ : S79)), bt230.2.1, bt230.2.2)) else (none))) = some (r1, r2, r3) := H
 have A26 := aM A260
 clear A260
 replace H := Option.bind_eq_some_iff.mp H
 obtain ⟨⟨t230, t231, t232⟩, A270, H⟩ := H
 replace H : (if ((rd_T79 t213 t217).f2).length < 5864062014805 then (some ((t213.set (t217 : Int).toNat (⟨(rd_T79 t213 t217).f0, (rd_T79 t213 t217).f1, (((rd_T79 t213 t217).f2) ++ [(⟨9, t227, t230⟩ : S72)])⟩ : S79)), t231, t232)) else (none)) = some (r1, r2, r3) := H
 have A27 := aM A270
 clear A270
 by_cases c28 : ((rd_T79 t213 t217).f2).length < 5864062014805
 {
 rw [if_pos c28] at H
 have LMc28 := aM c28
 clear c28
 obtain ⟨y233, hy233⟩ : ∃ y_ : List (S72), y_ = (((rd_T79 t213 t217).f2) ++ [(⟨9, t227, t230⟩ : S72)]) := ⟨_, rfl⟩
 replace H : (some ((t213.set (t217 : Int).toNat (⟨(rd_T79 t213 t217).f0, (rd_T79 t213 t217).f1, y233⟩ : S79)), t231, t232)) = some (r1, r2, r3) := by first | (rw [hy233]; with_reducible exact H) | (have H2_ := (Option.bind_some _ _).symm.trans H; rw [hy233]; with_reducible exact H2_) | (have H2_ := (Option.bind_some _ _).symm.trans H; with_reducible exact H2_) | with_reducible exact H | (rw [hy233]; exact H) | exact H
 have Ny233 := aM hy233
 clear hy233
 obtain ⟨y236, hy236⟩ : ∃ y_ : List (S79), y_ = (t213.set (t217 : Int).toNat (⟨(rd_T79 t213 t217).f0, (rd_T79 t213 t217).f1, y233⟩ : S79)) := ⟨_, rfl⟩
 replace H : (some (y236, t231, t232)) = some (r1, r2, r3) := by first | (rw [hy236]; with_reducible exact H) | (have H2_ := (Option.bind_some _ _).symm.trans H; rw [hy236]; with_reducible exact H2_) | (have H2_ := (Option.bind_some _ _).symm.trans H; with_reducible exact H2_) | with_reducible exact H | (rw [hy236]; exact H) | exact H
 have Ny236 := aM hy236
 clear hy236
 simp only [Option.some.injEq, Prod.mk.injEq] at H
 obtain ⟨rfl, rfl, rfl⟩ := H
 go_enter Try.func103, Try.ntmps103
 try go_wp2_with (first | ((with_reducible refine gate_dst (N := 3) rfl ?_); refine bx_ 3 #[.slice A1_0 l1_0.length c1_0] 26 ?_; intro gb211 hg w30 hbox hb; replace HB := bS_ hb; have BK211 := aM (hbox); have GW211 := aM (kz_ w g hg qz2); have GE211 := aM ((Nat.le_trans HW0.out (by rw [hg]; exact (keep_size (w := w) (g := g) (row := none) qz2) : w.heap.size ≤ gb211) : w0.heap.size ≤ gb211)); replace HK := aM (KeepBut.trans qz2 (KeepBut.of_below hb g none) (.inl rfl)); have NB0_211 := aM ((by rw [hg]; exact Nat.ne_of_lt (IsS122.lt (show IsS122 w0 _ g s0_0 s0_1 s0_2 from qz3)) : g ≠ gb211)); have NB211_0 := aM ((by rw [hg]; exact Nat.ne_of_gt (IsS122.lt (show IsS122 w0 _ g s0_0 s0_1 s0_2 from qz3)) : gb211 ≠ g)); replace HI0 := aM (IsS122.below qz3 hb); clear hb hbox hg) | ((with_reducible refine gate_dst (N := 4) rfl ?_); refine bx_ 4 #[.slice none 0 0] 26 ?_; intro gb212 hg w31 hbox hb; replace HB := bS_ hb; have BK212 := aM (hbox); have GW212 := aM (kz_ w g hg qz2); have GE212 := aM ((Nat.le_trans HW0.out (by rw [hg]; exact (keep_size (w := w) (g := g) (row := none) qz2) : w.heap.size ≤ gb212) : w0.heap.size ≤ gb212)); replace HK := aM (KeepBut.trans qz2 (KeepBut.of_below hb g none) (.inl rfl)); obtain ⟨NB211_212, NB212_211⟩ := nb_ hg (bk_ BK211.out); replace BK211 := bB_ BK211 hb; have NB0_212 := aM ((by rw [hg]; exact Nat.ne_of_lt (IsS122.lt (show IsS122 w0 _ g s0_0 s0_1 s0_2 from qz3)) : g ≠ gb212)); have NB212_0 := aM ((by rw [hg]; exact Nat.ne_of_gt (IsS122.lt (show IsS122 w0 _ g s0_0 s0_1 s0_2 from qz3)) : gb212 ≠ g)); replace HI0 := aM (IsS122.below qz3 hb); clear hb hbox hg; have hnb32 := NB211_212.out; have hnc32 := NB212_211.out; have hnb33 := NB211_0.out; have hnc33 := NB0_211.out; obtain ⟨hcz34_0, hfz34_0⟩ := bf_ BK211.out) | ((with_reducible refine gate_callee (f := 62) rfl ?_); refine goesL_ (some 8) rfl rfl Try.func62 (by kernel_rfl) rfl #[.agg #[.slice A1_0 l1_0.length c1_0]] rfl qz4 ?_; (with_reducible refine (spec_l5Copy.calls k _ _ l1_0 t213 _ ?side1 ?side2 A3.out).mono ?_); (case side1 => exact Kd.C_foot_now HR1_0.out qz2); (case side2 => exact HC1_0.out); rintro e w35 ⟨v214, rfl, ho0, hb⟩; refine ⟨_, rfl, ?_⟩; have HO215 := aM (Kd.S_lower ho0 (keep_size (w := w) (g := g) (row := none) qz2)); replace BK211 := bB_ BK211 hb; replace BK212 := bB_ BK212 hb; replace HK := aM (KeepBut.trans qz2 (KeepBut.of_below hb g none) (.inl rfl)); replace HB := bS_ hb; replace HI0 := aM (IsS122.below qz3 hb); (try clear hb); (try clear hb2); (try clear hk); (try clear hi); (try clear ho0)) | ((with_reducible refine gate_dst (N := 5) rfl ?_); refine bx_ 5 #[.slice none 0 0] 26 ?_; intro gb216 hg w36 hbox hb; replace HO215 := aM (Kd.S_below (rs_ HO215.out) hb); replace HB := bS_ hb; have BK216 := aM (hbox); have GW216 := aM (kz_ w g hg qz2); have GE216 := aM ((Nat.le_trans HW0.out (by rw [hg]; exact (keep_size (w := w) (g := g) (row := none) qz2) : w.heap.size ≤ gb216) : w0.heap.size ≤ gb216)); replace HK := aM (KeepBut.trans qz2 (KeepBut.of_below hb g none) (.inl rfl)); obtain ⟨NB211_216, NB216_211⟩ := nb_ hg (bk_ BK211.out); replace BK211 := bB_ BK211 hb; obtain ⟨NB212_216, NB216_212⟩ := nb_ hg (bk_ BK212.out); replace BK212 := bB_ BK212 hb; have NB0_216 := aM ((by rw [hg]; exact Nat.ne_of_lt (IsS122.lt (show IsS122 w0 _ g s0_0 s0_1 s0_2 from qz3)) : g ≠ gb216)); have NB216_0 := aM ((by rw [hg]; exact Nat.ne_of_gt (IsS122.lt (show IsS122 w0 _ g s0_0 s0_1 s0_2 from qz3)) : gb216 ≠ g)); replace HI0 := aM (IsS122.below qz3 hb); clear hb hbox hg; obtain ⟨Ao37, co37, eo37⟩ := Kd.S_slice HO215.out; subst eo37; have hnb38 := NB216_211.out; have hnc38 := NB211_216.out; have hnb39 := NB216_212.out; have hnc39 := NB212_216.out; have hnb40 := NB216_0.out; have hnc40 := NB0_216.out; obtain ⟨hcz41_0, hfz41_0⟩ := bf_ BK216.out) | ((with_reducible refine gate_callee (f := 105) rfl ?_); refine goesL_ (some 18) rfl rfl Try.func105 (by kernel_rfl) rfl #[.pointer (some ⟨g, 0, none⟩), .int .i64 (t213.length : Int)] rfl qz4 ?_; (with_reducible refine (spec_l1Below.calls g s0_0 s0_1 s0_2 (t213.length : Int) t217 t218 t219 w0 _ ?side1 ?side2 A19.out).mono ?_); (case side1 => exact qz3); (case side2 => exact qz1); rintro e w42 ⟨rfl, hi, hb, hk⟩; refine ⟨_, rfl, ?_⟩; replace BK211 := aM (KeepBut.blk hk (g' := gb211) (o := .cells #[.slice A1_0 l1_0.length c1_0] 26 (0, 0)) (bk2_ BK211.out) NB211_0.out (by simp)); replace BK212 := aM (KeepBut.blk hk (g' := gb212) (o := .cells #[.slice none 0 0] 26 (0, 0)) (bk2_ BK212.out) NB212_0.out (by simp)); replace HO215 := aM (Kd.S_mono (Kd.S_keep (IsS122.apartS (show IsS122 w0 _ g s0_0 s0_1 s0_2 from qz3) (by (with_reducible repeat (first | apply Kd.S_alloc | apply Kd.S_drewN | apply Kd.S_drew)); exact (Kd.S_mono (Kd.S_far (p := ⟨gb216, 0, none⟩) (Kd.S_types HO215.out BK216.out (by decide)) (fun _ hk => hk.2) (.slice Ao37 t213.length co37)) (fun _ h_ => h_.1))) (by decide)) hk (fun _ h => h.2)) (fun _ h => h.1)); replace BK216 := aM (KeepBut.blk hk (g' := gb216) (o := .cells #[.slice Ao37 t213.length co37] 26 (0, 0)) (by (with_reducible repeat (first | refine blk_drewN ?_ _ | refine blk_drew ?_ | refine blk_alloc ?_ _)); refine blk_put (cs := #[.slice none 0 0]) ?_ 0 _ rfl; exact bk_ BK216.out) NB216_0.out (by simp)); replace HK := aM (KeepBut.trans qz2 hk (.inl rfl)); replace HB := aM (hb); replace HI0 := aM (hi); (try clear hb); (try clear hb2); (try clear hk); (try clear hi)) | ((with_reducible refine gate_callee (f := 105) rfl ?_); refine goesL_ (some 20) rfl rfl Try.func105 (by kernel_rfl) rfl #[.pointer (some ⟨g, 0, none⟩), .int .i64 6] rfl qz4 ?_; (with_reducible refine (spec_l1Below.calls g s0_0 t218 t219 6 t220 t221 t222 w0 _ ?side1 ?side2 A20.out).mono ?_); (case side1 => exact qz3); (case side2 => exact qz1); rintro e w43 ⟨rfl, hi, hb, hk⟩; refine ⟨_, rfl, ?_⟩; replace BK211 := aM (KeepBut.blk hk (bk_ BK211.out) NB211_0.out (by simp)); replace BK212 := aM (KeepBut.blk hk (bk_ BK212.out) NB212_0.out (by simp)); replace HO215 := aM (Kd.S_mono (Kd.S_keep (IsS122.apartS (show IsS122 w0 _ g s0_0 t218 t219 from qz3) (rs_ HO215.out) (by decide)) hk (fun _ h => h.2)) (fun _ h => h.1)); replace BK216 := aM (KeepBut.blk hk (bk_ BK216.out) NB216_0.out (by simp)); replace HK := aM (KeepBut.trans qz2 hk (.inl rfl)); replace HB := aM (hb); replace HI0 := aM (hi); (try clear hb); (try clear hb2); (try clear hk); (try clear hi)))
 replace HO215 := aM (Kd.S_drew HO215.out)
 replace BK211 := aM (blk_drew BK211.out)
 replace BK212 := aM (blk_drew BK212.out)
 replace BK216 := aM (blk_drew BK216.out)
 replace HI0 := aM (IsS122.drew HI0.out)
 replace HK := aM (keep_drew HK.out)
 replace HB := aM (below_drew1 HB.out)
 have p223 : 0 ≤ (t217 : Int) := dt_
 have q223 : t217 < (t213.length : Int) := dt_
 obtain ⟨ad223, A223_2, c223_2, e223, hx223_0, hx223_1, hx223_2, hl223_2, hi223_2⟩ := at_T79 (Kd.S_reads' HO215.out).2.2 t217 p223 q223
 cases e223
 obtain ⟨ce223, hce223, hMe223, hcc223⟩ := Kd.S_get HO215.out z79 t217 p223 (by first | exact q223 | exact dt_ | (have e_ := (Kd.S_reads' HO215.out).1; omega))
 obtain ⟨ve223_2, rfl, ge223_2⟩ := k79_openM hMe223
 have hv223_2 := hcc223 2 _ rfl
 rw [add_field _ _ 2 (by omega)] at hv223_2
 replace hv223_2 := Option.some.inj (hv223_2.symm.trans hx223_2)
 rw [hv223_2] at ge223_2
 have HL223_2 := aM (show Kd.R k72 72 _ _ _ _ ((rd_T79 t213 t217).f2) from ge223_2)
 clear hv223_2 ge223_2
 have HX223_2 := aM hx223_2
 clear hcc223 hce223
 have HR223_2 := aM hi223_2
 have HC223_2 := aM hl223_2
 clear hi223_2 hl223_2
 replace p223 := eq_true p223
 replace q223 := eq_true q223
 refine start_ (n := 20) (S := fun w' => w'.cell? ⟨gb216, 0, none⟩ = some (.slice (some ad223) t213.length co37) ∧ w'.cell? (ad223.add ((t217).toNat * 3)) = some (.int .i64 ((rd_T79 t213 t217).f0)) ∧ w'.cell? ⟨(ad223.add ((t217).toNat * 3)).block, (ad223.add ((t217).toNat * 3)).off + 1, none⟩ = some (.int .i64 ((rd_T79 t213 t217).f1)) ∧ w'.cell? ⟨(ad223.add ((t217).toNat * 3)).block, (ad223.add ((t217).toNat * 3)).off + 2, none⟩ = some (.slice A223_2 ((rd_T79 t213 t217).f2).length c223_2)) (ds := [19]) #[false, false, false, false, false, false, false, false, false, false, false, false, false, false, false, false, false, false, false, false] (by kernel_rfl) rfl rfl ⟨(blk_cell BK216.out 0).trans rfl, hx223_0, hx223_1, hx223_2⟩ (fun hHeld => ?_); refine with_tabW spec_l5BendS.tab11 spec_l5BendS.bits11 (fun HT_ HW_ => ?_)
 generalize w43.drew = w44 at HO215 BK211 BK212 BK216 HI0 HK HB HL223_2 HR223_2 HX223_2 hx223_0 hx223_1 hx223_2 hHeld ⊢
 refine pI_ 0 43 (bqz 20 1) ?_
 refine jI_ 2 45 ?_
 refine jI_ 3 46 ?_
 refine jI_ 5 48 ?_
 refine jI_ 9 52 ?_
 refine jI_ 12 55 ?_
 refine sI4_ 1 44 ?_
 refine sI4_ 4 47 ?_
 refine jI_ 6 49 ?_
 refine jI_ 7 50 ?_
 refine sI4_ 8 51 ?_
 refine one_ (i := 10) (N := some 53) (bqz 20 6143) rfl rfl qzc (by decide) (fun K hK => ?_)
 refine Kd.R_lit_step (Kd.int .i64) _ 3 ?hg (N := 53) ?hd (xs := ([0, 1, 1001] : List Int)) (inner := [.int .i64 0, .int .i64 1, .int .i64 1001]) (ok := fun _ => True) (okp := fun _ => True) ?hr ?hp (fun _ hk => hk) trivial (Below.refl _ _) (Nat.le_refl _) (by simp) ?_; (case hd => rfl); (case hg => rfl); (case hr => exact qz27); (case hp => exact qz29)
 intro v225 w45 ho46 hb hg_ hnew_
 have HS1_ := (hb.cell (World.block_lt_of_cell? _ _ (hHeld.2.1))).trans (hHeld.2.1)
 have HS2_ := (hb.cell (World.block_lt_of_cell? _ _ (hHeld.2.2.1))).trans (hHeld.2.2.1)
 have HS3_ := (hb.cell (World.block_lt_of_cell? _ _ (hHeld.2.2.2))).trans (hHeld.2.2.2)
 clear hg_ hnew_
 (first | rw [← Ny224.out] at ho46 | (simp only [Int.reduceToNat] at ho46; rw [← Ny224.out] at ho46))
 replace HO215 := aM (Kd.S_below (rs_ HO215.out) hb)
 replace HL223_2 := aM (Kd.R_below (rr_ HL223_2.out) hb)
 have HO226 := aM (Kd.R_lower ho46 (keep_size (w := w) (g := g) (row := none) qz2))
 replace BK211 := bB_ BK211 hb
 replace BK212 := bB_ BK212 hb
 replace BK216 := bB_ BK216 hb
 replace HR223_2 := aM (Kd.C_below (by repeat (first | (with_reducible exact HR223_2.out) | (with_reducible refine Kd.C_alloc ?_ _) | (with_reducible refine Kd.C_drewN ?_ _) | (with_reducible refine Kd.C_drew ?_) | exact HR223_2.out)) hb)
 replace HX223_2 := aM (pw_cell_below hb HX223_2.out)
 replace HK := aM (KeepBut.trans qz2 (KeepBut.of_below hb g none) (.inl rfl))
 replace HB := bS_ hb
 replace HI0 := aM (IsS122.below qz3 hb)
 clear hb ho46
 obtain ⟨Ao47, co47, eo47⟩ := Kd.R_slice HO226.out
 (first | subst eo47 | (injection eo47 with f1_ f2_ f3_; have f4_ := f1_.symm; have f5_ := f3_.symm; clear f1_ f2_ f3_; subst f4_; subst f5_))
 refine hK.out _ _ ⟨(blk_cell BK216.out 0).trans rfl, HS1_, HS2_, HS3_⟩ (fun hHeld => ?_)
 clear hK K
 refine nm_ 53 ?_
 refine one_ (i := 11) (N := some 54) (bqz 20 8191) rfl rfl qzc (by decide) (fun K hK => ?_)
 refine goes_ Try.func92 (by kernel_rfl) rfl #[.pointer (some ⟨g, 0, none⟩), .slice Ao47 y224.length co47] (by rfl) rfl rfl qz4 ?_
 with_reducible refine (spec_l1Int.calls g s0_0 t221 t222 _ _ y224 t227 t228 t229 w0 _ ?side1 ?side2 ?side3 ?side4 ?side5 A26.out).mono ?_
 (case side1 => exact qz3)
 (case side2 => exact qz1)
 (case side3 => repeat (first | exact (Kd.R_reads' HO226.out).2.2 | (with_reducible refine Kd.C_alloc ?_ _) | (with_reducible refine Kd.C_drewN ?_ _) | (with_reducible refine Kd.C_drew ?_)))
 (case side4 => exact (Kd.R_reads' HO226.out).2.1)
 (case side5 => exact far_slice (IsS122.own_ne HI0.out HO226.out (by decide)))
 rintro e w48 ⟨rfl, hi, hb, hk⟩
 have HS1_ := keep_cell hk (hHeld.2.1) qz7
 have HS2_ := keep_cell hk (hHeld.2.2.1) qz7
 have HS3_ := keep_cell hk (hHeld.2.2.2) qz7
 refine ⟨_, rfl, ?_⟩
 replace BK211 := aM (KeepBut.blk hk (bk_ BK211.out) NB211_0.out (by simp))
 replace BK212 := aM (KeepBut.blk hk (bk_ BK212.out) NB212_0.out (by simp))
 replace BK216 := aM (KeepBut.blk hk (bk_ BK216.out) NB216_0.out (by simp))
 replace HL223_2 := aM (Kd.R_mono (Kd.R_keep (IsS122.apart (show IsS122 w0 _ g s0_0 t221 t222 from qz3) (rr_ HL223_2.out) (by decide)) hk (fun _ h => h.2)) (fun _ h => h.1))
 replace HX223_2 := aM (keep_cell hk HX223_2.out qz32)
 replace HO215 := aM (Kd.S_mono (Kd.S_keep (IsS122.apartS (show IsS122 w0 _ g s0_0 t221 t222 from qz3) (rs_ HO215.out) (by decide)) hk (fun _ h => h.2)) (fun _ h => h.1))
 replace HO226 := aM (Kd.R_mono (Kd.R_keep (IsS122.apart (show IsS122 w0 _ g s0_0 t221 t222 from qz3) (rr_ HO226.out) (by decide)) hk (fun _ h => h.2)) (fun _ h => h.1))
 replace HK := aM (KeepBut.trans qz2 hk (.inl rfl))
 replace HB := aM (hb)
 replace HI0 := aM (hi)
 (try clear hb)
 (try clear hb2)
 (try clear hk)
 (try clear hi)
 refine hK.out _ _ ⟨(blk_cell BK216.out 0).trans rfl, HS1_, HS2_, HS3_⟩ (fun hHeld => ?_)
 clear hK K
 refine nm_ 54 ?_
 refine one_ (i := 13) (N := some 56) (bqz 20 16383) rfl rfl qzc (by decide) (fun K hK => ?_)
 refine goes_ Try.func105 (by kernel_rfl) rfl #[.pointer (some ⟨g, 0, none⟩), .int .i64 3] (by rfl) rfl rfl qz4 ?_
 with_reducible refine (spec_l1Below.calls g s0_0 t228 t229 3 t230 t231 t232 w0 _ ?side1 ?side2 A27.out).mono ?_
 (case side1 => exact qz3)
 (case side2 => exact qz1)
 rintro e w49 ⟨rfl, hi, hb, hk⟩
 have HS1_ := keep_cell hk (hHeld.2.1) qz7
 have HS2_ := keep_cell hk (hHeld.2.2.1) qz7
 have HS3_ := keep_cell hk (hHeld.2.2.2) qz7
 refine ⟨_, rfl, ?_⟩
 replace BK211 := aM (KeepBut.blk hk (bk_ BK211.out) NB211_0.out (by simp))
 replace BK212 := aM (KeepBut.blk hk (bk_ BK212.out) NB212_0.out (by simp))
 replace BK216 := aM (KeepBut.blk hk (bk_ BK216.out) NB216_0.out (by simp))
 replace HL223_2 := aM (Kd.R_mono (Kd.R_keep (IsS122.apart (show IsS122 w0 _ g s0_0 t228 t229 from qz3) (rr_ HL223_2.out) (by decide)) hk (fun _ h => h.2)) (fun _ h => h.1))
 replace HX223_2 := aM (keep_cell hk HX223_2.out qz32)
 replace HO215 := aM (Kd.S_mono (Kd.S_keep (IsS122.apartS (show IsS122 w0 _ g s0_0 t228 t229 from qz3) (rs_ HO215.out) (by decide)) hk (fun _ h => h.2)) (fun _ h => h.1))
 replace HO226 := aM (Kd.R_mono (Kd.R_keep (IsS122.apart (show IsS122 w0 _ g s0_0 t228 t229 from qz3) (rr_ HO226.out) (by decide)) hk (fun _ h => h.2)) (fun _ h => h.1))
 replace HK := aM (KeepBut.trans qz2 hk (.inl rfl))
 replace HB := aM (hb)
 replace HI0 := aM (hi)
 (try clear hb)
 (try clear hb2)
 (try clear hk)
 (try clear hi)
 obtain ⟨go50, co50, eo50, gb50, gl50, cl50, HG50⟩ := Kd.S_form HO215.out (by have h_ : (t217 : Int) < ((t213.length : Int) : Int) := dt_; have h2_ : 0 ≤ (t217 : Int) := (dt_); omega)
 (first | cases eo50 | (injection eo50 with ea_ en_ ec_; (first | subst ea_ | (injection ea_ with ea_; subst ea_)); subst ec_; clear en_))
 have GB50 := aM gb50
 have GG50 := aM HG50
 clear gb50 gl50 HG50
 (first | simp only [add_plain] at hx223_0 | skip)
 (first | simp only [add_plain] at hx223_1 | skip)
 (first | simp only [add_plain] at hx223_2 | skip)
 obtain ⟨oki50, ce50, hcl50, hM50, hcc50, _, _, hH50⟩ := Kd.S_elem HO215.out z79 (t217 : Int) (dt_) (by have h_ : (t217 : Int) < ((t213.length : Int) : Int) := dt_; first | exact h_ | (have e_ := (Kd.S_reads' HO215.out).1; omega) | simpa using h_)
 obtain ⟨ve50_2, rfl, ge50_2⟩ := k79_openM hM50
 have hv50 := hcc50 2 _ rfl
 have hX50 := HX223_2.out
 (try simp only [add_plain] at hX50)
 (try simp only [Nat.add_zero] at hv50)
 replace hv50 := Option.some.inj (hv50.symm.trans hX50)
 subst hv50
 clear hX50 hcc50 hcl50
 have UU50 := aM (show Kd.R k72 72 _ w.heap.size oki50 (.slice A223_2 ((rd_T79 t213 t217).f2).length c223_2) ((rd_T79 t213 t217).f2) from ge50_2)
 have HH50 := aM hH50
 have HN50 := aM (Kd.S_reads' HO215.out).1
 clear hH50 ge50_2
 refine hK.out _ _ ⟨(blk_cell BK216.out 0).trans rfl, HS1_, HS2_, HS3_⟩ (fun hHeld => ?_)
 clear hK K
 refine nm_ 56 ?_
 refine pI_ 14 57 (bqz 20 32767) ?_
 refine one_ (i := 15) (N := some 58) (bqz 20 65535) rfl rfl qzc (by decide) (fun K hK => ?_)
 refine value_ (w1 := ?_) (v := ?_) (by rfl) rfl ?_ ?_
 rotate_left 2
 {
 go_simp
 constructor
 {
 rfl
 }
 {
 rfl
 }
 }
 refine hK.out _ _ ⟨(blk_cell (blk_alloc BK216.out _) 0).trans rfl, (World.cell?_alloc_lt _ _ _ (World.block_lt_of_cell? _ _ (hHeld.2.1))).trans (hHeld.2.1), (World.cell?_alloc_lt _ _ _ (World.block_lt_of_cell? _ _ (hHeld.2.2.1))).trans (hHeld.2.2.1), (World.cell?_alloc_lt _ _ _ (World.block_lt_of_cell? _ _ (hHeld.2.2.2))).trans (hHeld.2.2.2)⟩ (fun hHeld => ?_)
 clear hK K
 refine nm_ 58 ?_
 refine one_ (i := 16) (N := some 59) (bqz 20 131071) rfl rfl qzc (by decide) (fun K hK => ?_)
 refine Kd.R_append_step k72 w.heap.size (by rfl) (.tmp 51) (.tmp 58) 77 72 (.agg #[(.int .i64 0), (.int .i64 0), (.int .i64 0)]) 24 rfl Try.underlying77 info72 rfl (by decide) (by omega) (.slice A223_2 ((rd_T79 t213 t217).f2).length c223_2) ((rd_T79 t213 t217).f2) (⟨9, t227, t230⟩ : S72) [.int .i64 9, .int .i64 t227, .int .i64 t230] (fun k_ => oki50 k_ ∨ ((fun _ => True)) k_ ∧ w49.heap.size ≤ k_) (fun _ => False) rfl rfl ?aP (fun _ hk => hk.elim) ?aF ?aO (Below.refl _ _) ?aS ?aL ?_
 (case aP => exact k72_mkM _ _ _ (⟨9, t227, t230⟩ : S72))
 (case aF => exact (fun k_ hk => .inr ⟨trivial, hk⟩))
 (case aO => exact (by (with_reducible repeat (first | apply Kd.R_alloc | apply Kd.R_drewN | apply Kd.R_drew)); exact Kd.R_mono UU50.out (fun _ hk => .inl hk)))
 (case aS => exact (keep_size (w := w) (g := g) (row := none) qz2))
 (case aL => have := LMc28.out; omega)
 intro v234 w51 ho hb hg hat
 (first | have HS1_ := cell_grown hg (hHeld.2.1) qz11 | have HS1_ := cell_grown hg (cell_unalloc (hHeld.2.1) qz25) qz11)
 (first | have HS2_ := cell_grown hg (hHeld.2.2.1) qz11 | have HS2_ := cell_grown hg (cell_unalloc (hHeld.2.2.1) qz25) qz11)
 (first | have HS3_ := cell_grown hg (hHeld.2.2.2) qz11 | have HS3_ := cell_grown hg (cell_unalloc (hHeld.2.2.2) qz25) qz11)
 rw [← Ny233.out] at ho
 replace BK211 := aM (blk_grown (bk_ BK211.out) hg (Kd.R_ne HL223_2.out BK211.out (by decide)))
 replace BK212 := aM (blk_grown (bk_ BK212.out) hg (Kd.R_ne HL223_2.out BK212.out (by decide)))
 replace BK216 := aM (blk_grown (bk_ BK216.out) hg (Kd.R_ne HL223_2.out BK216.out (by decide)))
 replace HO226 := aM (Kd.R_over' (v := (.slice A223_2 ((rd_T79 t213 t217).f2).length c223_2)) (rr_ HO226.out) (Kd.R_typed HL223_2.out) (by decide) hg)
 replace HB := aM (below_weaken qz1 HL.out hb)
 replace HI0 := aM (IsS122.grown qz3 hg (IsS122.own_ne HI0.out HL223_2.out (by decide)))
 replace HK := aM (KeepBut.trans qz2 (KeepBut.of_grown hg g) (Kd.R_base2 HL223_2.out))
 replace HH50 := aM (Kd.H_grown (Kd.H_widen (by repeat (first | exact HH50.out | refine Kd.H_alloc ?_ _ | refine Kd.H_drewN ?_ _ | refine Kd.H_drew ?_))) hg (fun k_ e_ => .inl (UU50.out.1 k_ e_)))
 have HO235 := aM (ho)
 clear HO215 UU50 HL223_2 ho hb hg hat
 have p29 : 0 ≤ (t217 : Int) := dt_
 have q29 : (t217 : Int) < ((t213.length : Int) : Int) := dt_
 replace p29 := eq_true p29
 replace q29 := eq_true q29
 obtain ⟨Ao54, co54, eo54⟩ := Kd.R_slice HO235.out
 (first | subst eo54 | (injection eo54 with f1_ f2_ f3_; have f4_ := f1_.symm; have f5_ := f3_.symm; clear f1_ f2_ f3_; subst f4_; subst f5_))
 obtain ⟨_, _, hraw52, _, _, hcc52, _⟩ := Kd.H_raw HH50.out (dt_) (by have h_ : (t217 : Int) < ((t213.length : Int) : Int) := dt_; first | exact h_ | (have e_ := (HN50.out); omega) | simpa using h_)
 obtain ⟨_, hfr52⟩ := Kd.H_at HH50.out (dt_) (by have h_ : (t217 : Int) < ((t213.length : Int) : Int) := dt_; first | exact h_ | (have e_ := (HN50.out); omega) | simpa using h_)
 have hx52_0 := hcc52 2 _ rfl
 have hf52_0 := hfr52 2
 (try rw [show (k79).sz = 3 from rfl] at hx52_0)
 (try rw [show (k79).sz = 3 from rfl] at hf52_0)
 have HP52 := Kd.S_seg0 HH50.out (dt_) (by have h_ : (t217 : Int) < ((t213.length : Int) : Int) := dt_; first | exact h_ | (have e_ := (HN50.out); omega) | simpa using h_) (seg := [.slice Ao54 y233.length co54]) (j := 2) (show 3 ≤ 3 from by decide) (x' := (⟨(rd_T79 t213 t217).f0, (rd_T79 t213 t217).f1, y233⟩ : S79)) (k79_mkM _ _ _ (⟨(rd_T79 t213 t217).f0, (rd_T79 t213 t217).f1, y233⟩ : S79) HO235.out) (fun _ hk => hk)
 clear hcc52 hfr52
 have HN0_go50 := aM (show g ≠ go50 from by have h_ := IsS122.own_ne HI0.out hraw52 (by decide); intro e_; exact h_ (by rw [e_]; rfl))
 have HNB211_go50 := aM (show gb211 ≠ go50 from by have h_ := Kd.R_ne hraw52 BK211.out (by decide); intro e_; exact h_ (by rw [e_]; rfl))
 have HNB212_go50 := aM (show gb212 ≠ go50 from by have h_ := Kd.R_ne hraw52 BK212.out (by decide); intro e_; exact h_ (by rw [e_]; rfl))
 have HNB216_go50 := aM (show gb216 ≠ go50 from by have h_ := Kd.R_ne hraw52 BK216.out (by decide); intro e_; exact h_ (by rw [e_]; rfl))
 have HS52 := HP52.1
 rw [← Ny236.out] at HS52
 have HQ52 := aM HS52
 obtain ⟨_, hgg52⟩ := Kd.R_typed hraw52 go50 rfl
 have GG52_ := aM hgg52
 clear HP52 HS52 hgg52
 refine hK.out _ _ ⟨(blk_cell BK216.out 0).trans rfl, HS1_, HS2_, HS3_⟩ (fun hHeld => ?_)
 clear hK K
 refine nm_ 59 ?_
 refine pI_ 17 60 (bqz 20 262143) ?_
 refine jI_ 18 61 ?_
 refine last_ (i := 19) (N := none) (bqz 20 1048575) rfl rfl qzc (by decide) (fun K hK => ?_)
 refine sk_ ?_
 refine hK.out _ _ ?_
 clear hK K
 refine done_ (done_of HT_.out (by kernel_rfl)) ?_
 generalize hq_ : (w51.setCell ⟨go50, (t217 : Int).toNat * 3 + 2, none⟩ (.slice Ao54 y233.length co54)) = w55
 replace HO226 : Aside0 (Kd.R (Kd.int .i64) 3 w55 w.heap.size (fun _ => True) (.slice Ao47 y224.length co47) y224) := ⟨by rw [← hq_]; exact (by (with_reducible repeat (first | apply Kd.R_alloc | apply Kd.R_drewN | apply Kd.R_drew)); exact Kd.R_mono (Kd.R_far (p := ⟨go50, (t217 : Int).toNat * 3 + 2, none⟩) (Kd.R_types HO226.out GG52_.out (by decide)) (fun _ hk => hk.2) (.slice Ao54 y233.length co54)) (fun _ hk => trivial))⟩
 replace HO215 : Aside0 (Kd.S k79 79 w55 w.heap.size (fun _ => True) (.slice (some ⟨go50, 0, none⟩) t213.length co37) y236) := ⟨by rw [← hq_]; exact (rs_ HQ52.out)⟩
 replace BK211 : Aside0 (w55.heap[gb211]? = some (.cells #[.slice A1_0 l1_0.length c1_0] 26 (0, 0))) := ⟨by rw [← hq_]; exact (bk2_ BK211.out)⟩
 replace BK212 : Aside0 (w55.heap[gb212]? = some (.cells #[.slice none 0 0] 26 (0, 0))) := ⟨by rw [← hq_]; exact (bk2_ BK212.out)⟩
 replace BK216 : Aside0 (w55.heap[gb216]? = some (.cells #[.slice (some ⟨go50, 0, none⟩) t213.length co37] 26 (0, 0))) := ⟨by rw [← hq_]; exact (bk2_ BK216.out)⟩
 replace HK : Aside0 (KeepBut w w55 g none) := ⟨by rw [← hq_]; exact qz2⟩
 replace HB : Aside0 (Below w0.heap.size w0 w55) := ⟨by rw [← hq_]; exact qz1⟩
 replace HI0 : Aside0 (IsS122 w0 w55 g s0_0 t231 t232) := ⟨by rw [← hq_]; exact qz3⟩
 clear hq_
 obtain ⟨hcz56_0, hfz56_0⟩ := bf_ BK216.out
 have hnb57 := NB212_0.out
 have hnc57 := NB0_212.out
 obtain ⟨hcz58_0, hfz58_0⟩ := bf_ BK212.out
 try go_wp2
 refine bodyPost_ret (results_cell_row rfl _ _ gb212 26 #[.slice (some ⟨go50, 0, none⟩) t213.length co37] (0, 0) _ rfl (by (with_reducible repeat (first | refine blk_drewN ?_ _ | refine blk_drew ?_ | refine blk_alloc ?_ _)); refine blk_put (cs := #[.slice none 0 0]) ?_ 0 _ rfl; exact bk_ BK212.out) Try.underlying26 rfl (by kernel_rfl)) rfl ?_
 exact ⟨_, qzw, by (with_reducible repeat (first | apply Kd.S_alloc | apply Kd.S_drewN | apply Kd.S_drew)); exact Kd.S_mono (Kd.S_far (p := ⟨gb212, 0, none⟩) (Kd.S_types HO215.out BK212.out (by decide)) (fun _ hk => hk.2) (.slice (some ⟨go50, 0, none⟩) t213.length co37)) (fun _ hk => trivial), qz3, qz1, qz2⟩
 }
 {
 exact an_ c28 H
 }
 }
 {
 exact an_ c25 H
 }
 }
 {
 exact an_ c24 H
 }
 }
 {
 rw [if_neg c23] at H
 have c23b0 := beq_eq_false_iff_ne.mpr c23
 have c23b1 := bne_iff_ne.mpr c23
 by_cases c59 : t220 = 3
 {
 rw [if_pos c59] at H
 have c59b0 := beq_iff_eq.mpr c59
 have c59b1 := bne_eq_false_iff_eq.mpr c59
 clear c59
 by_cases c60 : 0 < (t213.length : Int)
 {
 rw [if_pos c60] at H
 have c60b0 := decide_eq_true c60
 have c60b1 : decide (0 < t213.length) = true := decide_eq_true (by omega)
 clear c60
 exact absurd H (by simp)
 }
 {
 exact an_ c60 H
 }
 }
 {
 rw [if_neg c59] at H
 have c59b0 := beq_eq_false_iff_ne.mpr c59
 have c59b1 := bne_iff_ne.mpr c59
 simp only [Option.some.injEq, Prod.mk.injEq] at H
 obtain ⟨rfl, rfl, rfl⟩ := H
 go_enter Try.func103, Try.ntmps103
 go_wp2_with (first | ((with_reducible refine gate_dst (N := 3) rfl ?_); refine bx_ 3 #[.slice A1_0 l1_0.length c1_0] 26 ?_; intro gb211 hg w61 hbox hb; replace HB := bS_ hb; have BK211 := aM (hbox); have GW211 := aM (kz_ w g hg qz2); have GE211 := aM ((Nat.le_trans HW0.out (by rw [hg]; exact (keep_size (w := w) (g := g) (row := none) qz2) : w.heap.size ≤ gb211) : w0.heap.size ≤ gb211)); replace HK := aM (KeepBut.trans qz2 (KeepBut.of_below hb g none) (.inl rfl)); have NB0_211 := aM ((by rw [hg]; exact Nat.ne_of_lt (IsS122.lt (show IsS122 w0 _ g s0_0 s0_1 s0_2 from qz3)) : g ≠ gb211)); have NB211_0 := aM ((by rw [hg]; exact Nat.ne_of_gt (IsS122.lt (show IsS122 w0 _ g s0_0 s0_1 s0_2 from qz3)) : gb211 ≠ g)); replace HI0 := aM (IsS122.below qz3 hb); clear hb hbox hg) | ((with_reducible refine gate_dst (N := 4) rfl ?_); refine bx_ 4 #[.slice none 0 0] 26 ?_; intro gb212 hg w62 hbox hb; replace HB := bS_ hb; have BK212 := aM (hbox); have GW212 := aM (kz_ w g hg qz2); have GE212 := aM ((Nat.le_trans HW0.out (by rw [hg]; exact (keep_size (w := w) (g := g) (row := none) qz2) : w.heap.size ≤ gb212) : w0.heap.size ≤ gb212)); replace HK := aM (KeepBut.trans qz2 (KeepBut.of_below hb g none) (.inl rfl)); obtain ⟨NB211_212, NB212_211⟩ := nb_ hg (bk_ BK211.out); replace BK211 := bB_ BK211 hb; have NB0_212 := aM ((by rw [hg]; exact Nat.ne_of_lt (IsS122.lt (show IsS122 w0 _ g s0_0 s0_1 s0_2 from qz3)) : g ≠ gb212)); have NB212_0 := aM ((by rw [hg]; exact Nat.ne_of_gt (IsS122.lt (show IsS122 w0 _ g s0_0 s0_1 s0_2 from qz3)) : gb212 ≠ g)); replace HI0 := aM (IsS122.below qz3 hb); clear hb hbox hg; have hnb63 := NB211_212.out; have hnc63 := NB212_211.out; have hnb64 := NB211_0.out; have hnc64 := NB0_211.out; obtain ⟨hcz65_0, hfz65_0⟩ := bf_ BK211.out) | ((with_reducible refine gate_callee (f := 62) rfl ?_); refine goesL_ (some 8) rfl rfl Try.func62 (by kernel_rfl) rfl #[.agg #[.slice A1_0 l1_0.length c1_0]] rfl qz4 ?_; (with_reducible refine (spec_l5Copy.calls k _ _ l1_0 t213 _ ?side1 ?side2 A3.out).mono ?_); (case side1 => exact Kd.C_foot_now HR1_0.out qz2); (case side2 => exact HC1_0.out); rintro e w66 ⟨v214, rfl, ho0, hb⟩; refine ⟨_, rfl, ?_⟩; have HO215 := aM (Kd.S_lower ho0 (keep_size (w := w) (g := g) (row := none) qz2)); replace BK211 := bB_ BK211 hb; replace BK212 := bB_ BK212 hb; replace HK := aM (KeepBut.trans qz2 (KeepBut.of_below hb g none) (.inl rfl)); replace HB := bS_ hb; replace HI0 := aM (IsS122.below qz3 hb); (try clear hb); (try clear hb2); (try clear hk); (try clear hi); (try clear ho0)) | ((with_reducible refine gate_dst (N := 5) rfl ?_); refine bx_ 5 #[.slice none 0 0] 26 ?_; intro gb216 hg w67 hbox hb; replace HO215 := aM (Kd.S_below (rs_ HO215.out) hb); replace HB := bS_ hb; have BK216 := aM (hbox); have GW216 := aM (kz_ w g hg qz2); have GE216 := aM ((Nat.le_trans HW0.out (by rw [hg]; exact (keep_size (w := w) (g := g) (row := none) qz2) : w.heap.size ≤ gb216) : w0.heap.size ≤ gb216)); replace HK := aM (KeepBut.trans qz2 (KeepBut.of_below hb g none) (.inl rfl)); obtain ⟨NB211_216, NB216_211⟩ := nb_ hg (bk_ BK211.out); replace BK211 := bB_ BK211 hb; obtain ⟨NB212_216, NB216_212⟩ := nb_ hg (bk_ BK212.out); replace BK212 := bB_ BK212 hb; have NB0_216 := aM ((by rw [hg]; exact Nat.ne_of_lt (IsS122.lt (show IsS122 w0 _ g s0_0 s0_1 s0_2 from qz3)) : g ≠ gb216)); have NB216_0 := aM ((by rw [hg]; exact Nat.ne_of_gt (IsS122.lt (show IsS122 w0 _ g s0_0 s0_1 s0_2 from qz3)) : gb216 ≠ g)); replace HI0 := aM (IsS122.below qz3 hb); clear hb hbox hg; obtain ⟨Ao68, co68, eo68⟩ := Kd.S_slice HO215.out; subst eo68; have hnb69 := NB216_211.out; have hnc69 := NB211_216.out; have hnb70 := NB216_212.out; have hnc70 := NB212_216.out; have hnb71 := NB216_0.out; have hnc71 := NB0_216.out; obtain ⟨hcz72_0, hfz72_0⟩ := bf_ BK216.out) | ((with_reducible refine gate_callee (f := 105) rfl ?_); refine goesL_ (some 18) rfl rfl Try.func105 (by kernel_rfl) rfl #[.pointer (some ⟨g, 0, none⟩), .int .i64 (t213.length : Int)] rfl qz4 ?_; (with_reducible refine (spec_l1Below.calls g s0_0 s0_1 s0_2 (t213.length : Int) t217 t218 t219 w0 _ ?side1 ?side2 A19.out).mono ?_); (case side1 => exact qz3); (case side2 => exact qz1); rintro e w73 ⟨rfl, hi, hb, hk⟩; refine ⟨_, rfl, ?_⟩; replace BK211 := aM (KeepBut.blk hk (g' := gb211) (o := .cells #[.slice A1_0 l1_0.length c1_0] 26 (0, 0)) (bk2_ BK211.out) NB211_0.out (by simp)); replace BK212 := aM (KeepBut.blk hk (g' := gb212) (o := .cells #[.slice none 0 0] 26 (0, 0)) (bk2_ BK212.out) NB212_0.out (by simp)); replace HO215 := aM (Kd.S_mono (Kd.S_keep (IsS122.apartS (show IsS122 w0 _ g s0_0 s0_1 s0_2 from qz3) (by (with_reducible repeat (first | apply Kd.S_alloc | apply Kd.S_drewN | apply Kd.S_drew)); exact (Kd.S_mono (Kd.S_far (p := ⟨gb216, 0, none⟩) (Kd.S_types HO215.out BK216.out (by decide)) (fun _ hk => hk.2) (.slice Ao68 t213.length co68)) (fun _ h_ => h_.1))) (by decide)) hk (fun _ h => h.2)) (fun _ h => h.1)); replace BK216 := aM (KeepBut.blk hk (g' := gb216) (o := .cells #[.slice Ao68 t213.length co68] 26 (0, 0)) (by (with_reducible repeat (first | refine blk_drewN ?_ _ | refine blk_drew ?_ | refine blk_alloc ?_ _)); refine blk_put (cs := #[.slice none 0 0]) ?_ 0 _ rfl; exact bk_ BK216.out) NB216_0.out (by simp)); replace HK := aM (KeepBut.trans qz2 hk (.inl rfl)); replace HB := aM (hb); replace HI0 := aM (hi); (try clear hb); (try clear hb2); (try clear hk); (try clear hi)) | ((with_reducible refine gate_callee (f := 105) rfl ?_); refine goesL_ (some 20) rfl rfl Try.func105 (by kernel_rfl) rfl #[.pointer (some ⟨g, 0, none⟩), .int .i64 6] rfl qz4 ?_; (with_reducible refine (spec_l1Below.calls g s0_0 t218 t219 6 t220 t221 t222 w0 _ ?side1 ?side2 A20.out).mono ?_); (case side1 => exact qz3); (case side2 => exact qz1); rintro e w74 ⟨rfl, hi, hb, hk⟩; refine ⟨_, rfl, ?_⟩; replace BK211 := aM (KeepBut.blk hk (bk_ BK211.out) NB211_0.out (by simp)); replace BK212 := aM (KeepBut.blk hk (bk_ BK212.out) NB212_0.out (by simp)); replace HO215 := aM (Kd.S_mono (Kd.S_keep (IsS122.apartS (show IsS122 w0 _ g s0_0 t218 t219 from qz3) (rs_ HO215.out) (by decide)) hk (fun _ h => h.2)) (fun _ h => h.1)); replace BK216 := aM (KeepBut.blk hk (bk_ BK216.out) NB216_0.out (by simp)); replace HK := aM (KeepBut.trans qz2 hk (.inl rfl)); replace HB := aM (hb); replace HI0 := aM (hi); (try clear hb); (try clear hb2); (try clear hk); (try clear hi); obtain ⟨hcz75_0, hfz75_0⟩ := bf_ BK216.out; have hnb76 := NB212_0.out; have hnc76 := NB0_212.out; obtain ⟨hcz77_0, hfz77_0⟩ := bf_ BK212.out))
 refine bodyPost_ret (results_cell_row rfl _ _ gb212 26 #[.slice Ao68 t213.length co68] (0, 0) _ rfl (by (with_reducible repeat (first | refine blk_drewN ?_ _ | refine blk_drew ?_ | refine blk_alloc ?_ _)); refine blk_put (cs := #[.slice none 0 0]) ?_ 0 _ rfl; exact bk_ BK212.out) Try.underlying26 rfl (by kernel_rfl)) rfl ?_
 exact ⟨_, qzw, by (with_reducible repeat (first | apply Kd.S_alloc | apply Kd.S_drewN | apply Kd.S_drew)); exact Kd.S_mono (Kd.S_far (p := ⟨gb212, 0, none⟩) (Kd.S_types HO215.out BK212.out (by decide)) (fun _ hk => hk.2) (.slice Ao68 t213.length co68)) (fun _ hk => trivial), qz3, qz1, qz2⟩

 }
 }
 }
 }
 }
/-! ### spec_l5Bend: function 103, told out of the two -/
def spec_l5Bend.f (k : Nat) (s0_0 : List Int) (s0_1 : Int) (s0_2 : Int) (l1_0 : List (S79)) : Option ((List (S79)) × Int × Int) := (spec_l5Copy.f k l1_0).bind fun t213 => (if (t213.length : Int) = 0 then (some (t213, s0_1, s0_2)) else ((spec_l1Below.f s0_0 s0_1 s0_2 (t213.length : Int)).bind fun bt217 => ((spec_l1Below.f s0_0 bt217.2.1 bt217.2.2 6).bind fun bt220 => (if bt220.1 = 0 then ((spec_l1Int.f s0_0 bt220.2.1 bt220.2.2 (([0, 1000, 10] : List Int))).bind fun bt226 => (if 0 ≤ bt217.1 then (if bt217.1 < (t213.length : Int) then (some ((t213.set (bt217.1 : Int).toNat (⟨bt226.1, (rd_T79 t213 bt217.1).f1, (rd_T79 t213 bt217.1).f2⟩ : S79)), bt226.2.1, bt226.2.2)) else (none)) else (none))) else (if bt220.1 = 1 then ((spec_l1Int.f s0_0 bt220.2.1 bt220.2.2 (([(-1), 100, 19] : List Int))).bind fun bt233 => (if 0 ≤ bt217.1 then (if bt217.1 < (t213.length : Int) then (some ((t213.set (bt217.1 : Int).toNat (⟨(rd_T79 t213 bt217.1).f0, bt233.1, (rd_T79 t213 bt217.1).f2⟩ : S79)), bt233.2.1, bt233.2.2)) else (none)) else (none))) else (if bt220.1 = 2 then (if 0 ≤ bt217.1 then (if bt217.1 < (t213.length : Int) then ((spec_l1Int.f s0_0 bt220.2.1 bt220.2.2 (([0, 1, 1001] : List Int))).bind fun bt241 => ((spec_l1Below.f s0_0 bt241.2.1 bt241.2.2 3).bind fun bt244 => (if ((rd_T79 t213 bt217.1).f2).length < 5864062014805 then (some ((t213.set (bt217.1 : Int).toNat (⟨(rd_T79 t213 bt217.1).f0, (rd_T79 t213 bt217.1).f1, (((rd_T79 t213 bt217.1).f2) ++ [(⟨9, bt241.1, bt244.1⟩ : S72)])⟩ : S79)), bt244.2.1, bt244.2.2)) else (none)))) else (none)) else (none)) else (if bt220.1 = 3 then (if 0 < (t213.length : Int) then (if t213.length < 3518437208883 then (some ((t213 ++ [(⟨(rd_T79 t213 0).f0, (rd_T79 t213 0).f1, (rd_T79 t213 0).f2⟩ : S79)]), bt220.2.1, bt220.2.2)) else (none)) else (none)) else (some (t213, bt220.2.1, bt220.2.2)))))))))
theorem spec_l5Bend.mono : ∀ a0 a1 a2 a3 k, LeO (spec_l5Bend.f k a0 a1 a2 a3) (spec_l5Bend.f (k + 1) a0 a1 a2 a3) := by
 intro a0 a1 a2 a3 k
 unfold spec_l5Bend.f
 have j0 := @spec_l5Copy.mono
 exact qL
theorem spec_l5Bend.or (k : Nat) (s0_0 : List Int) (s0_1 : Int) (s0_2 : Int) (l1_0 : List (S79)) (r : (List (S79)) × Int × Int) (h : spec_l5Bend.f k s0_0 s0_1 s0_2 l1_0 = some r) : spec_l5BendS.f k s0_0 s0_1 s0_2 l1_0 = some r ∨ spec_l5BendN.f k s0_0 s0_1 s0_2 l1_0 = some r := by
 unfold spec_l5Bend.f at h
 unfold spec_l5BendS.f spec_l5BendN.f
 obtain ⟨t1, h1, h⟩ := Option.bind_eq_some_iff.mp h
 rw [h1]
 simp only [Option.bind_some]
 by_cases c1 : (t1.length : Int) = 0
 {
 rw [if_pos c1] at h; rw [if_pos c1, if_pos c1]; exact .inr h
 }
 {
 rw [if_neg c1] at h; rw [if_neg c1, if_neg c1]
 obtain ⟨t2, h2, h⟩ := Option.bind_eq_some_iff.mp h
 rw [h2]
 simp only [Option.bind_some]
 obtain ⟨t3, h3, h⟩ := Option.bind_eq_some_iff.mp h
 rw [h3]
 simp only [Option.bind_some]
 by_cases c2 : t3.1 = 0
 {
 rw [if_pos c2] at h; rw [if_pos c2, if_pos c2]; exact .inr h
 }
 {
 rw [if_neg c2] at h; rw [if_neg c2, if_neg c2]
 by_cases c3 : t3.1 = 1
 {
 rw [if_pos c3] at h; rw [if_pos c3, if_pos c3]; exact .inr h
 }
 {
 rw [if_neg c3] at h; rw [if_neg c3, if_neg c3]
 by_cases c4 : t3.1 = 2
 {
 rw [if_pos c4] at h; rw [if_pos c4]; exact .inl h
 }
 {
 rw [if_neg c4] at h; rw [if_neg c4, if_neg c4]; exact .inr h
 }
 }
 }
 }
set_option maxHeartbeats 8000000 in
theorem spec_l5Bend.calls (k : Nat) (g : Nat) (s0_0 : List Int) (s0_1 : Int) (s0_2 : Int) (A1_0 : Option Addr) (c1_0 : Nat) (l1_0 : List (S79)) (r1 : List (S79)) (r2 : Int) (r3 : Int) (w0 w : World) (hI : IsS122 w0 w g s0_0 s0_1 s0_2) (hB : Below w0.heap.size w0 w) (hr1_0 : ∀ W_, KeepBut w W_ g none → Kd.C k79 W_ A1_0 l1_0.length l1_0) (hc1_0 : l1_0.length ≤ c1_0) (h : spec_l5Bend.f k s0_0 s0_1 s0_2 l1_0 = some (r1, r2, r3)) :
  Calls Try.prog 103 #[.pointer (some ⟨g, 0, none⟩), .agg #[.slice A1_0 l1_0.length c1_0]] w fun e w' => ∃ v0_ : Value, e = .returned (.agg #[v0_]) ∧ Kd.N k79 79 w' w.heap.size (fun k_ => (w.heap.size ≤ k_)) v0_ r1 ∧ IsS122 w0 w' g s0_0 r2 r3 ∧ Below w0.heap.size w0 w' ∧ KeepBut w w' g none := by
 rcases spec_l5Bend.or k s0_0 s0_1 s0_2 l1_0 _ h with h | h
 {
 refine (spec_l5BendS.calls k g s0_0 s0_1 s0_2 A1_0 c1_0 l1_0 r1 r2 r3 w0 w hI hB hr1_0 hc1_0 h).mono ?_
 rintro e w' ⟨v0_, he, hS, hr⟩
 exact ⟨v0_, he, Kd.S_N (Kd.S_mono (Kd.S_bound hS) (fun k hk => hk.2.1)), hr⟩
 }
 {
 exact spec_l5BendN.calls k g s0_0 s0_1 s0_2 A1_0 c1_0 l1_0 r1 r2 r3 w0 w hI hB hr1_0 hc1_0 h
 }
end Go.Proofs.Yteajnkondkfmgaa.PFnPicks
