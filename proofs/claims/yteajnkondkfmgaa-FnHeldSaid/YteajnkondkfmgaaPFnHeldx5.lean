-- Made by a program of this session out of the translation. Lean checks it.
import Derived.Test.YteajnkondkfmgaaPFnHeldx0
import Derived.Test.YteajnkondkfmgaaPFnHeldx2
import Derived.Test.YteajnkondkfmgaaPFnHeldx4
namespace Go.Proofs.Yteajnkondkfmgaa.PFnHeld
open Go.RowKit Go.Proofs.YteajnkondkfmgaaW.PrintWords Go.Proofs.YteajnkondkfmgaaW.PrintLast Go.Proofs.YteajnkondkfmgaaW.PrintMore
attribute [local go_sem] max2_int min2_int max_two min_two max_three min_three max_four min_four   -- for this text's walks alone
set_option linter.unusedVariables false
set_option linter.unusedSimpArgs false

/-! ### spec_l5BendN: function 103 -/
def spec_l5BendN.f (k : Nat) (s0_0 : List Int) (s0_1 : Int) (s0_2 : Int) (l1_0 : List (S79)) : Option ((List (S79)) × Int × Int) := (spec_l5Copy.f k l1_0).bind fun t167 => (if (t167.length : Int) = 0 then (some (t167, s0_1, s0_2)) else ((spec_l1Below.f s0_0 s0_1 s0_2 (t167.length : Int)).bind fun bt171 => ((spec_l1Below.f s0_0 bt171.2.1 bt171.2.2 6).bind fun bt174 => (if bt174.1 = 0 then ((spec_l1Int.f s0_0 bt174.2.1 bt174.2.2 (([0, 1000, 10] : List Int))).bind fun bt180 => (if 0 ≤ bt171.1 then (if bt171.1 < (t167.length : Int) then (some ((t167.set (bt171.1 : Int).toNat (⟨bt180.1, (rd_T79 t167 bt171.1).f1, (rd_T79 t167 bt171.1).f2⟩ : S79)), bt180.2.1, bt180.2.2)) else (none)) else (none))) else (if bt174.1 = 1 then ((spec_l1Int.f s0_0 bt174.2.1 bt174.2.2 (([(-1), 100, 19] : List Int))).bind fun bt187 => (if 0 ≤ bt171.1 then (if bt171.1 < (t167.length : Int) then (some ((t167.set (bt171.1 : Int).toNat (⟨(rd_T79 t167 bt171.1).f0, bt187.1, (rd_T79 t167 bt171.1).f2⟩ : S79)), bt187.2.1, bt187.2.2)) else (none)) else (none))) else (if bt174.1 = 2 then (if 0 ≤ bt171.1 then (if bt171.1 < (t167.length : Int) then ((spec_l1Int.f s0_0 bt174.2.1 bt174.2.2 (([0, 1, 1001] : List Int))).bind fun bt195 => ((spec_l1Below.f s0_0 bt195.2.1 bt195.2.2 3).bind fun bt198 => (none))) else (none)) else (none)) else (if bt174.1 = 3 then (if 0 < (t167.length : Int) then (if t167.length < 3518437208883 then (some ((t167 ++ [(⟨(rd_T79 t167 0).f0, (rd_T79 t167 0).f1, (rd_T79 t167 0).f2⟩ : S79)]), bt174.2.1, bt174.2.2)) else (none)) else (none)) else (some (t167, bt174.2.1, bt174.2.2)))))))))
theorem spec_l5BendN.mono : ∀ a0 a1 a2 a3 k, LeO (spec_l5BendN.f k a0 a1 a2 a3) (spec_l5BendN.f (k + 1) a0 a1 a2 a3) := by
 intro a0 a1 a2 a3 k
 unfold spec_l5BendN.f
 repeat' first
  | (with_reducible first | exact spec_l5Copy.mono _ _ | exact LeO.refl _ | exact LeO.none _ | refine LeO.ite ?_ ?_ | refine LeO.bind ?_ (fun _ => ?_))
  | exact spec_l5Copy.mono _ _
  | exact LeO.none _
  | refine LeO.ite ?_ ?_
  | refine LeO.bind ?_ (fun _ => ?_)
def spec_l5BendN.T7 : Bool × List (List Nat × List Nat) := (true, [([], []), ([0], [0]), ([], []), ([], []), ([], []), ([3, 4], [3, 4]), ([1, 2, 0, 1, 2, 3, 4, 5], [1, 2]), ([6, 0, 1, 2, 3, 4, 5], [6]), ([7, 5, 5, 0, 1, 2, 3, 4, 5], [5, 7])])
def spec_l5BendN.B7 : List Nat := [0, 1, 0, 0, 0, 24, 63, 127, 255]
theorem spec_l5BendN.tab7 : rtab .any (opsOf Try.f103 7) = spec_l5BendN.T7 := by kernel_rfl
theorem spec_l5BendN.bits7 : waitsOk spec_l5BendN.T7.2 spec_l5BendN.B7 = true := by kernel_rfl
def spec_l5BendN.T9 : Bool × List (List Nat × List Nat) := (true, [([], []), ([0], [0]), ([], []), ([], []), ([], []), ([3, 4], [3, 4]), ([1, 2, 0, 1, 2, 3, 4, 5], [1, 2]), ([6, 0, 1, 2, 3, 4, 5], [6]), ([7, 5, 5, 0, 1, 2, 3, 4, 5], [5, 7])])
def spec_l5BendN.B9 : List Nat := [0, 1, 0, 0, 0, 24, 63, 127, 255]
theorem spec_l5BendN.tab9 : rtab .any (opsOf Try.f103 9) = spec_l5BendN.T9 := by kernel_rfl
theorem spec_l5BendN.bits9 : waitsOk spec_l5BendN.T9.2 spec_l5BendN.B9 = true := by kernel_rfl
def spec_l5BendN.T13 : Bool × List (List Nat × List Nat) := (true, [([], []), ([0], [0]), ([], []), ([2], [2]), ([3], [3]), ([4], [4]), ([5], [5]), ([1, 6], [1, 6]), ([0, 1, 2, 3, 4, 5, 6, 7], []), ([8, 7, 7, 0, 1, 2, 3, 4, 5, 6, 7], [7, 8])])
def spec_l5BendN.B13 : List Nat := [0, 1, 0, 4, 12, 28, 60, 127, 255, 511]
theorem spec_l5BendN.tab13 : rtab .any (opsOf Try.f103 13) = spec_l5BendN.T13 := by kernel_rfl
theorem spec_l5BendN.bits13 : waitsOk spec_l5BendN.T13.2 spec_l5BendN.B13 = true := by kernel_rfl
set_option maxHeartbeats 8000000 in
set_option maxRecDepth 100000 in
theorem spec_l5BendN.calls (k : Nat) (g : Nat) (s0_0 : List Int) (s0_1 : Int) (s0_2 : Int) (A1_0 : Option Addr) (c1_0 : Nat) (l1_0 : List (S79)) (r1 : List (S79)) (r2 : Int) (r3 : Int) (w0 w : World) (hI : IsS122 w0 w g s0_0 s0_1 s0_2) (hB : Below w0.heap.size w0 w) (hr1_0 : ∀ W_, KeepBut w W_ g none → Kd.C k79 W_ A1_0 l1_0.length l1_0) (hc1_0 : l1_0.length ≤ c1_0) (h : spec_l5BendN.f k s0_0 s0_1 s0_2 l1_0 = some (r1, r2, r3)) :
  Calls Try.prog 103 #[.pointer (some ⟨g, 0, none⟩), .agg #[.slice A1_0 l1_0.length c1_0]] w fun e w' => ∃ v0_ : Value, e = .returned (.agg #[v0_]) ∧ Kd.N k79 79 w' w.heap.size (fun k_ => (w.heap.size ≤ k_)) v0_ r1 ∧ IsS122 w0 w' g s0_0 r2 r3 ∧ Below w0.heap.size w0 w' ∧ KeepBut w w' g none := by
 have hu26 := Try.underlying26
 have hu72 := Try.underlying72
 have hu79 := Try.underlying79
 have HR1_0 := aM hr1_0
 have HC1_0 := aM hc1_0
 clear hr1_0 hc1_0
 have HI0 := aM hI
 have HK := aM (KeepBut.refl w g none)
 have HL := aM hB.size
 clear hI
 have HW0 := aM hB.size
 have HB := aM hB
 clear hB
 have H : ((spec_l5Copy.f k l1_0).bind fun t167 => (if (t167.length : Int) = 0 then (some (t167, s0_1, s0_2)) else ((spec_l1Below.f s0_0 s0_1 s0_2 (t167.length : Int)).bind fun bt171 => ((spec_l1Below.f s0_0 bt171.2.1 bt171.2.2 6).bind fun bt174 => (if bt174.1 = 0 then ((spec_l1Int.f s0_0 bt174.2.1 bt174.2.2 (([0, 1000, 10] : List Int))).bind fun bt180 => (if 0 ≤ bt171.1 then (if bt171.1 < (t167.length : Int) then (some ((t167.set (bt171.1 : Int).toNat (⟨bt180.1, (rd_T79 t167 bt171.1).f1, (rd_T79 t167 bt171.1).f2⟩ : S79)), bt180.2.1, bt180.2.2)) else (none)) else (none))) else (if bt174.1 = 1 then ((spec_l1Int.f s0_0 bt174.2.1 bt174.2.2 (([(-1), 100, 19] : List Int))).bind fun bt187 => (if 0 ≤ bt171.1 then (if bt171.1 < (t167.length : Int) then (some ((t167.set (bt171.1 : Int).toNat (⟨(rd_T79 t167 bt171.1).f0, bt187.1, (rd_T79 t167 bt171.1).f2⟩ : S79)), bt187.2.1, bt187.2.2)) else (none)) else (none))) else (if bt174.1 = 2 then (if 0 ≤ bt171.1 then (if bt171.1 < (t167.length : Int) then ((spec_l1Int.f s0_0 bt174.2.1 bt174.2.2 (([0, 1, 1001] : List Int))).bind fun bt195 => ((spec_l1Below.f s0_0 bt195.2.1 bt195.2.2 3).bind fun bt198 => (none))) else (none)) else (none)) else (if bt174.1 = 3 then (if 0 < (t167.length : Int) then (if t167.length < 3518437208883 then (some ((t167 ++ [(⟨(rd_T79 t167 0).f0, (rd_T79 t167 0).f1, (rd_T79 t167 0).f2⟩ : S79)]), bt174.2.1, bt174.2.2)) else (none)) else (none)) else (some (t167, bt174.2.1, bt174.2.2)))))))))) = some (r1, r2, r3) := h
 clear h
 replace H := Option.bind_eq_some_iff.mp H
 obtain ⟨t167, A30, H⟩ := H
 replace H : (if (t167.length : Int) = 0 then (some (t167, s0_1, s0_2)) else ((spec_l1Below.f s0_0 s0_1 s0_2 (t167.length : Int)).bind fun bt171 => ((spec_l1Below.f s0_0 bt171.2.1 bt171.2.2 6).bind fun bt174 => (if bt174.1 = 0 then ((spec_l1Int.f s0_0 bt174.2.1 bt174.2.2 (([0, 1000, 10] : List Int))).bind fun bt180 => (if 0 ≤ bt171.1 then (if bt171.1 < (t167.length : Int) then (some ((t167.set (bt171.1 : Int).toNat (⟨bt180.1, (rd_T79 t167 bt171.1).f1, (rd_T79 t167 bt171.1).f2⟩ : S79)), bt180.2.1, bt180.2.2)) else (none)) else (none))) else (if bt174.1 = 1 then ((spec_l1Int.f s0_0 bt174.2.1 bt174.2.2 (([(-1), 100, 19] : List Int))).bind fun bt187 => (if 0 ≤ bt171.1 then (if bt171.1 < (t167.length : Int) then (some ((t167.set (bt171.1 : Int).toNat (⟨(rd_T79 t167 bt171.1).f0, bt187.1, (rd_T79 t167 bt171.1).f2⟩ : S79)), bt187.2.1, bt187.2.2)) else (none)) else (none))) else (if bt174.1 = 2 then (if 0 ≤ bt171.1 then (if bt171.1 < (t167.length : Int) then ((spec_l1Int.f s0_0 bt174.2.1 bt174.2.2 (([0, 1, 1001] : List Int))).bind fun bt195 => ((spec_l1Below.f s0_0 bt195.2.1 bt195.2.2 3).bind fun bt198 => (none))) else (none)) else (none)) else (if bt174.1 = 3 then (if 0 < (t167.length : Int) then (if t167.length < 3518437208883 then (some ((t167 ++ [(⟨(rd_T79 t167 0).f0, (rd_T79 t167 0).f1, (rd_T79 t167 0).f2⟩ : S79)]), bt174.2.1, bt174.2.2)) else (none)) else (none)) else (some (t167, bt174.2.1, bt174.2.2))))))))) = some (r1, r2, r3) := H
 have A3 := aM A30
 clear A30
 by_cases c4 : (t167.length : Int) = 0
 {
 rw [if_pos c4] at H
 have c4b0 := beq_iff_eq.mpr c4
 have c4b1 := bne_eq_false_iff_eq.mpr c4
 clear c4
 simp only [Option.some.injEq, Prod.mk.injEq] at H
 obtain ⟨rfl, rfl, rfl⟩ := H
 go_enter Try.func103, Try.ntmps103
 go_wp2_with (first | ((with_reducible refine gate_dst (N := 3) rfl ?_); refine bx_ 3 #[.slice A1_0 l1_0.length c1_0] 26 ?_; intro gb165 hg w5 hbox hb; have n0_ := aM (IsS122.below qz30 hb); have n1_ := aM (KeepBut.trans qz7 (KeepBut.of_below hb g none) (.inl rfl)); have n2_ := aM (below_step qz31 hb); have n3_ := aM (hbox); have n4_ := aM ((by rw [hg]; exact (keep_size (w := w) (g := g) (row := none) qz7) : w.heap.size ≤ gb165)); have n5_ := aM ((Nat.le_trans HW0.out (by rw [hg]; exact (keep_size (w := w) (g := g) (row := none) qz7) : w.heap.size ≤ gb165) : w0.heap.size ≤ gb165)); have n6_ := aM ((by rw [hg]; exact Nat.ne_of_lt (IsS122.lt (show IsS122 w0 _ g s0_0 s0_1 s0_2 from by repeat (first | (with_reducible first | exact HI0.out | apply IsS122.alloc | apply IsS122.drewN | apply IsS122.drew | apply IsS122.set_1 | apply IsS122.set_2) | exact HI0.out))) : g ≠ gb165)); have n7_ := aM ((by rw [hg]; exact Nat.ne_of_gt (IsS122.lt (show IsS122 w0 _ g s0_0 s0_1 s0_2 from by repeat (first | (with_reducible first | exact HI0.out | apply IsS122.alloc | apply IsS122.drewN | apply IsS122.drew | apply IsS122.set_1 | apply IsS122.set_2) | exact HI0.out))) : gb165 ≠ g)); clear HI0 HK HB; have HI0 := n0_; have HK := n1_; have HB := n2_; have BK165 := n3_; have GW165 := n4_; have GE165 := n5_; have NB0_165 := n6_; have NB165_0 := n7_; clear n0_ n1_ n2_ n3_ n4_ n5_ n6_ n7_; clear hb hbox hg) | ((with_reducible refine gate_dst (N := 4) rfl ?_); refine bx_ 4 #[.slice none 0 0] 26 ?_; intro gb166 hg w6 hbox hb; have n0_ := aM (IsS122.below qz37 hb); have n1_ := aM (blk_below (bk_ BK165.out) hb); have n2_ := aM (KeepBut.trans qz10 (KeepBut.of_below hb g none) (.inl rfl)); have n3_ := aM (below_step qz39 hb); have n4_ := aM (hbox); have n5_ := aM ((by rw [hg]; exact (keep_size (w := w) (g := g) (row := none) qz10) : w.heap.size ≤ gb166)); have n6_ := aM ((Nat.le_trans HW0.out (by rw [hg]; exact (keep_size (w := w) (g := g) (row := none) qz10) : w.heap.size ≤ gb166) : w0.heap.size ≤ gb166)); have n7_ := aM ((by rw [hg]; exact Nat.ne_of_lt (blk_lt (bk_ BK165.out)) : gb165 ≠ gb166)); have n8_ := aM ((by rw [hg]; exact Nat.ne_of_gt (blk_lt (bk_ BK165.out)) : gb166 ≠ gb165)); have n9_ := aM ((by rw [hg]; exact Nat.ne_of_lt (IsS122.lt (show IsS122 w0 _ g s0_0 s0_1 s0_2 from by repeat (first | (with_reducible first | exact HI0.out | apply IsS122.alloc | apply IsS122.drewN | apply IsS122.drew | apply IsS122.set_1 | apply IsS122.set_2 | refine IsS122.far ?_ NB0_165.out _) | exact HI0.out))) : g ≠ gb166)); have n10_ := aM ((by rw [hg]; exact Nat.ne_of_gt (IsS122.lt (show IsS122 w0 _ g s0_0 s0_1 s0_2 from by repeat (first | (with_reducible first | exact HI0.out | apply IsS122.alloc | apply IsS122.drewN | apply IsS122.drew | apply IsS122.set_1 | apply IsS122.set_2 | refine IsS122.far ?_ NB0_165.out _) | exact HI0.out))) : gb166 ≠ g)); clear HI0 BK165 HK HB; have HI0 := n0_; have BK165 := n1_; have HK := n2_; have HB := n3_; have BK166 := n4_; have GW166 := n5_; have GE166 := n6_; have NB165_166 := n7_; have NB166_165 := n8_; have NB0_166 := n9_; have NB166_0 := n10_; clear n0_ n1_ n2_ n3_ n4_ n5_ n6_ n7_ n8_ n9_ n10_; clear hb hbox hg; have hnb7 := NB165_166.out; have hnc7 := NB166_165.out; have hnb8 := NB165_0.out; have hnc8 := NB0_165.out; have hcz9_0 := bc0_ BK165.out; have hfz9_0 := blk_frozen BK165.out 0) | ((with_reducible refine gate_callee (f := 62) rfl ?_); refine goesL_ (some 8) rfl rfl Try.func62 (by kernel_rfl) rfl #[.agg #[.slice A1_0 l1_0.length c1_0]] rfl qz1 ?_; (with_reducible refine (spec_l5Copy.calls k _ _ l1_0 t167 _ ?side1 ?side2 A3.out).mono ?_); (case side1 => exact Kd.C_foot_now HR1_0.out qz3); (case side2 => exact HC1_0.out); rintro e w10 ⟨v168, rfl, ho0, hb⟩; refine ⟨_, rfl, ?_⟩; have n0_ := aM (Kd.N_lower (Kd.N_mono (ok' := fun k_ => (w.heap.size ≤ k_) ∧ k_ ≠ gb165 ∧ k_ ≠ gb166 ∧ k_ ≠ g) (Kd.S_N (Kd.S_bound ho0)) (fun k_ hk_ => ⟨(Nat.le_trans (keep_size (w := w) (g := g) (row := none) qz3) hk_.2.1), (Kd.freshB (bk_ BK165.out) k_ hk_.2.1), (Kd.freshB (bk_ BK166.out) k_ hk_.2.1), (IsS122.fresh qz8 k_ hk_.2.1)⟩)) (keep_size (w := w) (g := g) (row := none) qz3)); have n1_ := aM (IsS122.below qz8 hb); have n2_ := aM (blk_below (bk_ BK165.out) hb); have n3_ := aM (blk_below (bk_ BK166.out) hb); have n4_ := aM (KeepBut.trans qz3 (KeepBut.of_below hb g none) (.inl rfl)); have n5_ := aM (below_step qz14 hb); clear HI0 BK165 BK166 HK HB; have HO169 := n0_; have HI0 := n1_; have BK165 := n2_; have BK166 := n3_; have HK := n4_; have HB := n5_; clear n0_ n1_ n2_ n3_ n4_ n5_; (try clear hb); (try clear hb2); (try clear hk); (try clear hi); (try clear ho0)) | ((with_reducible refine gate_dst (N := 5) rfl ?_); refine bx_ 5 #[.slice none 0 0] 26 ?_; intro gb170 hg w11 hbox hb; have n0_ := aM (Kd.N_below (Kd.N_elderB qz43 gb170 (Nat.le_of_eq hg.symm)) hb); have n1_ := aM (IsS122.below qz8 hb); have n2_ := aM (blk_below (bk_ BK165.out) hb); have n3_ := aM (blk_below (bk_ BK166.out) hb); have n4_ := aM (KeepBut.trans qz3 (KeepBut.of_below hb g none) (.inl rfl)); have n5_ := aM (below_step qz14 hb); have n6_ := aM (hbox); have n7_ := aM ((by rw [hg]; exact (keep_size (w := w) (g := g) (row := none) qz3) : w.heap.size ≤ gb170)); have n8_ := aM ((Nat.le_trans HW0.out (by rw [hg]; exact (keep_size (w := w) (g := g) (row := none) qz3) : w.heap.size ≤ gb170) : w0.heap.size ≤ gb170)); have n9_ := aM ((by rw [hg]; exact Nat.ne_of_lt (blk_lt (bk_ BK165.out)) : gb165 ≠ gb170)); have n10_ := aM ((by rw [hg]; exact Nat.ne_of_gt (blk_lt (bk_ BK165.out)) : gb170 ≠ gb165)); have n11_ := aM ((by rw [hg]; exact Nat.ne_of_lt (blk_lt (bk_ BK166.out)) : gb166 ≠ gb170)); have n12_ := aM ((by rw [hg]; exact Nat.ne_of_gt (blk_lt (bk_ BK166.out)) : gb170 ≠ gb166)); have n13_ := aM ((by rw [hg]; exact Nat.ne_of_lt (IsS122.lt (show IsS122 w0 _ g s0_0 s0_1 s0_2 from by repeat (first | (with_reducible first | exact HI0.out | apply IsS122.alloc | apply IsS122.drewN | apply IsS122.drew | apply IsS122.set_1 | apply IsS122.set_2 | refine IsS122.far ?_ NB0_165.out _ | refine IsS122.far ?_ NB0_166.out _) | exact HI0.out))) : g ≠ gb170)); have n14_ := aM ((by rw [hg]; exact Nat.ne_of_gt (IsS122.lt (show IsS122 w0 _ g s0_0 s0_1 s0_2 from by repeat (first | (with_reducible first | exact HI0.out | apply IsS122.alloc | apply IsS122.drewN | apply IsS122.drew | apply IsS122.set_1 | apply IsS122.set_2 | refine IsS122.far ?_ NB0_165.out _ | refine IsS122.far ?_ NB0_166.out _) | exact HI0.out))) : gb170 ≠ g)); clear HO169 HI0 BK165 BK166 HK HB; have HO169 := n0_; have HI0 := n1_; have BK165 := n2_; have BK166 := n3_; have HK := n4_; have HB := n5_; have BK170 := n6_; have GW170 := n7_; have GE170 := n8_; have NB165_170 := n9_; have NB170_165 := n10_; have NB166_170 := n11_; have NB170_166 := n12_; have NB0_170 := n13_; have NB170_0 := n14_; clear n0_ n1_ n2_ n3_ n4_ n5_ n6_ n7_ n8_ n9_ n10_ n11_ n12_ n13_ n14_; clear hb hbox hg; obtain ⟨Ao12, co12, eo12⟩ := Kd.N_slice HO169.out; subst eo12; have hnb13 := NB170_165.out; have hnc13 := NB165_170.out; have hnb14 := NB170_166.out; have hnc14 := NB166_170.out; have hnb15 := NB170_0.out; have hnc15 := NB0_170.out; have hcz16_0 := bc0_ BK170.out; have hfz16_0 := blk_frozen BK170.out 0; have hnb17 := NB166_0.out; have hnc17 := NB0_166.out; have hcz18_0 := bc0_ BK166.out; have hfz18_0 := blk_frozen BK166.out 0))
 refine bodyPost_ret (results_cell_row rfl _ _ gb166 26 #[.slice Ao12 t167.length co12] (0, 0) _ rfl (by (with_reducible repeat (first | refine blk_drewN ?_ _ | refine blk_drew ?_ | refine blk_alloc ?_ _)); refine blk_put (cs := #[.slice none 0 0]) ?_ 0 _ rfl; (with_reducible repeat (first | refine blk_drewN ?_ _ | refine blk_drew ?_ | refine blk_alloc ?_ _)); refine blk_far ?_ NB166_170.out _; exact bk_ BK166.out) Try.underlying26 rfl (by kernel_rfl)) rfl ?_
 exact ⟨_, by first | rfl | (simp [errW_none, errW_some] <;> rfl) | (simp [*, errW_none, errW_some] <;> rfl), by (with_reducible repeat (first | apply Kd.N_alloc | apply Kd.N_drewN | apply Kd.N_drew)); exact Kd.N_mono (Kd.N_far (p := ⟨gb166, 0, none⟩) (Kd.N_far (p := ⟨gb170, 0, none⟩) (Kd.N_mono (Kd.N_mono HO169.out (fun k_ hk => (⟨hk, hk.2⟩ : _ ∧ k_ ≠ gb170))) (fun k_ hk => (⟨hk, hk.1.1.2.2.1⟩ : _ ∧ k_ ≠ gb166))) (fun _ hk => hk.1.2) (.slice Ao12 t167.length co12)) (fun _ hk => hk.2) (.slice Ao12 t167.length co12)) (fun _ hk => hk.1.1.1.1), by repeat (first | (with_reducible first | exact HI0.out | apply IsS122.alloc | apply IsS122.drewN | apply IsS122.drew | apply IsS122.set_1 | apply IsS122.set_2 | refine IsS122.far ?_ NB0_165.out _ | refine IsS122.far ?_ NB0_166.out _ | refine IsS122.far ?_ NB0_170.out _) | exact HI0.out), by repeat (first | (with_reducible first | exact HB.out | apply below_alloc | apply pw_below_drewN | apply below_drew1 | refine below_set ?_ (IsS122.ge HI0.out) | refine below_set ?_ GE165.out | refine below_set ?_ GE166.out | refine below_set ?_ GE170.out) | exact HB.out), by repeat (first | (with_reducible first | exact HK.out | apply KeepBut.set_ | apply keep_drewN | apply keep_drew | apply keep_alloc | refine keep_far ?_ GW165.out _ | refine keep_far ?_ GW166.out _ | refine keep_far ?_ GW170.out _) | exact HK.out)⟩
 }
 {
 rw [if_neg c4] at H
 have c4b0 := beq_eq_false_iff_ne.mpr c4
 have c4b1 := bne_iff_ne.mpr c4
 have c4b2 : ¬ (t167 = []) := fun h_ => c4 (by rw [h_]; rfl)
 replace H := Option.bind_eq_some_iff.mp H
 obtain ⟨⟨t171, t172, t173⟩, A190, H⟩ := H
 replace H : ((spec_l1Below.f s0_0 t172 t173 6).bind fun bt174 => (if bt174.1 = 0 then ((spec_l1Int.f s0_0 bt174.2.1 bt174.2.2 (([0, 1000, 10] : List Int))).bind fun bt180 => (if 0 ≤ t171 then (if t171 < (t167.length : Int) then (some ((t167.set (t171 : Int).toNat (⟨bt180.1, (rd_T79 t167 t171).f1, (rd_T79 t167 t171).f2⟩ : S79)), bt180.2.1, bt180.2.2)) else (none)) else (none))) else (if bt174.1 = 1 then ((spec_l1Int.f s0_0 bt174.2.1 bt174.2.2 (([(-1), 100, 19] : List Int))).bind fun bt187 => (if 0 ≤ t171 then (if t171 < (t167.length : Int) then (some ((t167.set (t171 : Int).toNat (⟨(rd_T79 t167 t171).f0, bt187.1, (rd_T79 t167 t171).f2⟩ : S79)), bt187.2.1, bt187.2.2)) else (none)) else (none))) else (if bt174.1 = 2 then (if 0 ≤ t171 then (if t171 < (t167.length : Int) then ((spec_l1Int.f s0_0 bt174.2.1 bt174.2.2 (([0, 1, 1001] : List Int))).bind fun bt195 => ((spec_l1Below.f s0_0 bt195.2.1 bt195.2.2 3).bind fun bt198 => (none))) else (none)) else (none)) else (if bt174.1 = 3 then (if 0 < (t167.length : Int) then (if t167.length < 3518437208883 then (some ((t167 ++ [(⟨(rd_T79 t167 0).f0, (rd_T79 t167 0).f1, (rd_T79 t167 0).f2⟩ : S79)]), bt174.2.1, bt174.2.2)) else (none)) else (none)) else (some (t167, bt174.2.1, bt174.2.2))))))) = some (r1, r2, r3) := H
 have A19 := aM A190
 clear A190
 replace H := Option.bind_eq_some_iff.mp H
 obtain ⟨⟨t174, t175, t176⟩, A200, H⟩ := H
 replace H : (if t174 = 0 then ((spec_l1Int.f s0_0 t175 t176 (([0, 1000, 10] : List Int))).bind fun bt180 => (if 0 ≤ t171 then (if t171 < (t167.length : Int) then (some ((t167.set (t171 : Int).toNat (⟨bt180.1, (rd_T79 t167 t171).f1, (rd_T79 t167 t171).f2⟩ : S79)), bt180.2.1, bt180.2.2)) else (none)) else (none))) else (if t174 = 1 then ((spec_l1Int.f s0_0 t175 t176 (([(-1), 100, 19] : List Int))).bind fun bt187 => (if 0 ≤ t171 then (if t171 < (t167.length : Int) then (some ((t167.set (t171 : Int).toNat (⟨(rd_T79 t167 t171).f0, bt187.1, (rd_T79 t167 t171).f2⟩ : S79)), bt187.2.1, bt187.2.2)) else (none)) else (none))) else (if t174 = 2 then (if 0 ≤ t171 then (if t171 < (t167.length : Int) then ((spec_l1Int.f s0_0 t175 t176 (([0, 1, 1001] : List Int))).bind fun bt195 => ((spec_l1Below.f s0_0 bt195.2.1 bt195.2.2 3).bind fun bt198 => (none))) else (none)) else (none)) else (if t174 = 3 then (if 0 < (t167.length : Int) then (if t167.length < 3518437208883 then (some ((t167 ++ [(⟨(rd_T79 t167 0).f0, (rd_T79 t167 0).f1, (rd_T79 t167 0).f2⟩ : S79)]), t175, t176)) else (none)) else (none)) else (some (t167, t175, t176)))))) = some (r1, r2, r3) := H
 have A20 := aM A200
 clear A200
 by_cases c21 : t174 = 0
 {
 rw [if_pos c21] at H
 have c21b0 := beq_iff_eq.mpr c21
 have c21b1 := bne_eq_false_iff_eq.mpr c21
 clear c21
 obtain ⟨y177, hy177⟩ : ∃ y_ : List Int, y_ = (([0, 1000, 10] : List Int)) := ⟨_, rfl⟩
 replace H : ((spec_l1Int.f s0_0 t175 t176 y177).bind fun bt180 => (if 0 ≤ t171 then (if t171 < (t167.length : Int) then (some ((t167.set (t171 : Int).toNat (⟨bt180.1, (rd_T79 t167 t171).f1, (rd_T79 t167 t171).f2⟩ : S79)), bt180.2.1, bt180.2.2)) else (none)) else (none))) = some (r1, r2, r3) := by first | (rw [hy177]; with_reducible exact H) | (have H2_ := (Option.bind_some _ _).symm.trans H; rw [hy177]; with_reducible exact H2_) | (have H2_ := (Option.bind_some _ _).symm.trans H; with_reducible exact H2_) | with_reducible exact H | (rw [hy177]; exact H) | exact H
 have Ny177 := aM hy177
 clear hy177
 replace H := Option.bind_eq_some_iff.mp H
 obtain ⟨⟨t180, t181, t182⟩, A220, H⟩ := H
 replace H : (if 0 ≤ t171 then (if t171 < (t167.length : Int) then (some ((t167.set (t171 : Int).toNat (⟨t180, (rd_T79 t167 t171).f1, (rd_T79 t167 t171).f2⟩ : S79)), t181, t182)) else (none)) else (none)) = some (r1, r2, r3) := H
 have A22 := aM A220
 clear A220
 by_cases c23 : 0 ≤ t171
 {
 rw [if_pos c23] at H
 have c23b0 := decide_eq_true c23
 clear c23
 by_cases c24 : t171 < (t167.length : Int)
 {
 rw [if_pos c24] at H
 have c24b0 := decide_eq_true c24
 clear c24
 obtain ⟨y183, hy183⟩ : ∃ y_ : List (S79), y_ = (t167.set (t171 : Int).toNat (⟨t180, (rd_T79 t167 t171).f1, (rd_T79 t167 t171).f2⟩ : S79)) := ⟨_, rfl⟩
 replace H : (some (y183, t181, t182)) = some (r1, r2, r3) := by first | (rw [hy183]; with_reducible exact H) | (have H2_ := (Option.bind_some _ _).symm.trans H; rw [hy183]; with_reducible exact H2_) | (have H2_ := (Option.bind_some _ _).symm.trans H; with_reducible exact H2_) | with_reducible exact H | (rw [hy183]; exact H) | exact H
 have Ny183 := aM hy183
 clear hy183
 simp only [Option.some.injEq, Prod.mk.injEq] at H
 obtain ⟨rfl, rfl, rfl⟩ := H
 go_enter Try.func103, Try.ntmps103
 try go_wp2_with (first | ((with_reducible refine gate_dst (N := 3) rfl ?_); refine bx_ 3 #[.slice A1_0 l1_0.length c1_0] 26 ?_; intro gb165 hg w26 hbox hb; have n0_ := aM (IsS122.below qz30 hb); have n1_ := aM (KeepBut.trans qz7 (KeepBut.of_below hb g none) (.inl rfl)); have n2_ := aM (below_step qz31 hb); have n3_ := aM (hbox); have n4_ := aM ((by rw [hg]; exact (keep_size (w := w) (g := g) (row := none) qz7) : w.heap.size ≤ gb165)); have n5_ := aM ((Nat.le_trans HW0.out (by rw [hg]; exact (keep_size (w := w) (g := g) (row := none) qz7) : w.heap.size ≤ gb165) : w0.heap.size ≤ gb165)); have n6_ := aM ((by rw [hg]; exact Nat.ne_of_lt (IsS122.lt (show IsS122 w0 _ g s0_0 s0_1 s0_2 from by repeat (first | (with_reducible first | exact HI0.out | apply IsS122.alloc | apply IsS122.drewN | apply IsS122.drew | apply IsS122.set_1 | apply IsS122.set_2) | exact HI0.out))) : g ≠ gb165)); have n7_ := aM ((by rw [hg]; exact Nat.ne_of_gt (IsS122.lt (show IsS122 w0 _ g s0_0 s0_1 s0_2 from by repeat (first | (with_reducible first | exact HI0.out | apply IsS122.alloc | apply IsS122.drewN | apply IsS122.drew | apply IsS122.set_1 | apply IsS122.set_2) | exact HI0.out))) : gb165 ≠ g)); clear HI0 HK HB; have HI0 := n0_; have HK := n1_; have HB := n2_; have BK165 := n3_; have GW165 := n4_; have GE165 := n5_; have NB0_165 := n6_; have NB165_0 := n7_; clear n0_ n1_ n2_ n3_ n4_ n5_ n6_ n7_; clear hb hbox hg) | ((with_reducible refine gate_dst (N := 4) rfl ?_); refine bx_ 4 #[.slice none 0 0] 26 ?_; intro gb166 hg w27 hbox hb; have n0_ := aM (IsS122.below qz37 hb); have n1_ := aM (blk_below (bk_ BK165.out) hb); have n2_ := aM (KeepBut.trans qz10 (KeepBut.of_below hb g none) (.inl rfl)); have n3_ := aM (below_step qz39 hb); have n4_ := aM (hbox); have n5_ := aM ((by rw [hg]; exact (keep_size (w := w) (g := g) (row := none) qz10) : w.heap.size ≤ gb166)); have n6_ := aM ((Nat.le_trans HW0.out (by rw [hg]; exact (keep_size (w := w) (g := g) (row := none) qz10) : w.heap.size ≤ gb166) : w0.heap.size ≤ gb166)); have n7_ := aM ((by rw [hg]; exact Nat.ne_of_lt (blk_lt (bk_ BK165.out)) : gb165 ≠ gb166)); have n8_ := aM ((by rw [hg]; exact Nat.ne_of_gt (blk_lt (bk_ BK165.out)) : gb166 ≠ gb165)); have n9_ := aM ((by rw [hg]; exact Nat.ne_of_lt (IsS122.lt (show IsS122 w0 _ g s0_0 s0_1 s0_2 from by repeat (first | (with_reducible first | exact HI0.out | apply IsS122.alloc | apply IsS122.drewN | apply IsS122.drew | apply IsS122.set_1 | apply IsS122.set_2 | refine IsS122.far ?_ NB0_165.out _) | exact HI0.out))) : g ≠ gb166)); have n10_ := aM ((by rw [hg]; exact Nat.ne_of_gt (IsS122.lt (show IsS122 w0 _ g s0_0 s0_1 s0_2 from by repeat (first | (with_reducible first | exact HI0.out | apply IsS122.alloc | apply IsS122.drewN | apply IsS122.drew | apply IsS122.set_1 | apply IsS122.set_2 | refine IsS122.far ?_ NB0_165.out _) | exact HI0.out))) : gb166 ≠ g)); clear HI0 BK165 HK HB; have HI0 := n0_; have BK165 := n1_; have HK := n2_; have HB := n3_; have BK166 := n4_; have GW166 := n5_; have GE166 := n6_; have NB165_166 := n7_; have NB166_165 := n8_; have NB0_166 := n9_; have NB166_0 := n10_; clear n0_ n1_ n2_ n3_ n4_ n5_ n6_ n7_ n8_ n9_ n10_; clear hb hbox hg; have hnb28 := NB165_166.out; have hnc28 := NB166_165.out; have hnb29 := NB165_0.out; have hnc29 := NB0_165.out; have hcz30_0 := bc0_ BK165.out; have hfz30_0 := blk_frozen BK165.out 0) | ((with_reducible refine gate_callee (f := 62) rfl ?_); refine goesL_ (some 8) rfl rfl Try.func62 (by kernel_rfl) rfl #[.agg #[.slice A1_0 l1_0.length c1_0]] rfl qz1 ?_; (with_reducible refine (spec_l5Copy.calls k _ _ l1_0 t167 _ ?side1 ?side2 A3.out).mono ?_); (case side1 => exact Kd.C_foot_now HR1_0.out qz3); (case side2 => exact HC1_0.out); rintro e w31 ⟨v168, rfl, ho0, hb⟩; refine ⟨_, rfl, ?_⟩; have n0_ := aM (Kd.N_lower (Kd.N_mono (ok' := fun k_ => (w.heap.size ≤ k_) ∧ k_ ≠ gb165 ∧ k_ ≠ gb166 ∧ k_ ≠ g) (Kd.S_N (Kd.S_bound ho0)) (fun k_ hk_ => ⟨(Nat.le_trans (keep_size (w := w) (g := g) (row := none) qz3) hk_.2.1), (Kd.freshB (bk_ BK165.out) k_ hk_.2.1), (Kd.freshB (bk_ BK166.out) k_ hk_.2.1), (IsS122.fresh qz8 k_ hk_.2.1)⟩)) (keep_size (w := w) (g := g) (row := none) qz3)); have n1_ := aM (IsS122.below qz8 hb); have n2_ := aM (blk_below (bk_ BK165.out) hb); have n3_ := aM (blk_below (bk_ BK166.out) hb); have n4_ := aM (KeepBut.trans qz3 (KeepBut.of_below hb g none) (.inl rfl)); have n5_ := aM (below_step qz14 hb); clear HI0 BK165 BK166 HK HB; have HO169 := n0_; have HI0 := n1_; have BK165 := n2_; have BK166 := n3_; have HK := n4_; have HB := n5_; clear n0_ n1_ n2_ n3_ n4_ n5_; (try clear hb); (try clear hb2); (try clear hk); (try clear hi); (try clear ho0)) | ((with_reducible refine gate_dst (N := 5) rfl ?_); refine bx_ 5 #[.slice none 0 0] 26 ?_; intro gb170 hg w32 hbox hb; have n0_ := aM (Kd.N_below (Kd.N_elderB qz43 gb170 (Nat.le_of_eq hg.symm)) hb); have n1_ := aM (IsS122.below qz8 hb); have n2_ := aM (blk_below (bk_ BK165.out) hb); have n3_ := aM (blk_below (bk_ BK166.out) hb); have n4_ := aM (KeepBut.trans qz3 (KeepBut.of_below hb g none) (.inl rfl)); have n5_ := aM (below_step qz14 hb); have n6_ := aM (hbox); have n7_ := aM ((by rw [hg]; exact (keep_size (w := w) (g := g) (row := none) qz3) : w.heap.size ≤ gb170)); have n8_ := aM ((Nat.le_trans HW0.out (by rw [hg]; exact (keep_size (w := w) (g := g) (row := none) qz3) : w.heap.size ≤ gb170) : w0.heap.size ≤ gb170)); have n9_ := aM ((by rw [hg]; exact Nat.ne_of_lt (blk_lt (bk_ BK165.out)) : gb165 ≠ gb170)); have n10_ := aM ((by rw [hg]; exact Nat.ne_of_gt (blk_lt (bk_ BK165.out)) : gb170 ≠ gb165)); have n11_ := aM ((by rw [hg]; exact Nat.ne_of_lt (blk_lt (bk_ BK166.out)) : gb166 ≠ gb170)); have n12_ := aM ((by rw [hg]; exact Nat.ne_of_gt (blk_lt (bk_ BK166.out)) : gb170 ≠ gb166)); have n13_ := aM ((by rw [hg]; exact Nat.ne_of_lt (IsS122.lt (show IsS122 w0 _ g s0_0 s0_1 s0_2 from by repeat (first | (with_reducible first | exact HI0.out | apply IsS122.alloc | apply IsS122.drewN | apply IsS122.drew | apply IsS122.set_1 | apply IsS122.set_2 | refine IsS122.far ?_ NB0_165.out _ | refine IsS122.far ?_ NB0_166.out _) | exact HI0.out))) : g ≠ gb170)); have n14_ := aM ((by rw [hg]; exact Nat.ne_of_gt (IsS122.lt (show IsS122 w0 _ g s0_0 s0_1 s0_2 from by repeat (first | (with_reducible first | exact HI0.out | apply IsS122.alloc | apply IsS122.drewN | apply IsS122.drew | apply IsS122.set_1 | apply IsS122.set_2 | refine IsS122.far ?_ NB0_165.out _ | refine IsS122.far ?_ NB0_166.out _) | exact HI0.out))) : gb170 ≠ g)); clear HO169 HI0 BK165 BK166 HK HB; have HO169 := n0_; have HI0 := n1_; have BK165 := n2_; have BK166 := n3_; have HK := n4_; have HB := n5_; have BK170 := n6_; have GW170 := n7_; have GE170 := n8_; have NB165_170 := n9_; have NB170_165 := n10_; have NB166_170 := n11_; have NB170_166 := n12_; have NB0_170 := n13_; have NB170_0 := n14_; clear n0_ n1_ n2_ n3_ n4_ n5_ n6_ n7_ n8_ n9_ n10_ n11_ n12_ n13_ n14_; clear hb hbox hg; obtain ⟨Ao33, co33, eo33⟩ := Kd.N_slice HO169.out; subst eo33; have hnb34 := NB170_165.out; have hnc34 := NB165_170.out; have hnb35 := NB170_166.out; have hnc35 := NB166_170.out; have hnb36 := NB170_0.out; have hnc36 := NB0_170.out; have hcz37_0 := bc0_ BK170.out; have hfz37_0 := blk_frozen BK170.out 0) | ((with_reducible refine gate_callee (f := 105) rfl ?_); refine goesL_ (some 18) rfl rfl Try.func105 (by kernel_rfl) rfl #[.pointer (some ⟨g, 0, none⟩), .int .i64 (t167.length : Int)] rfl qz1 ?_; (with_reducible refine (spec_l1Below.calls g s0_0 s0_1 s0_2 (t167.length : Int) t171 t172 t173 w0 _ ?side1 ?side2 A19.out).mono ?_); (case side1 => exact qz9); (case side2 => exact qz11); rintro e w38 ⟨rfl, hi, hb, hk⟩; refine ⟨_, rfl, ?_⟩; have n0_ := aM (KeepBut.blk hk (g' := gb165) (o := .cells #[.slice A1_0 l1_0.length c1_0] 26 (0, 0)) qz65 NB165_0.out (by simp)); have n1_ := aM (KeepBut.blk hk (g' := gb166) (o := .cells #[.slice none 0 0] 26 (0, 0)) qz66 NB166_0.out (by simp)); have n2_ := aM (Kd.N_mono (Kd.N_keep (Kd.N_mono (ok := fun k_ => ((((w.heap.size ≤ k_)) ∧ (k_ ≠ gb165 ∧ (k_ ≠ gb166 ∧ k_ ≠ g))) ∧ k_ ≠ gb170)) (by (with_reducible repeat (first | apply Kd.N_alloc | apply Kd.N_drewN | apply Kd.N_drew)); exact (Kd.N_mono (Kd.N_far (p := ⟨gb170, 0, none⟩) (Kd.N_mono HO169.out (fun k_ hk => (⟨hk, hk.2⟩ : _ ∧ k_ ≠ gb170))) (fun _ hk => hk.2) (.slice Ao33 t167.length co33)) (fun _ h_ => h_.1))) (fun k_ hk_ => (⟨hk_, hk_.1.2.2.2⟩ : _ ∧ k_ ≠ g))) hk (fun _ h => h.2)) (fun _ h => h.1)); have n3_ := aM (KeepBut.blk hk (g' := gb170) (o := .cells #[.slice Ao33 t167.length co33] 26 (0, 0)) (by (with_reducible repeat (first | refine blk_drewN ?_ _ | refine blk_drew ?_ | refine blk_alloc ?_ _)); refine blk_put (cs := #[.slice none 0 0]) ?_ 0 _ rfl; exact bk_ BK170.out) NB170_0.out (by simp)); have n4_ := aM (KeepBut.trans qz5 hk (.inl rfl)); have n5_ := aM (hb); have n6_ := aM (hi); clear BK165 BK166 HO169 BK170 HK HB HI0; have BK165 := n0_; have BK166 := n1_; have HO169 := n2_; have BK170 := n3_; have HK := n4_; have HB := n5_; have HI0 := n6_; clear n0_ n1_ n2_ n3_ n4_ n5_ n6_; (try clear hb); (try clear hb2); (try clear hk); (try clear hi)) | ((with_reducible refine gate_callee (f := 105) rfl ?_); refine goesL_ (some 20) rfl rfl Try.func105 (by kernel_rfl) rfl #[.pointer (some ⟨g, 0, none⟩), .int .i64 6] rfl qz1 ?_; (with_reducible refine (spec_l1Below.calls g s0_0 t172 t173 6 t174 t175 t176 w0 _ ?side1 ?side2 A20.out).mono ?_); (case side1 => exact qz9); (case side2 => exact qz11); rintro e w39 ⟨rfl, hi, hb, hk⟩; refine ⟨_, rfl, ?_⟩; have n0_ := aM (KeepBut.blk hk (bk_ BK165.out) NB165_0.out (by simp)); have n1_ := aM (KeepBut.blk hk (bk_ BK166.out) NB166_0.out (by simp)); have n2_ := aM (Kd.N_mono (Kd.N_keep (Kd.N_mono (ok := fun k_ => ((((w.heap.size ≤ k_)) ∧ (k_ ≠ gb165 ∧ (k_ ≠ gb166 ∧ k_ ≠ g))) ∧ k_ ≠ gb170)) qz43 (fun k_ hk_ => (⟨hk_, hk_.1.2.2.2⟩ : _ ∧ k_ ≠ g))) hk (fun _ h => h.2)) (fun _ h => h.1)); have n3_ := aM (KeepBut.blk hk (bk_ BK170.out) NB170_0.out (by simp)); have n4_ := aM (KeepBut.trans qz5 hk (.inl rfl)); have n5_ := aM (hb); have n6_ := aM (hi); clear BK165 BK166 HO169 BK170 HK HB HI0; have BK165 := n0_; have BK166 := n1_; have HO169 := n2_; have BK170 := n3_; have HK := n4_; have HB := n5_; have HI0 := n6_; clear n0_ n1_ n2_ n3_ n4_ n5_ n6_; (try clear hb); (try clear hb2); (try clear hk); (try clear hi)))
 have n0_ := aM (Kd.N_drew HO169.out)
 have n1_ := aM (blk_drew BK165.out)
 have n2_ := aM (blk_drew BK166.out)
 have n3_ := aM (blk_drew BK170.out)
 have n4_ := aM (IsS122.drew HI0.out)
 have n5_ := aM (keep_drew HK.out)
 have n6_ := aM (below_drew1 HB.out)
 clear HO169
 clear BK165
 clear BK166
 clear BK170
 clear HI0
 clear HK
 clear HB
 have HO169 := n0_
 have BK165 := n1_
 have BK166 := n2_
 have BK170 := n3_
 have HI0 := n4_
 have HK := n5_
 have HB := n6_
 clear n0_ n1_ n2_ n3_ n4_ n5_ n6_
 refine start_ (n := 9) (S := fun w' => w'.cell? ⟨gb170, 0, none⟩ = some (.slice Ao33 t167.length co33)) (ds := [8]) #[false, false, false, false, false, false, false, false, false] (by kernel_rfl) rfl rfl ((blk_cell BK170.out 0).trans rfl) (fun hHeld => ?_); refine with_tabW spec_l5BendN.tab7 spec_l5BendN.bits7 (fun HT_ HW_ => ?_)
 generalize w39.drew = w40 at HO169 BK165 BK166 BK170 HI0 HK HB hHeld ⊢
 refine pI_ 0 23 (bqz 9 1) ?_
 refine pI_ 2 25 (bqz 9 5) ?_
 refine pI_ 3 26 (bqz 9 13) ?_
 refine take_ (i := 1) (N := some 24) (v := ?_) (a' := ?_) (bqz 9 15) rfl rfl qzb qzd (Or.inl ⟨by rfl, ?_⟩) hHeld ?_ ?_
 rotate_left
 {
 intro w' s0
 go_simp
 with_reducible rfl
 }
 rotate_left
 {
 simp only [qzs]
 rfl
 }
 refine one_ (i := 4) (N := some 27) (bqz 9 31) rfl rfl qzc (by decide) (fun K hK => ?_)
 refine Kd.R_lit_step (Kd.int .i64) _ 3 ?hg (N := 27) ?hd (xs := ([0, 1000, 10] : List Int)) (inner := [.int .i64 0, .int .i64 1000, .int .i64 10]) (ok := fun _ => True) (okp := fun _ => True) ?hr ?hp (fun _ hk => hk) trivial (Below.refl _ _) (Nat.le_refl _) (by simp) ?_; (case hd => rfl); (case hg => rfl); (case hr => exact qz87); (case hp => exact (Reps.one (show Kd.M (Kd.int .i64) _ _ _ 0 [.int .i64 0] from rfl) (Reps.one (show Kd.M (Kd.int .i64) _ _ _ 1000 [.int .i64 1000] from rfl) (Reps.one (show Kd.M (Kd.int .i64) _ _ _ 10 [.int .i64 10] from rfl) (Reps.none _ _)))))
 intro v178 w41 ho42 hb hg_ hnew_
 clear hg_ hnew_
 (first | rw [← Ny177.out] at ho42 | (simp only [Int.reduceToNat] at ho42; rw [← Ny177.out] at ho42))
 have n0_ := aM (Kd.N_elder' qz43 (Kd.R_base ho42) hb)
 have n1_ := aM (Kd.R_lower (Kd.R_newM (M := fun k_ => (w.heap.size ≤ k_)) ho42 (keep_size (w := w) (g := g) (row := none) qz5) (fun k_ h_ => h_)) (keep_size (w := w) (g := g) (row := none) qz5))
 have n2_ := aM (IsS122.below qz9 hb)
 have n3_ := aM (blk_below (bk_ BK165.out) hb)
 have n4_ := aM (blk_below (bk_ BK166.out) hb)
 have n5_ := aM (blk_below (bk_ BK170.out) hb)
 have n6_ := aM (KeepBut.trans qz5 (KeepBut.of_below hb g none) (.inl rfl))
 have n7_ := aM (below_step qz11 hb)
 clear HO169
 clear HI0
 clear BK165
 clear BK166
 clear BK170
 clear HK
 clear HB
 have HO169 := n0_
 have HO179 := n1_
 have HI0 := n2_
 have BK165 := n3_
 have BK166 := n4_
 have BK170 := n5_
 have HK := n6_
 have HB := n7_
 clear n0_ n1_ n2_ n3_ n4_ n5_ n6_ n7_
 clear hb ho42
 obtain ⟨Ao43, co43, eo43⟩ := Kd.R_slice HO179.out
 (first | subst eo43 | (injection eo43 with f1_ f2_ f3_; have f4_ := f1_.symm; have f5_ := f3_.symm; clear f1_ f2_ f3_; subst f4_; subst f5_))
 refine hK.out _ _ ((blk_cell BK170.out 0).trans rfl) (fun hHeld => ?_)
 clear hK K
 refine norm_ (a' := ?_) ?_ ?_
 rotate_left
 {
 show Act.put _ (some 27) _ = _
 simp only [qzs]
 rfl
 }
 refine one_ (i := 5) (N := some 28) (bqz 9 63) rfl rfl qzc (by decide) (fun K hK => ?_)
 refine goes_ Try.func92 (by kernel_rfl) rfl #[.pointer (some ⟨g, 0, none⟩), .slice Ao43 y177.length co43] (by rfl) rfl rfl qz1 ?_
 with_reducible refine (spec_l1Int.calls g s0_0 t175 t176 _ _ y177 t180 t181 t182 w0 _ ?side1 ?side2 ?side3 ?side4 ?side5 A22.out).mono ?_
 (case side1 => exact qz9)
 (case side2 => exact qz11)
 (case side3 => repeat (first | exact (Kd.R_reads' HO179.out).2.2 | (with_reducible refine Kd.C_alloc ?_ _) | (with_reducible refine Kd.C_drewN ?_ _) | (with_reducible refine Kd.C_drew ?_)))
 (case side4 => exact (Kd.R_reads' HO179.out).2.1)
 (case side5 => exact far_slice (IsS122.own_ne HI0.out HO179.out (by decide)))
 rintro e w44 ⟨rfl, hi, hb, hk⟩
 refine ⟨_, rfl, ?_⟩
 have n0_ := aM (KeepBut.blk hk (bk_ BK165.out) NB165_0.out (by simp))
 have n1_ := aM (KeepBut.blk hk (bk_ BK166.out) NB166_0.out (by simp))
 have n2_ := aM (Kd.N_mono (Kd.N_keep (Kd.N_mono (ok := fun k_ => (((((w.heap.size ≤ k_)) ∧ (k_ ≠ gb165 ∧ (k_ ≠ gb166 ∧ k_ ≠ g))) ∧ k_ ≠ gb170) ∧ some k_ ≠ (.slice Ao43 y177.length co43 : Value).ownBlock)) qz43 (fun k_ hk_ => (⟨hk_, hk_.1.1.2.2.2⟩ : _ ∧ k_ ≠ g))) hk (fun _ h => h.2)) (fun _ h => h.1))
 have n3_ := aM (KeepBut.blk hk (bk_ BK170.out) NB170_0.out (by simp))
 have n4_ := aM (Kd.R_mono (Kd.R_keep (IsS122.apart (show IsS122 w0 _ g s0_0 t175 t176 from by repeat (first | (with_reducible first | exact HI0.out | apply IsS122.alloc | apply IsS122.drewN | apply IsS122.drew | apply IsS122.set_1 | apply IsS122.set_2 | refine IsS122.far ?_ NB0_165.out _ | refine IsS122.far ?_ NB0_166.out _ | refine IsS122.far ?_ NB0_170.out _) | exact HI0.out)) (rr_ HO179.out) (by decide)) hk (fun _ h => h.2)) (fun _ h => h.1))
 have n5_ := aM (KeepBut.trans qz5 hk (.inl rfl))
 have n6_ := aM (hb)
 have n7_ := aM (hi)
 clear BK165
 clear BK166
 clear HO169
 clear BK170
 clear HO179
 clear HK
 clear HB
 clear HI0
 have BK165 := n0_
 have BK166 := n1_
 have HO169 := n2_
 have BK170 := n3_
 have HO179 := n4_
 have HK := n5_
 have HB := n6_
 have HI0 := n7_
 clear n0_ n1_ n2_ n3_ n4_ n5_ n6_ n7_
 (try clear hb)
 (try clear hb2)
 (try clear hk)
 (try clear hi)
 have p25 : 0 ≤ (t171 : Int) := of_decide_eq_true qz4
 have q25 : (t171 : Int) < ((t167.length : Int) : Int) := of_decide_eq_true qz4
 obtain ⟨go25, co25, eo25, gb25, gl25, cl25, HG25⟩ := Kd.N_form HO169.out (by omega)
 (first | cases eo25 | (injection eo25 with ea_ en_ ec_; (first | subst ea_ | (injection ea_ with ea_; subst ea_)); subst ec_; clear en_))
 have GB25 := aM gb25
 have GG25 := aM HG25
 clear gb25 gl25 HG25
 obtain ⟨ce25, hcl25, hM25, hcc25, hfr25⟩ := Kd.N_elem HO169.out z79 (t171 : Int) p25 q25
 obtain ⟨ua25_2, uc25_2, rfl, ul25_2, ge25_2⟩ := k79_openF hM25
 have hx25_0 : World.cell? _ ⟨go25, (t171 : Int).toNat * 3, none⟩ = some (.int .i64 ((rd_T79 t167 t171).f0)) := hcc25 0 _ rfl
 have hx25_1 : World.cell? _ ⟨go25, (t171 : Int).toNat * 3 + 1, none⟩ = some (.int .i64 ((rd_T79 t167 t171).f1)) := hcc25 1 _ rfl
 have hx25_2 : World.cell? _ ⟨go25, (t171 : Int).toNat * 3 + 2, none⟩ = some (.slice ua25_2 ((rd_T79 t167 t171).f2).length uc25_2) := hcc25 2 _ rfl
 have hf25_0 : World.frozen? _ ⟨go25, (t171 : Int).toNat * 3, none⟩ = false := hfr25 0
 have hf25_1 : World.frozen? _ ⟨go25, (t171 : Int).toNat * 3 + 1, none⟩ = false := hfr25 1
 have hf25_2 : World.frozen? _ ⟨go25, (t171 : Int).toNat * 3 + 2, none⟩ = false := hfr25 2
 clear hcl25 hcc25 hfr25; (try clear hM25)
 replace p25 := eq_true p25
 replace q25 := eq_true q25
 have HN0_go25 := aM (show g ≠ go25 from by have h_ := IsS122.own_neN HI0.out HO169.out (by decide); intro e_; exact h_ (by rw [e_]; rfl))
 have HX45 := aM (show Kd.N k79 79 _ w.heap.size (fun k_ => (w.heap.size ≤ k_) ∧ some k_ ≠ (.slice Ao43 y177.length co43 : Value).ownBlock ∧ k_ ≠ gb165 ∧ k_ ≠ gb166 ∧ k_ ≠ gb170 ∧ k_ ≠ g) (.slice (some ⟨go25, 0, none⟩) t167.length co33) t167 from (Kd.N_mono (HO169.out) (fun k_ hk => ⟨hk.1.1.1, ⟨hk.2, ⟨hk.1.1.2.1, ⟨hk.1.1.2.2.1, ⟨hk.1.2, hk.1.1.2.2.2⟩⟩⟩⟩⟩)))
 obtain ⟨ce45, hcl45, hM45, hcc45, hfr45⟩ := Kd.N_elem HX45.out z79 (t171 : Int) (of_decide_eq_true qz4) (by have h_ : (t171 : Int) < ((t167.length : Int) : Int) := of_decide_eq_true qz4; first | exact h_ | (have e_ := (Kd.N_reads' HO169.out).1; omega) | simpa using h_)
 obtain ⟨ua45_2, uc45_2, rfl, ul45_2, ge45_2⟩ := k79_openF hM45
 have HP45 := (Kd.N_seg HX45.out (t171 : Int) (of_decide_eq_true qz4) (by have h_ : (t171 : Int) < ((t167.length : Int) : Int) := of_decide_eq_true qz4; first | exact h_ | (have e_ := (Kd.N_reads' HO169.out).1; omega) | simpa using h_) (seg := [.int .i64 t180]) (j := 0) hcl45 hcc45 (show 1 ≤ 3 from by decide) (x' := (⟨t180, (rd_T79 t167 t171).f1, (rd_T79 t167 t171).f2⟩ : S79)) (k79_mkF _ _ (⟨t180, (rd_T79 t167 t171).f1, (rd_T79 t167 t171).f2⟩ : S79) ul45_2 ge45_2) (fun _ hk => hk)).1
 rw [← Ny183.out] at HP45
 have HQ45 := aM HP45
 clear hcl45 hcc45 hfr45; (try clear hM45); clear HP45
 refine hK.out _ _ ((blk_cell BK170.out 0).trans rfl) (fun hHeld => ?_)
 clear hK K
 refine norm_ (a' := ?_) ?_ ?_
 rotate_left
 {
 show Act.put _ (some 28) _ = _
 simp only [qzs]
 rfl
 }
 refine pI_ 6 29 (bqz 9 127) ?_
 refine pI_ 7 30 (bqz 9 255) ?_
 refine last_ (i := 8) (N := none) (bqz 9 511) rfl rfl qzc (by decide) (fun K hK => ?_)
 refine skip_ (w1 := ?_) (by rfl) rfl ?_ ?_
 rotate_left
 {
 go_simp
 rfl
 }
 refine hK.out _ _ ?_
 clear hK K
 refine done_ (done_of HT_.out (by kernel_rfl)) ?_
 generalize hq_ : (w44.setCell ⟨go25, (t171 : Int).toNat * 3, none⟩ (.int .i64 t180)) = w46
 have n0_ : Aside0 (Kd.N k79 79 w46 w.heap.size (fun k_ => (w.heap.size ≤ k_) ∧ some k_ ≠ (.slice Ao43 y177.length co43 : Value).ownBlock ∧ k_ ≠ gb165 ∧ k_ ≠ gb166 ∧ k_ ≠ g ∧ k_ ≠ gb170) (.slice (some ⟨go25, 0, none⟩) t167.length co33) y183) := ⟨by rw [← hq_]; exact (by (with_reducible repeat (first | apply Kd.N_alloc | apply Kd.N_drewN | apply Kd.N_drew)); exact Kd.N_mono HQ45.out (fun _ hk => ⟨hk.1, ⟨hk.2.1, ⟨hk.2.2.1, ⟨hk.2.2.2.1, ⟨hk.2.2.2.2.2, hk.2.2.2.2.1⟩⟩⟩⟩⟩))⟩
 have n1_ : Aside0 (Kd.R (Kd.int .i64) 3 w46 w.heap.size (fun k_ => (w.heap.size ≤ k_)) (.slice Ao43 y177.length co43) y177) := ⟨by rw [← hq_]; exact (by (with_reducible repeat (first | apply Kd.R_alloc | apply Kd.R_drewN | apply Kd.R_drew)); exact Kd.R_mono (Kd.R_far (p := ⟨go25, (t171 : Int).toNat * 3, none⟩) (Kd.R_types HO179.out GG25.out (by decide)) (fun _ hk => hk.2) (.int .i64 t180)) (fun _ hk => hk.1.1))⟩
 have n2_ : Aside0 (w46.heap[gb165]? = some (.cells #[.slice A1_0 l1_0.length c1_0] 26 (0, 0))) := ⟨by rw [← hq_]; exact (by (with_reducible repeat (first | refine blk_drewN ?_ _ | refine blk_drew ?_ | refine blk_alloc ?_ _)); refine blk_far ?_ (by have h_ := Kd.N_away HO169.out (fun _ hk => hk.1.1.2.1); intro e_; exact h_ (by rw [e_]; rfl)) _; exact bk_ BK165.out)⟩
 have n3_ : Aside0 (w46.heap[gb166]? = some (.cells #[.slice none 0 0] 26 (0, 0))) := ⟨by rw [← hq_]; exact (by (with_reducible repeat (first | refine blk_drewN ?_ _ | refine blk_drew ?_ | refine blk_alloc ?_ _)); refine blk_far ?_ (by have h_ := Kd.N_away HO169.out (fun _ hk => hk.1.1.2.2.1); intro e_; exact h_ (by rw [e_]; rfl)) _; exact bk_ BK166.out)⟩
 have n4_ : Aside0 (w46.heap[gb170]? = some (.cells #[.slice (some ⟨go25, 0, none⟩) t167.length co33] 26 (0, 0))) := ⟨by rw [← hq_]; exact (by (with_reducible repeat (first | refine blk_drewN ?_ _ | refine blk_drew ?_ | refine blk_alloc ?_ _)); refine blk_far ?_ (by have h_ := Kd.N_away HO169.out (fun _ hk => hk.1.2); intro e_; exact h_ (by rw [e_]; rfl)) _; exact bk_ BK170.out)⟩
 have n5_ : Aside0 (IsS122 w0 w46 g s0_0 t181 t182) := ⟨by rw [← hq_]; exact (by repeat (first | (with_reducible first | exact HI0.out | apply IsS122.alloc | apply IsS122.drewN | apply IsS122.drew | apply IsS122.set_1 | apply IsS122.set_2 | refine IsS122.far ?_ HN0_go25.out _ | refine IsS122.far ?_ NB0_165.out _ | refine IsS122.far ?_ NB0_166.out _ | refine IsS122.far ?_ NB0_170.out _) | exact HI0.out))⟩
 have n6_ : Aside0 (KeepBut w w46 g none) := ⟨by rw [← hq_]; exact (by repeat (first | (with_reducible first | exact HK.out | apply KeepBut.set_ | apply keep_drewN | apply keep_drew | apply keep_alloc | refine keep_far ?_ GB25.out _ | refine keep_far ?_ GW165.out _ | refine keep_far ?_ GW166.out _ | refine keep_far ?_ GW170.out _) | exact HK.out))⟩
 have n7_ : Aside0 (Below w0.heap.size w0 w46) := ⟨by rw [← hq_]; exact (by repeat (first | (with_reducible first | exact HB.out | apply below_alloc | apply pw_below_drewN | apply below_drew1 | refine below_set ?_ (Nat.le_trans HL.out GB25.out) | refine below_set ?_ (IsS122.ge HI0.out) | refine below_set ?_ GE165.out | refine below_set ?_ GE166.out | refine below_set ?_ GE170.out) | exact HB.out))⟩
 (try clear HO169)
 (try clear HO179)
 (try clear BK165)
 (try clear BK166)
 (try clear BK170)
 (try clear HI0)
 (try clear HK)
 (try clear HB)
 clear hq_
 have HO169 := n0_
 have HO179 := n1_
 have BK165 := n2_
 have BK166 := n3_
 have BK170 := n4_
 have HI0 := n5_
 have HK := n6_
 have HB := n7_
 clear n0_ n1_ n2_ n3_ n4_ n5_ n6_ n7_
 have hcz47_0 := bc0_ BK170.out
 have hfz47_0 := blk_frozen BK170.out 0
 have hnb48 := NB166_0.out
 have hnc48 := NB0_166.out
 have hcz49_0 := bc0_ BK166.out
 have hfz49_0 := blk_frozen BK166.out 0
 try go_wp2
 refine bodyPost_ret (results_cell_row rfl _ _ gb166 26 #[.slice (some ⟨go25, 0, none⟩) t167.length co33] (0, 0) _ rfl (by (with_reducible repeat (first | refine blk_drewN ?_ _ | refine blk_drew ?_ | refine blk_alloc ?_ _)); refine blk_put (cs := #[.slice none 0 0]) ?_ 0 _ rfl; exact bk_ BK166.out) Try.underlying26 rfl (by kernel_rfl)) rfl ?_
 exact ⟨_, by first | rfl | (simp [errW_none, errW_some] <;> rfl) | (simp [*, errW_none, errW_some] <;> rfl), by (with_reducible repeat (first | apply Kd.N_alloc | apply Kd.N_drewN | apply Kd.N_drew)); exact Kd.N_mono (Kd.N_far (p := ⟨gb166, 0, none⟩) (Kd.N_mono HO169.out (fun k_ hk => (⟨hk, hk.2.2.2.1⟩ : _ ∧ k_ ≠ gb166))) (fun _ hk => hk.2) (.slice (some ⟨go25, 0, none⟩) t167.length co33)) (fun _ hk => hk.1.1), by repeat (first | (with_reducible first | exact HI0.out | apply IsS122.alloc | apply IsS122.drewN | apply IsS122.drew | apply IsS122.set_1 | apply IsS122.set_2 | refine IsS122.far ?_ NB0_165.out _ | refine IsS122.far ?_ NB0_166.out _ | refine IsS122.far ?_ NB0_170.out _) | exact HI0.out), by repeat (first | (with_reducible first | exact HB.out | apply below_alloc | apply pw_below_drewN | apply below_drew1 | refine below_set ?_ (IsS122.ge HI0.out) | refine below_set ?_ GE165.out | refine below_set ?_ GE166.out | refine below_set ?_ GE170.out) | exact HB.out), by repeat (first | (with_reducible first | exact HK.out | apply KeepBut.set_ | apply keep_drewN | apply keep_drew | apply keep_alloc | refine keep_far ?_ GW165.out _ | refine keep_far ?_ GW166.out _ | refine keep_far ?_ GW170.out _) | exact HK.out)⟩
 }
 {
 rw [if_neg c24] at H
 exact absurd H (by simp)
 }
 }
 {
 rw [if_neg c23] at H
 exact absurd H (by simp)
 }
 }
 {
 rw [if_neg c21] at H
 have c21b0 := beq_eq_false_iff_ne.mpr c21
 have c21b1 := bne_iff_ne.mpr c21
 by_cases c50 : t174 = 1
 {
 rw [if_pos c50] at H
 have c50b0 := beq_iff_eq.mpr c50
 have c50b1 := bne_eq_false_iff_eq.mpr c50
 clear c50
 obtain ⟨y184, hy184⟩ : ∃ y_ : List Int, y_ = (([(-1), 100, 19] : List Int)) := ⟨_, rfl⟩
 replace H : ((spec_l1Int.f s0_0 t175 t176 y184).bind fun bt187 => (if 0 ≤ t171 then (if t171 < (t167.length : Int) then (some ((t167.set (t171 : Int).toNat (⟨(rd_T79 t167 t171).f0, bt187.1, (rd_T79 t167 t171).f2⟩ : S79)), bt187.2.1, bt187.2.2)) else (none)) else (none))) = some (r1, r2, r3) := by first | (rw [hy184]; with_reducible exact H) | (have H2_ := (Option.bind_some _ _).symm.trans H; rw [hy184]; with_reducible exact H2_) | (have H2_ := (Option.bind_some _ _).symm.trans H; with_reducible exact H2_) | with_reducible exact H | (rw [hy184]; exact H) | exact H
 have Ny184 := aM hy184
 clear hy184
 replace H := Option.bind_eq_some_iff.mp H
 obtain ⟨⟨t187, t188, t189⟩, A510, H⟩ := H
 replace H : (if 0 ≤ t171 then (if t171 < (t167.length : Int) then (some ((t167.set (t171 : Int).toNat (⟨(rd_T79 t167 t171).f0, t187, (rd_T79 t167 t171).f2⟩ : S79)), t188, t189)) else (none)) else (none)) = some (r1, r2, r3) := H
 have A51 := aM A510
 clear A510
 by_cases c52 : 0 ≤ t171
 {
 rw [if_pos c52] at H
 have c52b0 := decide_eq_true c52
 clear c52
 by_cases c53 : t171 < (t167.length : Int)
 {
 rw [if_pos c53] at H
 have c53b0 := decide_eq_true c53
 clear c53
 obtain ⟨y190, hy190⟩ : ∃ y_ : List (S79), y_ = (t167.set (t171 : Int).toNat (⟨(rd_T79 t167 t171).f0, t187, (rd_T79 t167 t171).f2⟩ : S79)) := ⟨_, rfl⟩
 replace H : (some (y190, t188, t189)) = some (r1, r2, r3) := by first | (rw [hy190]; with_reducible exact H) | (have H2_ := (Option.bind_some _ _).symm.trans H; rw [hy190]; with_reducible exact H2_) | (have H2_ := (Option.bind_some _ _).symm.trans H; with_reducible exact H2_) | with_reducible exact H | (rw [hy190]; exact H) | exact H
 have Ny190 := aM hy190
 clear hy190
 simp only [Option.some.injEq, Prod.mk.injEq] at H
 obtain ⟨rfl, rfl, rfl⟩ := H
 go_enter Try.func103, Try.ntmps103
 try go_wp2_with (first | ((with_reducible refine gate_dst (N := 3) rfl ?_); refine bx_ 3 #[.slice A1_0 l1_0.length c1_0] 26 ?_; intro gb165 hg w55 hbox hb; have n0_ := aM (IsS122.below qz30 hb); have n1_ := aM (KeepBut.trans qz7 (KeepBut.of_below hb g none) (.inl rfl)); have n2_ := aM (below_step qz31 hb); have n3_ := aM (hbox); have n4_ := aM ((by rw [hg]; exact (keep_size (w := w) (g := g) (row := none) qz7) : w.heap.size ≤ gb165)); have n5_ := aM ((Nat.le_trans HW0.out (by rw [hg]; exact (keep_size (w := w) (g := g) (row := none) qz7) : w.heap.size ≤ gb165) : w0.heap.size ≤ gb165)); have n6_ := aM ((by rw [hg]; exact Nat.ne_of_lt (IsS122.lt (show IsS122 w0 _ g s0_0 s0_1 s0_2 from by repeat (first | (with_reducible first | exact HI0.out | apply IsS122.alloc | apply IsS122.drewN | apply IsS122.drew | apply IsS122.set_1 | apply IsS122.set_2) | exact HI0.out))) : g ≠ gb165)); have n7_ := aM ((by rw [hg]; exact Nat.ne_of_gt (IsS122.lt (show IsS122 w0 _ g s0_0 s0_1 s0_2 from by repeat (first | (with_reducible first | exact HI0.out | apply IsS122.alloc | apply IsS122.drewN | apply IsS122.drew | apply IsS122.set_1 | apply IsS122.set_2) | exact HI0.out))) : gb165 ≠ g)); clear HI0 HK HB; have HI0 := n0_; have HK := n1_; have HB := n2_; have BK165 := n3_; have GW165 := n4_; have GE165 := n5_; have NB0_165 := n6_; have NB165_0 := n7_; clear n0_ n1_ n2_ n3_ n4_ n5_ n6_ n7_; clear hb hbox hg) | ((with_reducible refine gate_dst (N := 4) rfl ?_); refine bx_ 4 #[.slice none 0 0] 26 ?_; intro gb166 hg w56 hbox hb; have n0_ := aM (IsS122.below qz37 hb); have n1_ := aM (blk_below (bk_ BK165.out) hb); have n2_ := aM (KeepBut.trans qz10 (KeepBut.of_below hb g none) (.inl rfl)); have n3_ := aM (below_step qz39 hb); have n4_ := aM (hbox); have n5_ := aM ((by rw [hg]; exact (keep_size (w := w) (g := g) (row := none) qz10) : w.heap.size ≤ gb166)); have n6_ := aM ((Nat.le_trans HW0.out (by rw [hg]; exact (keep_size (w := w) (g := g) (row := none) qz10) : w.heap.size ≤ gb166) : w0.heap.size ≤ gb166)); have n7_ := aM ((by rw [hg]; exact Nat.ne_of_lt (blk_lt (bk_ BK165.out)) : gb165 ≠ gb166)); have n8_ := aM ((by rw [hg]; exact Nat.ne_of_gt (blk_lt (bk_ BK165.out)) : gb166 ≠ gb165)); have n9_ := aM ((by rw [hg]; exact Nat.ne_of_lt (IsS122.lt (show IsS122 w0 _ g s0_0 s0_1 s0_2 from by repeat (first | (with_reducible first | exact HI0.out | apply IsS122.alloc | apply IsS122.drewN | apply IsS122.drew | apply IsS122.set_1 | apply IsS122.set_2 | refine IsS122.far ?_ NB0_165.out _) | exact HI0.out))) : g ≠ gb166)); have n10_ := aM ((by rw [hg]; exact Nat.ne_of_gt (IsS122.lt (show IsS122 w0 _ g s0_0 s0_1 s0_2 from by repeat (first | (with_reducible first | exact HI0.out | apply IsS122.alloc | apply IsS122.drewN | apply IsS122.drew | apply IsS122.set_1 | apply IsS122.set_2 | refine IsS122.far ?_ NB0_165.out _) | exact HI0.out))) : gb166 ≠ g)); clear HI0 BK165 HK HB; have HI0 := n0_; have BK165 := n1_; have HK := n2_; have HB := n3_; have BK166 := n4_; have GW166 := n5_; have GE166 := n6_; have NB165_166 := n7_; have NB166_165 := n8_; have NB0_166 := n9_; have NB166_0 := n10_; clear n0_ n1_ n2_ n3_ n4_ n5_ n6_ n7_ n8_ n9_ n10_; clear hb hbox hg; have hnb57 := NB165_166.out; have hnc57 := NB166_165.out; have hnb58 := NB165_0.out; have hnc58 := NB0_165.out; have hcz59_0 := bc0_ BK165.out; have hfz59_0 := blk_frozen BK165.out 0) | ((with_reducible refine gate_callee (f := 62) rfl ?_); refine goesL_ (some 8) rfl rfl Try.func62 (by kernel_rfl) rfl #[.agg #[.slice A1_0 l1_0.length c1_0]] rfl qz1 ?_; (with_reducible refine (spec_l5Copy.calls k _ _ l1_0 t167 _ ?side1 ?side2 A3.out).mono ?_); (case side1 => exact Kd.C_foot_now HR1_0.out qz3); (case side2 => exact HC1_0.out); rintro e w60 ⟨v168, rfl, ho0, hb⟩; refine ⟨_, rfl, ?_⟩; have n0_ := aM (Kd.N_lower (Kd.N_mono (ok' := fun k_ => (w.heap.size ≤ k_) ∧ k_ ≠ gb165 ∧ k_ ≠ gb166 ∧ k_ ≠ g) (Kd.S_N (Kd.S_bound ho0)) (fun k_ hk_ => ⟨(Nat.le_trans (keep_size (w := w) (g := g) (row := none) qz3) hk_.2.1), (Kd.freshB (bk_ BK165.out) k_ hk_.2.1), (Kd.freshB (bk_ BK166.out) k_ hk_.2.1), (IsS122.fresh qz8 k_ hk_.2.1)⟩)) (keep_size (w := w) (g := g) (row := none) qz3)); have n1_ := aM (IsS122.below qz8 hb); have n2_ := aM (blk_below (bk_ BK165.out) hb); have n3_ := aM (blk_below (bk_ BK166.out) hb); have n4_ := aM (KeepBut.trans qz3 (KeepBut.of_below hb g none) (.inl rfl)); have n5_ := aM (below_step qz14 hb); clear HI0 BK165 BK166 HK HB; have HO169 := n0_; have HI0 := n1_; have BK165 := n2_; have BK166 := n3_; have HK := n4_; have HB := n5_; clear n0_ n1_ n2_ n3_ n4_ n5_; (try clear hb); (try clear hb2); (try clear hk); (try clear hi); (try clear ho0)) | ((with_reducible refine gate_dst (N := 5) rfl ?_); refine bx_ 5 #[.slice none 0 0] 26 ?_; intro gb170 hg w61 hbox hb; have n0_ := aM (Kd.N_below (Kd.N_elderB qz43 gb170 (Nat.le_of_eq hg.symm)) hb); have n1_ := aM (IsS122.below qz8 hb); have n2_ := aM (blk_below (bk_ BK165.out) hb); have n3_ := aM (blk_below (bk_ BK166.out) hb); have n4_ := aM (KeepBut.trans qz3 (KeepBut.of_below hb g none) (.inl rfl)); have n5_ := aM (below_step qz14 hb); have n6_ := aM (hbox); have n7_ := aM ((by rw [hg]; exact (keep_size (w := w) (g := g) (row := none) qz3) : w.heap.size ≤ gb170)); have n8_ := aM ((Nat.le_trans HW0.out (by rw [hg]; exact (keep_size (w := w) (g := g) (row := none) qz3) : w.heap.size ≤ gb170) : w0.heap.size ≤ gb170)); have n9_ := aM ((by rw [hg]; exact Nat.ne_of_lt (blk_lt (bk_ BK165.out)) : gb165 ≠ gb170)); have n10_ := aM ((by rw [hg]; exact Nat.ne_of_gt (blk_lt (bk_ BK165.out)) : gb170 ≠ gb165)); have n11_ := aM ((by rw [hg]; exact Nat.ne_of_lt (blk_lt (bk_ BK166.out)) : gb166 ≠ gb170)); have n12_ := aM ((by rw [hg]; exact Nat.ne_of_gt (blk_lt (bk_ BK166.out)) : gb170 ≠ gb166)); have n13_ := aM ((by rw [hg]; exact Nat.ne_of_lt (IsS122.lt (show IsS122 w0 _ g s0_0 s0_1 s0_2 from by repeat (first | (with_reducible first | exact HI0.out | apply IsS122.alloc | apply IsS122.drewN | apply IsS122.drew | apply IsS122.set_1 | apply IsS122.set_2 | refine IsS122.far ?_ NB0_165.out _ | refine IsS122.far ?_ NB0_166.out _) | exact HI0.out))) : g ≠ gb170)); have n14_ := aM ((by rw [hg]; exact Nat.ne_of_gt (IsS122.lt (show IsS122 w0 _ g s0_0 s0_1 s0_2 from by repeat (first | (with_reducible first | exact HI0.out | apply IsS122.alloc | apply IsS122.drewN | apply IsS122.drew | apply IsS122.set_1 | apply IsS122.set_2 | refine IsS122.far ?_ NB0_165.out _ | refine IsS122.far ?_ NB0_166.out _) | exact HI0.out))) : gb170 ≠ g)); clear HO169 HI0 BK165 BK166 HK HB; have HO169 := n0_; have HI0 := n1_; have BK165 := n2_; have BK166 := n3_; have HK := n4_; have HB := n5_; have BK170 := n6_; have GW170 := n7_; have GE170 := n8_; have NB165_170 := n9_; have NB170_165 := n10_; have NB166_170 := n11_; have NB170_166 := n12_; have NB0_170 := n13_; have NB170_0 := n14_; clear n0_ n1_ n2_ n3_ n4_ n5_ n6_ n7_ n8_ n9_ n10_ n11_ n12_ n13_ n14_; clear hb hbox hg; obtain ⟨Ao62, co62, eo62⟩ := Kd.N_slice HO169.out; subst eo62; have hnb63 := NB170_165.out; have hnc63 := NB165_170.out; have hnb64 := NB170_166.out; have hnc64 := NB166_170.out; have hnb65 := NB170_0.out; have hnc65 := NB0_170.out; have hcz66_0 := bc0_ BK170.out; have hfz66_0 := blk_frozen BK170.out 0) | ((with_reducible refine gate_callee (f := 105) rfl ?_); refine goesL_ (some 18) rfl rfl Try.func105 (by kernel_rfl) rfl #[.pointer (some ⟨g, 0, none⟩), .int .i64 (t167.length : Int)] rfl qz1 ?_; (with_reducible refine (spec_l1Below.calls g s0_0 s0_1 s0_2 (t167.length : Int) t171 t172 t173 w0 _ ?side1 ?side2 A19.out).mono ?_); (case side1 => exact qz9); (case side2 => exact qz11); rintro e w67 ⟨rfl, hi, hb, hk⟩; refine ⟨_, rfl, ?_⟩; have n0_ := aM (KeepBut.blk hk (g' := gb165) (o := .cells #[.slice A1_0 l1_0.length c1_0] 26 (0, 0)) qz65 NB165_0.out (by simp)); have n1_ := aM (KeepBut.blk hk (g' := gb166) (o := .cells #[.slice none 0 0] 26 (0, 0)) qz66 NB166_0.out (by simp)); have n2_ := aM (Kd.N_mono (Kd.N_keep (Kd.N_mono (ok := fun k_ => ((((w.heap.size ≤ k_)) ∧ (k_ ≠ gb165 ∧ (k_ ≠ gb166 ∧ k_ ≠ g))) ∧ k_ ≠ gb170)) (by (with_reducible repeat (first | apply Kd.N_alloc | apply Kd.N_drewN | apply Kd.N_drew)); exact (Kd.N_mono (Kd.N_far (p := ⟨gb170, 0, none⟩) (Kd.N_mono HO169.out (fun k_ hk => (⟨hk, hk.2⟩ : _ ∧ k_ ≠ gb170))) (fun _ hk => hk.2) (.slice Ao62 t167.length co62)) (fun _ h_ => h_.1))) (fun k_ hk_ => (⟨hk_, hk_.1.2.2.2⟩ : _ ∧ k_ ≠ g))) hk (fun _ h => h.2)) (fun _ h => h.1)); have n3_ := aM (KeepBut.blk hk (g' := gb170) (o := .cells #[.slice Ao62 t167.length co62] 26 (0, 0)) (by (with_reducible repeat (first | refine blk_drewN ?_ _ | refine blk_drew ?_ | refine blk_alloc ?_ _)); refine blk_put (cs := #[.slice none 0 0]) ?_ 0 _ rfl; exact bk_ BK170.out) NB170_0.out (by simp)); have n4_ := aM (KeepBut.trans qz5 hk (.inl rfl)); have n5_ := aM (hb); have n6_ := aM (hi); clear BK165 BK166 HO169 BK170 HK HB HI0; have BK165 := n0_; have BK166 := n1_; have HO169 := n2_; have BK170 := n3_; have HK := n4_; have HB := n5_; have HI0 := n6_; clear n0_ n1_ n2_ n3_ n4_ n5_ n6_; (try clear hb); (try clear hb2); (try clear hk); (try clear hi)) | ((with_reducible refine gate_callee (f := 105) rfl ?_); refine goesL_ (some 20) rfl rfl Try.func105 (by kernel_rfl) rfl #[.pointer (some ⟨g, 0, none⟩), .int .i64 6] rfl qz1 ?_; (with_reducible refine (spec_l1Below.calls g s0_0 t172 t173 6 t174 t175 t176 w0 _ ?side1 ?side2 A20.out).mono ?_); (case side1 => exact qz9); (case side2 => exact qz11); rintro e w68 ⟨rfl, hi, hb, hk⟩; refine ⟨_, rfl, ?_⟩; have n0_ := aM (KeepBut.blk hk (bk_ BK165.out) NB165_0.out (by simp)); have n1_ := aM (KeepBut.blk hk (bk_ BK166.out) NB166_0.out (by simp)); have n2_ := aM (Kd.N_mono (Kd.N_keep (Kd.N_mono (ok := fun k_ => ((((w.heap.size ≤ k_)) ∧ (k_ ≠ gb165 ∧ (k_ ≠ gb166 ∧ k_ ≠ g))) ∧ k_ ≠ gb170)) qz43 (fun k_ hk_ => (⟨hk_, hk_.1.2.2.2⟩ : _ ∧ k_ ≠ g))) hk (fun _ h => h.2)) (fun _ h => h.1)); have n3_ := aM (KeepBut.blk hk (bk_ BK170.out) NB170_0.out (by simp)); have n4_ := aM (KeepBut.trans qz5 hk (.inl rfl)); have n5_ := aM (hb); have n6_ := aM (hi); clear BK165 BK166 HO169 BK170 HK HB HI0; have BK165 := n0_; have BK166 := n1_; have HO169 := n2_; have BK170 := n3_; have HK := n4_; have HB := n5_; have HI0 := n6_; clear n0_ n1_ n2_ n3_ n4_ n5_ n6_; (try clear hb); (try clear hb2); (try clear hk); (try clear hi)))
 have n0_ := aM (Kd.N_drew HO169.out)
 have n1_ := aM (blk_drew BK165.out)
 have n2_ := aM (blk_drew BK166.out)
 have n3_ := aM (blk_drew BK170.out)
 have n4_ := aM (IsS122.drew HI0.out)
 have n5_ := aM (keep_drew HK.out)
 have n6_ := aM (below_drew1 HB.out)
 clear HO169
 clear BK165
 clear BK166
 clear BK170
 clear HI0
 clear HK
 clear HB
 have HO169 := n0_
 have BK165 := n1_
 have BK166 := n2_
 have BK170 := n3_
 have HI0 := n4_
 have HK := n5_
 have HB := n6_
 clear n0_ n1_ n2_ n3_ n4_ n5_ n6_
 refine start_ (n := 9) (S := fun w' => w'.cell? ⟨gb170, 0, none⟩ = some (.slice Ao62 t167.length co62)) (ds := [8]) #[false, false, false, false, false, false, false, false, false] (by kernel_rfl) rfl rfl ((blk_cell BK170.out 0).trans rfl) (fun hHeld => ?_); refine with_tabW spec_l5BendN.tab9 spec_l5BendN.bits9 (fun HT_ HW_ => ?_)
 generalize w68.drew = w69 at HO169 BK165 BK166 BK170 HI0 HK HB hHeld ⊢
 refine pI_ 0 33 (bqz 9 1) ?_
 refine pI_ 2 35 (bqz 9 5) ?_
 refine pI_ 3 36 (bqz 9 13) ?_
 refine take_ (i := 1) (N := some 34) (v := ?_) (a' := ?_) (bqz 9 15) rfl rfl qzb qzd (Or.inl ⟨by rfl, ?_⟩) hHeld ?_ ?_
 rotate_left
 {
 intro w' s0
 go_simp
 with_reducible rfl
 }
 rotate_left
 {
 simp only [qzs]
 rfl
 }
 refine one_ (i := 4) (N := some 37) (bqz 9 31) rfl rfl qzc (by decide) (fun K hK => ?_)
 refine Kd.R_lit_step (Kd.int .i64) _ 3 ?hg (N := 37) ?hd (xs := ([(-1), 100, 19] : List Int)) (inner := [.int .i64 (-1), .int .i64 100, .int .i64 19]) (ok := fun _ => True) (okp := fun _ => True) ?hr ?hp (fun _ hk => hk) trivial (Below.refl _ _) (Nat.le_refl _) (by simp) ?_; (case hd => rfl); (case hg => rfl); (case hr => exact qz87); (case hp => exact (Reps.one (show Kd.M (Kd.int .i64) _ _ _ (-1) [.int .i64 (-1)] from rfl) (Reps.one (show Kd.M (Kd.int .i64) _ _ _ 100 [.int .i64 100] from rfl) (Reps.one (show Kd.M (Kd.int .i64) _ _ _ 19 [.int .i64 19] from rfl) (Reps.none _ _)))))
 intro v185 w70 ho71 hb hg_ hnew_
 clear hg_ hnew_
 (first | rw [← Ny184.out] at ho71 | (simp only [Int.reduceToNat] at ho71; rw [← Ny184.out] at ho71))
 have n0_ := aM (Kd.N_elder' qz43 (Kd.R_base ho71) hb)
 have n1_ := aM (Kd.R_lower (Kd.R_newM (M := fun k_ => (w.heap.size ≤ k_)) ho71 (keep_size (w := w) (g := g) (row := none) qz5) (fun k_ h_ => h_)) (keep_size (w := w) (g := g) (row := none) qz5))
 have n2_ := aM (IsS122.below qz9 hb)
 have n3_ := aM (blk_below (bk_ BK165.out) hb)
 have n4_ := aM (blk_below (bk_ BK166.out) hb)
 have n5_ := aM (blk_below (bk_ BK170.out) hb)
 have n6_ := aM (KeepBut.trans qz5 (KeepBut.of_below hb g none) (.inl rfl))
 have n7_ := aM (below_step qz11 hb)
 clear HO169
 clear HI0
 clear BK165
 clear BK166
 clear BK170
 clear HK
 clear HB
 have HO169 := n0_
 have HO186 := n1_
 have HI0 := n2_
 have BK165 := n3_
 have BK166 := n4_
 have BK170 := n5_
 have HK := n6_
 have HB := n7_
 clear n0_ n1_ n2_ n3_ n4_ n5_ n6_ n7_
 clear hb ho71
 obtain ⟨Ao72, co72, eo72⟩ := Kd.R_slice HO186.out
 (first | subst eo72 | (injection eo72 with f1_ f2_ f3_; have f4_ := f1_.symm; have f5_ := f3_.symm; clear f1_ f2_ f3_; subst f4_; subst f5_))
 refine hK.out _ _ ((blk_cell BK170.out 0).trans rfl) (fun hHeld => ?_)
 clear hK K
 refine norm_ (a' := ?_) ?_ ?_
 rotate_left
 {
 show Act.put _ (some 37) _ = _
 simp only [qzs]
 rfl
 }
 refine one_ (i := 5) (N := some 38) (bqz 9 63) rfl rfl qzc (by decide) (fun K hK => ?_)
 refine goes_ Try.func92 (by kernel_rfl) rfl #[.pointer (some ⟨g, 0, none⟩), .slice Ao72 y184.length co72] (by rfl) rfl rfl qz1 ?_
 with_reducible refine (spec_l1Int.calls g s0_0 t175 t176 _ _ y184 t187 t188 t189 w0 _ ?side1 ?side2 ?side3 ?side4 ?side5 A51.out).mono ?_
 (case side1 => exact qz9)
 (case side2 => exact qz11)
 (case side3 => repeat (first | exact (Kd.R_reads' HO186.out).2.2 | (with_reducible refine Kd.C_alloc ?_ _) | (with_reducible refine Kd.C_drewN ?_ _) | (with_reducible refine Kd.C_drew ?_)))
 (case side4 => exact (Kd.R_reads' HO186.out).2.1)
 (case side5 => exact far_slice (IsS122.own_ne HI0.out HO186.out (by decide)))
 rintro e w73 ⟨rfl, hi, hb, hk⟩
 refine ⟨_, rfl, ?_⟩
 have n0_ := aM (KeepBut.blk hk (bk_ BK165.out) NB165_0.out (by simp))
 have n1_ := aM (KeepBut.blk hk (bk_ BK166.out) NB166_0.out (by simp))
 have n2_ := aM (Kd.N_mono (Kd.N_keep (Kd.N_mono (ok := fun k_ => (((((w.heap.size ≤ k_)) ∧ (k_ ≠ gb165 ∧ (k_ ≠ gb166 ∧ k_ ≠ g))) ∧ k_ ≠ gb170) ∧ some k_ ≠ (.slice Ao72 y184.length co72 : Value).ownBlock)) qz43 (fun k_ hk_ => (⟨hk_, hk_.1.1.2.2.2⟩ : _ ∧ k_ ≠ g))) hk (fun _ h => h.2)) (fun _ h => h.1))
 have n3_ := aM (KeepBut.blk hk (bk_ BK170.out) NB170_0.out (by simp))
 have n4_ := aM (Kd.R_mono (Kd.R_keep (IsS122.apart (show IsS122 w0 _ g s0_0 t175 t176 from by repeat (first | (with_reducible first | exact HI0.out | apply IsS122.alloc | apply IsS122.drewN | apply IsS122.drew | apply IsS122.set_1 | apply IsS122.set_2 | refine IsS122.far ?_ NB0_165.out _ | refine IsS122.far ?_ NB0_166.out _ | refine IsS122.far ?_ NB0_170.out _) | exact HI0.out)) (rr_ HO186.out) (by decide)) hk (fun _ h => h.2)) (fun _ h => h.1))
 have n5_ := aM (KeepBut.trans qz5 hk (.inl rfl))
 have n6_ := aM (hb)
 have n7_ := aM (hi)
 clear BK165
 clear BK166
 clear HO169
 clear BK170
 clear HO186
 clear HK
 clear HB
 clear HI0
 have BK165 := n0_
 have BK166 := n1_
 have HO169 := n2_
 have BK170 := n3_
 have HO186 := n4_
 have HK := n5_
 have HB := n6_
 have HI0 := n7_
 clear n0_ n1_ n2_ n3_ n4_ n5_ n6_ n7_
 (try clear hb)
 (try clear hb2)
 (try clear hk)
 (try clear hi)
 have p54 : 0 ≤ (t171 : Int) := of_decide_eq_true qz4
 have q54 : (t171 : Int) < ((t167.length : Int) : Int) := of_decide_eq_true qz4
 obtain ⟨go54, co54, eo54, gb54, gl54, cl54, HG54⟩ := Kd.N_form HO169.out (by omega)
 (first | cases eo54 | (injection eo54 with ea_ en_ ec_; (first | subst ea_ | (injection ea_ with ea_; subst ea_)); subst ec_; clear en_))
 have GB54 := aM gb54
 have GG54 := aM HG54
 clear gb54 gl54 HG54
 obtain ⟨ce54, hcl54, hM54, hcc54, hfr54⟩ := Kd.N_elem HO169.out z79 (t171 : Int) p54 q54
 obtain ⟨ua54_2, uc54_2, rfl, ul54_2, ge54_2⟩ := k79_openF hM54
 have hx54_0 : World.cell? _ ⟨go54, (t171 : Int).toNat * 3, none⟩ = some (.int .i64 ((rd_T79 t167 t171).f0)) := hcc54 0 _ rfl
 have hx54_1 : World.cell? _ ⟨go54, (t171 : Int).toNat * 3 + 1, none⟩ = some (.int .i64 ((rd_T79 t167 t171).f1)) := hcc54 1 _ rfl
 have hx54_2 : World.cell? _ ⟨go54, (t171 : Int).toNat * 3 + 2, none⟩ = some (.slice ua54_2 ((rd_T79 t167 t171).f2).length uc54_2) := hcc54 2 _ rfl
 have hf54_0 : World.frozen? _ ⟨go54, (t171 : Int).toNat * 3, none⟩ = false := hfr54 0
 have hf54_1 : World.frozen? _ ⟨go54, (t171 : Int).toNat * 3 + 1, none⟩ = false := hfr54 1
 have hf54_2 : World.frozen? _ ⟨go54, (t171 : Int).toNat * 3 + 2, none⟩ = false := hfr54 2
 clear hcl54 hcc54 hfr54; (try clear hM54)
 replace p54 := eq_true p54
 replace q54 := eq_true q54
 have HN0_go54 := aM (show g ≠ go54 from by have h_ := IsS122.own_neN HI0.out HO169.out (by decide); intro e_; exact h_ (by rw [e_]; rfl))
 have HX74 := aM (show Kd.N k79 79 _ w.heap.size (fun k_ => (w.heap.size ≤ k_) ∧ some k_ ≠ (.slice Ao72 y184.length co72 : Value).ownBlock ∧ k_ ≠ gb165 ∧ k_ ≠ gb166 ∧ k_ ≠ gb170 ∧ k_ ≠ g) (.slice (some ⟨go54, 0, none⟩) t167.length co62) t167 from (Kd.N_mono (HO169.out) (fun k_ hk => ⟨hk.1.1.1, ⟨hk.2, ⟨hk.1.1.2.1, ⟨hk.1.1.2.2.1, ⟨hk.1.2, hk.1.1.2.2.2⟩⟩⟩⟩⟩)))
 obtain ⟨ce74, hcl74, hM74, hcc74, hfr74⟩ := Kd.N_elem HX74.out z79 (t171 : Int) (of_decide_eq_true qz4) (by have h_ : (t171 : Int) < ((t167.length : Int) : Int) := of_decide_eq_true qz4; first | exact h_ | (have e_ := (Kd.N_reads' HO169.out).1; omega) | simpa using h_)
 obtain ⟨ua74_2, uc74_2, rfl, ul74_2, ge74_2⟩ := k79_openF hM74
 have HP74 := (Kd.N_seg HX74.out (t171 : Int) (of_decide_eq_true qz4) (by have h_ : (t171 : Int) < ((t167.length : Int) : Int) := of_decide_eq_true qz4; first | exact h_ | (have e_ := (Kd.N_reads' HO169.out).1; omega) | simpa using h_) (seg := [.int .i64 t187]) (j := 1) hcl74 hcc74 (show 2 ≤ 3 from by decide) (x' := (⟨(rd_T79 t167 t171).f0, t187, (rd_T79 t167 t171).f2⟩ : S79)) (k79_mkF _ _ (⟨(rd_T79 t167 t171).f0, t187, (rd_T79 t167 t171).f2⟩ : S79) ul74_2 ge74_2) (fun _ hk => hk)).1
 rw [← Ny190.out] at HP74
 have HQ74 := aM HP74
 clear hcl74 hcc74 hfr74; (try clear hM74); clear HP74
 refine hK.out _ _ ((blk_cell BK170.out 0).trans rfl) (fun hHeld => ?_)
 clear hK K
 refine norm_ (a' := ?_) ?_ ?_
 rotate_left
 {
 show Act.put _ (some 38) _ = _
 simp only [qzs]
 rfl
 }
 refine pI_ 6 39 (bqz 9 127) ?_
 refine pI_ 7 40 (bqz 9 255) ?_
 refine last_ (i := 8) (N := none) (bqz 9 511) rfl rfl qzc (by decide) (fun K hK => ?_)
 refine skip_ (w1 := ?_) (by rfl) rfl ?_ ?_
 rotate_left
 {
 go_simp
 rfl
 }
 refine hK.out _ _ ?_
 clear hK K
 refine done_ (done_of HT_.out (by kernel_rfl)) ?_
 generalize hq_ : (w73.setCell ⟨go54, (t171 : Int).toNat * 3 + 1, none⟩ (.int .i64 t187)) = w75
 have n0_ : Aside0 (Kd.N k79 79 w75 w.heap.size (fun k_ => (w.heap.size ≤ k_) ∧ some k_ ≠ (.slice Ao72 y184.length co72 : Value).ownBlock ∧ k_ ≠ gb165 ∧ k_ ≠ gb166 ∧ k_ ≠ g ∧ k_ ≠ gb170) (.slice (some ⟨go54, 0, none⟩) t167.length co62) y190) := ⟨by rw [← hq_]; exact (by (with_reducible repeat (first | apply Kd.N_alloc | apply Kd.N_drewN | apply Kd.N_drew)); exact Kd.N_mono HQ74.out (fun _ hk => ⟨hk.1, ⟨hk.2.1, ⟨hk.2.2.1, ⟨hk.2.2.2.1, ⟨hk.2.2.2.2.2, hk.2.2.2.2.1⟩⟩⟩⟩⟩))⟩
 have n1_ : Aside0 (Kd.R (Kd.int .i64) 3 w75 w.heap.size (fun k_ => (w.heap.size ≤ k_)) (.slice Ao72 y184.length co72) y184) := ⟨by rw [← hq_]; exact (by (with_reducible repeat (first | apply Kd.R_alloc | apply Kd.R_drewN | apply Kd.R_drew)); exact Kd.R_mono (Kd.R_far (p := ⟨go54, (t171 : Int).toNat * 3 + 1, none⟩) (Kd.R_types HO186.out GG54.out (by decide)) (fun _ hk => hk.2) (.int .i64 t187)) (fun _ hk => hk.1.1))⟩
 have n2_ : Aside0 (w75.heap[gb165]? = some (.cells #[.slice A1_0 l1_0.length c1_0] 26 (0, 0))) := ⟨by rw [← hq_]; exact (by (with_reducible repeat (first | refine blk_drewN ?_ _ | refine blk_drew ?_ | refine blk_alloc ?_ _)); refine blk_far ?_ (by have h_ := Kd.N_away HO169.out (fun _ hk => hk.1.1.2.1); intro e_; exact h_ (by rw [e_]; rfl)) _; exact bk_ BK165.out)⟩
 have n3_ : Aside0 (w75.heap[gb166]? = some (.cells #[.slice none 0 0] 26 (0, 0))) := ⟨by rw [← hq_]; exact (by (with_reducible repeat (first | refine blk_drewN ?_ _ | refine blk_drew ?_ | refine blk_alloc ?_ _)); refine blk_far ?_ (by have h_ := Kd.N_away HO169.out (fun _ hk => hk.1.1.2.2.1); intro e_; exact h_ (by rw [e_]; rfl)) _; exact bk_ BK166.out)⟩
 have n4_ : Aside0 (w75.heap[gb170]? = some (.cells #[.slice (some ⟨go54, 0, none⟩) t167.length co62] 26 (0, 0))) := ⟨by rw [← hq_]; exact (by (with_reducible repeat (first | refine blk_drewN ?_ _ | refine blk_drew ?_ | refine blk_alloc ?_ _)); refine blk_far ?_ (by have h_ := Kd.N_away HO169.out (fun _ hk => hk.1.2); intro e_; exact h_ (by rw [e_]; rfl)) _; exact bk_ BK170.out)⟩
 have n5_ : Aside0 (IsS122 w0 w75 g s0_0 t188 t189) := ⟨by rw [← hq_]; exact (by repeat (first | (with_reducible first | exact HI0.out | apply IsS122.alloc | apply IsS122.drewN | apply IsS122.drew | apply IsS122.set_1 | apply IsS122.set_2 | refine IsS122.far ?_ HN0_go54.out _ | refine IsS122.far ?_ NB0_165.out _ | refine IsS122.far ?_ NB0_166.out _ | refine IsS122.far ?_ NB0_170.out _) | exact HI0.out))⟩
 have n6_ : Aside0 (KeepBut w w75 g none) := ⟨by rw [← hq_]; exact (by repeat (first | (with_reducible first | exact HK.out | apply KeepBut.set_ | apply keep_drewN | apply keep_drew | apply keep_alloc | refine keep_far ?_ GB54.out _ | refine keep_far ?_ GW165.out _ | refine keep_far ?_ GW166.out _ | refine keep_far ?_ GW170.out _) | exact HK.out))⟩
 have n7_ : Aside0 (Below w0.heap.size w0 w75) := ⟨by rw [← hq_]; exact (by repeat (first | (with_reducible first | exact HB.out | apply below_alloc | apply pw_below_drewN | apply below_drew1 | refine below_set ?_ (Nat.le_trans HL.out GB54.out) | refine below_set ?_ (IsS122.ge HI0.out) | refine below_set ?_ GE165.out | refine below_set ?_ GE166.out | refine below_set ?_ GE170.out) | exact HB.out))⟩
 (try clear HO169)
 (try clear HO186)
 (try clear BK165)
 (try clear BK166)
 (try clear BK170)
 (try clear HI0)
 (try clear HK)
 (try clear HB)
 clear hq_
 have HO169 := n0_
 have HO186 := n1_
 have BK165 := n2_
 have BK166 := n3_
 have BK170 := n4_
 have HI0 := n5_
 have HK := n6_
 have HB := n7_
 clear n0_ n1_ n2_ n3_ n4_ n5_ n6_ n7_
 have hcz76_0 := bc0_ BK170.out
 have hfz76_0 := blk_frozen BK170.out 0
 have hnb77 := NB166_0.out
 have hnc77 := NB0_166.out
 have hcz78_0 := bc0_ BK166.out
 have hfz78_0 := blk_frozen BK166.out 0
 try go_wp2
 refine bodyPost_ret (results_cell_row rfl _ _ gb166 26 #[.slice (some ⟨go54, 0, none⟩) t167.length co62] (0, 0) _ rfl (by (with_reducible repeat (first | refine blk_drewN ?_ _ | refine blk_drew ?_ | refine blk_alloc ?_ _)); refine blk_put (cs := #[.slice none 0 0]) ?_ 0 _ rfl; exact bk_ BK166.out) Try.underlying26 rfl (by kernel_rfl)) rfl ?_
 exact ⟨_, by first | rfl | (simp [errW_none, errW_some] <;> rfl) | (simp [*, errW_none, errW_some] <;> rfl), by (with_reducible repeat (first | apply Kd.N_alloc | apply Kd.N_drewN | apply Kd.N_drew)); exact Kd.N_mono (Kd.N_far (p := ⟨gb166, 0, none⟩) (Kd.N_mono HO169.out (fun k_ hk => (⟨hk, hk.2.2.2.1⟩ : _ ∧ k_ ≠ gb166))) (fun _ hk => hk.2) (.slice (some ⟨go54, 0, none⟩) t167.length co62)) (fun _ hk => hk.1.1), by repeat (first | (with_reducible first | exact HI0.out | apply IsS122.alloc | apply IsS122.drewN | apply IsS122.drew | apply IsS122.set_1 | apply IsS122.set_2 | refine IsS122.far ?_ NB0_165.out _ | refine IsS122.far ?_ NB0_166.out _ | refine IsS122.far ?_ NB0_170.out _) | exact HI0.out), by repeat (first | (with_reducible first | exact HB.out | apply below_alloc | apply pw_below_drewN | apply below_drew1 | refine below_set ?_ (IsS122.ge HI0.out) | refine below_set ?_ GE165.out | refine below_set ?_ GE166.out | refine below_set ?_ GE170.out) | exact HB.out), by repeat (first | (with_reducible first | exact HK.out | apply KeepBut.set_ | apply keep_drewN | apply keep_drew | apply keep_alloc | refine keep_far ?_ GW165.out _ | refine keep_far ?_ GW166.out _ | refine keep_far ?_ GW170.out _) | exact HK.out)⟩
 }
 {
 rw [if_neg c53] at H
 exact absurd H (by simp)
 }
 }
 {
 rw [if_neg c52] at H
 exact absurd H (by simp)
 }
 }
 {
 rw [if_neg c50] at H
 have c50b0 := beq_eq_false_iff_ne.mpr c50
 have c50b1 := bne_iff_ne.mpr c50
 by_cases c79 : t174 = 2
 {
 rw [if_pos c79] at H
 have c79b0 := beq_iff_eq.mpr c79
 have c79b1 := bne_eq_false_iff_eq.mpr c79
 clear c79
 by_cases c80 : 0 ≤ t171
 {
 rw [if_pos c80] at H
 have c80b0 := decide_eq_true c80
 clear c80
 by_cases c81 : t171 < (t167.length : Int)
 {
 rw [if_pos c81] at H
 have c81b0 := decide_eq_true c81
 clear c81
 obtain ⟨y192, hy192⟩ : ∃ y_ : List Int, y_ = (([0, 1, 1001] : List Int)) := ⟨_, rfl⟩
 replace H : ((spec_l1Int.f s0_0 t175 t176 y192).bind fun bt195 => ((spec_l1Below.f s0_0 bt195.2.1 bt195.2.2 3).bind fun bt198 => (none))) = some (r1, r2, r3) := by first | (rw [hy192]; with_reducible exact H) | (have H2_ := (Option.bind_some _ _).symm.trans H; rw [hy192]; with_reducible exact H2_) | (have H2_ := (Option.bind_some _ _).symm.trans H; with_reducible exact H2_) | with_reducible exact H | (rw [hy192]; exact H) | exact H
 have Ny192 := aM hy192
 clear hy192
 replace H := Option.bind_eq_some_iff.mp H
 obtain ⟨⟨t195, t196, t197⟩, A820, H⟩ := H
 replace H : ((spec_l1Below.f s0_0 t196 t197 3).bind fun bt198 => (none)) = some (r1, r2, r3) := H
 have A82 := aM A820
 clear A820
 replace H := Option.bind_eq_some_iff.mp H
 obtain ⟨⟨t198, t199, t200⟩, A830, H⟩ := H
 replace H : (none) = some (r1, r2, r3) := H
 have A83 := aM A830
 clear A830
 exact absurd H (by simp)
 }
 {
 rw [if_neg c81] at H
 exact absurd H (by simp)
 }
 }
 {
 rw [if_neg c80] at H
 exact absurd H (by simp)
 }
 }
 {
 rw [if_neg c79] at H
 have c79b0 := beq_eq_false_iff_ne.mpr c79
 have c79b1 := bne_iff_ne.mpr c79
 by_cases c84 : t174 = 3
 {
 rw [if_pos c84] at H
 have c84b0 := beq_iff_eq.mpr c84
 have c84b1 := bne_eq_false_iff_eq.mpr c84
 clear c84
 by_cases c85 : 0 < (t167.length : Int)
 {
 rw [if_pos c85] at H
 have c85b0 := decide_eq_true c85
 have c85b1 : decide (0 < t167.length) = true := decide_eq_true (by omega)
 clear c85
 by_cases c86 : t167.length < 3518437208883
 {
 rw [if_pos c86] at H
 have LMc86 := aM c86
 clear c86
 obtain ⟨y202, hy202⟩ : ∃ y_ : List (S79), y_ = (t167 ++ [(⟨(rd_T79 t167 0).f0, (rd_T79 t167 0).f1, (rd_T79 t167 0).f2⟩ : S79)]) := ⟨_, rfl⟩
 replace H : (some (y202, t175, t176)) = some (r1, r2, r3) := by first | (rw [hy202]; with_reducible exact H) | (have H2_ := (Option.bind_some _ _).symm.trans H; rw [hy202]; with_reducible exact H2_) | (have H2_ := (Option.bind_some _ _).symm.trans H; with_reducible exact H2_) | with_reducible exact H | (rw [hy202]; exact H) | exact H
 have Ny202 := aM hy202
 clear hy202
 simp only [Option.some.injEq, Prod.mk.injEq] at H
 obtain ⟨rfl, rfl, rfl⟩ := H
 go_enter Try.func103, Try.ntmps103
 try go_wp2_with (first | ((with_reducible refine gate_dst (N := 3) rfl ?_); refine bx_ 3 #[.slice A1_0 l1_0.length c1_0] 26 ?_; intro gb165 hg w87 hbox hb; have n0_ := aM (IsS122.below qz30 hb); have n1_ := aM (KeepBut.trans qz7 (KeepBut.of_below hb g none) (.inl rfl)); have n2_ := aM (below_step qz31 hb); have n3_ := aM (hbox); have n4_ := aM ((by rw [hg]; exact (keep_size (w := w) (g := g) (row := none) qz7) : w.heap.size ≤ gb165)); have n5_ := aM ((Nat.le_trans HW0.out (by rw [hg]; exact (keep_size (w := w) (g := g) (row := none) qz7) : w.heap.size ≤ gb165) : w0.heap.size ≤ gb165)); have n6_ := aM ((by rw [hg]; exact Nat.ne_of_lt (IsS122.lt (show IsS122 w0 _ g s0_0 s0_1 s0_2 from by repeat (first | (with_reducible first | exact HI0.out | apply IsS122.alloc | apply IsS122.drewN | apply IsS122.drew | apply IsS122.set_1 | apply IsS122.set_2) | exact HI0.out))) : g ≠ gb165)); have n7_ := aM ((by rw [hg]; exact Nat.ne_of_gt (IsS122.lt (show IsS122 w0 _ g s0_0 s0_1 s0_2 from by repeat (first | (with_reducible first | exact HI0.out | apply IsS122.alloc | apply IsS122.drewN | apply IsS122.drew | apply IsS122.set_1 | apply IsS122.set_2) | exact HI0.out))) : gb165 ≠ g)); clear HI0 HK HB; have HI0 := n0_; have HK := n1_; have HB := n2_; have BK165 := n3_; have GW165 := n4_; have GE165 := n5_; have NB0_165 := n6_; have NB165_0 := n7_; clear n0_ n1_ n2_ n3_ n4_ n5_ n6_ n7_; clear hb hbox hg) | ((with_reducible refine gate_dst (N := 4) rfl ?_); refine bx_ 4 #[.slice none 0 0] 26 ?_; intro gb166 hg w88 hbox hb; have n0_ := aM (IsS122.below qz37 hb); have n1_ := aM (blk_below (bk_ BK165.out) hb); have n2_ := aM (KeepBut.trans qz10 (KeepBut.of_below hb g none) (.inl rfl)); have n3_ := aM (below_step qz39 hb); have n4_ := aM (hbox); have n5_ := aM ((by rw [hg]; exact (keep_size (w := w) (g := g) (row := none) qz10) : w.heap.size ≤ gb166)); have n6_ := aM ((Nat.le_trans HW0.out (by rw [hg]; exact (keep_size (w := w) (g := g) (row := none) qz10) : w.heap.size ≤ gb166) : w0.heap.size ≤ gb166)); have n7_ := aM ((by rw [hg]; exact Nat.ne_of_lt (blk_lt (bk_ BK165.out)) : gb165 ≠ gb166)); have n8_ := aM ((by rw [hg]; exact Nat.ne_of_gt (blk_lt (bk_ BK165.out)) : gb166 ≠ gb165)); have n9_ := aM ((by rw [hg]; exact Nat.ne_of_lt (IsS122.lt (show IsS122 w0 _ g s0_0 s0_1 s0_2 from by repeat (first | (with_reducible first | exact HI0.out | apply IsS122.alloc | apply IsS122.drewN | apply IsS122.drew | apply IsS122.set_1 | apply IsS122.set_2 | refine IsS122.far ?_ NB0_165.out _) | exact HI0.out))) : g ≠ gb166)); have n10_ := aM ((by rw [hg]; exact Nat.ne_of_gt (IsS122.lt (show IsS122 w0 _ g s0_0 s0_1 s0_2 from by repeat (first | (with_reducible first | exact HI0.out | apply IsS122.alloc | apply IsS122.drewN | apply IsS122.drew | apply IsS122.set_1 | apply IsS122.set_2 | refine IsS122.far ?_ NB0_165.out _) | exact HI0.out))) : gb166 ≠ g)); clear HI0 BK165 HK HB; have HI0 := n0_; have BK165 := n1_; have HK := n2_; have HB := n3_; have BK166 := n4_; have GW166 := n5_; have GE166 := n6_; have NB165_166 := n7_; have NB166_165 := n8_; have NB0_166 := n9_; have NB166_0 := n10_; clear n0_ n1_ n2_ n3_ n4_ n5_ n6_ n7_ n8_ n9_ n10_; clear hb hbox hg; have hnb89 := NB165_166.out; have hnc89 := NB166_165.out; have hnb90 := NB165_0.out; have hnc90 := NB0_165.out; have hcz91_0 := bc0_ BK165.out; have hfz91_0 := blk_frozen BK165.out 0) | ((with_reducible refine gate_callee (f := 62) rfl ?_); refine goesL_ (some 8) rfl rfl Try.func62 (by kernel_rfl) rfl #[.agg #[.slice A1_0 l1_0.length c1_0]] rfl qz1 ?_; (with_reducible refine (spec_l5Copy.calls k _ _ l1_0 t167 _ ?side1 ?side2 A3.out).mono ?_); (case side1 => exact Kd.C_foot_now HR1_0.out qz3); (case side2 => exact HC1_0.out); rintro e w92 ⟨v168, rfl, ho0, hb⟩; refine ⟨_, rfl, ?_⟩; have n0_ := aM (Kd.N_lower (Kd.N_mono (ok' := fun k_ => (w.heap.size ≤ k_) ∧ k_ ≠ gb165 ∧ k_ ≠ gb166 ∧ k_ ≠ g) (Kd.S_N (Kd.S_bound ho0)) (fun k_ hk_ => ⟨(Nat.le_trans (keep_size (w := w) (g := g) (row := none) qz3) hk_.2.1), (Kd.freshB (bk_ BK165.out) k_ hk_.2.1), (Kd.freshB (bk_ BK166.out) k_ hk_.2.1), (IsS122.fresh qz8 k_ hk_.2.1)⟩)) (keep_size (w := w) (g := g) (row := none) qz3)); have n1_ := aM (IsS122.below qz8 hb); have n2_ := aM (blk_below (bk_ BK165.out) hb); have n3_ := aM (blk_below (bk_ BK166.out) hb); have n4_ := aM (KeepBut.trans qz3 (KeepBut.of_below hb g none) (.inl rfl)); have n5_ := aM (below_step qz14 hb); clear HI0 BK165 BK166 HK HB; have HO169 := n0_; have HI0 := n1_; have BK165 := n2_; have BK166 := n3_; have HK := n4_; have HB := n5_; clear n0_ n1_ n2_ n3_ n4_ n5_; (try clear hb); (try clear hb2); (try clear hk); (try clear hi); (try clear ho0)) | ((with_reducible refine gate_dst (N := 5) rfl ?_); refine bx_ 5 #[.slice none 0 0] 26 ?_; intro gb170 hg w93 hbox hb; have n0_ := aM (Kd.N_below (Kd.N_elderB qz43 gb170 (Nat.le_of_eq hg.symm)) hb); have n1_ := aM (IsS122.below qz8 hb); have n2_ := aM (blk_below (bk_ BK165.out) hb); have n3_ := aM (blk_below (bk_ BK166.out) hb); have n4_ := aM (KeepBut.trans qz3 (KeepBut.of_below hb g none) (.inl rfl)); have n5_ := aM (below_step qz14 hb); have n6_ := aM (hbox); have n7_ := aM ((by rw [hg]; exact (keep_size (w := w) (g := g) (row := none) qz3) : w.heap.size ≤ gb170)); have n8_ := aM ((Nat.le_trans HW0.out (by rw [hg]; exact (keep_size (w := w) (g := g) (row := none) qz3) : w.heap.size ≤ gb170) : w0.heap.size ≤ gb170)); have n9_ := aM ((by rw [hg]; exact Nat.ne_of_lt (blk_lt (bk_ BK165.out)) : gb165 ≠ gb170)); have n10_ := aM ((by rw [hg]; exact Nat.ne_of_gt (blk_lt (bk_ BK165.out)) : gb170 ≠ gb165)); have n11_ := aM ((by rw [hg]; exact Nat.ne_of_lt (blk_lt (bk_ BK166.out)) : gb166 ≠ gb170)); have n12_ := aM ((by rw [hg]; exact Nat.ne_of_gt (blk_lt (bk_ BK166.out)) : gb170 ≠ gb166)); have n13_ := aM ((by rw [hg]; exact Nat.ne_of_lt (IsS122.lt (show IsS122 w0 _ g s0_0 s0_1 s0_2 from by repeat (first | (with_reducible first | exact HI0.out | apply IsS122.alloc | apply IsS122.drewN | apply IsS122.drew | apply IsS122.set_1 | apply IsS122.set_2 | refine IsS122.far ?_ NB0_165.out _ | refine IsS122.far ?_ NB0_166.out _) | exact HI0.out))) : g ≠ gb170)); have n14_ := aM ((by rw [hg]; exact Nat.ne_of_gt (IsS122.lt (show IsS122 w0 _ g s0_0 s0_1 s0_2 from by repeat (first | (with_reducible first | exact HI0.out | apply IsS122.alloc | apply IsS122.drewN | apply IsS122.drew | apply IsS122.set_1 | apply IsS122.set_2 | refine IsS122.far ?_ NB0_165.out _ | refine IsS122.far ?_ NB0_166.out _) | exact HI0.out))) : gb170 ≠ g)); clear HO169 HI0 BK165 BK166 HK HB; have HO169 := n0_; have HI0 := n1_; have BK165 := n2_; have BK166 := n3_; have HK := n4_; have HB := n5_; have BK170 := n6_; have GW170 := n7_; have GE170 := n8_; have NB165_170 := n9_; have NB170_165 := n10_; have NB166_170 := n11_; have NB170_166 := n12_; have NB0_170 := n13_; have NB170_0 := n14_; clear n0_ n1_ n2_ n3_ n4_ n5_ n6_ n7_ n8_ n9_ n10_ n11_ n12_ n13_ n14_; clear hb hbox hg; obtain ⟨Ao94, co94, eo94⟩ := Kd.N_slice HO169.out; subst eo94; have hnb95 := NB170_165.out; have hnc95 := NB165_170.out; have hnb96 := NB170_166.out; have hnc96 := NB166_170.out; have hnb97 := NB170_0.out; have hnc97 := NB0_170.out; have hcz98_0 := bc0_ BK170.out; have hfz98_0 := blk_frozen BK170.out 0) | ((with_reducible refine gate_callee (f := 105) rfl ?_); refine goesL_ (some 18) rfl rfl Try.func105 (by kernel_rfl) rfl #[.pointer (some ⟨g, 0, none⟩), .int .i64 (t167.length : Int)] rfl qz1 ?_; (with_reducible refine (spec_l1Below.calls g s0_0 s0_1 s0_2 (t167.length : Int) t171 t172 t173 w0 _ ?side1 ?side2 A19.out).mono ?_); (case side1 => exact qz9); (case side2 => exact qz11); rintro e w99 ⟨rfl, hi, hb, hk⟩; refine ⟨_, rfl, ?_⟩; have n0_ := aM (KeepBut.blk hk (g' := gb165) (o := .cells #[.slice A1_0 l1_0.length c1_0] 26 (0, 0)) qz65 NB165_0.out (by simp)); have n1_ := aM (KeepBut.blk hk (g' := gb166) (o := .cells #[.slice none 0 0] 26 (0, 0)) qz66 NB166_0.out (by simp)); have n2_ := aM (Kd.N_mono (Kd.N_keep (Kd.N_mono (ok := fun k_ => ((((w.heap.size ≤ k_)) ∧ (k_ ≠ gb165 ∧ (k_ ≠ gb166 ∧ k_ ≠ g))) ∧ k_ ≠ gb170)) (by (with_reducible repeat (first | apply Kd.N_alloc | apply Kd.N_drewN | apply Kd.N_drew)); exact (Kd.N_mono (Kd.N_far (p := ⟨gb170, 0, none⟩) (Kd.N_mono HO169.out (fun k_ hk => (⟨hk, hk.2⟩ : _ ∧ k_ ≠ gb170))) (fun _ hk => hk.2) (.slice Ao94 t167.length co94)) (fun _ h_ => h_.1))) (fun k_ hk_ => (⟨hk_, hk_.1.2.2.2⟩ : _ ∧ k_ ≠ g))) hk (fun _ h => h.2)) (fun _ h => h.1)); have n3_ := aM (KeepBut.blk hk (g' := gb170) (o := .cells #[.slice Ao94 t167.length co94] 26 (0, 0)) (by (with_reducible repeat (first | refine blk_drewN ?_ _ | refine blk_drew ?_ | refine blk_alloc ?_ _)); refine blk_put (cs := #[.slice none 0 0]) ?_ 0 _ rfl; exact bk_ BK170.out) NB170_0.out (by simp)); have n4_ := aM (KeepBut.trans qz5 hk (.inl rfl)); have n5_ := aM (hb); have n6_ := aM (hi); clear BK165 BK166 HO169 BK170 HK HB HI0; have BK165 := n0_; have BK166 := n1_; have HO169 := n2_; have BK170 := n3_; have HK := n4_; have HB := n5_; have HI0 := n6_; clear n0_ n1_ n2_ n3_ n4_ n5_ n6_; (try clear hb); (try clear hb2); (try clear hk); (try clear hi)) | ((with_reducible refine gate_callee (f := 105) rfl ?_); refine goesL_ (some 20) rfl rfl Try.func105 (by kernel_rfl) rfl #[.pointer (some ⟨g, 0, none⟩), .int .i64 6] rfl qz1 ?_; (with_reducible refine (spec_l1Below.calls g s0_0 t172 t173 6 t174 t175 t176 w0 _ ?side1 ?side2 A20.out).mono ?_); (case side1 => exact qz9); (case side2 => exact qz11); rintro e w100 ⟨rfl, hi, hb, hk⟩; refine ⟨_, rfl, ?_⟩; have n0_ := aM (KeepBut.blk hk (bk_ BK165.out) NB165_0.out (by simp)); have n1_ := aM (KeepBut.blk hk (bk_ BK166.out) NB166_0.out (by simp)); have n2_ := aM (Kd.N_mono (Kd.N_keep (Kd.N_mono (ok := fun k_ => ((((w.heap.size ≤ k_)) ∧ (k_ ≠ gb165 ∧ (k_ ≠ gb166 ∧ k_ ≠ g))) ∧ k_ ≠ gb170)) qz43 (fun k_ hk_ => (⟨hk_, hk_.1.2.2.2⟩ : _ ∧ k_ ≠ g))) hk (fun _ h => h.2)) (fun _ h => h.1)); have n3_ := aM (KeepBut.blk hk (bk_ BK170.out) NB170_0.out (by simp)); have n4_ := aM (KeepBut.trans qz5 hk (.inl rfl)); have n5_ := aM (hb); have n6_ := aM (hi); clear BK165 BK166 HO169 BK170 HK HB HI0; have BK165 := n0_; have BK166 := n1_; have HO169 := n2_; have BK170 := n3_; have HK := n4_; have HB := n5_; have HI0 := n6_; clear n0_ n1_ n2_ n3_ n4_ n5_ n6_; (try clear hb); (try clear hb2); (try clear hk); (try clear hi)))
 have n0_ := aM (Kd.N_drew HO169.out)
 have n1_ := aM (blk_drew BK165.out)
 have n2_ := aM (blk_drew BK166.out)
 have n3_ := aM (blk_drew BK170.out)
 have n4_ := aM (IsS122.drew HI0.out)
 have n5_ := aM (keep_drew HK.out)
 have n6_ := aM (below_drew1 HB.out)
 clear HO169
 clear BK165
 clear BK166
 clear BK170
 clear HI0
 clear HK
 clear HB
 have HO169 := n0_
 have BK165 := n1_
 have BK166 := n2_
 have BK170 := n3_
 have HI0 := n4_
 have HK := n5_
 have HB := n6_
 clear n0_ n1_ n2_ n3_ n4_ n5_ n6_
 have p201 : 0 ≤ (0 : Int) := (by omega)
 have q201 : 0 < (t167.length : Int) := of_decide_eq_true qz4
 obtain ⟨ad201, A201_2, c201_2, e201, hx201_0, hx201_1, hx201_2, hl201_2, hi201_2⟩ := at_T79 (Kd.N_reads' HO169.out).2.2 0 p201 q201
 cases e201
 obtain ⟨ce201, hce201, hMe201, hcc201⟩ := Kd.N_get HO169.out z79 0 p201 (by first | exact q201 | exact of_decide_eq_true qz4 | (have e_ := (Kd.N_reads' HO169.out).1; omega))
 obtain ⟨ua201_2, uc201_2, rfl, ul201_2, ge201_2⟩ := k79_openF hMe201
 have hv201_2 := hcc201 2 _ rfl
 rw [add_field _ _ 2 (by omega)] at hv201_2
 replace hv201_2 := Option.some.inj (hv201_2.symm.trans hx201_2)
 injection hv201_2 with hva_ hvn_ hvc_
 rw [hva_] at ge201_2
 rw [hvc_] at ul201_2
 have HL201_2 := aM (show Kd.V k72 72 _ w.heap.size _ _ ((rd_T79 t167 0).f2) from Kd.V_mk ul201_2 ge201_2)
 clear hva_ hvn_ hvc_ ge201_2 ul201_2
 clear hcc201 hce201
 have qi201 : (0 < t167.length) = True := eq_true (by omega)
 (try rw [show ((0 : Int)).toNat = 0 from rfl] at hx201_0)
 (try rw [show 0 * 3 = 0 from rfl] at hx201_0)
 (try rw [Addr.add_zero'] at hx201_0)
 (try rw [show ((0 : Int)).toNat = 0 from rfl] at hx201_1)
 (try rw [show 0 * 3 = 0 from rfl] at hx201_1)
 (try rw [Addr.add_zero'] at hx201_1)
 (try rw [show ((0 : Int)).toNat = 0 from rfl] at hx201_2)
 (try rw [show 0 * 3 = 0 from rfl] at hx201_2)
 (try rw [Addr.add_zero'] at hx201_2)
 have HR201_2 := aM hi201_2
 have HC201_2 := aM hl201_2
 clear hi201_2 hl201_2
 replace p201 := eq_true p201
 replace q201 := eq_true q201
 refine start_ (n := 10) (S := fun w' => w'.cell? ⟨gb170, 0, none⟩ = some (.slice (some ad201) t167.length co94) ∧ w'.cell? ad201 = some (.int .i64 ((rd_T79 t167 0).f0)) ∧ w'.cell? ⟨ad201.block, ad201.off + 1, none⟩ = some (.int .i64 ((rd_T79 t167 0).f1)) ∧ w'.cell? ⟨ad201.block, ad201.off + 2, none⟩ = some (.slice A201_2 ((rd_T79 t167 0).f2).length c201_2)) (ds := [7, 9]) #[false, false, false, false, false, false, false, false, false, false] (by kernel_rfl) rfl rfl ⟨(blk_cell BK170.out 0).trans rfl, hx201_0, hx201_1, hx201_2⟩ (fun hHeld => ?_); refine with_tabW spec_l5BendN.tab13 spec_l5BendN.bits13 (fun HT_ HW_ => ?_)
 generalize w100.drew = w101 at HO169 BK165 BK166 BK170 HI0 HK HB HL201_2 HR201_2 hx201_0 hx201_1 hx201_2 hHeld ⊢
 refine pI_ 0 64 (bqz 10 1) ?_
 refine pI_ 2 66 (bqz 10 5) ?_
 refine tI4_ 1 65 (bqz 10 7) ?_
 refine tI4_ 3 67 (bqz 10 15) ?_
 refine pI_ 4 68 (bqz 10 31) ?_
 refine tI4_ 5 69 (bqz 10 63) ?_
 refine one_ (i := 6) (N := some 70) (bqz 10 127) rfl rfl qzc (by decide) (fun K hK => ?_)
 refine value_ (w1 := ?_) (v := ?_) (by rfl) rfl ?_ ?_
 rotate_left 2
 {
 go_simp
 constructor
 {
 rfl
 }
 {
 rfl
 }
 }
 refine hK.out _ _ ⟨(blk_cell (blk_alloc BK170.out _) 0).trans rfl, (World.cell?_alloc_lt _ _ _ (World.block_lt_of_cell? _ _ (hHeld.2.1))).trans (hHeld.2.1), (World.cell?_alloc_lt _ _ _ (World.block_lt_of_cell? _ _ (hHeld.2.2.1))).trans (hHeld.2.2.1), (World.cell?_alloc_lt _ _ _ (World.block_lt_of_cell? _ _ (hHeld.2.2.2))).trans (hHeld.2.2.2)⟩ (fun hHeld => ?_)
 clear hK K
 refine norm_ (a' := ?_) ?_ ?_
 rotate_left
 {
 show Act.put _ (some 70) _ = _
 simp only [qzs]
 rfl
 }
 refine last_ (i := 7) (N := some 71) (bqz 10 255) rfl rfl qzc (by decide) (fun K hK => ?_)
 refine Kd.N_append_step k79 w.heap.size (by rfl) (.tmp 65) (.tmp 70) 24 79 (.agg #[(.int .i64 0), (.int .i64 0), (.slice none 0 0)]) 40 rfl Try.underlying24 info79 rfl (by decide) (by omega) (.slice (some ad201) t167.length co94) t167 (⟨(rd_T79 t167 0).f0, (rd_T79 t167 0).f1, (rd_T79 t167 0).f2⟩ : S79) [.int .i64 ((rd_T79 t167 0).f0), .int .i64 ((rd_T79 t167 0).f1), .slice A201_2 ((rd_T79 t167 0).f2).length c201_2] (fun k_ => (w.heap.size ≤ k_) ∧ k_ ≠ gb165 ∧ k_ ≠ gb166 ∧ k_ ≠ gb170 ∧ k_ ≠ g) (fun k_ => ((fun k_ => (w.heap.size ≤ k_) ∧ k_ ≠ gb165 ∧ k_ ≠ gb166 ∧ k_ ≠ gb170 ∧ k_ ≠ g)) k_ ∧ some k_ ≠ (.slice (some ad201) t167.length co94 : Value).ownBlock) rfl rfl ?aP (fun _ hk => hk) ?aF ?aO (Below.refl _ _) ?aS ?aL ?_
 (case aP => exact (k79_mkF _ _ (⟨(rd_T79 t167 0).f0, (rd_T79 t167 0).f1, (rd_T79 t167 0).f2⟩ : S79) (Kd.V_reads' (Kd.V_mono (ok' := (fun k_ => ((fun k_ => (w.heap.size ≤ k_) ∧ k_ ≠ gb165 ∧ k_ ≠ gb166 ∧ k_ ≠ gb170 ∧ k_ ≠ g)) k_ ∧ some k_ ≠ (.slice (some ad201) t167.length co94 : Value).ownBlock)) (HL201_2.out) (fun k_ hk => ⟨⟨hk.1.1.1, ⟨hk.1.1.2.1, ⟨hk.1.1.2.2.1, ⟨hk.1.2, hk.1.1.2.2.2⟩⟩⟩⟩, hk.2⟩))).2.1 (Kd.V_F (Kd.V_mono (ok' := (fun k_ => ((fun k_ => (w.heap.size ≤ k_) ∧ k_ ≠ gb165 ∧ k_ ≠ gb166 ∧ k_ ≠ gb170 ∧ k_ ≠ g)) k_ ∧ some k_ ≠ (.slice (some ad201) t167.length co94 : Value).ownBlock)) (HL201_2.out) (fun k_ hk => ⟨⟨hk.1.1.1, ⟨hk.1.1.2.1, ⟨hk.1.1.2.2.1, ⟨hk.1.2, hk.1.1.2.2.2⟩⟩⟩⟩, hk.2⟩)))))
 (case aF => exact (fun k_ hk => ⟨(Nat.le_trans (keep_size (w := w) (g := g) (row := none) qz5) hk), Kd.freshB (bk_ BK165.out) k_ hk, Kd.freshB (bk_ BK166.out) k_ hk, Kd.freshB (bk_ BK170.out) k_ hk, IsS122.fresh qz9 k_ hk⟩))
 (case aO => exact (by (with_reducible repeat (first | apply Kd.N_alloc | apply Kd.N_drewN | apply Kd.N_drew)); exact Kd.N_mono HO169.out (fun _ hk => ⟨hk.1.1, ⟨hk.1.2.1, ⟨hk.1.2.2.1, ⟨hk.2, hk.1.2.2.2⟩⟩⟩⟩)))
 (case aS => exact (keep_size (w := w) (g := g) (row := none) qz5))
 (case aL => have := LMc86.out; omega)
 intro v203 w102 ho hb hg hat
 rw [← Ny202.out] at ho
 have n0_ := aM (IsS122.grown qz9 hg (IsS122.own_neN HI0.out HO169.out (by decide)))
 have n1_ := aM (blk_grown (bk_ BK165.out) hg (Kd.N_ne HO169.out BK165.out (by decide)))
 have n2_ := aM (blk_grown (bk_ BK166.out) hg (Kd.N_ne HO169.out BK166.out (by decide)))
 have n3_ := aM (blk_grown (bk_ BK170.out) hg (Kd.N_ne HO169.out BK170.out (by decide)))
 have n4_ := aM (Kd.V_afterv (ok := (fun k_ => (w.heap.size ≤ k_) ∧ k_ ≠ gb165 ∧ k_ ≠ gb166 ∧ k_ ≠ g ∧ k_ ≠ gb170)) (by (with_reducible repeat (first | apply Kd.V_alloc | apply Kd.V_drewN | apply Kd.V_drew)); exact Kd.V_mono HL201_2.out (fun _ hk => ⟨⟨hk.1.1.1, ⟨hk.1.1.2.1, ⟨hk.1.1.2.2.1, ⟨hk.1.1.2.2.2, hk.1.2⟩⟩⟩⟩, hk.2⟩)) hg hat)
 have n5_ := aM (below_weaken qz11 HL.out hb)
 have n6_ := aM (KeepBut.trans qz5 (KeepBut.of_grown hg g) (Kd.N_base2 HO169.out))
 have n7_ := aM (ho)
 clear HI0
 clear BK165
 clear BK166
 clear BK170
 clear HL201_2
 clear HB
 clear HK
 clear HO169
 have HI0 := n0_
 have BK165 := n1_
 have BK166 := n2_
 have BK170 := n3_
 have HL201_2 := n4_
 have HB := n5_
 have HK := n6_
 have HO204 := n7_
 clear n0_ n1_ n2_ n3_ n4_ n5_ n6_ n7_
 clear ho hb hg hat
 obtain ⟨Ao103, co103, eo103⟩ := Kd.N_slice HO204.out
 (first | subst eo103 | (injection eo103 with f1_ f2_ f3_; have f4_ := f1_.symm; have f5_ := f3_.symm; clear f1_ f2_ f3_; subst f4_; subst f5_))
 refine hK.out _ _ ?_
 clear hK K
 refine norm_ (a' := ?_) ?_ ?_
 rotate_left
 {
 show Act.put _ (some 71) _ = _
 simp only [qzs]
 rfl
 }
 refine pI_ 8 72 (bqz 10 511) ?_
 refine last_ (i := 9) (N := none) (bqz 10 1023) rfl rfl qzc (by decide) (fun K hK => ?_)
 have hs104 : w102.cell? ⟨gb170, 0, none⟩ = some (.slice (some ad201) t167.length co94) := (blk_cell BK170.out 0).trans rfl
 have hfs104 := blk_frozen BK170.out 0
 have hns104_0 := NB165_170.out
 have hns104_1 := NB166_170.out
 have hms104_0 := NB170_165.out
 have hms104_1 := NB170_166.out
 refine skip_ (w1 := ?_) (by rfl) rfl ?_ ?_
 rotate_left
 {
 go_simp
 rfl
 }
 refine hK.out _ _ ?_
 clear hK K
 refine done_ (done_of HT_.out (by kernel_rfl)) ?_
 have hcz105_0 := bc0_ BK170.out
 have hfz105_0 := blk_frozen BK170.out 0
 have hnb106 := NB166_0.out
 have hnc106 := NB0_166.out
 have hcz107_0 := bc0_ BK166.out
 have hfz107_0 := blk_frozen BK166.out 0
 try go_wp2
 refine bodyPost_ret (results_cell_row rfl _ _ gb166 26 #[.slice Ao103 y202.length co103] (0, 0) _ rfl (by (with_reducible repeat (first | refine blk_drewN ?_ _ | refine blk_drew ?_ | refine blk_alloc ?_ _)); refine blk_put (cs := #[.slice none 0 0]) ?_ 0 _ rfl; (with_reducible repeat (first | refine blk_drewN ?_ _ | refine blk_drew ?_ | refine blk_alloc ?_ _)); refine blk_far ?_ NB166_170.out _; exact bk_ BK166.out) Try.underlying26 rfl (by kernel_rfl)) rfl ?_
 exact ⟨_, by first | rfl | (simp [errW_none, errW_some] <;> rfl) | (simp [*, errW_none, errW_some] <;> rfl), by (with_reducible repeat (first | apply Kd.N_alloc | apply Kd.N_drewN | apply Kd.N_drew)); exact Kd.N_mono (Kd.N_far (p := ⟨gb166, 0, none⟩) (Kd.N_far (p := ⟨gb170, 0, none⟩) (Kd.N_mono (Kd.N_mono HO204.out (fun k_ hk => (⟨hk, hk.2.2.2.1⟩ : _ ∧ k_ ≠ gb170))) (fun k_ hk => (⟨hk, hk.1.2.2.1⟩ : _ ∧ k_ ≠ gb166))) (fun _ hk => hk.1.2) (.slice Ao103 y202.length co103)) (fun _ hk => hk.2) (.slice Ao103 y202.length co103)) (fun _ hk => hk.1.1.1), by repeat (first | (with_reducible first | exact HI0.out | apply IsS122.alloc | apply IsS122.drewN | apply IsS122.drew | apply IsS122.set_1 | apply IsS122.set_2 | refine IsS122.far ?_ NB0_165.out _ | refine IsS122.far ?_ NB0_166.out _ | refine IsS122.far ?_ NB0_170.out _) | exact HI0.out), by repeat (first | (with_reducible first | exact HB.out | apply below_alloc | apply pw_below_drewN | apply below_drew1 | refine below_set ?_ (IsS122.ge HI0.out) | refine below_set ?_ GE165.out | refine below_set ?_ GE166.out | refine below_set ?_ GE170.out) | exact HB.out), by repeat (first | (with_reducible first | exact HK.out | apply KeepBut.set_ | apply keep_drewN | apply keep_drew | apply keep_alloc | refine keep_far ?_ GW165.out _ | refine keep_far ?_ GW166.out _ | refine keep_far ?_ GW170.out _) | exact HK.out)⟩
 }
 {
 rw [if_neg c86] at H
 exact absurd H (by simp)
 }
 }
 {
 rw [if_neg c85] at H
 exact absurd H (by simp)
 }
 }
 {
 rw [if_neg c84] at H
 have c84b0 := beq_eq_false_iff_ne.mpr c84
 have c84b1 := bne_iff_ne.mpr c84
 simp only [Option.some.injEq, Prod.mk.injEq] at H
 obtain ⟨rfl, rfl, rfl⟩ := H
 go_enter Try.func103, Try.ntmps103
 go_wp2_with (first | ((with_reducible refine gate_dst (N := 3) rfl ?_); refine bx_ 3 #[.slice A1_0 l1_0.length c1_0] 26 ?_; intro gb165 hg w108 hbox hb; have n0_ := aM (IsS122.below qz30 hb); have n1_ := aM (KeepBut.trans qz7 (KeepBut.of_below hb g none) (.inl rfl)); have n2_ := aM (below_step qz31 hb); have n3_ := aM (hbox); have n4_ := aM ((by rw [hg]; exact (keep_size (w := w) (g := g) (row := none) qz7) : w.heap.size ≤ gb165)); have n5_ := aM ((Nat.le_trans HW0.out (by rw [hg]; exact (keep_size (w := w) (g := g) (row := none) qz7) : w.heap.size ≤ gb165) : w0.heap.size ≤ gb165)); have n6_ := aM ((by rw [hg]; exact Nat.ne_of_lt (IsS122.lt (show IsS122 w0 _ g s0_0 s0_1 s0_2 from by repeat (first | (with_reducible first | exact HI0.out | apply IsS122.alloc | apply IsS122.drewN | apply IsS122.drew | apply IsS122.set_1 | apply IsS122.set_2) | exact HI0.out))) : g ≠ gb165)); have n7_ := aM ((by rw [hg]; exact Nat.ne_of_gt (IsS122.lt (show IsS122 w0 _ g s0_0 s0_1 s0_2 from by repeat (first | (with_reducible first | exact HI0.out | apply IsS122.alloc | apply IsS122.drewN | apply IsS122.drew | apply IsS122.set_1 | apply IsS122.set_2) | exact HI0.out))) : gb165 ≠ g)); clear HI0 HK HB; have HI0 := n0_; have HK := n1_; have HB := n2_; have BK165 := n3_; have GW165 := n4_; have GE165 := n5_; have NB0_165 := n6_; have NB165_0 := n7_; clear n0_ n1_ n2_ n3_ n4_ n5_ n6_ n7_; clear hb hbox hg) | ((with_reducible refine gate_dst (N := 4) rfl ?_); refine bx_ 4 #[.slice none 0 0] 26 ?_; intro gb166 hg w109 hbox hb; have n0_ := aM (IsS122.below qz37 hb); have n1_ := aM (blk_below (bk_ BK165.out) hb); have n2_ := aM (KeepBut.trans qz10 (KeepBut.of_below hb g none) (.inl rfl)); have n3_ := aM (below_step qz39 hb); have n4_ := aM (hbox); have n5_ := aM ((by rw [hg]; exact (keep_size (w := w) (g := g) (row := none) qz10) : w.heap.size ≤ gb166)); have n6_ := aM ((Nat.le_trans HW0.out (by rw [hg]; exact (keep_size (w := w) (g := g) (row := none) qz10) : w.heap.size ≤ gb166) : w0.heap.size ≤ gb166)); have n7_ := aM ((by rw [hg]; exact Nat.ne_of_lt (blk_lt (bk_ BK165.out)) : gb165 ≠ gb166)); have n8_ := aM ((by rw [hg]; exact Nat.ne_of_gt (blk_lt (bk_ BK165.out)) : gb166 ≠ gb165)); have n9_ := aM ((by rw [hg]; exact Nat.ne_of_lt (IsS122.lt (show IsS122 w0 _ g s0_0 s0_1 s0_2 from by repeat (first | (with_reducible first | exact HI0.out | apply IsS122.alloc | apply IsS122.drewN | apply IsS122.drew | apply IsS122.set_1 | apply IsS122.set_2 | refine IsS122.far ?_ NB0_165.out _) | exact HI0.out))) : g ≠ gb166)); have n10_ := aM ((by rw [hg]; exact Nat.ne_of_gt (IsS122.lt (show IsS122 w0 _ g s0_0 s0_1 s0_2 from by repeat (first | (with_reducible first | exact HI0.out | apply IsS122.alloc | apply IsS122.drewN | apply IsS122.drew | apply IsS122.set_1 | apply IsS122.set_2 | refine IsS122.far ?_ NB0_165.out _) | exact HI0.out))) : gb166 ≠ g)); clear HI0 BK165 HK HB; have HI0 := n0_; have BK165 := n1_; have HK := n2_; have HB := n3_; have BK166 := n4_; have GW166 := n5_; have GE166 := n6_; have NB165_166 := n7_; have NB166_165 := n8_; have NB0_166 := n9_; have NB166_0 := n10_; clear n0_ n1_ n2_ n3_ n4_ n5_ n6_ n7_ n8_ n9_ n10_; clear hb hbox hg; have hnb110 := NB165_166.out; have hnc110 := NB166_165.out; have hnb111 := NB165_0.out; have hnc111 := NB0_165.out; have hcz112_0 := bc0_ BK165.out; have hfz112_0 := blk_frozen BK165.out 0) | ((with_reducible refine gate_callee (f := 62) rfl ?_); refine goesL_ (some 8) rfl rfl Try.func62 (by kernel_rfl) rfl #[.agg #[.slice A1_0 l1_0.length c1_0]] rfl qz1 ?_; (with_reducible refine (spec_l5Copy.calls k _ _ l1_0 t167 _ ?side1 ?side2 A3.out).mono ?_); (case side1 => exact Kd.C_foot_now HR1_0.out qz3); (case side2 => exact HC1_0.out); rintro e w113 ⟨v168, rfl, ho0, hb⟩; refine ⟨_, rfl, ?_⟩; have n0_ := aM (Kd.N_lower (Kd.N_mono (ok' := fun k_ => (w.heap.size ≤ k_) ∧ k_ ≠ gb165 ∧ k_ ≠ gb166 ∧ k_ ≠ g) (Kd.S_N (Kd.S_bound ho0)) (fun k_ hk_ => ⟨(Nat.le_trans (keep_size (w := w) (g := g) (row := none) qz3) hk_.2.1), (Kd.freshB (bk_ BK165.out) k_ hk_.2.1), (Kd.freshB (bk_ BK166.out) k_ hk_.2.1), (IsS122.fresh qz8 k_ hk_.2.1)⟩)) (keep_size (w := w) (g := g) (row := none) qz3)); have n1_ := aM (IsS122.below qz8 hb); have n2_ := aM (blk_below (bk_ BK165.out) hb); have n3_ := aM (blk_below (bk_ BK166.out) hb); have n4_ := aM (KeepBut.trans qz3 (KeepBut.of_below hb g none) (.inl rfl)); have n5_ := aM (below_step qz14 hb); clear HI0 BK165 BK166 HK HB; have HO169 := n0_; have HI0 := n1_; have BK165 := n2_; have BK166 := n3_; have HK := n4_; have HB := n5_; clear n0_ n1_ n2_ n3_ n4_ n5_; (try clear hb); (try clear hb2); (try clear hk); (try clear hi); (try clear ho0)) | ((with_reducible refine gate_dst (N := 5) rfl ?_); refine bx_ 5 #[.slice none 0 0] 26 ?_; intro gb170 hg w114 hbox hb; have n0_ := aM (Kd.N_below (Kd.N_elderB qz43 gb170 (Nat.le_of_eq hg.symm)) hb); have n1_ := aM (IsS122.below qz8 hb); have n2_ := aM (blk_below (bk_ BK165.out) hb); have n3_ := aM (blk_below (bk_ BK166.out) hb); have n4_ := aM (KeepBut.trans qz3 (KeepBut.of_below hb g none) (.inl rfl)); have n5_ := aM (below_step qz14 hb); have n6_ := aM (hbox); have n7_ := aM ((by rw [hg]; exact (keep_size (w := w) (g := g) (row := none) qz3) : w.heap.size ≤ gb170)); have n8_ := aM ((Nat.le_trans HW0.out (by rw [hg]; exact (keep_size (w := w) (g := g) (row := none) qz3) : w.heap.size ≤ gb170) : w0.heap.size ≤ gb170)); have n9_ := aM ((by rw [hg]; exact Nat.ne_of_lt (blk_lt (bk_ BK165.out)) : gb165 ≠ gb170)); have n10_ := aM ((by rw [hg]; exact Nat.ne_of_gt (blk_lt (bk_ BK165.out)) : gb170 ≠ gb165)); have n11_ := aM ((by rw [hg]; exact Nat.ne_of_lt (blk_lt (bk_ BK166.out)) : gb166 ≠ gb170)); have n12_ := aM ((by rw [hg]; exact Nat.ne_of_gt (blk_lt (bk_ BK166.out)) : gb170 ≠ gb166)); have n13_ := aM ((by rw [hg]; exact Nat.ne_of_lt (IsS122.lt (show IsS122 w0 _ g s0_0 s0_1 s0_2 from by repeat (first | (with_reducible first | exact HI0.out | apply IsS122.alloc | apply IsS122.drewN | apply IsS122.drew | apply IsS122.set_1 | apply IsS122.set_2 | refine IsS122.far ?_ NB0_165.out _ | refine IsS122.far ?_ NB0_166.out _) | exact HI0.out))) : g ≠ gb170)); have n14_ := aM ((by rw [hg]; exact Nat.ne_of_gt (IsS122.lt (show IsS122 w0 _ g s0_0 s0_1 s0_2 from by repeat (first | (with_reducible first | exact HI0.out | apply IsS122.alloc | apply IsS122.drewN | apply IsS122.drew | apply IsS122.set_1 | apply IsS122.set_2 | refine IsS122.far ?_ NB0_165.out _ | refine IsS122.far ?_ NB0_166.out _) | exact HI0.out))) : gb170 ≠ g)); clear HO169 HI0 BK165 BK166 HK HB; have HO169 := n0_; have HI0 := n1_; have BK165 := n2_; have BK166 := n3_; have HK := n4_; have HB := n5_; have BK170 := n6_; have GW170 := n7_; have GE170 := n8_; have NB165_170 := n9_; have NB170_165 := n10_; have NB166_170 := n11_; have NB170_166 := n12_; have NB0_170 := n13_; have NB170_0 := n14_; clear n0_ n1_ n2_ n3_ n4_ n5_ n6_ n7_ n8_ n9_ n10_ n11_ n12_ n13_ n14_; clear hb hbox hg; obtain ⟨Ao115, co115, eo115⟩ := Kd.N_slice HO169.out; subst eo115; have hnb116 := NB170_165.out; have hnc116 := NB165_170.out; have hnb117 := NB170_166.out; have hnc117 := NB166_170.out; have hnb118 := NB170_0.out; have hnc118 := NB0_170.out; have hcz119_0 := bc0_ BK170.out; have hfz119_0 := blk_frozen BK170.out 0) | ((with_reducible refine gate_callee (f := 105) rfl ?_); refine goesL_ (some 18) rfl rfl Try.func105 (by kernel_rfl) rfl #[.pointer (some ⟨g, 0, none⟩), .int .i64 (t167.length : Int)] rfl qz1 ?_; (with_reducible refine (spec_l1Below.calls g s0_0 s0_1 s0_2 (t167.length : Int) t171 t172 t173 w0 _ ?side1 ?side2 A19.out).mono ?_); (case side1 => exact qz9); (case side2 => exact qz11); rintro e w120 ⟨rfl, hi, hb, hk⟩; refine ⟨_, rfl, ?_⟩; have n0_ := aM (KeepBut.blk hk (g' := gb165) (o := .cells #[.slice A1_0 l1_0.length c1_0] 26 (0, 0)) qz65 NB165_0.out (by simp)); have n1_ := aM (KeepBut.blk hk (g' := gb166) (o := .cells #[.slice none 0 0] 26 (0, 0)) qz66 NB166_0.out (by simp)); have n2_ := aM (Kd.N_mono (Kd.N_keep (Kd.N_mono (ok := fun k_ => ((((w.heap.size ≤ k_)) ∧ (k_ ≠ gb165 ∧ (k_ ≠ gb166 ∧ k_ ≠ g))) ∧ k_ ≠ gb170)) (by (with_reducible repeat (first | apply Kd.N_alloc | apply Kd.N_drewN | apply Kd.N_drew)); exact (Kd.N_mono (Kd.N_far (p := ⟨gb170, 0, none⟩) (Kd.N_mono HO169.out (fun k_ hk => (⟨hk, hk.2⟩ : _ ∧ k_ ≠ gb170))) (fun _ hk => hk.2) (.slice Ao115 t167.length co115)) (fun _ h_ => h_.1))) (fun k_ hk_ => (⟨hk_, hk_.1.2.2.2⟩ : _ ∧ k_ ≠ g))) hk (fun _ h => h.2)) (fun _ h => h.1)); have n3_ := aM (KeepBut.blk hk (g' := gb170) (o := .cells #[.slice Ao115 t167.length co115] 26 (0, 0)) (by (with_reducible repeat (first | refine blk_drewN ?_ _ | refine blk_drew ?_ | refine blk_alloc ?_ _)); refine blk_put (cs := #[.slice none 0 0]) ?_ 0 _ rfl; exact bk_ BK170.out) NB170_0.out (by simp)); have n4_ := aM (KeepBut.trans qz5 hk (.inl rfl)); have n5_ := aM (hb); have n6_ := aM (hi); clear BK165 BK166 HO169 BK170 HK HB HI0; have BK165 := n0_; have BK166 := n1_; have HO169 := n2_; have BK170 := n3_; have HK := n4_; have HB := n5_; have HI0 := n6_; clear n0_ n1_ n2_ n3_ n4_ n5_ n6_; (try clear hb); (try clear hb2); (try clear hk); (try clear hi)) | ((with_reducible refine gate_callee (f := 105) rfl ?_); refine goesL_ (some 20) rfl rfl Try.func105 (by kernel_rfl) rfl #[.pointer (some ⟨g, 0, none⟩), .int .i64 6] rfl qz1 ?_; (with_reducible refine (spec_l1Below.calls g s0_0 t172 t173 6 t174 t175 t176 w0 _ ?side1 ?side2 A20.out).mono ?_); (case side1 => exact qz9); (case side2 => exact qz11); rintro e w121 ⟨rfl, hi, hb, hk⟩; refine ⟨_, rfl, ?_⟩; have n0_ := aM (KeepBut.blk hk (bk_ BK165.out) NB165_0.out (by simp)); have n1_ := aM (KeepBut.blk hk (bk_ BK166.out) NB166_0.out (by simp)); have n2_ := aM (Kd.N_mono (Kd.N_keep (Kd.N_mono (ok := fun k_ => ((((w.heap.size ≤ k_)) ∧ (k_ ≠ gb165 ∧ (k_ ≠ gb166 ∧ k_ ≠ g))) ∧ k_ ≠ gb170)) qz43 (fun k_ hk_ => (⟨hk_, hk_.1.2.2.2⟩ : _ ∧ k_ ≠ g))) hk (fun _ h => h.2)) (fun _ h => h.1)); have n3_ := aM (KeepBut.blk hk (bk_ BK170.out) NB170_0.out (by simp)); have n4_ := aM (KeepBut.trans qz5 hk (.inl rfl)); have n5_ := aM (hb); have n6_ := aM (hi); clear BK165 BK166 HO169 BK170 HK HB HI0; have BK165 := n0_; have BK166 := n1_; have HO169 := n2_; have BK170 := n3_; have HK := n4_; have HB := n5_; have HI0 := n6_; clear n0_ n1_ n2_ n3_ n4_ n5_ n6_; (try clear hb); (try clear hb2); (try clear hk); (try clear hi); have hcz122_0 := bc0_ BK170.out; have hfz122_0 := blk_frozen BK170.out 0; have hnb123 := NB166_0.out; have hnc123 := NB0_166.out; have hcz124_0 := bc0_ BK166.out; have hfz124_0 := blk_frozen BK166.out 0))
 refine bodyPost_ret (results_cell_row rfl _ _ gb166 26 #[.slice Ao115 t167.length co115] (0, 0) _ rfl (by (with_reducible repeat (first | refine blk_drewN ?_ _ | refine blk_drew ?_ | refine blk_alloc ?_ _)); refine blk_put (cs := #[.slice none 0 0]) ?_ 0 _ rfl; exact bk_ BK166.out) Try.underlying26 rfl (by kernel_rfl)) rfl ?_
 exact ⟨_, by first | rfl | (simp [errW_none, errW_some] <;> rfl) | (simp [*, errW_none, errW_some] <;> rfl), by (with_reducible repeat (first | apply Kd.N_alloc | apply Kd.N_drewN | apply Kd.N_drew)); exact Kd.N_mono (Kd.N_far (p := ⟨gb166, 0, none⟩) (Kd.N_mono HO169.out (fun k_ hk => (⟨hk, hk.1.2.2.1⟩ : _ ∧ k_ ≠ gb166))) (fun _ hk => hk.2) (.slice Ao115 t167.length co115)) (fun _ hk => hk.1.1.1), by repeat (first | (with_reducible first | exact HI0.out | apply IsS122.alloc | apply IsS122.drewN | apply IsS122.drew | apply IsS122.set_1 | apply IsS122.set_2 | refine IsS122.far ?_ NB0_165.out _ | refine IsS122.far ?_ NB0_166.out _ | refine IsS122.far ?_ NB0_170.out _) | exact HI0.out), by repeat (first | (with_reducible first | exact HB.out | apply below_alloc | apply pw_below_drewN | apply below_drew1 | refine below_set ?_ (IsS122.ge HI0.out) | refine below_set ?_ GE165.out | refine below_set ?_ GE166.out | refine below_set ?_ GE170.out) | exact HB.out), by repeat (first | (with_reducible first | exact HK.out | apply KeepBut.set_ | apply keep_drewN | apply keep_drew | apply keep_alloc | refine keep_far ?_ GW165.out _ | refine keep_far ?_ GW166.out _ | refine keep_far ?_ GW170.out _) | exact HK.out)⟩

 }
 }
 }
 }
 }
/-! ### spec_l5BendS: function 103 -/
def spec_l5BendS.f (k : Nat) (s0_0 : List Int) (s0_1 : Int) (s0_2 : Int) (l1_0 : List (S79)) : Option ((List (S79)) × Int × Int) := (spec_l5Copy.f k l1_0).bind fun t167 => (if (t167.length : Int) = 0 then (some (t167, s0_1, s0_2)) else ((spec_l1Below.f s0_0 s0_1 s0_2 (t167.length : Int)).bind fun bt171 => ((spec_l1Below.f s0_0 bt171.2.1 bt171.2.2 6).bind fun bt174 => (if bt174.1 = 0 then (none) else (if bt174.1 = 1 then (none) else (if bt174.1 = 2 then (if 0 ≤ bt171.1 then (if bt171.1 < (t167.length : Int) then ((spec_l1Int.f s0_0 bt174.2.1 bt174.2.2 (([0, 1, 1001] : List Int))).bind fun bt181 => ((spec_l1Below.f s0_0 bt181.2.1 bt181.2.2 3).bind fun bt184 => (if ((rd_T79 t167 bt171.1).f2).length < 5864062014805 then (some ((t167.set (bt171.1 : Int).toNat (⟨(rd_T79 t167 bt171.1).f0, (rd_T79 t167 bt171.1).f1, (((rd_T79 t167 bt171.1).f2) ++ [(⟨9, bt181.1, bt184.1⟩ : S72)])⟩ : S79)), bt184.2.1, bt184.2.2)) else (none)))) else (none)) else (none)) else (if bt174.1 = 3 then (if 0 < (t167.length : Int) then (none) else (none)) else (some (t167, bt174.2.1, bt174.2.2)))))))))
theorem spec_l5BendS.mono : ∀ a0 a1 a2 a3 k, LeO (spec_l5BendS.f k a0 a1 a2 a3) (spec_l5BendS.f (k + 1) a0 a1 a2 a3) := by
 intro a0 a1 a2 a3 k
 unfold spec_l5BendS.f
 repeat' first
  | (with_reducible first | exact spec_l5Copy.mono _ _ | exact LeO.refl _ | exact LeO.none _ | refine LeO.ite ?_ ?_ | refine LeO.bind ?_ (fun _ => ?_))
  | exact spec_l5Copy.mono _ _
  | exact LeO.none _
  | refine LeO.ite ?_ ?_
  | refine LeO.bind ?_ (fun _ => ?_)
def spec_l5BendS.T11 : Bool × List (List Nat × List Nat) := (true, [([], []), ([0], [0]), ([], []), ([], []), ([3], [3]), ([], []), ([4, 5], [4, 5]), ([6], [6]), ([7], [7]), ([], []), ([], []), ([9, 10], [9, 10]), ([], []), ([12, 11], [12]), ([11, 13], [11, 13]), ([14], [14]), ([8, 15, 13], [8, 15]), ([1, 2, 0, 1, 2, 3, 4, 5, 6, 7, 8, 9, 10, 11, 12, 13, 14, 15, 16], [1, 2]), ([17, 0, 1, 2, 3, 4, 5, 6, 7, 8, 9, 10, 11, 12, 13, 14, 15, 16], [17]), ([18, 16, 16, 0, 1, 2, 3, 4, 5, 6, 7, 8, 9, 10, 11, 12, 13, 14, 15, 16], [16, 18])])
def spec_l5BendS.B11 : List Nat := [0, 1, 0, 0, 8, 0, 56, 120, 248, 0, 0, 1536, 0, 7680, 15872, 32256, 65528, 131071, 262143, 524287]
theorem spec_l5BendS.tab11 : rtab .any (opsOf Try.f103 11) = spec_l5BendS.T11 := by kernel_rfl
theorem spec_l5BendS.bits11 : waitsOk spec_l5BendS.T11.2 spec_l5BendS.B11 = true := by kernel_rfl
set_option maxHeartbeats 8000000 in
set_option maxRecDepth 100000 in
theorem spec_l5BendS.calls (k : Nat) (g : Nat) (s0_0 : List Int) (s0_1 : Int) (s0_2 : Int) (A1_0 : Option Addr) (c1_0 : Nat) (l1_0 : List (S79)) (r1 : List (S79)) (r2 : Int) (r3 : Int) (w0 w : World) (hI : IsS122 w0 w g s0_0 s0_1 s0_2) (hB : Below w0.heap.size w0 w) (hr1_0 : ∀ W_, KeepBut w W_ g none → Kd.C k79 W_ A1_0 l1_0.length l1_0) (hc1_0 : l1_0.length ≤ c1_0) (h : spec_l5BendS.f k s0_0 s0_1 s0_2 l1_0 = some (r1, r2, r3)) :
  Calls Try.prog 103 #[.pointer (some ⟨g, 0, none⟩), .agg #[.slice A1_0 l1_0.length c1_0]] w fun e w' => ∃ v0_ : Value, e = .returned (.agg #[v0_]) ∧ Kd.S k79 79 w' w.heap.size (fun _ => True) v0_ r1 ∧ IsS122 w0 w' g s0_0 r2 r3 ∧ Below w0.heap.size w0 w' ∧ KeepBut w w' g none := by
 have hu26 := Try.underlying26
 have hu72 := Try.underlying72
 have hu79 := Try.underlying79
 have HR1_0 := aM hr1_0
 have HC1_0 := aM hc1_0
 clear hr1_0 hc1_0
 have HI0 := aM hI
 have HK := aM (KeepBut.refl w g none)
 have HL := aM hB.size
 clear hI
 have HW0 := aM hB.size
 have HB := aM hB
 clear hB
 have H : ((spec_l5Copy.f k l1_0).bind fun t167 => (if (t167.length : Int) = 0 then (some (t167, s0_1, s0_2)) else ((spec_l1Below.f s0_0 s0_1 s0_2 (t167.length : Int)).bind fun bt171 => ((spec_l1Below.f s0_0 bt171.2.1 bt171.2.2 6).bind fun bt174 => (if bt174.1 = 0 then (none) else (if bt174.1 = 1 then (none) else (if bt174.1 = 2 then (if 0 ≤ bt171.1 then (if bt171.1 < (t167.length : Int) then ((spec_l1Int.f s0_0 bt174.2.1 bt174.2.2 (([0, 1, 1001] : List Int))).bind fun bt181 => ((spec_l1Below.f s0_0 bt181.2.1 bt181.2.2 3).bind fun bt184 => (if ((rd_T79 t167 bt171.1).f2).length < 5864062014805 then (some ((t167.set (bt171.1 : Int).toNat (⟨(rd_T79 t167 bt171.1).f0, (rd_T79 t167 bt171.1).f1, (((rd_T79 t167 bt171.1).f2) ++ [(⟨9, bt181.1, bt184.1⟩ : S72)])⟩ : S79)), bt184.2.1, bt184.2.2)) else (none)))) else (none)) else (none)) else (if bt174.1 = 3 then (if 0 < (t167.length : Int) then (none) else (none)) else (some (t167, bt174.2.1, bt174.2.2)))))))))) = some (r1, r2, r3) := h
 clear h
 replace H := Option.bind_eq_some_iff.mp H
 obtain ⟨t167, A30, H⟩ := H
 replace H : (if (t167.length : Int) = 0 then (some (t167, s0_1, s0_2)) else ((spec_l1Below.f s0_0 s0_1 s0_2 (t167.length : Int)).bind fun bt171 => ((spec_l1Below.f s0_0 bt171.2.1 bt171.2.2 6).bind fun bt174 => (if bt174.1 = 0 then (none) else (if bt174.1 = 1 then (none) else (if bt174.1 = 2 then (if 0 ≤ bt171.1 then (if bt171.1 < (t167.length : Int) then ((spec_l1Int.f s0_0 bt174.2.1 bt174.2.2 (([0, 1, 1001] : List Int))).bind fun bt181 => ((spec_l1Below.f s0_0 bt181.2.1 bt181.2.2 3).bind fun bt184 => (if ((rd_T79 t167 bt171.1).f2).length < 5864062014805 then (some ((t167.set (bt171.1 : Int).toNat (⟨(rd_T79 t167 bt171.1).f0, (rd_T79 t167 bt171.1).f1, (((rd_T79 t167 bt171.1).f2) ++ [(⟨9, bt181.1, bt184.1⟩ : S72)])⟩ : S79)), bt184.2.1, bt184.2.2)) else (none)))) else (none)) else (none)) else (if bt174.1 = 3 then (if 0 < (t167.length : Int) then (none) else (none)) else (some (t167, bt174.2.1, bt174.2.2))))))))) = some (r1, r2, r3) := H
 have A3 := aM A30
 clear A30
 by_cases c4 : (t167.length : Int) = 0
 {
 rw [if_pos c4] at H
 have c4b0 := beq_iff_eq.mpr c4
 have c4b1 := bne_eq_false_iff_eq.mpr c4
 clear c4
 simp only [Option.some.injEq, Prod.mk.injEq] at H
 obtain ⟨rfl, rfl, rfl⟩ := H
 go_enter Try.func103, Try.ntmps103
 go_wp2_with (first | ((with_reducible refine gate_dst (N := 3) rfl ?_); refine bx_ 3 #[.slice A1_0 l1_0.length c1_0] 26 ?_; intro gb165 hg w5 hbox hb; have n0_ := aM (IsS122.below qz30 hb); have n1_ := aM (KeepBut.trans qz7 (KeepBut.of_below hb g none) (.inl rfl)); have n2_ := aM (below_step qz31 hb); have n3_ := aM (hbox); have n4_ := aM ((by rw [hg]; exact (keep_size (w := w) (g := g) (row := none) qz7) : w.heap.size ≤ gb165)); have n5_ := aM ((Nat.le_trans HW0.out (by rw [hg]; exact (keep_size (w := w) (g := g) (row := none) qz7) : w.heap.size ≤ gb165) : w0.heap.size ≤ gb165)); have n6_ := aM ((by rw [hg]; exact Nat.ne_of_lt (IsS122.lt (show IsS122 w0 _ g s0_0 s0_1 s0_2 from by repeat (first | (with_reducible first | exact HI0.out | apply IsS122.alloc | apply IsS122.drewN | apply IsS122.drew | apply IsS122.set_1 | apply IsS122.set_2) | exact HI0.out))) : g ≠ gb165)); have n7_ := aM ((by rw [hg]; exact Nat.ne_of_gt (IsS122.lt (show IsS122 w0 _ g s0_0 s0_1 s0_2 from by repeat (first | (with_reducible first | exact HI0.out | apply IsS122.alloc | apply IsS122.drewN | apply IsS122.drew | apply IsS122.set_1 | apply IsS122.set_2) | exact HI0.out))) : gb165 ≠ g)); clear HI0 HK HB; have HI0 := n0_; have HK := n1_; have HB := n2_; have BK165 := n3_; have GW165 := n4_; have GE165 := n5_; have NB0_165 := n6_; have NB165_0 := n7_; clear n0_ n1_ n2_ n3_ n4_ n5_ n6_ n7_; clear hb hbox hg) | ((with_reducible refine gate_dst (N := 4) rfl ?_); refine bx_ 4 #[.slice none 0 0] 26 ?_; intro gb166 hg w6 hbox hb; have n0_ := aM (IsS122.below qz37 hb); have n1_ := aM (blk_below (bk_ BK165.out) hb); have n2_ := aM (KeepBut.trans qz10 (KeepBut.of_below hb g none) (.inl rfl)); have n3_ := aM (below_step qz39 hb); have n4_ := aM (hbox); have n5_ := aM ((by rw [hg]; exact (keep_size (w := w) (g := g) (row := none) qz10) : w.heap.size ≤ gb166)); have n6_ := aM ((Nat.le_trans HW0.out (by rw [hg]; exact (keep_size (w := w) (g := g) (row := none) qz10) : w.heap.size ≤ gb166) : w0.heap.size ≤ gb166)); have n7_ := aM ((by rw [hg]; exact Nat.ne_of_lt (blk_lt (bk_ BK165.out)) : gb165 ≠ gb166)); have n8_ := aM ((by rw [hg]; exact Nat.ne_of_gt (blk_lt (bk_ BK165.out)) : gb166 ≠ gb165)); have n9_ := aM ((by rw [hg]; exact Nat.ne_of_lt (IsS122.lt (show IsS122 w0 _ g s0_0 s0_1 s0_2 from by repeat (first | (with_reducible first | exact HI0.out | apply IsS122.alloc | apply IsS122.drewN | apply IsS122.drew | apply IsS122.set_1 | apply IsS122.set_2 | refine IsS122.far ?_ NB0_165.out _) | exact HI0.out))) : g ≠ gb166)); have n10_ := aM ((by rw [hg]; exact Nat.ne_of_gt (IsS122.lt (show IsS122 w0 _ g s0_0 s0_1 s0_2 from by repeat (first | (with_reducible first | exact HI0.out | apply IsS122.alloc | apply IsS122.drewN | apply IsS122.drew | apply IsS122.set_1 | apply IsS122.set_2 | refine IsS122.far ?_ NB0_165.out _) | exact HI0.out))) : gb166 ≠ g)); clear HI0 BK165 HK HB; have HI0 := n0_; have BK165 := n1_; have HK := n2_; have HB := n3_; have BK166 := n4_; have GW166 := n5_; have GE166 := n6_; have NB165_166 := n7_; have NB166_165 := n8_; have NB0_166 := n9_; have NB166_0 := n10_; clear n0_ n1_ n2_ n3_ n4_ n5_ n6_ n7_ n8_ n9_ n10_; clear hb hbox hg; have hnb7 := NB165_166.out; have hnc7 := NB166_165.out; have hnb8 := NB165_0.out; have hnc8 := NB0_165.out; have hcz9_0 := bc0_ BK165.out; have hfz9_0 := blk_frozen BK165.out 0) | ((with_reducible refine gate_callee (f := 62) rfl ?_); refine goesL_ (some 8) rfl rfl Try.func62 (by kernel_rfl) rfl #[.agg #[.slice A1_0 l1_0.length c1_0]] rfl qz1 ?_; (with_reducible refine (spec_l5Copy.calls k _ _ l1_0 t167 _ ?side1 ?side2 A3.out).mono ?_); (case side1 => exact Kd.C_foot_now HR1_0.out qz3); (case side2 => exact HC1_0.out); rintro e w10 ⟨v168, rfl, ho0, hb⟩; refine ⟨_, rfl, ?_⟩; have n0_ := aM (Kd.S_lower ho0 (keep_size (w := w) (g := g) (row := none) qz3)); have n1_ := aM (IsS122.below qz8 hb); have n2_ := aM (blk_below (bk_ BK165.out) hb); have n3_ := aM (blk_below (bk_ BK166.out) hb); have n4_ := aM (KeepBut.trans qz3 (KeepBut.of_below hb g none) (.inl rfl)); have n5_ := aM (below_step qz14 hb); clear HI0 BK165 BK166 HK HB; have HO169 := n0_; have HI0 := n1_; have BK165 := n2_; have BK166 := n3_; have HK := n4_; have HB := n5_; clear n0_ n1_ n2_ n3_ n4_ n5_; (try clear hb); (try clear hb2); (try clear hk); (try clear hi); (try clear ho0)) | ((with_reducible refine gate_dst (N := 5) rfl ?_); refine bx_ 5 #[.slice none 0 0] 26 ?_; intro gb170 hg w11 hbox hb; have n0_ := aM (Kd.S_below (rs_ HO169.out) hb); have n1_ := aM (IsS122.below qz8 hb); have n2_ := aM (blk_below (bk_ BK165.out) hb); have n3_ := aM (blk_below (bk_ BK166.out) hb); have n4_ := aM (KeepBut.trans qz3 (KeepBut.of_below hb g none) (.inl rfl)); have n5_ := aM (below_step qz14 hb); have n6_ := aM (hbox); have n7_ := aM ((by rw [hg]; exact (keep_size (w := w) (g := g) (row := none) qz3) : w.heap.size ≤ gb170)); have n8_ := aM ((Nat.le_trans HW0.out (by rw [hg]; exact (keep_size (w := w) (g := g) (row := none) qz3) : w.heap.size ≤ gb170) : w0.heap.size ≤ gb170)); have n9_ := aM ((by rw [hg]; exact Nat.ne_of_lt (blk_lt (bk_ BK165.out)) : gb165 ≠ gb170)); have n10_ := aM ((by rw [hg]; exact Nat.ne_of_gt (blk_lt (bk_ BK165.out)) : gb170 ≠ gb165)); have n11_ := aM ((by rw [hg]; exact Nat.ne_of_lt (blk_lt (bk_ BK166.out)) : gb166 ≠ gb170)); have n12_ := aM ((by rw [hg]; exact Nat.ne_of_gt (blk_lt (bk_ BK166.out)) : gb170 ≠ gb166)); have n13_ := aM ((by rw [hg]; exact Nat.ne_of_lt (IsS122.lt (show IsS122 w0 _ g s0_0 s0_1 s0_2 from by repeat (first | (with_reducible first | exact HI0.out | apply IsS122.alloc | apply IsS122.drewN | apply IsS122.drew | apply IsS122.set_1 | apply IsS122.set_2 | refine IsS122.far ?_ NB0_165.out _ | refine IsS122.far ?_ NB0_166.out _) | exact HI0.out))) : g ≠ gb170)); have n14_ := aM ((by rw [hg]; exact Nat.ne_of_gt (IsS122.lt (show IsS122 w0 _ g s0_0 s0_1 s0_2 from by repeat (first | (with_reducible first | exact HI0.out | apply IsS122.alloc | apply IsS122.drewN | apply IsS122.drew | apply IsS122.set_1 | apply IsS122.set_2 | refine IsS122.far ?_ NB0_165.out _ | refine IsS122.far ?_ NB0_166.out _) | exact HI0.out))) : gb170 ≠ g)); clear HO169 HI0 BK165 BK166 HK HB; have HO169 := n0_; have HI0 := n1_; have BK165 := n2_; have BK166 := n3_; have HK := n4_; have HB := n5_; have BK170 := n6_; have GW170 := n7_; have GE170 := n8_; have NB165_170 := n9_; have NB170_165 := n10_; have NB166_170 := n11_; have NB170_166 := n12_; have NB0_170 := n13_; have NB170_0 := n14_; clear n0_ n1_ n2_ n3_ n4_ n5_ n6_ n7_ n8_ n9_ n10_ n11_ n12_ n13_ n14_; clear hb hbox hg; obtain ⟨Ao12, co12, eo12⟩ := Kd.S_slice HO169.out; subst eo12; have hnb13 := NB170_165.out; have hnc13 := NB165_170.out; have hnb14 := NB170_166.out; have hnc14 := NB166_170.out; have hnb15 := NB170_0.out; have hnc15 := NB0_170.out; have hcz16_0 := bc0_ BK170.out; have hfz16_0 := blk_frozen BK170.out 0; have hnb17 := NB166_0.out; have hnc17 := NB0_166.out; have hcz18_0 := bc0_ BK166.out; have hfz18_0 := blk_frozen BK166.out 0))
 refine bodyPost_ret (results_cell_row rfl _ _ gb166 26 #[.slice Ao12 t167.length co12] (0, 0) _ rfl (by (with_reducible repeat (first | refine blk_drewN ?_ _ | refine blk_drew ?_ | refine blk_alloc ?_ _)); refine blk_put (cs := #[.slice none 0 0]) ?_ 0 _ rfl; (with_reducible repeat (first | refine blk_drewN ?_ _ | refine blk_drew ?_ | refine blk_alloc ?_ _)); refine blk_far ?_ NB166_170.out _; exact bk_ BK166.out) Try.underlying26 rfl (by kernel_rfl)) rfl ?_
 exact ⟨_, by first | rfl | (simp [errW_none, errW_some] <;> rfl) | (simp [*, errW_none, errW_some] <;> rfl), by (with_reducible repeat (first | apply Kd.S_alloc | apply Kd.S_drewN | apply Kd.S_drew)); exact Kd.S_mono (Kd.S_far (p := ⟨gb166, 0, none⟩) (Kd.S_far (p := ⟨gb170, 0, none⟩) (Kd.S_types (Kd.S_types HO169.out BK170.out (by decide)) BK166.out (by decide)) (fun _ hk => hk.1.2) (.slice Ao12 t167.length co12)) (fun _ hk => hk.2) (.slice Ao12 t167.length co12)) (fun _ hk => trivial), by repeat (first | (with_reducible first | exact HI0.out | apply IsS122.alloc | apply IsS122.drewN | apply IsS122.drew | apply IsS122.set_1 | apply IsS122.set_2 | refine IsS122.far ?_ NB0_165.out _ | refine IsS122.far ?_ NB0_166.out _ | refine IsS122.far ?_ NB0_170.out _) | exact HI0.out), by repeat (first | (with_reducible first | exact HB.out | apply below_alloc | apply pw_below_drewN | apply below_drew1 | refine below_set ?_ (IsS122.ge HI0.out) | refine below_set ?_ GE165.out | refine below_set ?_ GE166.out | refine below_set ?_ GE170.out) | exact HB.out), by repeat (first | (with_reducible first | exact HK.out | apply KeepBut.set_ | apply keep_drewN | apply keep_drew | apply keep_alloc | refine keep_far ?_ GW165.out _ | refine keep_far ?_ GW166.out _ | refine keep_far ?_ GW170.out _) | exact HK.out)⟩
 }
 {
 rw [if_neg c4] at H
 have c4b0 := beq_eq_false_iff_ne.mpr c4
 have c4b1 := bne_iff_ne.mpr c4
 have c4b2 : ¬ (t167 = []) := fun h_ => c4 (by rw [h_]; rfl)
 replace H := Option.bind_eq_some_iff.mp H
 obtain ⟨⟨t171, t172, t173⟩, A190, H⟩ := H
 replace H : ((spec_l1Below.f s0_0 t172 t173 6).bind fun bt174 => (if bt174.1 = 0 then (none) else (if bt174.1 = 1 then (none) else (if bt174.1 = 2 then (if 0 ≤ t171 then (if t171 < (t167.length : Int) then ((spec_l1Int.f s0_0 bt174.2.1 bt174.2.2 (([0, 1, 1001] : List Int))).bind fun bt181 => ((spec_l1Below.f s0_0 bt181.2.1 bt181.2.2 3).bind fun bt184 => (if ((rd_T79 t167 t171).f2).length < 5864062014805 then (some ((t167.set (t171 : Int).toNat (⟨(rd_T79 t167 t171).f0, (rd_T79 t167 t171).f1, (((rd_T79 t167 t171).f2) ++ [(⟨9, bt181.1, bt184.1⟩ : S72)])⟩ : S79)), bt184.2.1, bt184.2.2)) else (none)))) else (none)) else (none)) else (if bt174.1 = 3 then (if 0 < (t167.length : Int) then (none) else (none)) else (some (t167, bt174.2.1, bt174.2.2))))))) = some (r1, r2, r3) := H
 have A19 := aM A190
 clear A190
 replace H := Option.bind_eq_some_iff.mp H
 obtain ⟨⟨t174, t175, t176⟩, A200, H⟩ := H
 replace H : (if t174 = 0 then (none) else (if t174 = 1 then (none) else (if t174 = 2 then (if 0 ≤ t171 then (if t171 < (t167.length : Int) then ((spec_l1Int.f s0_0 t175 t176 (([0, 1, 1001] : List Int))).bind fun bt181 => ((spec_l1Below.f s0_0 bt181.2.1 bt181.2.2 3).bind fun bt184 => (if ((rd_T79 t167 t171).f2).length < 5864062014805 then (some ((t167.set (t171 : Int).toNat (⟨(rd_T79 t167 t171).f0, (rd_T79 t167 t171).f1, (((rd_T79 t167 t171).f2) ++ [(⟨9, bt181.1, bt184.1⟩ : S72)])⟩ : S79)), bt184.2.1, bt184.2.2)) else (none)))) else (none)) else (none)) else (if t174 = 3 then (if 0 < (t167.length : Int) then (none) else (none)) else (some (t167, t175, t176)))))) = some (r1, r2, r3) := H
 have A20 := aM A200
 clear A200
 by_cases c21 : t174 = 0
 {
 rw [if_pos c21] at H
 have c21b0 := beq_iff_eq.mpr c21
 have c21b1 := bne_eq_false_iff_eq.mpr c21
 clear c21
 exact absurd H (by simp)
 }
 {
 rw [if_neg c21] at H
 have c21b0 := beq_eq_false_iff_ne.mpr c21
 have c21b1 := bne_iff_ne.mpr c21
 by_cases c22 : t174 = 1
 {
 rw [if_pos c22] at H
 have c22b0 := beq_iff_eq.mpr c22
 have c22b1 := bne_eq_false_iff_eq.mpr c22
 clear c22
 exact absurd H (by simp)
 }
 {
 rw [if_neg c22] at H
 have c22b0 := beq_eq_false_iff_ne.mpr c22
 have c22b1 := bne_iff_ne.mpr c22
 by_cases c23 : t174 = 2
 {
 rw [if_pos c23] at H
 have c23b0 := beq_iff_eq.mpr c23
 have c23b1 := bne_eq_false_iff_eq.mpr c23
 clear c23
 by_cases c24 : 0 ≤ t171
 {
 rw [if_pos c24] at H
 have c24b0 := decide_eq_true c24
 clear c24
 by_cases c25 : t171 < (t167.length : Int)
 {
 rw [if_pos c25] at H
 have c25b0 := decide_eq_true c25
 clear c25
 obtain ⟨y178, hy178⟩ : ∃ y_ : List Int, y_ = (([0, 1, 1001] : List Int)) := ⟨_, rfl⟩
 replace H : ((spec_l1Int.f s0_0 t175 t176 y178).bind fun bt181 => ((spec_l1Below.f s0_0 bt181.2.1 bt181.2.2 3).bind fun bt184 => (if ((rd_T79 t167 t171).f2).length < 5864062014805 then (some ((t167.set (t171 : Int).toNat (⟨(rd_T79 t167 t171).f0, (rd_T79 t167 t171).f1, (((rd_T79 t167 t171).f2) ++ [(⟨9, bt181.1, bt184.1⟩ : S72)])⟩ : S79)), bt184.2.1, bt184.2.2)) else (none)))) = some (r1, r2, r3) := by first | (rw [hy178]; with_reducible exact H) | (have H2_ := (Option.bind_some _ _).symm.trans H; rw [hy178]; with_reducible exact H2_) | (have H2_ := (Option.bind_some _ _).symm.trans H; with_reducible exact H2_) | with_reducible exact H | (rw [hy178]; exact H) | exact H
 have Ny178 := aM hy178
 clear hy178
 replace H := Option.bind_eq_some_iff.mp H
 obtain ⟨⟨t181, t182, t183⟩, A260, H⟩ := H
 replace H : ((spec_l1Below.f s0_0 t182 t183 3).bind fun bt184 => (if ((rd_T79 t167 t171).f2).length < 5864062014805 then (some ((t167.set (t171 : Int).toNat (⟨(rd_T79 t167 t171).f0, (rd_T79 t167 t171).f1, (((rd_T79 t167 t171).f2) ++ [(⟨9, t181, bt184.1⟩ : S72)])⟩ : S79)), bt184.2.1, bt184.2.2)) else (none))) = some (r1, r2, r3) := H
 have A26 := aM A260
 clear A260
 replace H := Option.bind_eq_some_iff.mp H
 obtain ⟨⟨t184, t185, t186⟩, A270, H⟩ := H
 replace H : (if ((rd_T79 t167 t171).f2).length < 5864062014805 then (some ((t167.set (t171 : Int).toNat (⟨(rd_T79 t167 t171).f0, (rd_T79 t167 t171).f1, (((rd_T79 t167 t171).f2) ++ [(⟨9, t181, t184⟩ : S72)])⟩ : S79)), t185, t186)) else (none)) = some (r1, r2, r3) := H
 have A27 := aM A270
 clear A270
 by_cases c28 : ((rd_T79 t167 t171).f2).length < 5864062014805
 {
 rw [if_pos c28] at H
 have LMc28 := aM c28
 clear c28
 obtain ⟨y187, hy187⟩ : ∃ y_ : List (S72), y_ = (((rd_T79 t167 t171).f2) ++ [(⟨9, t181, t184⟩ : S72)]) := ⟨_, rfl⟩
 replace H : (some ((t167.set (t171 : Int).toNat (⟨(rd_T79 t167 t171).f0, (rd_T79 t167 t171).f1, y187⟩ : S79)), t185, t186)) = some (r1, r2, r3) := by first | (rw [hy187]; with_reducible exact H) | (have H2_ := (Option.bind_some _ _).symm.trans H; rw [hy187]; with_reducible exact H2_) | (have H2_ := (Option.bind_some _ _).symm.trans H; with_reducible exact H2_) | with_reducible exact H | (rw [hy187]; exact H) | exact H
 have Ny187 := aM hy187
 clear hy187
 obtain ⟨y190, hy190⟩ : ∃ y_ : List (S79), y_ = (t167.set (t171 : Int).toNat (⟨(rd_T79 t167 t171).f0, (rd_T79 t167 t171).f1, y187⟩ : S79)) := ⟨_, rfl⟩
 replace H : (some (y190, t185, t186)) = some (r1, r2, r3) := by first | (rw [hy190]; with_reducible exact H) | (have H2_ := (Option.bind_some _ _).symm.trans H; rw [hy190]; with_reducible exact H2_) | (have H2_ := (Option.bind_some _ _).symm.trans H; with_reducible exact H2_) | with_reducible exact H | (rw [hy190]; exact H) | exact H
 have Ny190 := aM hy190
 clear hy190
 simp only [Option.some.injEq, Prod.mk.injEq] at H
 obtain ⟨rfl, rfl, rfl⟩ := H
 go_enter Try.func103, Try.ntmps103
 try go_wp2_with (first | ((with_reducible refine gate_dst (N := 3) rfl ?_); refine bx_ 3 #[.slice A1_0 l1_0.length c1_0] 26 ?_; intro gb165 hg w30 hbox hb; have n0_ := aM (IsS122.below qz30 hb); have n1_ := aM (KeepBut.trans qz7 (KeepBut.of_below hb g none) (.inl rfl)); have n2_ := aM (below_step qz31 hb); have n3_ := aM (hbox); have n4_ := aM ((by rw [hg]; exact (keep_size (w := w) (g := g) (row := none) qz7) : w.heap.size ≤ gb165)); have n5_ := aM ((Nat.le_trans HW0.out (by rw [hg]; exact (keep_size (w := w) (g := g) (row := none) qz7) : w.heap.size ≤ gb165) : w0.heap.size ≤ gb165)); have n6_ := aM ((by rw [hg]; exact Nat.ne_of_lt (IsS122.lt (show IsS122 w0 _ g s0_0 s0_1 s0_2 from by repeat (first | (with_reducible first | exact HI0.out | apply IsS122.alloc | apply IsS122.drewN | apply IsS122.drew | apply IsS122.set_1 | apply IsS122.set_2) | exact HI0.out))) : g ≠ gb165)); have n7_ := aM ((by rw [hg]; exact Nat.ne_of_gt (IsS122.lt (show IsS122 w0 _ g s0_0 s0_1 s0_2 from by repeat (first | (with_reducible first | exact HI0.out | apply IsS122.alloc | apply IsS122.drewN | apply IsS122.drew | apply IsS122.set_1 | apply IsS122.set_2) | exact HI0.out))) : gb165 ≠ g)); clear HI0 HK HB; have HI0 := n0_; have HK := n1_; have HB := n2_; have BK165 := n3_; have GW165 := n4_; have GE165 := n5_; have NB0_165 := n6_; have NB165_0 := n7_; clear n0_ n1_ n2_ n3_ n4_ n5_ n6_ n7_; clear hb hbox hg) | ((with_reducible refine gate_dst (N := 4) rfl ?_); refine bx_ 4 #[.slice none 0 0] 26 ?_; intro gb166 hg w31 hbox hb; have n0_ := aM (IsS122.below qz37 hb); have n1_ := aM (blk_below (bk_ BK165.out) hb); have n2_ := aM (KeepBut.trans qz10 (KeepBut.of_below hb g none) (.inl rfl)); have n3_ := aM (below_step qz39 hb); have n4_ := aM (hbox); have n5_ := aM ((by rw [hg]; exact (keep_size (w := w) (g := g) (row := none) qz10) : w.heap.size ≤ gb166)); have n6_ := aM ((Nat.le_trans HW0.out (by rw [hg]; exact (keep_size (w := w) (g := g) (row := none) qz10) : w.heap.size ≤ gb166) : w0.heap.size ≤ gb166)); have n7_ := aM ((by rw [hg]; exact Nat.ne_of_lt (blk_lt (bk_ BK165.out)) : gb165 ≠ gb166)); have n8_ := aM ((by rw [hg]; exact Nat.ne_of_gt (blk_lt (bk_ BK165.out)) : gb166 ≠ gb165)); have n9_ := aM ((by rw [hg]; exact Nat.ne_of_lt (IsS122.lt (show IsS122 w0 _ g s0_0 s0_1 s0_2 from by repeat (first | (with_reducible first | exact HI0.out | apply IsS122.alloc | apply IsS122.drewN | apply IsS122.drew | apply IsS122.set_1 | apply IsS122.set_2 | refine IsS122.far ?_ NB0_165.out _) | exact HI0.out))) : g ≠ gb166)); have n10_ := aM ((by rw [hg]; exact Nat.ne_of_gt (IsS122.lt (show IsS122 w0 _ g s0_0 s0_1 s0_2 from by repeat (first | (with_reducible first | exact HI0.out | apply IsS122.alloc | apply IsS122.drewN | apply IsS122.drew | apply IsS122.set_1 | apply IsS122.set_2 | refine IsS122.far ?_ NB0_165.out _) | exact HI0.out))) : gb166 ≠ g)); clear HI0 BK165 HK HB; have HI0 := n0_; have BK165 := n1_; have HK := n2_; have HB := n3_; have BK166 := n4_; have GW166 := n5_; have GE166 := n6_; have NB165_166 := n7_; have NB166_165 := n8_; have NB0_166 := n9_; have NB166_0 := n10_; clear n0_ n1_ n2_ n3_ n4_ n5_ n6_ n7_ n8_ n9_ n10_; clear hb hbox hg; have hnb32 := NB165_166.out; have hnc32 := NB166_165.out; have hnb33 := NB165_0.out; have hnc33 := NB0_165.out; have hcz34_0 := bc0_ BK165.out; have hfz34_0 := blk_frozen BK165.out 0) | ((with_reducible refine gate_callee (f := 62) rfl ?_); refine goesL_ (some 8) rfl rfl Try.func62 (by kernel_rfl) rfl #[.agg #[.slice A1_0 l1_0.length c1_0]] rfl qz1 ?_; (with_reducible refine (spec_l5Copy.calls k _ _ l1_0 t167 _ ?side1 ?side2 A3.out).mono ?_); (case side1 => exact Kd.C_foot_now HR1_0.out qz3); (case side2 => exact HC1_0.out); rintro e w35 ⟨v168, rfl, ho0, hb⟩; refine ⟨_, rfl, ?_⟩; have n0_ := aM (Kd.S_lower ho0 (keep_size (w := w) (g := g) (row := none) qz3)); have n1_ := aM (IsS122.below qz8 hb); have n2_ := aM (blk_below (bk_ BK165.out) hb); have n3_ := aM (blk_below (bk_ BK166.out) hb); have n4_ := aM (KeepBut.trans qz3 (KeepBut.of_below hb g none) (.inl rfl)); have n5_ := aM (below_step qz14 hb); clear HI0 BK165 BK166 HK HB; have HO169 := n0_; have HI0 := n1_; have BK165 := n2_; have BK166 := n3_; have HK := n4_; have HB := n5_; clear n0_ n1_ n2_ n3_ n4_ n5_; (try clear hb); (try clear hb2); (try clear hk); (try clear hi); (try clear ho0)) | ((with_reducible refine gate_dst (N := 5) rfl ?_); refine bx_ 5 #[.slice none 0 0] 26 ?_; intro gb170 hg w36 hbox hb; have n0_ := aM (Kd.S_below (rs_ HO169.out) hb); have n1_ := aM (IsS122.below qz8 hb); have n2_ := aM (blk_below (bk_ BK165.out) hb); have n3_ := aM (blk_below (bk_ BK166.out) hb); have n4_ := aM (KeepBut.trans qz3 (KeepBut.of_below hb g none) (.inl rfl)); have n5_ := aM (below_step qz14 hb); have n6_ := aM (hbox); have n7_ := aM ((by rw [hg]; exact (keep_size (w := w) (g := g) (row := none) qz3) : w.heap.size ≤ gb170)); have n8_ := aM ((Nat.le_trans HW0.out (by rw [hg]; exact (keep_size (w := w) (g := g) (row := none) qz3) : w.heap.size ≤ gb170) : w0.heap.size ≤ gb170)); have n9_ := aM ((by rw [hg]; exact Nat.ne_of_lt (blk_lt (bk_ BK165.out)) : gb165 ≠ gb170)); have n10_ := aM ((by rw [hg]; exact Nat.ne_of_gt (blk_lt (bk_ BK165.out)) : gb170 ≠ gb165)); have n11_ := aM ((by rw [hg]; exact Nat.ne_of_lt (blk_lt (bk_ BK166.out)) : gb166 ≠ gb170)); have n12_ := aM ((by rw [hg]; exact Nat.ne_of_gt (blk_lt (bk_ BK166.out)) : gb170 ≠ gb166)); have n13_ := aM ((by rw [hg]; exact Nat.ne_of_lt (IsS122.lt (show IsS122 w0 _ g s0_0 s0_1 s0_2 from by repeat (first | (with_reducible first | exact HI0.out | apply IsS122.alloc | apply IsS122.drewN | apply IsS122.drew | apply IsS122.set_1 | apply IsS122.set_2 | refine IsS122.far ?_ NB0_165.out _ | refine IsS122.far ?_ NB0_166.out _) | exact HI0.out))) : g ≠ gb170)); have n14_ := aM ((by rw [hg]; exact Nat.ne_of_gt (IsS122.lt (show IsS122 w0 _ g s0_0 s0_1 s0_2 from by repeat (first | (with_reducible first | exact HI0.out | apply IsS122.alloc | apply IsS122.drewN | apply IsS122.drew | apply IsS122.set_1 | apply IsS122.set_2 | refine IsS122.far ?_ NB0_165.out _ | refine IsS122.far ?_ NB0_166.out _) | exact HI0.out))) : gb170 ≠ g)); clear HO169 HI0 BK165 BK166 HK HB; have HO169 := n0_; have HI0 := n1_; have BK165 := n2_; have BK166 := n3_; have HK := n4_; have HB := n5_; have BK170 := n6_; have GW170 := n7_; have GE170 := n8_; have NB165_170 := n9_; have NB170_165 := n10_; have NB166_170 := n11_; have NB170_166 := n12_; have NB0_170 := n13_; have NB170_0 := n14_; clear n0_ n1_ n2_ n3_ n4_ n5_ n6_ n7_ n8_ n9_ n10_ n11_ n12_ n13_ n14_; clear hb hbox hg; obtain ⟨Ao37, co37, eo37⟩ := Kd.S_slice HO169.out; subst eo37; have hnb38 := NB170_165.out; have hnc38 := NB165_170.out; have hnb39 := NB170_166.out; have hnc39 := NB166_170.out; have hnb40 := NB170_0.out; have hnc40 := NB0_170.out; have hcz41_0 := bc0_ BK170.out; have hfz41_0 := blk_frozen BK170.out 0) | ((with_reducible refine gate_callee (f := 105) rfl ?_); refine goesL_ (some 18) rfl rfl Try.func105 (by kernel_rfl) rfl #[.pointer (some ⟨g, 0, none⟩), .int .i64 (t167.length : Int)] rfl qz1 ?_; (with_reducible refine (spec_l1Below.calls g s0_0 s0_1 s0_2 (t167.length : Int) t171 t172 t173 w0 _ ?side1 ?side2 A19.out).mono ?_); (case side1 => exact qz9); (case side2 => exact qz11); rintro e w42 ⟨rfl, hi, hb, hk⟩; refine ⟨_, rfl, ?_⟩; have n0_ := aM (KeepBut.blk hk (g' := gb165) (o := .cells #[.slice A1_0 l1_0.length c1_0] 26 (0, 0)) qz65 NB165_0.out (by simp)); have n1_ := aM (KeepBut.blk hk (g' := gb166) (o := .cells #[.slice none 0 0] 26 (0, 0)) qz66 NB166_0.out (by simp)); have n2_ := aM (Kd.S_mono (Kd.S_keep (IsS122.apartS (show IsS122 w0 _ g s0_0 s0_1 s0_2 from by repeat (first | (with_reducible first | exact HI0.out | apply IsS122.alloc | apply IsS122.drewN | apply IsS122.drew | apply IsS122.set_1 | apply IsS122.set_2 | refine IsS122.far ?_ NB0_165.out _ | refine IsS122.far ?_ NB0_166.out _ | refine IsS122.far ?_ NB0_170.out _) | exact HI0.out)) (by (with_reducible repeat (first | apply Kd.S_alloc | apply Kd.S_drewN | apply Kd.S_drew)); exact (Kd.S_mono (Kd.S_far (p := ⟨gb170, 0, none⟩) (Kd.S_types HO169.out BK170.out (by decide)) (fun _ hk => hk.2) (.slice Ao37 t167.length co37)) (fun _ h_ => h_.1))) (by decide)) hk (fun _ h => h.2)) (fun _ h => h.1)); have n3_ := aM (KeepBut.blk hk (g' := gb170) (o := .cells #[.slice Ao37 t167.length co37] 26 (0, 0)) (by (with_reducible repeat (first | refine blk_drewN ?_ _ | refine blk_drew ?_ | refine blk_alloc ?_ _)); refine blk_put (cs := #[.slice none 0 0]) ?_ 0 _ rfl; exact bk_ BK170.out) NB170_0.out (by simp)); have n4_ := aM (KeepBut.trans qz5 hk (.inl rfl)); have n5_ := aM (hb); have n6_ := aM (hi); clear BK165 BK166 HO169 BK170 HK HB HI0; have BK165 := n0_; have BK166 := n1_; have HO169 := n2_; have BK170 := n3_; have HK := n4_; have HB := n5_; have HI0 := n6_; clear n0_ n1_ n2_ n3_ n4_ n5_ n6_; (try clear hb); (try clear hb2); (try clear hk); (try clear hi)) | ((with_reducible refine gate_callee (f := 105) rfl ?_); refine goesL_ (some 20) rfl rfl Try.func105 (by kernel_rfl) rfl #[.pointer (some ⟨g, 0, none⟩), .int .i64 6] rfl qz1 ?_; (with_reducible refine (spec_l1Below.calls g s0_0 t172 t173 6 t174 t175 t176 w0 _ ?side1 ?side2 A20.out).mono ?_); (case side1 => exact qz9); (case side2 => exact qz11); rintro e w43 ⟨rfl, hi, hb, hk⟩; refine ⟨_, rfl, ?_⟩; have n0_ := aM (KeepBut.blk hk (bk_ BK165.out) NB165_0.out (by simp)); have n1_ := aM (KeepBut.blk hk (bk_ BK166.out) NB166_0.out (by simp)); have n2_ := aM (Kd.S_mono (Kd.S_keep (IsS122.apartS (show IsS122 w0 _ g s0_0 t172 t173 from by repeat (first | (with_reducible first | exact HI0.out | apply IsS122.alloc | apply IsS122.drewN | apply IsS122.drew | apply IsS122.set_1 | apply IsS122.set_2 | refine IsS122.far ?_ NB0_165.out _ | refine IsS122.far ?_ NB0_166.out _ | refine IsS122.far ?_ NB0_170.out _) | exact HI0.out)) (rs_ HO169.out) (by decide)) hk (fun _ h => h.2)) (fun _ h => h.1)); have n3_ := aM (KeepBut.blk hk (bk_ BK170.out) NB170_0.out (by simp)); have n4_ := aM (KeepBut.trans qz5 hk (.inl rfl)); have n5_ := aM (hb); have n6_ := aM (hi); clear BK165 BK166 HO169 BK170 HK HB HI0; have BK165 := n0_; have BK166 := n1_; have HO169 := n2_; have BK170 := n3_; have HK := n4_; have HB := n5_; have HI0 := n6_; clear n0_ n1_ n2_ n3_ n4_ n5_ n6_; (try clear hb); (try clear hb2); (try clear hk); (try clear hi)))
 have n0_ := aM (Kd.S_drew HO169.out)
 have n1_ := aM (blk_drew BK165.out)
 have n2_ := aM (blk_drew BK166.out)
 have n3_ := aM (blk_drew BK170.out)
 have n4_ := aM (IsS122.drew HI0.out)
 have n5_ := aM (keep_drew HK.out)
 have n6_ := aM (below_drew1 HB.out)
 clear HO169
 clear BK165
 clear BK166
 clear BK170
 clear HI0
 clear HK
 clear HB
 have HO169 := n0_
 have BK165 := n1_
 have BK166 := n2_
 have BK170 := n3_
 have HI0 := n4_
 have HK := n5_
 have HB := n6_
 clear n0_ n1_ n2_ n3_ n4_ n5_ n6_
 have p177 : 0 ≤ (t171 : Int) := of_decide_eq_true qz4
 have q177 : t171 < (t167.length : Int) := of_decide_eq_true qz4
 obtain ⟨ad177, A177_2, c177_2, e177, hx177_0, hx177_1, hx177_2, hl177_2, hi177_2⟩ := at_T79 (Kd.S_reads' HO169.out).2.2 t171 p177 q177
 cases e177
 obtain ⟨ce177, hce177, hMe177, hcc177⟩ := Kd.S_get HO169.out z79 t171 p177 (by first | exact q177 | exact of_decide_eq_true qz4 | (have e_ := (Kd.S_reads' HO169.out).1; omega))
 obtain ⟨ve177_2, rfl, ge177_2⟩ := k79_openM hMe177
 have hv177_2 := hcc177 2 _ rfl
 rw [add_field _ _ 2 (by omega)] at hv177_2
 replace hv177_2 := Option.some.inj (hv177_2.symm.trans hx177_2)
 rw [hv177_2] at ge177_2
 have HL177_2 := aM (show Kd.R k72 72 _ _ _ _ ((rd_T79 t167 t171).f2) from ge177_2)
 clear hv177_2 ge177_2
 have HX177_2 := aM hx177_2
 clear hcc177 hce177
 have HR177_2 := aM hi177_2
 have HC177_2 := aM hl177_2
 clear hi177_2 hl177_2
 replace p177 := eq_true p177
 replace q177 := eq_true q177
 refine start_ (n := 20) (S := fun w' => w'.cell? ⟨gb170, 0, none⟩ = some (.slice (some ad177) t167.length co37) ∧ w'.cell? (ad177.add ((t171).toNat * 3)) = some (.int .i64 ((rd_T79 t167 t171).f0)) ∧ w'.cell? ⟨(ad177.add ((t171).toNat * 3)).block, (ad177.add ((t171).toNat * 3)).off + 1, none⟩ = some (.int .i64 ((rd_T79 t167 t171).f1)) ∧ w'.cell? ⟨(ad177.add ((t171).toNat * 3)).block, (ad177.add ((t171).toNat * 3)).off + 2, none⟩ = some (.slice A177_2 ((rd_T79 t167 t171).f2).length c177_2)) (ds := [19]) #[false, false, false, false, false, false, false, false, false, false, false, false, false, false, false, false, false, false, false, false] (by kernel_rfl) rfl rfl ⟨(blk_cell BK170.out 0).trans rfl, hx177_0, hx177_1, hx177_2⟩ (fun hHeld => ?_); refine with_tabW spec_l5BendS.tab11 spec_l5BendS.bits11 (fun HT_ HW_ => ?_)
 generalize w43.drew = w44 at HO169 BK165 BK166 BK170 HI0 HK HB HL177_2 HR177_2 HX177_2 hx177_0 hx177_1 hx177_2 hHeld ⊢
 refine pI_ 0 43 (bqz 20 1) ?_
 refine pI_ 2 45 (bqz 20 5) ?_
 refine pI_ 3 46 (bqz 20 13) ?_
 refine pI_ 5 48 (bqz 20 45) ?_
 refine pI_ 9 52 (bqz 20 557) ?_
 refine pI_ 12 55 (bqz 20 4653) ?_
 refine tI4_ 1 44 (bqz 20 4655) ?_
 refine tI4_ 4 47 (bqz 20 4671) ?_
 refine pI_ 6 49 (bqz 20 4735) ?_
 refine pI_ 7 50 (bqz 20 4863) ?_
 refine tI4_ 8 51 (bqz 20 5119) ?_
 refine one_ (i := 10) (N := some 53) (bqz 20 6143) rfl rfl qzc (by decide) (fun K hK => ?_)
 refine Kd.R_lit_step (Kd.int .i64) _ 3 ?hg (N := 53) ?hd (xs := ([0, 1, 1001] : List Int)) (inner := [.int .i64 0, .int .i64 1, .int .i64 1001]) (ok := fun _ => True) (okp := fun _ => True) ?hr ?hp (fun _ hk => hk) trivial (Below.refl _ _) (Nat.le_refl _) (by simp) ?_; (case hd => rfl); (case hg => rfl); (case hr => exact qz87); (case hp => exact (Reps.one (show Kd.M (Kd.int .i64) _ _ _ 0 [.int .i64 0] from rfl) (Reps.one (show Kd.M (Kd.int .i64) _ _ _ 1 [.int .i64 1] from rfl) (Reps.one (show Kd.M (Kd.int .i64) _ _ _ 1001 [.int .i64 1001] from rfl) (Reps.none _ _)))))
 intro v179 w45 ho46 hb hg_ hnew_
 have HS1_ := (hb.cell (World.block_lt_of_cell? _ _ (hHeld.2.1))).trans (hHeld.2.1)
 have HS2_ := (hb.cell (World.block_lt_of_cell? _ _ (hHeld.2.2.1))).trans (hHeld.2.2.1)
 have HS3_ := (hb.cell (World.block_lt_of_cell? _ _ (hHeld.2.2.2))).trans (hHeld.2.2.2)
 clear hg_ hnew_
 (first | rw [← Ny178.out] at ho46 | (simp only [Int.reduceToNat] at ho46; rw [← Ny178.out] at ho46))
 have n0_ := aM (Kd.S_below (rs_ HO169.out) hb)
 have n1_ := aM (Kd.R_below (rr_ HL177_2.out) hb)
 have n2_ := aM (Kd.R_lower ho46 (keep_size (w := w) (g := g) (row := none) qz5))
 have n3_ := aM (IsS122.below qz9 hb)
 have n4_ := aM (blk_below (bk_ BK165.out) hb)
 have n5_ := aM (blk_below (bk_ BK166.out) hb)
 have n6_ := aM (blk_below (bk_ BK170.out) hb)
 have n7_ := aM (Kd.C_below (by repeat (first | (with_reducible exact HR177_2.out) | (with_reducible refine Kd.C_alloc ?_ _) | (with_reducible refine Kd.C_drewN ?_ _) | (with_reducible refine Kd.C_drew ?_) | exact HR177_2.out)) hb)
 have n8_ := aM (pw_cell_below hb HX177_2.out)
 have n9_ := aM (KeepBut.trans qz5 (KeepBut.of_below hb g none) (.inl rfl))
 have n10_ := aM (below_step qz11 hb)
 clear HO169
 clear HL177_2
 clear HI0
 clear BK165
 clear BK166
 clear BK170
 clear HR177_2
 clear HX177_2
 clear HK
 clear HB
 have HO169 := n0_
 have HL177_2 := n1_
 have HO180 := n2_
 have HI0 := n3_
 have BK165 := n4_
 have BK166 := n5_
 have BK170 := n6_
 have HR177_2 := n7_
 have HX177_2 := n8_
 have HK := n9_
 have HB := n10_
 clear n0_ n1_ n2_ n3_ n4_ n5_ n6_ n7_ n8_ n9_ n10_
 clear hb ho46
 obtain ⟨Ao47, co47, eo47⟩ := Kd.R_slice HO180.out
 (first | subst eo47 | (injection eo47 with f1_ f2_ f3_; have f4_ := f1_.symm; have f5_ := f3_.symm; clear f1_ f2_ f3_; subst f4_; subst f5_))
 refine hK.out _ _ ⟨(blk_cell BK170.out 0).trans rfl, HS1_, HS2_, HS3_⟩ (fun hHeld => ?_)
 clear hK K
 refine norm_ (a' := ?_) ?_ ?_
 rotate_left
 {
 show Act.put _ (some 53) _ = _
 simp only [qzs]
 rfl
 }
 refine one_ (i := 11) (N := some 54) (bqz 20 8191) rfl rfl qzc (by decide) (fun K hK => ?_)
 refine goes_ Try.func92 (by kernel_rfl) rfl #[.pointer (some ⟨g, 0, none⟩), .slice Ao47 y178.length co47] (by rfl) rfl rfl qz1 ?_
 with_reducible refine (spec_l1Int.calls g s0_0 t175 t176 _ _ y178 t181 t182 t183 w0 _ ?side1 ?side2 ?side3 ?side4 ?side5 A26.out).mono ?_
 (case side1 => exact qz9)
 (case side2 => exact qz11)
 (case side3 => repeat (first | exact (Kd.R_reads' HO180.out).2.2 | (with_reducible refine Kd.C_alloc ?_ _) | (with_reducible refine Kd.C_drewN ?_ _) | (with_reducible refine Kd.C_drew ?_)))
 (case side4 => exact (Kd.R_reads' HO180.out).2.1)
 (case side5 => exact far_slice (IsS122.own_ne HI0.out HO180.out (by decide)))
 rintro e w48 ⟨rfl, hi, hb, hk⟩
 have HS1_ := keep_cell hk (hHeld.2.1) qz41
 have HS2_ := keep_cell hk (hHeld.2.2.1) qz41
 have HS3_ := keep_cell hk (hHeld.2.2.2) qz41
 refine ⟨_, rfl, ?_⟩
 have n0_ := aM (KeepBut.blk hk (bk_ BK165.out) NB165_0.out (by simp))
 have n1_ := aM (KeepBut.blk hk (bk_ BK166.out) NB166_0.out (by simp))
 have n2_ := aM (Kd.S_mono (Kd.S_keep (IsS122.apartS (show IsS122 w0 _ g s0_0 t175 t176 from by repeat (first | (with_reducible first | exact HI0.out | apply IsS122.alloc | apply IsS122.drewN | apply IsS122.drew | apply IsS122.set_1 | apply IsS122.set_2 | refine IsS122.far ?_ NB0_165.out _ | refine IsS122.far ?_ NB0_166.out _ | refine IsS122.far ?_ NB0_170.out _) | exact HI0.out)) (rs_ HO169.out) (by decide)) hk (fun _ h => h.2)) (fun _ h => h.1))
 have n3_ := aM (KeepBut.blk hk (bk_ BK170.out) NB170_0.out (by simp))
 have n4_ := aM (Kd.R_mono (Kd.R_keep (IsS122.apart (show IsS122 w0 _ g s0_0 t175 t176 from by repeat (first | (with_reducible first | exact HI0.out | apply IsS122.alloc | apply IsS122.drewN | apply IsS122.drew | apply IsS122.set_1 | apply IsS122.set_2 | refine IsS122.far ?_ NB0_165.out _ | refine IsS122.far ?_ NB0_166.out _ | refine IsS122.far ?_ NB0_170.out _) | exact HI0.out)) (rr_ HL177_2.out) (by decide)) hk (fun _ h => h.2)) (fun _ h => h.1))
 have n5_ := aM (keep_cell hk HX177_2.out qz89)
 have n6_ := aM (Kd.R_mono (Kd.R_keep (IsS122.apart (show IsS122 w0 _ g s0_0 t175 t176 from by repeat (first | (with_reducible first | exact HI0.out | apply IsS122.alloc | apply IsS122.drewN | apply IsS122.drew | apply IsS122.set_1 | apply IsS122.set_2 | refine IsS122.far ?_ NB0_165.out _ | refine IsS122.far ?_ NB0_166.out _ | refine IsS122.far ?_ NB0_170.out _) | exact HI0.out)) (rr_ HO180.out) (by decide)) hk (fun _ h => h.2)) (fun _ h => h.1))
 have n7_ := aM (KeepBut.trans qz5 hk (.inl rfl))
 have n8_ := aM (hb)
 have n9_ := aM (hi)
 clear BK165
 clear BK166
 clear HO169
 clear BK170
 clear HL177_2
 clear HX177_2
 clear HO180
 clear HK
 clear HB
 clear HI0
 have BK165 := n0_
 have BK166 := n1_
 have HO169 := n2_
 have BK170 := n3_
 have HL177_2 := n4_
 have HX177_2 := n5_
 have HO180 := n6_
 have HK := n7_
 have HB := n8_
 have HI0 := n9_
 clear n0_ n1_ n2_ n3_ n4_ n5_ n6_ n7_ n8_ n9_
 (try clear hb)
 (try clear hb2)
 (try clear hk)
 (try clear hi)
 refine hK.out _ _ ⟨(blk_cell BK170.out 0).trans rfl, HS1_, HS2_, HS3_⟩ (fun hHeld => ?_)
 clear hK K
 refine norm_ (a' := ?_) ?_ ?_
 rotate_left
 {
 show Act.put _ (some 54) _ = _
 simp only [qzs]
 rfl
 }
 refine one_ (i := 13) (N := some 56) (bqz 20 16383) rfl rfl qzc (by decide) (fun K hK => ?_)
 refine goes_ Try.func105 (by kernel_rfl) rfl #[.pointer (some ⟨g, 0, none⟩), .int .i64 3] (by rfl) rfl rfl qz1 ?_
 with_reducible refine (spec_l1Below.calls g s0_0 t182 t183 3 t184 t185 t186 w0 _ ?side1 ?side2 A27.out).mono ?_
 (case side1 => exact qz9)
 (case side2 => exact qz11)
 rintro e w49 ⟨rfl, hi, hb, hk⟩
 have HS1_ := keep_cell hk (hHeld.2.1) qz41
 have HS2_ := keep_cell hk (hHeld.2.2.1) qz41
 have HS3_ := keep_cell hk (hHeld.2.2.2) qz41
 refine ⟨_, rfl, ?_⟩
 have n0_ := aM (KeepBut.blk hk (bk_ BK165.out) NB165_0.out (by simp))
 have n1_ := aM (KeepBut.blk hk (bk_ BK166.out) NB166_0.out (by simp))
 have n2_ := aM (Kd.S_mono (Kd.S_keep (IsS122.apartS (show IsS122 w0 _ g s0_0 t182 t183 from by repeat (first | (with_reducible first | exact HI0.out | apply IsS122.alloc | apply IsS122.drewN | apply IsS122.drew | apply IsS122.set_1 | apply IsS122.set_2 | refine IsS122.far ?_ NB0_165.out _ | refine IsS122.far ?_ NB0_166.out _ | refine IsS122.far ?_ NB0_170.out _) | exact HI0.out)) (rs_ HO169.out) (by decide)) hk (fun _ h => h.2)) (fun _ h => h.1))
 have n3_ := aM (KeepBut.blk hk (bk_ BK170.out) NB170_0.out (by simp))
 have n4_ := aM (Kd.R_mono (Kd.R_keep (IsS122.apart (show IsS122 w0 _ g s0_0 t182 t183 from by repeat (first | (with_reducible first | exact HI0.out | apply IsS122.alloc | apply IsS122.drewN | apply IsS122.drew | apply IsS122.set_1 | apply IsS122.set_2 | refine IsS122.far ?_ NB0_165.out _ | refine IsS122.far ?_ NB0_166.out _ | refine IsS122.far ?_ NB0_170.out _) | exact HI0.out)) (rr_ HL177_2.out) (by decide)) hk (fun _ h => h.2)) (fun _ h => h.1))
 have n5_ := aM (keep_cell hk HX177_2.out qz89)
 have n6_ := aM (Kd.R_mono (Kd.R_keep (IsS122.apart (show IsS122 w0 _ g s0_0 t182 t183 from by repeat (first | (with_reducible first | exact HI0.out | apply IsS122.alloc | apply IsS122.drewN | apply IsS122.drew | apply IsS122.set_1 | apply IsS122.set_2 | refine IsS122.far ?_ NB0_165.out _ | refine IsS122.far ?_ NB0_166.out _ | refine IsS122.far ?_ NB0_170.out _) | exact HI0.out)) (rr_ HO180.out) (by decide)) hk (fun _ h => h.2)) (fun _ h => h.1))
 have n7_ := aM (KeepBut.trans qz5 hk (.inl rfl))
 have n8_ := aM (hb)
 have n9_ := aM (hi)
 clear BK165
 clear BK166
 clear HO169
 clear BK170
 clear HL177_2
 clear HX177_2
 clear HO180
 clear HK
 clear HB
 clear HI0
 have BK165 := n0_
 have BK166 := n1_
 have HO169 := n2_
 have BK170 := n3_
 have HL177_2 := n4_
 have HX177_2 := n5_
 have HO180 := n6_
 have HK := n7_
 have HB := n8_
 have HI0 := n9_
 clear n0_ n1_ n2_ n3_ n4_ n5_ n6_ n7_ n8_ n9_
 (try clear hb)
 (try clear hb2)
 (try clear hk)
 (try clear hi)
 obtain ⟨go50, co50, eo50, gb50, gl50, cl50, HG50⟩ := Kd.S_form HO169.out (by have h_ : (t171 : Int) < ((t167.length : Int) : Int) := of_decide_eq_true qz4; have h2_ : 0 ≤ (t171 : Int) := (of_decide_eq_true qz4); omega)
 (first | cases eo50 | (injection eo50 with ea_ en_ ec_; (first | subst ea_ | (injection ea_ with ea_; subst ea_)); subst ec_; clear en_))
 have GB50 := aM gb50
 have GG50 := aM HG50
 clear gb50 gl50 HG50
 (first | simp only [add_plain] at hx177_0 | skip)
 (first | simp only [add_plain] at hx177_1 | skip)
 (first | simp only [add_plain] at hx177_2 | skip)
 obtain ⟨oki50, ce50, hcl50, hM50, hcc50, _, _, hH50⟩ := Kd.S_elem HO169.out z79 (t171 : Int) (of_decide_eq_true qz4) (by have h_ : (t171 : Int) < ((t167.length : Int) : Int) := of_decide_eq_true qz4; first | exact h_ | (have e_ := (Kd.S_reads' HO169.out).1; omega) | simpa using h_)
 obtain ⟨ve50_2, rfl, ge50_2⟩ := k79_openM hM50
 have hv50 := hcc50 2 _ rfl
 have hX50 := HX177_2.out
 (try simp only [add_plain] at hX50)
 (try simp only [Nat.add_zero] at hv50)
 replace hv50 := Option.some.inj (hv50.symm.trans hX50)
 subst hv50
 clear hX50 hcc50 hcl50
 have UU50 := aM (show Kd.R k72 72 _ w.heap.size oki50 (.slice A177_2 ((rd_T79 t167 t171).f2).length c177_2) ((rd_T79 t167 t171).f2) from ge50_2)
 have HH50 := aM hH50
 have HN50 := aM (Kd.S_reads' HO169.out).1
 clear hH50 ge50_2
 refine hK.out _ _ ⟨(blk_cell BK170.out 0).trans rfl, HS1_, HS2_, HS3_⟩ (fun hHeld => ?_)
 clear hK K
 refine norm_ (a' := ?_) ?_ ?_
 rotate_left
 {
 show Act.put _ (some 56) _ = _
 simp only [qzs]
 rfl
 }
 refine pI_ 14 57 (bqz 20 32767) ?_
 refine one_ (i := 15) (N := some 58) (bqz 20 65535) rfl rfl qzc (by decide) (fun K hK => ?_)
 refine value_ (w1 := ?_) (v := ?_) (by rfl) rfl ?_ ?_
 rotate_left 2
 {
 go_simp
 constructor
 {
 rfl
 }
 {
 rfl
 }
 }
 refine hK.out _ _ ⟨(blk_cell (blk_alloc BK170.out _) 0).trans rfl, (World.cell?_alloc_lt _ _ _ (World.block_lt_of_cell? _ _ (hHeld.2.1))).trans (hHeld.2.1), (World.cell?_alloc_lt _ _ _ (World.block_lt_of_cell? _ _ (hHeld.2.2.1))).trans (hHeld.2.2.1), (World.cell?_alloc_lt _ _ _ (World.block_lt_of_cell? _ _ (hHeld.2.2.2))).trans (hHeld.2.2.2)⟩ (fun hHeld => ?_)
 clear hK K
 refine norm_ (a' := ?_) ?_ ?_
 rotate_left
 {
 show Act.put _ (some 58) _ = _
 simp only [qzs]
 rfl
 }
 refine one_ (i := 16) (N := some 59) (bqz 20 131071) rfl rfl qzc (by decide) (fun K hK => ?_)
 refine Kd.R_append_step k72 w.heap.size (by rfl) (.tmp 51) (.tmp 58) 77 72 (.agg #[(.int .i64 0), (.int .i64 0), (.int .i64 0)]) 24 rfl Try.underlying77 info72 rfl (by decide) (by omega) (.slice A177_2 ((rd_T79 t167 t171).f2).length c177_2) ((rd_T79 t167 t171).f2) (⟨9, t181, t184⟩ : S72) [.int .i64 9, .int .i64 t181, .int .i64 t184] (fun k_ => oki50 k_ ∨ ((fun _ => True)) k_ ∧ w49.heap.size ≤ k_) (fun _ => False) rfl rfl ?aP (fun _ hk => hk.elim) ?aF ?aO (Below.refl _ _) ?aS ?aL ?_
 (case aP => exact k72_mkM _ _ _ (⟨9, t181, t184⟩ : S72))
 (case aF => exact (fun k_ hk => .inr ⟨trivial, hk⟩))
 (case aO => exact (by (with_reducible repeat (first | apply Kd.R_alloc | apply Kd.R_drewN | apply Kd.R_drew)); exact Kd.R_mono UU50.out (fun _ hk => .inl hk)))
 (case aS => exact (keep_size (w := w) (g := g) (row := none) qz5))
 (case aL => have := LMc28.out; omega)
 intro v188 w51 ho hb hg hat
 (first | have HS1_ := cell_grown hg (hHeld.2.1) qz46 | have HS1_ := cell_grown hg (cell_unalloc (hHeld.2.1) qz90) qz46)
 (first | have HS2_ := cell_grown hg (hHeld.2.2.1) qz46 | have HS2_ := cell_grown hg (cell_unalloc (hHeld.2.2.1) qz90) qz46)
 (first | have HS3_ := cell_grown hg (hHeld.2.2.2) qz46 | have HS3_ := cell_grown hg (cell_unalloc (hHeld.2.2.2) qz90) qz46)
 rw [← Ny187.out] at ho
 have n0_ := aM (IsS122.grown qz9 hg (IsS122.own_ne HI0.out HL177_2.out (by decide)))
 have n1_ := aM (blk_grown (bk_ BK165.out) hg (Kd.R_ne HL177_2.out BK165.out (by decide)))
 have n2_ := aM (blk_grown (bk_ BK166.out) hg (Kd.R_ne HL177_2.out BK166.out (by decide)))
 have n3_ := aM (blk_grown (bk_ BK170.out) hg (Kd.R_ne HL177_2.out BK170.out (by decide)))
 have n4_ := aM (Kd.R_over' (v := (.slice A177_2 ((rd_T79 t167 t171).f2).length c177_2)) (rr_ HO180.out) (Kd.R_typed HL177_2.out) (by decide) hg)
 have n5_ := aM (below_weaken qz11 HL.out hb)
 have n6_ := aM (KeepBut.trans qz5 (KeepBut.of_grown hg g) (Kd.R_base2 HL177_2.out))
 have n7_ := aM (Kd.H_grown (Kd.H_widen (by repeat (first | exact HH50.out | refine Kd.H_alloc ?_ _ | refine Kd.H_drewN ?_ _ | refine Kd.H_drew ?_))) hg (fun k_ e_ => .inl (UU50.out.1 k_ e_)))
 have n8_ := aM (ho)
 clear HI0
 clear BK165
 clear BK166
 clear BK170
 clear HO180
 clear HB
 clear HK
 clear HH50
 clear HO169
 clear UU50
 clear HL177_2
 have HI0 := n0_
 have BK165 := n1_
 have BK166 := n2_
 have BK170 := n3_
 have HO180 := n4_
 have HB := n5_
 have HK := n6_
 have HH50 := n7_
 have HO189 := n8_
 clear n0_ n1_ n2_ n3_ n4_ n5_ n6_ n7_ n8_
 clear ho hb hg hat
 have p29 : 0 ≤ (t171 : Int) := of_decide_eq_true qz4
 have q29 : (t171 : Int) < ((t167.length : Int) : Int) := of_decide_eq_true qz4
 replace p29 := eq_true p29
 replace q29 := eq_true q29
 obtain ⟨Ao54, co54, eo54⟩ := Kd.R_slice HO189.out
 (first | subst eo54 | (injection eo54 with f1_ f2_ f3_; have f4_ := f1_.symm; have f5_ := f3_.symm; clear f1_ f2_ f3_; subst f4_; subst f5_))
 obtain ⟨_, _, hraw52, _, _, hcc52, _⟩ := Kd.H_raw HH50.out (of_decide_eq_true qz4) (by have h_ : (t171 : Int) < ((t167.length : Int) : Int) := of_decide_eq_true qz4; first | exact h_ | (have e_ := (HN50.out); omega) | simpa using h_)
 obtain ⟨_, hfr52⟩ := Kd.H_at HH50.out (of_decide_eq_true qz4) (by have h_ : (t171 : Int) < ((t167.length : Int) : Int) := of_decide_eq_true qz4; first | exact h_ | (have e_ := (HN50.out); omega) | simpa using h_)
 have hx52_0 := hcc52 2 _ rfl
 have hf52_0 := hfr52 2
 (try rw [show (k79).sz = 3 from rfl] at hx52_0)
 (try rw [show (k79).sz = 3 from rfl] at hf52_0)
 have HP52 := Kd.S_seg0 HH50.out (of_decide_eq_true qz4) (by have h_ : (t171 : Int) < ((t167.length : Int) : Int) := of_decide_eq_true qz4; first | exact h_ | (have e_ := (HN50.out); omega) | simpa using h_) (seg := [.slice Ao54 y187.length co54]) (j := 2) (show 3 ≤ 3 from by decide) (x' := (⟨(rd_T79 t167 t171).f0, (rd_T79 t167 t171).f1, y187⟩ : S79)) (k79_mkM _ _ _ (⟨(rd_T79 t167 t171).f0, (rd_T79 t167 t171).f1, y187⟩ : S79) HO189.out) (fun _ hk => hk)
 clear hcc52 hfr52
 have HN0_go50 := aM (show g ≠ go50 from by have h_ := IsS122.own_ne HI0.out hraw52 (by decide); intro e_; exact h_ (by rw [e_]; rfl))
 have HNB165_go50 := aM (show gb165 ≠ go50 from by have h_ := Kd.R_ne hraw52 BK165.out (by decide); intro e_; exact h_ (by rw [e_]; rfl))
 have HNB166_go50 := aM (show gb166 ≠ go50 from by have h_ := Kd.R_ne hraw52 BK166.out (by decide); intro e_; exact h_ (by rw [e_]; rfl))
 have HNB170_go50 := aM (show gb170 ≠ go50 from by have h_ := Kd.R_ne hraw52 BK170.out (by decide); intro e_; exact h_ (by rw [e_]; rfl))
 have HS52 := HP52.1
 rw [← Ny190.out] at HS52
 have HQ52 := aM HS52
 obtain ⟨_, hgg52⟩ := Kd.R_typed hraw52 go50 rfl
 have GG52_ := aM hgg52
 clear HP52 HS52 hgg52
 refine hK.out _ _ ⟨(blk_cell BK170.out 0).trans rfl, HS1_, HS2_, HS3_⟩ (fun hHeld => ?_)
 clear hK K
 refine norm_ (a' := ?_) ?_ ?_
 rotate_left
 {
 show Act.put _ (some 59) _ = _
 simp only [qzs]
 rfl
 }
 refine pI_ 17 60 (bqz 20 262143) ?_
 refine pI_ 18 61 (bqz 20 524287) ?_
 refine last_ (i := 19) (N := none) (bqz 20 1048575) rfl rfl qzc (by decide) (fun K hK => ?_)
 refine skip_ (w1 := ?_) (by rfl) rfl ?_ ?_
 rotate_left
 {
 go_simp
 rfl
 }
 refine hK.out _ _ ?_
 clear hK K
 refine done_ (done_of HT_.out (by kernel_rfl)) ?_
 generalize hq_ : (w51.setCell ⟨go50, (t171 : Int).toNat * 3 + 2, none⟩ (.slice Ao54 y187.length co54)) = w55
 have n0_ : Aside0 (Kd.R (Kd.int .i64) 3 w55 w.heap.size (fun _ => True) (.slice Ao47 y178.length co47) y178) := ⟨by rw [← hq_]; exact (by (with_reducible repeat (first | apply Kd.R_alloc | apply Kd.R_drewN | apply Kd.R_drew)); exact Kd.R_mono (Kd.R_far (p := ⟨go50, (t171 : Int).toNat * 3 + 2, none⟩) (Kd.R_types HO180.out GG52_.out (by decide)) (fun _ hk => hk.2) (.slice Ao54 y187.length co54)) (fun _ hk => trivial))⟩
 have n1_ : Aside0 (Kd.S k79 79 w55 w.heap.size (fun _ => True) (.slice (some ⟨go50, 0, none⟩) t167.length co37) y190) := ⟨by rw [← hq_]; exact (rs_ HQ52.out)⟩
 have n2_ : Aside0 (w55.heap[gb165]? = some (.cells #[.slice A1_0 l1_0.length c1_0] 26 (0, 0))) := ⟨by rw [← hq_]; exact (by (with_reducible repeat (first | refine blk_drewN ?_ _ | refine blk_drew ?_ | refine blk_alloc ?_ _)); refine blk_far ?_ HNB165_go50.out _; exact bk_ BK165.out)⟩
 have n3_ : Aside0 (w55.heap[gb166]? = some (.cells #[.slice none 0 0] 26 (0, 0))) := ⟨by rw [← hq_]; exact (by (with_reducible repeat (first | refine blk_drewN ?_ _ | refine blk_drew ?_ | refine blk_alloc ?_ _)); refine blk_far ?_ HNB166_go50.out _; exact bk_ BK166.out)⟩
 have n4_ : Aside0 (w55.heap[gb170]? = some (.cells #[.slice (some ⟨go50, 0, none⟩) t167.length co37] 26 (0, 0))) := ⟨by rw [← hq_]; exact (by (with_reducible repeat (first | refine blk_drewN ?_ _ | refine blk_drew ?_ | refine blk_alloc ?_ _)); refine blk_far ?_ HNB170_go50.out _; exact bk_ BK170.out)⟩
 have n5_ : Aside0 (IsS122 w0 w55 g s0_0 t185 t186) := ⟨by rw [← hq_]; exact (by repeat (first | (with_reducible first | exact HI0.out | apply IsS122.alloc | apply IsS122.drewN | apply IsS122.drew | apply IsS122.set_1 | apply IsS122.set_2 | refine IsS122.far ?_ HN0_go50.out _ | refine IsS122.far ?_ NB0_165.out _ | refine IsS122.far ?_ NB0_166.out _ | refine IsS122.far ?_ NB0_170.out _) | exact HI0.out))⟩
 have n6_ : Aside0 (KeepBut w w55 g none) := ⟨by rw [← hq_]; exact (by repeat (first | (with_reducible first | exact HK.out | apply KeepBut.set_ | apply keep_drewN | apply keep_drew | apply keep_alloc | refine keep_far ?_ GB50.out _ | refine keep_far ?_ GW165.out _ | refine keep_far ?_ GW166.out _ | refine keep_far ?_ GW170.out _) | exact HK.out))⟩
 have n7_ : Aside0 (Below w0.heap.size w0 w55) := ⟨by rw [← hq_]; exact (by repeat (first | (with_reducible first | exact HB.out | apply below_alloc | apply pw_below_drewN | apply below_drew1 | refine below_set ?_ (Nat.le_trans HL.out GB50.out) | refine below_set ?_ (IsS122.ge HI0.out) | refine below_set ?_ GE165.out | refine below_set ?_ GE166.out | refine below_set ?_ GE170.out) | exact HB.out))⟩
 (try clear HO180)
 (try clear HO169)
 (try clear BK165)
 (try clear BK166)
 (try clear BK170)
 (try clear HI0)
 (try clear HK)
 (try clear HB)
 clear hq_
 have HO180 := n0_
 have HO169 := n1_
 have BK165 := n2_
 have BK166 := n3_
 have BK170 := n4_
 have HI0 := n5_
 have HK := n6_
 have HB := n7_
 clear n0_ n1_ n2_ n3_ n4_ n5_ n6_ n7_
 have hcz56_0 := bc0_ BK170.out
 have hfz56_0 := blk_frozen BK170.out 0
 have hnb57 := NB166_0.out
 have hnc57 := NB0_166.out
 have hcz58_0 := bc0_ BK166.out
 have hfz58_0 := blk_frozen BK166.out 0
 try go_wp2
 refine bodyPost_ret (results_cell_row rfl _ _ gb166 26 #[.slice (some ⟨go50, 0, none⟩) t167.length co37] (0, 0) _ rfl (by (with_reducible repeat (first | refine blk_drewN ?_ _ | refine blk_drew ?_ | refine blk_alloc ?_ _)); refine blk_put (cs := #[.slice none 0 0]) ?_ 0 _ rfl; exact bk_ BK166.out) Try.underlying26 rfl (by kernel_rfl)) rfl ?_
 exact ⟨_, by first | rfl | (simp [errW_none, errW_some] <;> rfl) | (simp [*, errW_none, errW_some] <;> rfl), by (with_reducible repeat (first | apply Kd.S_alloc | apply Kd.S_drewN | apply Kd.S_drew)); exact Kd.S_mono (Kd.S_far (p := ⟨gb166, 0, none⟩) (Kd.S_types HO169.out BK166.out (by decide)) (fun _ hk => hk.2) (.slice (some ⟨go50, 0, none⟩) t167.length co37)) (fun _ hk => trivial), by repeat (first | (with_reducible first | exact HI0.out | apply IsS122.alloc | apply IsS122.drewN | apply IsS122.drew | apply IsS122.set_1 | apply IsS122.set_2 | refine IsS122.far ?_ NB0_165.out _ | refine IsS122.far ?_ NB0_166.out _ | refine IsS122.far ?_ NB0_170.out _) | exact HI0.out), by repeat (first | (with_reducible first | exact HB.out | apply below_alloc | apply pw_below_drewN | apply below_drew1 | refine below_set ?_ (IsS122.ge HI0.out) | refine below_set ?_ GE165.out | refine below_set ?_ GE166.out | refine below_set ?_ GE170.out) | exact HB.out), by repeat (first | (with_reducible first | exact HK.out | apply KeepBut.set_ | apply keep_drewN | apply keep_drew | apply keep_alloc | refine keep_far ?_ GW165.out _ | refine keep_far ?_ GW166.out _ | refine keep_far ?_ GW170.out _) | exact HK.out)⟩
 }
 {
 rw [if_neg c28] at H
 exact absurd H (by simp)
 }
 }
 {
 rw [if_neg c25] at H
 exact absurd H (by simp)
 }
 }
 {
 rw [if_neg c24] at H
 exact absurd H (by simp)
 }
 }
 {
 rw [if_neg c23] at H
 have c23b0 := beq_eq_false_iff_ne.mpr c23
 have c23b1 := bne_iff_ne.mpr c23
 by_cases c59 : t174 = 3
 {
 rw [if_pos c59] at H
 have c59b0 := beq_iff_eq.mpr c59
 have c59b1 := bne_eq_false_iff_eq.mpr c59
 clear c59
 by_cases c60 : 0 < (t167.length : Int)
 {
 rw [if_pos c60] at H
 have c60b0 := decide_eq_true c60
 have c60b1 : decide (0 < t167.length) = true := decide_eq_true (by omega)
 clear c60
 exact absurd H (by simp)
 }
 {
 rw [if_neg c60] at H
 exact absurd H (by simp)
 }
 }
 {
 rw [if_neg c59] at H
 have c59b0 := beq_eq_false_iff_ne.mpr c59
 have c59b1 := bne_iff_ne.mpr c59
 simp only [Option.some.injEq, Prod.mk.injEq] at H
 obtain ⟨rfl, rfl, rfl⟩ := H
 go_enter Try.func103, Try.ntmps103
 go_wp2_with (first | ((with_reducible refine gate_dst (N := 3) rfl ?_); refine bx_ 3 #[.slice A1_0 l1_0.length c1_0] 26 ?_; intro gb165 hg w61 hbox hb; have n0_ := aM (IsS122.below qz30 hb); have n1_ := aM (KeepBut.trans qz7 (KeepBut.of_below hb g none) (.inl rfl)); have n2_ := aM (below_step qz31 hb); have n3_ := aM (hbox); have n4_ := aM ((by rw [hg]; exact (keep_size (w := w) (g := g) (row := none) qz7) : w.heap.size ≤ gb165)); have n5_ := aM ((Nat.le_trans HW0.out (by rw [hg]; exact (keep_size (w := w) (g := g) (row := none) qz7) : w.heap.size ≤ gb165) : w0.heap.size ≤ gb165)); have n6_ := aM ((by rw [hg]; exact Nat.ne_of_lt (IsS122.lt (show IsS122 w0 _ g s0_0 s0_1 s0_2 from by repeat (first | (with_reducible first | exact HI0.out | apply IsS122.alloc | apply IsS122.drewN | apply IsS122.drew | apply IsS122.set_1 | apply IsS122.set_2) | exact HI0.out))) : g ≠ gb165)); have n7_ := aM ((by rw [hg]; exact Nat.ne_of_gt (IsS122.lt (show IsS122 w0 _ g s0_0 s0_1 s0_2 from by repeat (first | (with_reducible first | exact HI0.out | apply IsS122.alloc | apply IsS122.drewN | apply IsS122.drew | apply IsS122.set_1 | apply IsS122.set_2) | exact HI0.out))) : gb165 ≠ g)); clear HI0 HK HB; have HI0 := n0_; have HK := n1_; have HB := n2_; have BK165 := n3_; have GW165 := n4_; have GE165 := n5_; have NB0_165 := n6_; have NB165_0 := n7_; clear n0_ n1_ n2_ n3_ n4_ n5_ n6_ n7_; clear hb hbox hg) | ((with_reducible refine gate_dst (N := 4) rfl ?_); refine bx_ 4 #[.slice none 0 0] 26 ?_; intro gb166 hg w62 hbox hb; have n0_ := aM (IsS122.below qz37 hb); have n1_ := aM (blk_below (bk_ BK165.out) hb); have n2_ := aM (KeepBut.trans qz10 (KeepBut.of_below hb g none) (.inl rfl)); have n3_ := aM (below_step qz39 hb); have n4_ := aM (hbox); have n5_ := aM ((by rw [hg]; exact (keep_size (w := w) (g := g) (row := none) qz10) : w.heap.size ≤ gb166)); have n6_ := aM ((Nat.le_trans HW0.out (by rw [hg]; exact (keep_size (w := w) (g := g) (row := none) qz10) : w.heap.size ≤ gb166) : w0.heap.size ≤ gb166)); have n7_ := aM ((by rw [hg]; exact Nat.ne_of_lt (blk_lt (bk_ BK165.out)) : gb165 ≠ gb166)); have n8_ := aM ((by rw [hg]; exact Nat.ne_of_gt (blk_lt (bk_ BK165.out)) : gb166 ≠ gb165)); have n9_ := aM ((by rw [hg]; exact Nat.ne_of_lt (IsS122.lt (show IsS122 w0 _ g s0_0 s0_1 s0_2 from by repeat (first | (with_reducible first | exact HI0.out | apply IsS122.alloc | apply IsS122.drewN | apply IsS122.drew | apply IsS122.set_1 | apply IsS122.set_2 | refine IsS122.far ?_ NB0_165.out _) | exact HI0.out))) : g ≠ gb166)); have n10_ := aM ((by rw [hg]; exact Nat.ne_of_gt (IsS122.lt (show IsS122 w0 _ g s0_0 s0_1 s0_2 from by repeat (first | (with_reducible first | exact HI0.out | apply IsS122.alloc | apply IsS122.drewN | apply IsS122.drew | apply IsS122.set_1 | apply IsS122.set_2 | refine IsS122.far ?_ NB0_165.out _) | exact HI0.out))) : gb166 ≠ g)); clear HI0 BK165 HK HB; have HI0 := n0_; have BK165 := n1_; have HK := n2_; have HB := n3_; have BK166 := n4_; have GW166 := n5_; have GE166 := n6_; have NB165_166 := n7_; have NB166_165 := n8_; have NB0_166 := n9_; have NB166_0 := n10_; clear n0_ n1_ n2_ n3_ n4_ n5_ n6_ n7_ n8_ n9_ n10_; clear hb hbox hg; have hnb63 := NB165_166.out; have hnc63 := NB166_165.out; have hnb64 := NB165_0.out; have hnc64 := NB0_165.out; have hcz65_0 := bc0_ BK165.out; have hfz65_0 := blk_frozen BK165.out 0) | ((with_reducible refine gate_callee (f := 62) rfl ?_); refine goesL_ (some 8) rfl rfl Try.func62 (by kernel_rfl) rfl #[.agg #[.slice A1_0 l1_0.length c1_0]] rfl qz1 ?_; (with_reducible refine (spec_l5Copy.calls k _ _ l1_0 t167 _ ?side1 ?side2 A3.out).mono ?_); (case side1 => exact Kd.C_foot_now HR1_0.out qz3); (case side2 => exact HC1_0.out); rintro e w66 ⟨v168, rfl, ho0, hb⟩; refine ⟨_, rfl, ?_⟩; have n0_ := aM (Kd.S_lower ho0 (keep_size (w := w) (g := g) (row := none) qz3)); have n1_ := aM (IsS122.below qz8 hb); have n2_ := aM (blk_below (bk_ BK165.out) hb); have n3_ := aM (blk_below (bk_ BK166.out) hb); have n4_ := aM (KeepBut.trans qz3 (KeepBut.of_below hb g none) (.inl rfl)); have n5_ := aM (below_step qz14 hb); clear HI0 BK165 BK166 HK HB; have HO169 := n0_; have HI0 := n1_; have BK165 := n2_; have BK166 := n3_; have HK := n4_; have HB := n5_; clear n0_ n1_ n2_ n3_ n4_ n5_; (try clear hb); (try clear hb2); (try clear hk); (try clear hi); (try clear ho0)) | ((with_reducible refine gate_dst (N := 5) rfl ?_); refine bx_ 5 #[.slice none 0 0] 26 ?_; intro gb170 hg w67 hbox hb; have n0_ := aM (Kd.S_below (rs_ HO169.out) hb); have n1_ := aM (IsS122.below qz8 hb); have n2_ := aM (blk_below (bk_ BK165.out) hb); have n3_ := aM (blk_below (bk_ BK166.out) hb); have n4_ := aM (KeepBut.trans qz3 (KeepBut.of_below hb g none) (.inl rfl)); have n5_ := aM (below_step qz14 hb); have n6_ := aM (hbox); have n7_ := aM ((by rw [hg]; exact (keep_size (w := w) (g := g) (row := none) qz3) : w.heap.size ≤ gb170)); have n8_ := aM ((Nat.le_trans HW0.out (by rw [hg]; exact (keep_size (w := w) (g := g) (row := none) qz3) : w.heap.size ≤ gb170) : w0.heap.size ≤ gb170)); have n9_ := aM ((by rw [hg]; exact Nat.ne_of_lt (blk_lt (bk_ BK165.out)) : gb165 ≠ gb170)); have n10_ := aM ((by rw [hg]; exact Nat.ne_of_gt (blk_lt (bk_ BK165.out)) : gb170 ≠ gb165)); have n11_ := aM ((by rw [hg]; exact Nat.ne_of_lt (blk_lt (bk_ BK166.out)) : gb166 ≠ gb170)); have n12_ := aM ((by rw [hg]; exact Nat.ne_of_gt (blk_lt (bk_ BK166.out)) : gb170 ≠ gb166)); have n13_ := aM ((by rw [hg]; exact Nat.ne_of_lt (IsS122.lt (show IsS122 w0 _ g s0_0 s0_1 s0_2 from by repeat (first | (with_reducible first | exact HI0.out | apply IsS122.alloc | apply IsS122.drewN | apply IsS122.drew | apply IsS122.set_1 | apply IsS122.set_2 | refine IsS122.far ?_ NB0_165.out _ | refine IsS122.far ?_ NB0_166.out _) | exact HI0.out))) : g ≠ gb170)); have n14_ := aM ((by rw [hg]; exact Nat.ne_of_gt (IsS122.lt (show IsS122 w0 _ g s0_0 s0_1 s0_2 from by repeat (first | (with_reducible first | exact HI0.out | apply IsS122.alloc | apply IsS122.drewN | apply IsS122.drew | apply IsS122.set_1 | apply IsS122.set_2 | refine IsS122.far ?_ NB0_165.out _ | refine IsS122.far ?_ NB0_166.out _) | exact HI0.out))) : gb170 ≠ g)); clear HO169 HI0 BK165 BK166 HK HB; have HO169 := n0_; have HI0 := n1_; have BK165 := n2_; have BK166 := n3_; have HK := n4_; have HB := n5_; have BK170 := n6_; have GW170 := n7_; have GE170 := n8_; have NB165_170 := n9_; have NB170_165 := n10_; have NB166_170 := n11_; have NB170_166 := n12_; have NB0_170 := n13_; have NB170_0 := n14_; clear n0_ n1_ n2_ n3_ n4_ n5_ n6_ n7_ n8_ n9_ n10_ n11_ n12_ n13_ n14_; clear hb hbox hg; obtain ⟨Ao68, co68, eo68⟩ := Kd.S_slice HO169.out; subst eo68; have hnb69 := NB170_165.out; have hnc69 := NB165_170.out; have hnb70 := NB170_166.out; have hnc70 := NB166_170.out; have hnb71 := NB170_0.out; have hnc71 := NB0_170.out; have hcz72_0 := bc0_ BK170.out; have hfz72_0 := blk_frozen BK170.out 0) | ((with_reducible refine gate_callee (f := 105) rfl ?_); refine goesL_ (some 18) rfl rfl Try.func105 (by kernel_rfl) rfl #[.pointer (some ⟨g, 0, none⟩), .int .i64 (t167.length : Int)] rfl qz1 ?_; (with_reducible refine (spec_l1Below.calls g s0_0 s0_1 s0_2 (t167.length : Int) t171 t172 t173 w0 _ ?side1 ?side2 A19.out).mono ?_); (case side1 => exact qz9); (case side2 => exact qz11); rintro e w73 ⟨rfl, hi, hb, hk⟩; refine ⟨_, rfl, ?_⟩; have n0_ := aM (KeepBut.blk hk (g' := gb165) (o := .cells #[.slice A1_0 l1_0.length c1_0] 26 (0, 0)) qz65 NB165_0.out (by simp)); have n1_ := aM (KeepBut.blk hk (g' := gb166) (o := .cells #[.slice none 0 0] 26 (0, 0)) qz66 NB166_0.out (by simp)); have n2_ := aM (Kd.S_mono (Kd.S_keep (IsS122.apartS (show IsS122 w0 _ g s0_0 s0_1 s0_2 from by repeat (first | (with_reducible first | exact HI0.out | apply IsS122.alloc | apply IsS122.drewN | apply IsS122.drew | apply IsS122.set_1 | apply IsS122.set_2 | refine IsS122.far ?_ NB0_165.out _ | refine IsS122.far ?_ NB0_166.out _ | refine IsS122.far ?_ NB0_170.out _) | exact HI0.out)) (by (with_reducible repeat (first | apply Kd.S_alloc | apply Kd.S_drewN | apply Kd.S_drew)); exact (Kd.S_mono (Kd.S_far (p := ⟨gb170, 0, none⟩) (Kd.S_types HO169.out BK170.out (by decide)) (fun _ hk => hk.2) (.slice Ao68 t167.length co68)) (fun _ h_ => h_.1))) (by decide)) hk (fun _ h => h.2)) (fun _ h => h.1)); have n3_ := aM (KeepBut.blk hk (g' := gb170) (o := .cells #[.slice Ao68 t167.length co68] 26 (0, 0)) (by (with_reducible repeat (first | refine blk_drewN ?_ _ | refine blk_drew ?_ | refine blk_alloc ?_ _)); refine blk_put (cs := #[.slice none 0 0]) ?_ 0 _ rfl; exact bk_ BK170.out) NB170_0.out (by simp)); have n4_ := aM (KeepBut.trans qz5 hk (.inl rfl)); have n5_ := aM (hb); have n6_ := aM (hi); clear BK165 BK166 HO169 BK170 HK HB HI0; have BK165 := n0_; have BK166 := n1_; have HO169 := n2_; have BK170 := n3_; have HK := n4_; have HB := n5_; have HI0 := n6_; clear n0_ n1_ n2_ n3_ n4_ n5_ n6_; (try clear hb); (try clear hb2); (try clear hk); (try clear hi)) | ((with_reducible refine gate_callee (f := 105) rfl ?_); refine goesL_ (some 20) rfl rfl Try.func105 (by kernel_rfl) rfl #[.pointer (some ⟨g, 0, none⟩), .int .i64 6] rfl qz1 ?_; (with_reducible refine (spec_l1Below.calls g s0_0 t172 t173 6 t174 t175 t176 w0 _ ?side1 ?side2 A20.out).mono ?_); (case side1 => exact qz9); (case side2 => exact qz11); rintro e w74 ⟨rfl, hi, hb, hk⟩; refine ⟨_, rfl, ?_⟩; have n0_ := aM (KeepBut.blk hk (bk_ BK165.out) NB165_0.out (by simp)); have n1_ := aM (KeepBut.blk hk (bk_ BK166.out) NB166_0.out (by simp)); have n2_ := aM (Kd.S_mono (Kd.S_keep (IsS122.apartS (show IsS122 w0 _ g s0_0 t172 t173 from by repeat (first | (with_reducible first | exact HI0.out | apply IsS122.alloc | apply IsS122.drewN | apply IsS122.drew | apply IsS122.set_1 | apply IsS122.set_2 | refine IsS122.far ?_ NB0_165.out _ | refine IsS122.far ?_ NB0_166.out _ | refine IsS122.far ?_ NB0_170.out _) | exact HI0.out)) (rs_ HO169.out) (by decide)) hk (fun _ h => h.2)) (fun _ h => h.1)); have n3_ := aM (KeepBut.blk hk (bk_ BK170.out) NB170_0.out (by simp)); have n4_ := aM (KeepBut.trans qz5 hk (.inl rfl)); have n5_ := aM (hb); have n6_ := aM (hi); clear BK165 BK166 HO169 BK170 HK HB HI0; have BK165 := n0_; have BK166 := n1_; have HO169 := n2_; have BK170 := n3_; have HK := n4_; have HB := n5_; have HI0 := n6_; clear n0_ n1_ n2_ n3_ n4_ n5_ n6_; (try clear hb); (try clear hb2); (try clear hk); (try clear hi); have hcz75_0 := bc0_ BK170.out; have hfz75_0 := blk_frozen BK170.out 0; have hnb76 := NB166_0.out; have hnc76 := NB0_166.out; have hcz77_0 := bc0_ BK166.out; have hfz77_0 := blk_frozen BK166.out 0))
 refine bodyPost_ret (results_cell_row rfl _ _ gb166 26 #[.slice Ao68 t167.length co68] (0, 0) _ rfl (by (with_reducible repeat (first | refine blk_drewN ?_ _ | refine blk_drew ?_ | refine blk_alloc ?_ _)); refine blk_put (cs := #[.slice none 0 0]) ?_ 0 _ rfl; exact bk_ BK166.out) Try.underlying26 rfl (by kernel_rfl)) rfl ?_
 exact ⟨_, by first | rfl | (simp [errW_none, errW_some] <;> rfl) | (simp [*, errW_none, errW_some] <;> rfl), by (with_reducible repeat (first | apply Kd.S_alloc | apply Kd.S_drewN | apply Kd.S_drew)); exact Kd.S_mono (Kd.S_far (p := ⟨gb166, 0, none⟩) (Kd.S_types HO169.out BK166.out (by decide)) (fun _ hk => hk.2) (.slice Ao68 t167.length co68)) (fun _ hk => trivial), by repeat (first | (with_reducible first | exact HI0.out | apply IsS122.alloc | apply IsS122.drewN | apply IsS122.drew | apply IsS122.set_1 | apply IsS122.set_2 | refine IsS122.far ?_ NB0_165.out _ | refine IsS122.far ?_ NB0_166.out _ | refine IsS122.far ?_ NB0_170.out _) | exact HI0.out), by repeat (first | (with_reducible first | exact HB.out | apply below_alloc | apply pw_below_drewN | apply below_drew1 | refine below_set ?_ (IsS122.ge HI0.out) | refine below_set ?_ GE165.out | refine below_set ?_ GE166.out | refine below_set ?_ GE170.out) | exact HB.out), by repeat (first | (with_reducible first | exact HK.out | apply KeepBut.set_ | apply keep_drewN | apply keep_drew | apply keep_alloc | refine keep_far ?_ GW165.out _ | refine keep_far ?_ GW166.out _ | refine keep_far ?_ GW170.out _) | exact HK.out)⟩

 }
 }
 }
 }
 }
/-! ### spec_l5Bend: function 103, told out of the two -/
def spec_l5Bend.f (k : Nat) (s0_0 : List Int) (s0_1 : Int) (s0_2 : Int) (l1_0 : List (S79)) : Option ((List (S79)) × Int × Int) := (spec_l5Copy.f k l1_0).bind fun t167 => (if (t167.length : Int) = 0 then (some (t167, s0_1, s0_2)) else ((spec_l1Below.f s0_0 s0_1 s0_2 (t167.length : Int)).bind fun bt171 => ((spec_l1Below.f s0_0 bt171.2.1 bt171.2.2 6).bind fun bt174 => (if bt174.1 = 0 then ((spec_l1Int.f s0_0 bt174.2.1 bt174.2.2 (([0, 1000, 10] : List Int))).bind fun bt180 => (if 0 ≤ bt171.1 then (if bt171.1 < (t167.length : Int) then (some ((t167.set (bt171.1 : Int).toNat (⟨bt180.1, (rd_T79 t167 bt171.1).f1, (rd_T79 t167 bt171.1).f2⟩ : S79)), bt180.2.1, bt180.2.2)) else (none)) else (none))) else (if bt174.1 = 1 then ((spec_l1Int.f s0_0 bt174.2.1 bt174.2.2 (([(-1), 100, 19] : List Int))).bind fun bt187 => (if 0 ≤ bt171.1 then (if bt171.1 < (t167.length : Int) then (some ((t167.set (bt171.1 : Int).toNat (⟨(rd_T79 t167 bt171.1).f0, bt187.1, (rd_T79 t167 bt171.1).f2⟩ : S79)), bt187.2.1, bt187.2.2)) else (none)) else (none))) else (if bt174.1 = 2 then (if 0 ≤ bt171.1 then (if bt171.1 < (t167.length : Int) then ((spec_l1Int.f s0_0 bt174.2.1 bt174.2.2 (([0, 1, 1001] : List Int))).bind fun bt195 => ((spec_l1Below.f s0_0 bt195.2.1 bt195.2.2 3).bind fun bt198 => (if ((rd_T79 t167 bt171.1).f2).length < 5864062014805 then (some ((t167.set (bt171.1 : Int).toNat (⟨(rd_T79 t167 bt171.1).f0, (rd_T79 t167 bt171.1).f1, (((rd_T79 t167 bt171.1).f2) ++ [(⟨9, bt195.1, bt198.1⟩ : S72)])⟩ : S79)), bt198.2.1, bt198.2.2)) else (none)))) else (none)) else (none)) else (if bt174.1 = 3 then (if 0 < (t167.length : Int) then (if t167.length < 3518437208883 then (some ((t167 ++ [(⟨(rd_T79 t167 0).f0, (rd_T79 t167 0).f1, (rd_T79 t167 0).f2⟩ : S79)]), bt174.2.1, bt174.2.2)) else (none)) else (none)) else (some (t167, bt174.2.1, bt174.2.2)))))))))
theorem spec_l5Bend.mono : ∀ a0 a1 a2 a3 k, LeO (spec_l5Bend.f k a0 a1 a2 a3) (spec_l5Bend.f (k + 1) a0 a1 a2 a3) := by
 intro a0 a1 a2 a3 k
 unfold spec_l5Bend.f
 repeat' first
  | (with_reducible first | exact spec_l5Copy.mono _ _ | exact LeO.refl _ | exact LeO.none _ | refine LeO.ite ?_ ?_ | refine LeO.bind ?_ (fun _ => ?_))
  | exact spec_l5Copy.mono _ _
  | exact LeO.none _
  | refine LeO.ite ?_ ?_
  | refine LeO.bind ?_ (fun _ => ?_)
theorem spec_l5Bend.or (k : Nat) (s0_0 : List Int) (s0_1 : Int) (s0_2 : Int) (l1_0 : List (S79)) (r : (List (S79)) × Int × Int) (h : spec_l5Bend.f k s0_0 s0_1 s0_2 l1_0 = some r) : spec_l5BendS.f k s0_0 s0_1 s0_2 l1_0 = some r ∨ spec_l5BendN.f k s0_0 s0_1 s0_2 l1_0 = some r := by
 unfold spec_l5Bend.f at h
 unfold spec_l5BendS.f spec_l5BendN.f
 obtain ⟨t1, h1, h⟩ := Option.bind_eq_some_iff.mp h
 rw [h1]
 simp only [Option.bind_some]
 by_cases c1 : (t1.length : Int) = 0
 {
 rw [if_pos c1] at h; rw [if_pos c1, if_pos c1]; exact .inr h
 }
 {
 rw [if_neg c1] at h; rw [if_neg c1, if_neg c1]
 obtain ⟨t2, h2, h⟩ := Option.bind_eq_some_iff.mp h
 rw [h2]
 simp only [Option.bind_some]
 obtain ⟨t3, h3, h⟩ := Option.bind_eq_some_iff.mp h
 rw [h3]
 simp only [Option.bind_some]
 by_cases c2 : t3.1 = 0
 {
 rw [if_pos c2] at h; rw [if_pos c2, if_pos c2]; exact .inr h
 }
 {
 rw [if_neg c2] at h; rw [if_neg c2, if_neg c2]
 by_cases c3 : t3.1 = 1
 {
 rw [if_pos c3] at h; rw [if_pos c3, if_pos c3]; exact .inr h
 }
 {
 rw [if_neg c3] at h; rw [if_neg c3, if_neg c3]
 by_cases c4 : t3.1 = 2
 {
 rw [if_pos c4] at h; rw [if_pos c4]; exact .inl h
 }
 {
 rw [if_neg c4] at h; rw [if_neg c4, if_neg c4]; exact .inr h
 }
 }
 }
 }
set_option maxHeartbeats 8000000 in
theorem spec_l5Bend.calls (k : Nat) (g : Nat) (s0_0 : List Int) (s0_1 : Int) (s0_2 : Int) (A1_0 : Option Addr) (c1_0 : Nat) (l1_0 : List (S79)) (r1 : List (S79)) (r2 : Int) (r3 : Int) (w0 w : World) (hI : IsS122 w0 w g s0_0 s0_1 s0_2) (hB : Below w0.heap.size w0 w) (hr1_0 : ∀ W_, KeepBut w W_ g none → Kd.C k79 W_ A1_0 l1_0.length l1_0) (hc1_0 : l1_0.length ≤ c1_0) (h : spec_l5Bend.f k s0_0 s0_1 s0_2 l1_0 = some (r1, r2, r3)) :
  Calls Try.prog 103 #[.pointer (some ⟨g, 0, none⟩), .agg #[.slice A1_0 l1_0.length c1_0]] w fun e w' => ∃ v0_ : Value, e = .returned (.agg #[v0_]) ∧ Kd.N k79 79 w' w.heap.size (fun k_ => (w.heap.size ≤ k_)) v0_ r1 ∧ IsS122 w0 w' g s0_0 r2 r3 ∧ Below w0.heap.size w0 w' ∧ KeepBut w w' g none := by
 rcases spec_l5Bend.or k s0_0 s0_1 s0_2 l1_0 _ h with h | h
 {
 refine (spec_l5BendS.calls k g s0_0 s0_1 s0_2 A1_0 c1_0 l1_0 r1 r2 r3 w0 w hI hB hr1_0 hc1_0 h).mono ?_
 rintro e w' ⟨v0_, he, hS, hr⟩
 exact ⟨v0_, he, Kd.S_N (Kd.S_mono (Kd.S_bound hS) (fun k hk => hk.2.1)), hr⟩
 }
 {
 exact spec_l5BendN.calls k g s0_0 s0_1 s0_2 A1_0 c1_0 l1_0 r1 r2 r3 w0 w hI hB hr1_0 hc1_0 h
 }
end Go.Proofs.Yteajnkondkfmgaa.PFnHeld
