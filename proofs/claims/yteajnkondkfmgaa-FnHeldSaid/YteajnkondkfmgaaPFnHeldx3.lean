-- Made by a program of this session out of the translation. Lean checks it.
import Derived.Test.YteajnkondkfmgaaPFnHeldx0
import Derived.Test.YteajnkondkfmgaaPFnHeldx2
namespace Go.Proofs.Yteajnkondkfmgaa.PFnHeld
open Go.RowKit Go.Proofs.YteajnkondkfmgaaW.PrintWords Go.Proofs.YteajnkondkfmgaaW.PrintLast Go.Proofs.YteajnkondkfmgaaW.PrintMore
attribute [local go_sem] max2_int min2_int max_two min_two max_three min_three max_four min_four   -- for this text's walks alone
set_option linter.unusedVariables false
set_option linter.unusedSimpArgs false

/-! ### spec_l5Draw: function 101 -/
mutual
def spec_l5Draw.l0 : Nat → Int → List Int → Int → Int → List (S79) → Option ((List (S79)) × Int × Int)
 | 0, _, _, _, _, _ => none
 | k + 1, x4, x1000, x1001, x1002, x126000 => if x4 < 6 then ((spec_l1Once.f x1000 x1001 x1002 4).bind fun bt126 => (if bt126.1 = true then (spec_l5Draw.l0 k (wrap64 (x4 + 1)) x1000 bt126.2.1 bt126.2.2 x126000) else (spec_l5Draw.l1 k x4 1 x1000 bt126.2.1 bt126.2.2 x126000 (wrap64 (x4 * 10)) (wrap64 (20 - x4)) ([] : List (S72))))) else (some (x126000, x1001, x1002))
def spec_l5Draw.l1 : Nat → Int → Int → List Int → Int → Int → List (S79) → Int → Int → List (S72) → Option ((List (S79)) × Int × Int)
 | 0, _, _, _, _, _, _, _, _, _ => none
 | k + 1, x4, x6, x1000, x1001, x1002, x126000, x130000, x130001, x130002 => if x6 < 6 then ((spec_l1Int.f x1000 x1001 x1002 (([0, 0, 1, 3, 5, 12] : List Int))).bind fun bt136 => (if bt136.1 > 0 then ((spec_l1Below.f x1000 bt136.2.1 bt136.2.2 (wrap64 (bt136.1 + 1))).bind fun bt139 => ((spec_l1Int.f x1000 bt139.2.1 bt139.2.2 (([0, 0, 0, bt139.1] : List Int))).bind fun bt145 => (if x130002.length < 5864062014805 then (spec_l5Draw.l1 k x4 (wrap64 (x6 + 1)) x1000 bt145.2.1 bt145.2.2 x126000 x130000 x130001 (x130002 ++ [(⟨x6, bt136.1, bt145.1⟩ : S72)])) else (none)))) else (spec_l5Draw.l1 k x4 (wrap64 (x6 + 1)) x1000 bt136.2.1 bt136.2.2 x126000 x130000 x130001 x130002))) else (if x126000.length < 3518437208883 then (spec_l5Draw.l0 k (wrap64 (x4 + 1)) x1000 x1001 x1002 (x126000 ++ [(⟨x130000, x130001, x130002⟩ : S79)])) else (none))
end
def spec_l5Draw.f (k : Nat) (s0_0 : List Int) (s0_1 : Int) (s0_2 : Int) : Option ((List (S79)) × Int × Int) := spec_l5Draw.l0 k 1 s0_0 s0_1 s0_2 ([] : List (S79))
theorem spec_l5Draw.mono_l : ∀ k, (∀ y0 y1 y2 y3 y4, LeO (spec_l5Draw.l0 k y0 y1 y2 y3 y4) (spec_l5Draw.l0 (k + 1) y0 y1 y2 y3 y4)) ∧ (∀ y0 y1 y2 y3 y4 y5 y6 y7 y8, LeO (spec_l5Draw.l1 k y0 y1 y2 y3 y4 y5 y6 y7 y8) (spec_l5Draw.l1 (k + 1) y0 y1 y2 y3 y4 y5 y6 y7 y8))
 | 0 => ⟨fun _ _ _ _ _ r h => by simp [spec_l5Draw.l0] at h, fun _ _ _ _ _ _ _ _ _ r h => by simp [spec_l5Draw.l1] at h⟩
 | k + 1 => by
  obtain ⟨ih0, ih1⟩ := spec_l5Draw.mono_l k
  refine ⟨?_, ?_⟩
  {
  intro y0 y1 y2 y3 y4
  unfold spec_l5Draw.l0
  repeat' first
  | (with_reducible first | exact ih0 _ _ _ _ _ | exact ih1 _ _ _ _ _ _ _ _ _ | exact LeO.refl _ | exact LeO.none _ | refine LeO.ite ?_ ?_ | refine LeO.bind ?_ (fun _ => ?_))
  | exact ih0 _ _ _ _ _
  | exact ih1 _ _ _ _ _ _ _ _ _
  | exact LeO.none _
  | refine LeO.ite ?_ ?_
  | refine LeO.bind ?_ (fun _ => ?_)
  }
  {
  intro y0 y1 y2 y3 y4 y5 y6 y7 y8
  unfold spec_l5Draw.l1
  repeat' first
  | (with_reducible first | exact ih0 _ _ _ _ _ | exact ih1 _ _ _ _ _ _ _ _ _ | exact LeO.refl _ | exact LeO.none _ | refine LeO.ite ?_ ?_ | refine LeO.bind ?_ (fun _ => ?_))
  | exact ih0 _ _ _ _ _
  | exact ih1 _ _ _ _ _ _ _ _ _
  | exact LeO.none _
  | refine LeO.ite ?_ ?_
  | refine LeO.bind ?_ (fun _ => ?_)
  }
theorem spec_l5Draw.mono : ∀ a0 a1 a2 k, LeO (spec_l5Draw.f k a0 a1 a2) (spec_l5Draw.f (k + 1) a0 a1 a2) := by
 intro a0 a1 a2 k
 obtain ⟨ih0, ih1⟩ := spec_l5Draw.mono_l k
 unfold spec_l5Draw.f
 repeat' first
  | (with_reducible first | exact ih0 _ _ _ _ _ | exact ih1 _ _ _ _ _ _ _ _ _ | exact LeO.refl _ | exact LeO.none _ | refine LeO.ite ?_ ?_ | refine LeO.bind ?_ (fun _ => ?_))
  | exact ih0 _ _ _ _ _
  | exact ih1 _ _ _ _ _ _ _ _ _
  | exact LeO.none _
  | refine LeO.ite ?_ ?_
  | refine LeO.bind ?_ (fun _ => ?_)
def spec_l5Draw.T12 : Bool × List (List Nat × List Nat) := (true, [([], []), ([0], [0]), ([], []), ([], []), ([], []), ([], []), ([], []), ([6], [6]), ([5, 7], [5, 7]), ([8], [8]), ([4, 9, 8], [4, 9]), ([2, 3, 10], [2, 3, 10]), ([11], [11]), ([1, 12, 10], [1, 12]), ([0, 1, 2, 3, 4, 5, 6, 7, 8, 9, 10, 11, 12, 13], []), ([14, 13, 13, 0, 1, 2, 3, 4, 5, 6, 7, 8, 9, 10, 11, 12, 13], [13, 14])])
def spec_l5Draw.B12 : List Nat := [0, 1, 0, 0, 0, 0, 0, 64, 224, 480, 1008, 2044, 4092, 8191, 16383, 32767]
theorem spec_l5Draw.tab12 : rtab .any (opsOf Try.f101 12) = spec_l5Draw.T12 := by kernel_rfl
theorem spec_l5Draw.bits12 : waitsOk spec_l5Draw.T12.2 spec_l5Draw.B12 = true := by kernel_rfl
set_option maxHeartbeats 8000000 in
set_option maxRecDepth 100000 in
theorem spec_l5Draw.calls (k : Nat) (g : Nat) (s0_0 : List Int) (s0_1 : Int) (s0_2 : Int) (r1 : List (S79)) (r2 : Int) (r3 : Int) (w0 w : World) (hI : IsS122 w0 w g s0_0 s0_1 s0_2) (hB : Below w0.heap.size w0 w) (h : spec_l5Draw.f k s0_0 s0_1 s0_2 = some (r1, r2, r3)) :
  Calls Try.prog 101 #[.pointer (some ⟨g, 0, none⟩)] w fun e w' => ∃ v0_ : Value, e = .returned (.agg #[v0_]) ∧ Kd.S k79 79 w' w.heap.size (fun _ => True) v0_ r1 ∧ IsS122 w0 w' g s0_0 r2 r3 ∧ Below w0.heap.size w0 w' ∧ KeepBut w w' g none := by
 have hu26 := Try.underlying26
 have hu79 := Try.underlying79
 have hu72 := Try.underlying72
 have HI0 := aM hI
 have HK := aM (KeepBut.refl w g none)
 have HL := aM hB.size
 clear hI
 have HW0 := aM hB.size
 have HB := aM hB
 clear hB
 have H : (spec_l5Draw.l0 k 1 s0_0 s0_1 s0_2 ([] : List (S79))) = some (r1, r2, r3) := h
 clear h
 have H' := aM H
 clear H
 go_enter Try.func101, Try.ntmps101
 go_wp2_with (first | ((with_reducible refine gate_dst (N := 2) rfl ?_); refine bx_ 2 #[.slice none 0 0] 26 ?_; intro gb124 hg w2 hbox hb; have n0_ := aM (IsS122.below qz30 hb); have n1_ := aM (KeepBut.trans qz7 (KeepBut.of_below hb g none) (.inl rfl)); have n2_ := aM (below_step qz31 hb); have n3_ := aM (hbox); have n4_ := aM ((by rw [hg]; exact (keep_size (w := w) (g := g) (row := none) qz7) : w.heap.size ≤ gb124)); have n5_ := aM ((Nat.le_trans HW0.out (by rw [hg]; exact (keep_size (w := w) (g := g) (row := none) qz7) : w.heap.size ≤ gb124) : w0.heap.size ≤ gb124)); have n6_ := aM ((by rw [hg]; exact Nat.ne_of_lt (IsS122.lt (show IsS122 w0 _ g s0_0 s0_1 s0_2 from by repeat (first | (with_reducible first | exact HI0.out | apply IsS122.alloc | apply IsS122.drewN | apply IsS122.drew | apply IsS122.set_1 | apply IsS122.set_2) | exact HI0.out))) : g ≠ gb124)); have n7_ := aM ((by rw [hg]; exact Nat.ne_of_gt (IsS122.lt (show IsS122 w0 _ g s0_0 s0_1 s0_2 from by repeat (first | (with_reducible first | exact HI0.out | apply IsS122.alloc | apply IsS122.drewN | apply IsS122.drew | apply IsS122.set_1 | apply IsS122.set_2) | exact HI0.out))) : gb124 ≠ g)); clear HI0 HK HB; have HI0 := n0_; have HK := n1_; have HB := n2_; have BK124 := n3_; have GW124 := n4_; have GE124 := n5_; have NB0_124 := n6_; have NB124_0 := n7_; clear n0_ n1_ n2_ n3_ n4_ n5_ n6_ n7_; clear hb hbox hg) | ((with_reducible refine gate_dst (N := 3) rfl ?_); refine bx_ 3 #[.slice none 0 0] 26 ?_; intro gb125 hg w3 hbox hb; have n0_ := aM (IsS122.below (by repeat (first | (with_reducible first | exact HI0.out | apply IsS122.alloc | apply IsS122.drewN | apply IsS122.drew | apply IsS122.set_1 | apply IsS122.set_2 | refine IsS122.far ?_ NB0_124.out _) | exact HI0.out)) hb); have n1_ := aM (blk_below (bk_ BK124.out) hb); have n2_ := aM (KeepBut.trans qz88 (KeepBut.of_below hb g none) (.inl rfl)); have n3_ := aM (below_step (by repeat (first | (with_reducible first | exact HB.out | apply below_alloc | apply pw_below_drewN | apply below_drew1 | refine below_set ?_ (IsS122.ge HI0.out) | refine below_set ?_ GE124.out) | exact HB.out)) hb); have n4_ := aM (hbox); have n5_ := aM ((by rw [hg]; exact (keep_size (w := w) (g := g) (row := none) qz88) : w.heap.size ≤ gb125)); have n6_ := aM ((Nat.le_trans HW0.out (by rw [hg]; exact (keep_size (w := w) (g := g) (row := none) qz88) : w.heap.size ≤ gb125) : w0.heap.size ≤ gb125)); have n7_ := aM ((by rw [hg]; exact Nat.ne_of_lt (blk_lt (bk_ BK124.out)) : gb124 ≠ gb125)); have n8_ := aM ((by rw [hg]; exact Nat.ne_of_gt (blk_lt (bk_ BK124.out)) : gb125 ≠ gb124)); have n9_ := aM ((by rw [hg]; exact Nat.ne_of_lt (IsS122.lt (show IsS122 w0 _ g s0_0 s0_1 s0_2 from by repeat (first | (with_reducible first | exact HI0.out | apply IsS122.alloc | apply IsS122.drewN | apply IsS122.drew | apply IsS122.set_1 | apply IsS122.set_2 | refine IsS122.far ?_ NB0_124.out _) | exact HI0.out))) : g ≠ gb125)); have n10_ := aM ((by rw [hg]; exact Nat.ne_of_gt (IsS122.lt (show IsS122 w0 _ g s0_0 s0_1 s0_2 from by repeat (first | (with_reducible first | exact HI0.out | apply IsS122.alloc | apply IsS122.drewN | apply IsS122.drew | apply IsS122.set_1 | apply IsS122.set_2 | refine IsS122.far ?_ NB0_124.out _) | exact HI0.out))) : gb125 ≠ g)); clear HI0 BK124 HK HB; have HI0 := n0_; have BK124 := n1_; have HK := n2_; have HB := n3_; have BK125 := n4_; have GW125 := n5_; have GE125 := n6_; have NB124_125 := n7_; have NB125_124 := n8_; have NB0_125 := n9_; have NB125_0 := n10_; clear n0_ n1_ n2_ n3_ n4_ n5_ n6_ n7_ n8_ n9_ n10_; clear hb hbox hg; have hnb4 := NB125_124.out; have hnc4 := NB124_125.out; have hnb5 := NB125_0.out; have hnc5 := NB0_125.out; have hcz6_0 := bc0_ BK125.out; have hfz6_0 := blk_frozen BK125.out 0))
 go_loopg [4] k (fun kq v4 w' => ∃ (x4_1 : Int) (x1001_1 : Int) (x1002_1 : Int) (x126000_1 : List (S79)) (u126000 : Value), v4 = .int .i64 x4_1 ∧ Aside0 (spec_l5Draw.l0 kq x4_1 s0_0 x1001_1 x1002_1 x126000_1 = some (r1, r2, r3)) ∧ Aside0 (kq ≤ k) ∧ Aside0 (Kd.S k79 79 w' w.heap.size (fun _ => True) u126000 x126000_1) ∧ Aside0 (w'.heap[gb124]? = some (.cells #[(.slice none 0 0)] 26 (0, 0))) ∧ Aside0 (w'.heap[gb125]? = some (.cells #[u126000] 26 (0, 0))) ∧ Aside0 (IsS122 w0 w' g s0_0 x1001_1 x1002_1) ∧ Aside0 (KeepBut w w' g none) ∧ Aside0 (Below w0.heap.size w0 w'))
 case atStart => exact ⟨(1), (s0_1), (s0_2), (([] : List (S79))), (.slice none 0 0), qz13, H', ⟨Nat.le_refl _⟩, ⟨by first | exact Kd.S_nil _ _ _ _ _ | exact Kd.N_nil _ _ _ _ _ | exact Kd.V_nil _ _ _ _ _ | exact Kd.Q_nil _ _ _ _ _ | exact Kd.R_nil _ _ _ _ _⟩, ⟨by (with_reducible repeat (first | refine blk_drewN ?_ _ | refine blk_drew ?_ | refine blk_alloc ?_ _)); refine blk_far ?_ NB124_125.out _; exact bk_ BK124.out⟩, ⟨by (with_reducible repeat (first | refine blk_drewN ?_ _ | refine blk_drew ?_ | refine blk_alloc ?_ _)); refine blk_put (cs := #[.slice none 0 0]) ?_ 0 _ rfl; exact bk_ BK125.out⟩, ⟨by repeat (first | (with_reducible first | exact HI0.out | apply IsS122.alloc | apply IsS122.drewN | apply IsS122.drew | apply IsS122.set_1 | apply IsS122.set_2 | refine IsS122.far ?_ NB0_124.out _ | refine IsS122.far ?_ NB0_125.out _) | exact HI0.out)⟩, ⟨by repeat (first | (with_reducible first | exact HK.out | apply KeepBut.set_ | apply keep_drewN | apply keep_drew | apply keep_alloc | refine keep_far ?_ GW124.out _ | refine keep_far ?_ GW125.out _) | exact HK.out)⟩, ⟨by repeat (first | (with_reducible first | exact HB.out | apply below_alloc | apply pw_below_drewN | apply below_drew1 | refine below_set ?_ (IsS122.ge HI0.out) | refine below_set ?_ GE124.out | refine below_set ?_ GE125.out) | exact HB.out)⟩⟩
 case round =>
  clear H'
  try clear c1
  try clear p2
  try clear c4
  try clear c5
  try clear hcz6_0
  try clear hfz6_0
  obtain ⟨x4_1, x1001_1, x1002_1, x126000_1, u126000, rfl, HA, HK1, HO_126000, BK124, BK125, HI0, HK, HB⟩ := hrel
  cases gk with
  | zero => exact absurd HA.out (by simp [spec_l5Draw.l0])
  | succ k1 =>
   have H := HA.out
   clear HA
   simp only [spec_l5Draw.l0] at H
   by_cases c7 : x4_1 < 6
   {
   rw [if_pos c7] at H
   have c7b0 := decide_eq_true c7
   clear c7
   replace H := Option.bind_eq_some_iff.mp H
   obtain ⟨⟨t126, t127, t128⟩, A80, H⟩ := H
   replace H : (if t126 = true then (spec_l5Draw.l0 k1 (wrap64 (x4_1 + 1)) s0_0 t127 t128 x126000_1) else (spec_l5Draw.l1 k1 x4_1 1 s0_0 t127 t128 x126000_1 (wrap64 (x4_1 * 10)) (wrap64 (20 - x4_1)) ([] : List (S72)))) = some (r1, r2, r3) := H
   have A8 := aM A80
   clear A80
   by_cases c9 : t126 = true
   {
   subst c9
   rw [if_pos rfl] at H
   have H' := aM H
   clear H
   go_wp2_with (first | ((with_reducible refine gate_callee (f := 102) rfl ?_); refine goesL_ (some 14) rfl rfl Try.func102 (by kernel_rfl) rfl #[.pointer (some ⟨g, 0, none⟩), .int .i64 4] rfl qz1 ?_; (with_reducible refine (spec_l1Once.calls g s0_0 x1001_1 x1002_1 4 true t127 t128 w0 _ ?side1 ?side2 A8.out).mono ?_); (case side1 => exact qz109); (case side2 => exact qz110); rintro e w10 ⟨rfl, hi, hb, hk⟩; refine ⟨_, rfl, ?_⟩; have n0_ := aM (Kd.S_mono (Kd.S_keep (IsS122.apartS (show IsS122 w0 _ g s0_0 x1001_1 x1002_1 from by repeat (first | (with_reducible first | exact HI0.out | apply IsS122.alloc | apply IsS122.drewN | apply IsS122.drew | apply IsS122.set_1 | apply IsS122.set_2 | refine IsS122.far ?_ NB0_124.out _ | refine IsS122.far ?_ NB0_125.out _) | exact HI0.out)) (rs_ HO_126000.out) (by decide)) hk (fun _ h => h.2)) (fun _ h => h.1)); have n1_ := aM (KeepBut.blk hk (bk_ BK124.out) NB124_0.out (by simp)); have n2_ := aM (KeepBut.blk hk (bk_ BK125.out) NB125_0.out (by simp)); have n3_ := aM (KeepBut.trans qz60 hk (.inl rfl)); have n4_ := aM (hb); have n5_ := aM (hi); clear HO_126000 BK124 BK125 HK HB HI0; have HO_126000 := n0_; have BK124 := n1_; have BK125 := n2_; have HK := n3_; have HB := n4_; have HI0 := n5_; clear n0_ n1_ n2_ n3_ n4_ n5_; (try clear hb); (try clear hb2); (try clear hk); (try clear hi)))
   go_roundg k1
   case measure => have := HK1.out; omega
   case rel => exact ⟨(wrap64 (x4_1 + 1)), (t127), (t128), (x126000_1), (u126000), qz13, H', ⟨by have := HK1.out; omega⟩, ⟨rm_ HO_126000.out⟩, ⟨bk_ BK124.out⟩, ⟨bk_ BK125.out⟩, ⟨by repeat (first | (with_reducible first | exact HI0.out | apply IsS122.alloc | apply IsS122.drewN | apply IsS122.drew | apply IsS122.set_1 | apply IsS122.set_2 | refine IsS122.far ?_ NB0_124.out _ | refine IsS122.far ?_ NB0_125.out _) | exact HI0.out)⟩, ⟨by repeat (first | (with_reducible first | exact HK.out | apply KeepBut.set_ | apply keep_drewN | apply keep_drew | apply keep_alloc | refine keep_far ?_ GW124.out _ | refine keep_far ?_ GW125.out _) | exact HK.out)⟩, ⟨by repeat (first | (with_reducible first | exact HB.out | apply below_alloc | apply pw_below_drewN | apply below_drew1 | refine below_set ?_ (IsS122.ge HI0.out) | refine below_set ?_ GE124.out | refine below_set ?_ GE125.out) | exact HB.out)⟩⟩
   }
   {
   replace c9 := Bool.eq_false_iff.mpr c9
   subst c9
   rw [if_neg (show ¬ (false = true) by decide)] at H
   have H' := aM H
   clear H
   go_wp2_with (first | ((with_reducible refine gate_callee (f := 102) rfl ?_); refine goesL_ (some 14) rfl rfl Try.func102 (by kernel_rfl) rfl #[.pointer (some ⟨g, 0, none⟩), .int .i64 4] rfl qz1 ?_; (with_reducible refine (spec_l1Once.calls g s0_0 x1001_1 x1002_1 4 false t127 t128 w0 _ ?side1 ?side2 A8.out).mono ?_); (case side1 => exact qz109); (case side2 => exact qz110); rintro e w11 ⟨rfl, hi, hb, hk⟩; refine ⟨_, rfl, ?_⟩; have n0_ := aM (Kd.S_mono (Kd.S_keep (IsS122.apartS (show IsS122 w0 _ g s0_0 x1001_1 x1002_1 from by repeat (first | (with_reducible first | exact HI0.out | apply IsS122.alloc | apply IsS122.drewN | apply IsS122.drew | apply IsS122.set_1 | apply IsS122.set_2 | refine IsS122.far ?_ NB0_124.out _ | refine IsS122.far ?_ NB0_125.out _) | exact HI0.out)) (rs_ HO_126000.out) (by decide)) hk (fun _ h => h.2)) (fun _ h => h.1)); have n1_ := aM (KeepBut.blk hk (bk_ BK124.out) NB124_0.out (by simp)); have n2_ := aM (KeepBut.blk hk (bk_ BK125.out) NB125_0.out (by simp)); have n3_ := aM (KeepBut.trans qz60 hk (.inl rfl)); have n4_ := aM (hb); have n5_ := aM (hi); clear HO_126000 BK124 BK125 HK HB HI0; have HO_126000 := n0_; have BK124 := n1_; have BK125 := n2_; have HK := n3_; have HB := n4_; have HI0 := n5_; clear n0_ n1_ n2_ n3_ n4_ n5_; (try clear hb); (try clear hb2); (try clear hk); (try clear hi)) | ((with_reducible refine gate_dst (N := 5) rfl ?_); refine bx_ 5 #[.int .i64 0, .int .i64 0, .slice none 0 0] 79 ?_; intro gb129 hg w12 hbox hb; have n0_ := aM (Kd.S_below (Kd.S_elderB (rs_ HO_126000.out) gb129 (Nat.le_of_eq hg.symm)) hb); have n1_ := aM (blk_below (bk_ BK124.out) hb); have n2_ := aM (blk_below (bk_ BK125.out) hb); have n3_ := aM (IsS122.below qz109 hb); have n4_ := aM (KeepBut.trans qz60 (KeepBut.of_below hb g none) (.inl rfl)); have n5_ := aM (below_step qz110 hb); have n6_ := aM (hbox); have n7_ := aM ((by rw [hg]; exact (keep_size (w := w) (g := g) (row := none) qz60) : w.heap.size ≤ gb129)); have n8_ := aM ((Nat.le_trans HW0.out (by rw [hg]; exact (keep_size (w := w) (g := g) (row := none) qz60) : w.heap.size ≤ gb129) : w0.heap.size ≤ gb129)); have n9_ := aM ((by rw [hg]; exact Nat.ne_of_lt (blk_lt (bk_ BK124.out)) : gb124 ≠ gb129)); have n10_ := aM ((by rw [hg]; exact Nat.ne_of_gt (blk_lt (bk_ BK124.out)) : gb129 ≠ gb124)); have n11_ := aM ((by rw [hg]; exact Nat.ne_of_lt (blk_lt (bk_ BK125.out)) : gb125 ≠ gb129)); have n12_ := aM ((by rw [hg]; exact Nat.ne_of_gt (blk_lt (bk_ BK125.out)) : gb129 ≠ gb125)); have n13_ := aM ((by rw [hg]; exact Nat.ne_of_lt (IsS122.lt (show IsS122 w0 _ g s0_0 t127 t128 from by repeat (first | (with_reducible first | exact HI0.out | apply IsS122.alloc | apply IsS122.drewN | apply IsS122.drew | apply IsS122.set_1 | apply IsS122.set_2 | refine IsS122.far ?_ NB0_124.out _ | refine IsS122.far ?_ NB0_125.out _) | exact HI0.out))) : g ≠ gb129)); have n14_ := aM ((by rw [hg]; exact Nat.ne_of_gt (IsS122.lt (show IsS122 w0 _ g s0_0 t127 t128 from by repeat (first | (with_reducible first | exact HI0.out | apply IsS122.alloc | apply IsS122.drewN | apply IsS122.drew | apply IsS122.set_1 | apply IsS122.set_2 | refine IsS122.far ?_ NB0_124.out _ | refine IsS122.far ?_ NB0_125.out _) | exact HI0.out))) : gb129 ≠ g)); clear HO_126000 BK124 BK125 HI0 HK HB; have HO_126000 := n0_; have BK124 := n1_; have BK125 := n2_; have HI0 := n3_; have HK := n4_; have HB := n5_; have BK129 := n6_; have GW129 := n7_; have GE129 := n8_; have NB124_129 := n9_; have NB129_124 := n10_; have NB125_129 := n11_; have NB129_125 := n12_; have NB0_129 := n13_; have NB129_0 := n14_; clear n0_ n1_ n2_ n3_ n4_ n5_ n6_ n7_ n8_ n9_ n10_ n11_ n12_ n13_ n14_; clear hb hbox hg; have hnb13 := NB129_124.out; have hnc13 := NB124_129.out; have hnb14 := NB129_125.out; have hnc14 := NB125_129.out; have hnb15 := NB129_0.out; have hnc15 := NB0_129.out; obtain ⟨hcz16_0, hcz16_1, hcz16_2, hfz16_0, hfz16_1, hfz16_2⟩ := b6_ BK129.out))
   go_loopg [6] k1 (fun kq v6 w' => ∃ (x6_2 : Int) (x1001_2 : Int) (x1002_2 : Int) (x130002_2 : List (S72)) (u130002 : Value), v6 = .int .i64 x6_2 ∧ Aside0 (spec_l5Draw.l1 kq x4_1 x6_2 s0_0 x1001_2 x1002_2 x126000_1 (wrap64 (x4_1 * 10)) (wrap64 (20 - x4_1)) x130002_2 = some (r1, r2, r3)) ∧ Aside0 (kq ≤ k1) ∧ Aside0 (Kd.S k79 79 w' w.heap.size (fun k_ => some k_ ≠ (u130002 : Value).ownBlock ∧ k_ ≠ gb129) u126000 x126000_1) ∧ Aside0 (Kd.R k72 72 w' w.heap.size (fun _ => True) u130002 x130002_2) ∧ Aside0 (w'.heap[gb124]? = some (.cells #[(.slice none 0 0)] 26 (0, 0))) ∧ Aside0 (w'.heap[gb125]? = some (.cells #[u126000] 26 (0, 0))) ∧ Aside0 (w'.heap[gb129]? = some (.cells #[.int .i64 (wrap64 (x4_1 * 10)), .int .i64 (wrap64 (20 - x4_1)), u130002] 79 (0, 0))) ∧ Aside0 (IsS122 w0 w' g s0_0 x1001_2 x1002_2) ∧ Aside0 (KeepBut w w' g none) ∧ Aside0 (Below w0.heap.size w0 w'))
   case atStart => exact ⟨(1), (t127), (t128), (([] : List (S72))), (.slice none 0 0), qz13, H', ⟨Nat.le_refl _⟩, ⟨by (with_reducible repeat (first | apply Kd.S_alloc | apply Kd.S_drewN | apply Kd.S_drew)); exact Kd.S_mono (Kd.S_far (p := ⟨gb129, 2, none⟩) (Kd.S_far (p := ⟨gb129, 1, none⟩) (Kd.S_far (p := ⟨gb129, 0, none⟩) (Kd.S_mono HO_126000.out (fun k_ hk => (⟨hk, hk.2⟩ : _ ∧ k_ ≠ gb129))) (fun _ hk => hk.2) (.int .i64 (wrap64 (x4_1 * 10)))) (fun _ hk => hk.2) (.int .i64 (wrap64 (20 - x4_1)))) (fun _ hk => hk.2) (.slice none 0 0)) (fun _ hk => ⟨(by simp [Value.ownBlock]), hk.1.2⟩)⟩, ⟨by first | exact Kd.R_nil _ _ _ _ _ | exact Kd.N_nil _ _ _ _ _ | exact Kd.V_nil _ _ _ _ _ | exact Kd.Q_nil _ _ _ _ _ | exact Kd.S_nil _ _ _ _ _⟩, ⟨by (with_reducible repeat (first | refine blk_drewN ?_ _ | refine blk_drew ?_ | refine blk_alloc ?_ _)); refine blk_far ?_ NB124_129.out _; (with_reducible repeat (first | refine blk_drewN ?_ _ | refine blk_drew ?_ | refine blk_alloc ?_ _)); refine blk_far ?_ NB124_129.out _; (with_reducible repeat (first | refine blk_drewN ?_ _ | refine blk_drew ?_ | refine blk_alloc ?_ _)); refine blk_far ?_ NB124_129.out _; exact bk_ BK124.out⟩, ⟨by (with_reducible repeat (first | refine blk_drewN ?_ _ | refine blk_drew ?_ | refine blk_alloc ?_ _)); refine blk_far ?_ NB125_129.out _; (with_reducible repeat (first | refine blk_drewN ?_ _ | refine blk_drew ?_ | refine blk_alloc ?_ _)); refine blk_far ?_ NB125_129.out _; (with_reducible repeat (first | refine blk_drewN ?_ _ | refine blk_drew ?_ | refine blk_alloc ?_ _)); refine blk_far ?_ NB125_129.out _; exact bk_ BK125.out⟩, ⟨by (with_reducible repeat (first | refine blk_drewN ?_ _ | refine blk_drew ?_ | refine blk_alloc ?_ _)); refine blk_put (cs := #[.int .i64 (wrap64 (x4_1 * 10)), .int .i64 (wrap64 (20 - x4_1)), .slice none 0 0]) ?_ 2 _ rfl; (with_reducible repeat (first | refine blk_drewN ?_ _ | refine blk_drew ?_ | refine blk_alloc ?_ _)); refine blk_put (cs := #[.int .i64 (wrap64 (x4_1 * 10)), .int .i64 0, .slice none 0 0]) ?_ 1 _ rfl; (with_reducible repeat (first | refine blk_drewN ?_ _ | refine blk_drew ?_ | refine blk_alloc ?_ _)); refine blk_put (cs := #[.int .i64 0, .int .i64 0, .slice none 0 0]) ?_ 0 _ rfl; exact bk_ BK129.out⟩, ⟨by repeat (first | (with_reducible first | exact HI0.out | apply IsS122.alloc | apply IsS122.drewN | apply IsS122.drew | apply IsS122.set_1 | apply IsS122.set_2 | refine IsS122.far ?_ NB0_124.out _ | refine IsS122.far ?_ NB0_125.out _ | refine IsS122.far ?_ NB0_129.out _) | exact HI0.out)⟩, ⟨by repeat (first | (with_reducible first | exact HK.out | apply KeepBut.set_ | apply keep_drewN | apply keep_drew | apply keep_alloc | refine keep_far ?_ GW124.out _ | refine keep_far ?_ GW125.out _ | refine keep_far ?_ GW129.out _) | exact HK.out)⟩, ⟨by repeat (first | (with_reducible first | exact HB.out | apply below_alloc | apply pw_below_drewN | apply below_drew1 | refine below_set ?_ (IsS122.ge HI0.out) | refine below_set ?_ GE124.out | refine below_set ?_ GE125.out | refine below_set ?_ GE129.out) | exact HB.out)⟩⟩
   case round =>
    clear H'
    try clear c1
    try clear p2
    try clear c4
    try clear c5
    try clear p6
    try clear c7
    try clear c7b0
    try clear c9
    try clear c10
    try clear c13
    try clear c14
    try clear c15
    try clear hcz16_0
    try clear hcz16_1
    try clear hcz16_2
    try clear hcz6_0
    try clear hfz16_0
    try clear hfz16_1
    try clear hfz16_2
    try clear hfz6_0
    try clear p2
    obtain ⟨x6_2, x1001_2, x1002_2, x130002_2, u130002, rfl, HA, HK2, HO_126000, HO_130002, BK124, BK125, BK129, HI0, HK, HB⟩ := hrel
    cases gk with
    | zero => exact absurd HA.out (by simp [spec_l5Draw.l1])
    | succ k2 =>
     have H := HA.out
     clear HA
     simp only [spec_l5Draw.l1] at H
     by_cases c17 : x6_2 < 6
     {
     rw [if_pos c17] at H
     have c17b0 := decide_eq_true c17
     clear c17
     obtain ⟨y133, hy133⟩ : ∃ y_ : List Int, y_ = (([0, 0, 1, 3, 5, 12] : List Int)) := ⟨_, rfl⟩
     replace H : ((spec_l1Int.f s0_0 x1001_2 x1002_2 y133).bind fun bt136 => (if bt136.1 > 0 then ((spec_l1Below.f s0_0 bt136.2.1 bt136.2.2 (wrap64 (bt136.1 + 1))).bind fun bt139 => ((spec_l1Int.f s0_0 bt139.2.1 bt139.2.2 (([0, 0, 0, bt139.1] : List Int))).bind fun bt145 => (if x130002_2.length < 5864062014805 then (spec_l5Draw.l1 k2 x4_1 (wrap64 (x6_2 + 1)) s0_0 bt145.2.1 bt145.2.2 x126000_1 (wrap64 (x4_1 * 10)) (wrap64 (20 - x4_1)) (x130002_2 ++ [(⟨x6_2, bt136.1, bt145.1⟩ : S72)])) else (none)))) else (spec_l5Draw.l1 k2 x4_1 (wrap64 (x6_2 + 1)) s0_0 bt136.2.1 bt136.2.2 x126000_1 (wrap64 (x4_1 * 10)) (wrap64 (20 - x4_1)) x130002_2))) = some (r1, r2, r3) := by first | (rw [hy133]; with_reducible exact H) | (have H2_ := (Option.bind_some _ _).symm.trans H; rw [hy133]; with_reducible exact H2_) | (have H2_ := (Option.bind_some _ _).symm.trans H; with_reducible exact H2_) | with_reducible exact H | (rw [hy133]; exact H) | exact H
     have Ny133 := aM hy133
     clear hy133
     replace H := Option.bind_eq_some_iff.mp H
     obtain ⟨⟨t136, t137, t138⟩, A180, H⟩ := H
     replace H : (if t136 > 0 then ((spec_l1Below.f s0_0 t137 t138 (wrap64 (t136 + 1))).bind fun bt139 => ((spec_l1Int.f s0_0 bt139.2.1 bt139.2.2 (([0, 0, 0, bt139.1] : List Int))).bind fun bt145 => (if x130002_2.length < 5864062014805 then (spec_l5Draw.l1 k2 x4_1 (wrap64 (x6_2 + 1)) s0_0 bt145.2.1 bt145.2.2 x126000_1 (wrap64 (x4_1 * 10)) (wrap64 (20 - x4_1)) (x130002_2 ++ [(⟨x6_2, t136, bt145.1⟩ : S72)])) else (none)))) else (spec_l5Draw.l1 k2 x4_1 (wrap64 (x6_2 + 1)) s0_0 t137 t138 x126000_1 (wrap64 (x4_1 * 10)) (wrap64 (20 - x4_1)) x130002_2)) = some (r1, r2, r3) := H
     have A18 := aM A180
     clear A180
     by_cases c19 : t136 > 0
     {
     rw [if_pos c19] at H
     have c19b0 := decide_eq_true c19
     clear c19
     replace H := Option.bind_eq_some_iff.mp H
     obtain ⟨⟨t139, t140, t141⟩, A200, H⟩ := H
     replace H : ((spec_l1Int.f s0_0 t140 t141 (([0, 0, 0, t139] : List Int))).bind fun bt145 => (if x130002_2.length < 5864062014805 then (spec_l5Draw.l1 k2 x4_1 (wrap64 (x6_2 + 1)) s0_0 bt145.2.1 bt145.2.2 x126000_1 (wrap64 (x4_1 * 10)) (wrap64 (20 - x4_1)) (x130002_2 ++ [(⟨x6_2, t136, bt145.1⟩ : S72)])) else (none))) = some (r1, r2, r3) := H
     have A20 := aM A200
     clear A200
     obtain ⟨y142, hy142⟩ : ∃ y_ : List Int, y_ = (([0, 0, 0, t139] : List Int)) := ⟨_, rfl⟩
     replace H : ((spec_l1Int.f s0_0 t140 t141 y142).bind fun bt145 => (if x130002_2.length < 5864062014805 then (spec_l5Draw.l1 k2 x4_1 (wrap64 (x6_2 + 1)) s0_0 bt145.2.1 bt145.2.2 x126000_1 (wrap64 (x4_1 * 10)) (wrap64 (20 - x4_1)) (x130002_2 ++ [(⟨x6_2, t136, bt145.1⟩ : S72)])) else (none))) = some (r1, r2, r3) := by first | (rw [hy142]; with_reducible exact H) | (have H2_ := (Option.bind_some _ _).symm.trans H; rw [hy142]; with_reducible exact H2_) | (have H2_ := (Option.bind_some _ _).symm.trans H; with_reducible exact H2_) | with_reducible exact H | (rw [hy142]; exact H) | exact H
     have Ny142 := aM hy142
     clear hy142
     replace H := Option.bind_eq_some_iff.mp H
     obtain ⟨⟨t145, t146, t147⟩, A210, H⟩ := H
     replace H : (if x130002_2.length < 5864062014805 then (spec_l5Draw.l1 k2 x4_1 (wrap64 (x6_2 + 1)) s0_0 t146 t147 x126000_1 (wrap64 (x4_1 * 10)) (wrap64 (20 - x4_1)) (x130002_2 ++ [(⟨x6_2, t136, t145⟩ : S72)])) else (none)) = some (r1, r2, r3) := H
     have A21 := aM A210
     clear A210
     by_cases c22 : x130002_2.length < 5864062014805
     {
     rw [if_pos c22] at H
     have LMc22 := aM c22
     clear c22
     obtain ⟨y148, hy148⟩ : ∃ y_ : List (S72), y_ = (x130002_2 ++ [(⟨x6_2, t136, t145⟩ : S72)]) := ⟨_, rfl⟩
     replace H : (spec_l5Draw.l1 k2 x4_1 (wrap64 (x6_2 + 1)) s0_0 t146 t147 x126000_1 (wrap64 (x4_1 * 10)) (wrap64 (20 - x4_1)) y148) = some (r1, r2, r3) := by first | (rw [hy148]; with_reducible exact H) | (have H2_ := (Option.bind_some _ _).symm.trans H; rw [hy148]; with_reducible exact H2_) | (have H2_ := (Option.bind_some _ _).symm.trans H; with_reducible exact H2_) | with_reducible exact H | (rw [hy148]; exact H) | exact H
     have Ny148 := aM hy148
     clear hy148
     have H' := aM H
     clear H
     try go_wp2_with (first | ((with_reducible refine gate_dst (N := 25) rfl ?_); refine Kd.R_lit (Kd.int .i64) _ 3 ?hg (N := 25) ?hd (xs := ([0, 0, 1, 3, 5, 12] : List Int)) (inner := [.int .i64 0, .int .i64 0, .int .i64 1, .int .i64 3, .int .i64 5, .int .i64 12]) (ok := fun _ => True) (okp := fun _ => True) ?hr ?hp (fun _ hk => hk) trivial (Below.refl _ _) (Nat.le_refl _) (by simp) ?_; (case hd => rfl); (case hg => rfl); (case hr => exact qz87); (case hp => exact qz82); intro v134 w23 ho24 hb hg_ hnew_; clear hg_ hnew_; (first | rw [← Ny133.out] at ho24 | (simp only [Int.reduceToNat] at ho24; rw [← Ny133.out] at ho24)); have n0_ := aM (Kd.S_below (rs_ HO_126000.out) hb); have n1_ := aM (Kd.R_below (rr_ HO_130002.out) hb); have n2_ := aM (Kd.R_lower ho24 (keep_size (w := w) (g := g) (row := none) qz18)); have n3_ := aM (blk_below (bk_ BK124.out) hb); have n4_ := aM (blk_below (bk_ BK125.out) hb); have n5_ := aM (blk_below (bk_ BK129.out) hb); have n6_ := aM (IsS122.below qz48 hb); have n7_ := aM (KeepBut.trans qz18 (KeepBut.of_below hb g none) (.inl rfl)); have n8_ := aM (below_step qz50 hb); clear HO_126000 HO_130002 BK124 BK125 BK129 HI0 HK HB; have HO_126000 := n0_; have HO_130002 := n1_; have HO135 := n2_; have BK124 := n3_; have BK125 := n4_; have BK129 := n5_; have HI0 := n6_; have HK := n7_; have HB := n8_; clear n0_ n1_ n2_ n3_ n4_ n5_ n6_ n7_ n8_; clear hb ho24; obtain ⟨Ao25, co25, eo25⟩ := Kd.R_slice HO135.out; subst eo25) | ((with_reducible refine gate_callee (f := 92) rfl ?_); refine goesL_ (some 26) rfl rfl Try.func92 (by kernel_rfl) rfl #[.pointer (some ⟨g, 0, none⟩), .slice Ao25 y133.length co25] rfl qz1 ?_; (with_reducible refine (spec_l1Int.calls g s0_0 x1001_2 x1002_2 _ _ y133 t136 t137 t138 w0 _ ?side1 ?side2 ?side3 ?side4 ?side5 A18.out).mono ?_); (case side1 => exact qz48); (case side2 => exact qz50); (case side3 => repeat (first | exact (Kd.R_reads' HO135.out).2.2 | (with_reducible refine Kd.C_alloc ?_ _) | (with_reducible refine Kd.C_drewN ?_ _) | (with_reducible refine Kd.C_drew ?_))); (case side4 => exact (Kd.R_reads' HO135.out).2.1); (case side5 => exact far_slice (IsS122.own_ne HI0.out HO135.out (by decide))); rintro e w26 ⟨rfl, hi, hb, hk⟩; refine ⟨_, rfl, ?_⟩; have n0_ := aM (Kd.S_mono (Kd.S_keep (IsS122.apartS (show IsS122 w0 _ g s0_0 x1001_2 x1002_2 from by repeat (first | (with_reducible first | exact HI0.out | apply IsS122.alloc | apply IsS122.drewN | apply IsS122.drew | apply IsS122.set_1 | apply IsS122.set_2 | refine IsS122.far ?_ NB0_124.out _ | refine IsS122.far ?_ NB0_125.out _ | refine IsS122.far ?_ NB0_129.out _) | exact HI0.out)) (rs_ HO_126000.out) (by decide)) hk (fun _ h => h.2)) (fun _ h => h.1)); have n1_ := aM (Kd.R_mono (Kd.R_keep (IsS122.apart (show IsS122 w0 _ g s0_0 x1001_2 x1002_2 from by repeat (first | (with_reducible first | exact HI0.out | apply IsS122.alloc | apply IsS122.drewN | apply IsS122.drew | apply IsS122.set_1 | apply IsS122.set_2 | refine IsS122.far ?_ NB0_124.out _ | refine IsS122.far ?_ NB0_125.out _ | refine IsS122.far ?_ NB0_129.out _) | exact HI0.out)) (rr_ HO_130002.out) (by decide)) hk (fun _ h => h.2)) (fun _ h => h.1)); have n2_ := aM (KeepBut.blk hk (bk_ BK124.out) NB124_0.out (by simp)); have n3_ := aM (KeepBut.blk hk (bk_ BK125.out) NB125_0.out (by simp)); have n4_ := aM (KeepBut.blk hk (bk_ BK129.out) NB129_0.out (by simp)); have n5_ := aM (Kd.R_mono (Kd.R_keep (IsS122.apart (show IsS122 w0 _ g s0_0 x1001_2 x1002_2 from by repeat (first | (with_reducible first | exact HI0.out | apply IsS122.alloc | apply IsS122.drewN | apply IsS122.drew | apply IsS122.set_1 | apply IsS122.set_2 | refine IsS122.far ?_ NB0_124.out _ | refine IsS122.far ?_ NB0_125.out _ | refine IsS122.far ?_ NB0_129.out _) | exact HI0.out)) (rr_ HO135.out) (by decide)) hk (fun _ h => h.2)) (fun _ h => h.1)); have n6_ := aM (KeepBut.trans qz18 hk (.inl rfl)); have n7_ := aM (hb); have n8_ := aM (hi); clear HO_126000 HO_130002 BK124 BK125 BK129 HO135 HK HB HI0; have HO_126000 := n0_; have HO_130002 := n1_; have BK124 := n2_; have BK125 := n3_; have BK129 := n4_; have HO135 := n5_; have HK := n6_; have HB := n7_; have HI0 := n8_; clear n0_ n1_ n2_ n3_ n4_ n5_ n6_ n7_ n8_; (try clear hb); (try clear hb2); (try clear hk); (try clear hi)))
     have n0_ := aM (Kd.S_drew HO_126000.out)
     have n1_ := aM (Kd.R_drew HO_130002.out)
     have n2_ := aM (Kd.R_drew HO135.out)
     have n3_ := aM (blk_drew BK124.out)
     have n4_ := aM (blk_drew BK125.out)
     have n5_ := aM (blk_drew BK129.out)
     have n6_ := aM (IsS122.drew HI0.out)
     have n7_ := aM (keep_drew HK.out)
     have n8_ := aM (below_drew1 HB.out)
     clear HO_126000
     clear HO_130002
     clear HO135
     clear BK124
     clear BK125
     clear BK129
     clear HI0
     clear HK
     clear HB
     have HO_126000 := n0_
     have HO_130002 := n1_
     have HO135 := n2_
     have BK124 := n3_
     have BK125 := n4_
     have BK129 := n5_
     have HI0 := n6_
     have HK := n7_
     have HB := n8_
     clear n0_ n1_ n2_ n3_ n4_ n5_ n6_ n7_ n8_
     refine start_ (n := 16) (S := fun w' => w'.cell? ⟨gb129, 0, none⟩ = some (.int .i64 (wrap64 (x4_1 * 10))) ∧ w'.cell? ⟨gb129, 1, none⟩ = some (.int .i64 (wrap64 (20 - x4_1))) ∧ w'.cell? ⟨gb129, 2, none⟩ = some (u130002)) (ds := [15]) #[false, false, false, false, false, false, false, false, false, false, false, false, false, false, false, false] (by kernel_rfl) rfl rfl ⟨(blk_cell BK129.out 0).trans rfl, (blk_cell BK129.out 1).trans rfl, (blk_cell BK129.out 2).trans rfl⟩ (fun hHeld => ?_); refine with_tabW spec_l5Draw.tab12 spec_l5Draw.bits12 (fun HT_ HW_ => ?_)
     generalize w26.drew = w27 at HO_126000 HO_130002 HO135 BK124 BK125 BK129 HI0 HK HB hHeld ⊢
     refine pI_ 0 29 (bqz 16 1) ?_
     refine pI_ 2 31 (bqz 16 5) ?_
     refine pI_ 3 32 (bqz 16 13) ?_
     refine pI_ 4 33 (bqz 16 29) ?_
     refine pI_ 5 34 (bqz 16 61) ?_
     refine pI_ 6 35 (bqz 16 125) ?_
     refine pI_ 7 36 (bqz 16 253) ?_
     refine tI3_ 1 30 (bqz 16 255) ?_
     refine one_ (i := 8) (N := some 37) (bqz 16 511) rfl rfl qzc (by decide) (fun K hK => ?_)
     refine goes_ Try.func105 (by kernel_rfl) rfl #[.pointer (some ⟨g, 0, none⟩), .int .i64 (wrap64 (t136 + 1))] (by rfl) rfl rfl qz1 ?_
     with_reducible refine (spec_l1Below.calls g s0_0 t137 t138 (wrap64 (t136 + 1)) t139 t140 t141 w0 _ ?side1 ?side2 A20.out).mono ?_
     (case side1 => exact qz48)
     (case side2 => exact qz50)
     rintro e w28 ⟨rfl, hi, hb, hk⟩
     refine ⟨_, rfl, ?_⟩
     have n0_ := aM (Kd.S_mono (Kd.S_keep (IsS122.apartS (show IsS122 w0 _ g s0_0 t137 t138 from by repeat (first | (with_reducible first | exact HI0.out | apply IsS122.alloc | apply IsS122.drewN | apply IsS122.drew | apply IsS122.set_1 | apply IsS122.set_2 | refine IsS122.far ?_ NB0_124.out _ | refine IsS122.far ?_ NB0_125.out _ | refine IsS122.far ?_ NB0_129.out _) | exact HI0.out)) (rs_ HO_126000.out) (by decide)) hk (fun _ h => h.2)) (fun _ h => h.1))
     have n1_ := aM (Kd.R_mono (Kd.R_keep (IsS122.apart (show IsS122 w0 _ g s0_0 t137 t138 from by repeat (first | (with_reducible first | exact HI0.out | apply IsS122.alloc | apply IsS122.drewN | apply IsS122.drew | apply IsS122.set_1 | apply IsS122.set_2 | refine IsS122.far ?_ NB0_124.out _ | refine IsS122.far ?_ NB0_125.out _ | refine IsS122.far ?_ NB0_129.out _) | exact HI0.out)) (rr_ HO_130002.out) (by decide)) hk (fun _ h => h.2)) (fun _ h => h.1))
     have n2_ := aM (KeepBut.blk hk (bk_ BK124.out) NB124_0.out (by simp))
     have n3_ := aM (KeepBut.blk hk (bk_ BK125.out) NB125_0.out (by simp))
     have n4_ := aM (KeepBut.blk hk (bk_ BK129.out) NB129_0.out (by simp))
     have n5_ := aM (Kd.R_mono (Kd.R_keep (IsS122.apart (show IsS122 w0 _ g s0_0 t137 t138 from by repeat (first | (with_reducible first | exact HI0.out | apply IsS122.alloc | apply IsS122.drewN | apply IsS122.drew | apply IsS122.set_1 | apply IsS122.set_2 | refine IsS122.far ?_ NB0_124.out _ | refine IsS122.far ?_ NB0_125.out _ | refine IsS122.far ?_ NB0_129.out _) | exact HI0.out)) (rr_ HO135.out) (by decide)) hk (fun _ h => h.2)) (fun _ h => h.1))
     have n6_ := aM (KeepBut.trans qz18 hk (.inl rfl))
     have n7_ := aM (hb)
     have n8_ := aM (hi)
     clear HO_126000
     clear HO_130002
     clear BK124
     clear BK125
     clear BK129
     clear HO135
     clear HK
     clear HB
     clear HI0
     have HO_126000 := n0_
     have HO_130002 := n1_
     have BK124 := n2_
     have BK125 := n3_
     have BK129 := n4_
     have HO135 := n5_
     have HK := n6_
     have HB := n7_
     have HI0 := n8_
     clear n0_ n1_ n2_ n3_ n4_ n5_ n6_ n7_ n8_
     (try clear hb)
     (try clear hb2)
     (try clear hk)
     (try clear hi)
     refine hK.out _ _ ⟨(blk_cell BK129.out 0).trans rfl, (blk_cell BK129.out 1).trans rfl, (blk_cell BK129.out 2).trans rfl⟩ (fun hHeld => ?_)
     clear hK K
     refine norm_ (a' := ?_) ?_ ?_
     rotate_left
     {
     show Act.put _ (some 37) _ = _
     simp only [qzs]
     rfl
     }
     refine one_ (i := 9) (N := some 38) (bqz 16 1023) rfl rfl qzc (by decide) (fun K hK => ?_)
     refine Kd.R_lit_step (Kd.int .i64) _ 3 ?hg (N := 38) ?hd (xs := ([0, 0, 0, t139] : List Int)) (inner := [.int .i64 0, .int .i64 0, .int .i64 0, .int .i64 t139]) (ok := fun _ => True) (okp := fun _ => True) ?hr ?hp (fun _ hk => hk) trivial (Below.refl _ _) (Nat.le_refl _) (by simp) ?_; (case hd => rfl); (case hg => rfl); (case hr => exact qz87); (case hp => exact (Reps.one (show Kd.M (Kd.int .i64) _ _ _ 0 [.int .i64 0] from rfl) (Reps.one (show Kd.M (Kd.int .i64) _ _ _ 0 [.int .i64 0] from rfl) (Reps.one (show Kd.M (Kd.int .i64) _ _ _ 0 [.int .i64 0] from rfl) (Reps.one (show Kd.M (Kd.int .i64) _ _ _ t139 [.int .i64 t139] from rfl) (Reps.none _ _))))))
     intro v143 w29 ho30 hb hg_ hnew_
     clear hg_ hnew_
     (first | rw [← Ny142.out] at ho30 | (simp only [Int.reduceToNat] at ho30; rw [← Ny142.out] at ho30))
     have n0_ := aM (Kd.S_below (rs_ HO_126000.out) hb)
     have n1_ := aM (Kd.R_below (rr_ HO_130002.out) hb)
     have n2_ := aM (Kd.R_elder' (rr_ HO135.out) (Kd.R_base ho30) hb)
     have n3_ := aM (Kd.R_lower (Kd.R_new' ho30 (Kd.R_lt (rr_ HO135.out))) (keep_size (w := w) (g := g) (row := none) qz18))
     have n4_ := aM (blk_below (bk_ BK124.out) hb)
     have n5_ := aM (blk_below (bk_ BK125.out) hb)
     have n6_ := aM (blk_below (bk_ BK129.out) hb)
     have n7_ := aM (IsS122.below qz48 hb)
     have n8_ := aM (KeepBut.trans qz18 (KeepBut.of_below hb g none) (.inl rfl))
     have n9_ := aM (below_step qz50 hb)
     clear HO_126000
     clear HO_130002
     clear HO135
     clear BK124
     clear BK125
     clear BK129
     clear HI0
     clear HK
     clear HB
     have HO_126000 := n0_
     have HO_130002 := n1_
     have HO135 := n2_
     have HO144 := n3_
     have BK124 := n4_
     have BK125 := n5_
     have BK129 := n6_
     have HI0 := n7_
     have HK := n8_
     have HB := n9_
     clear n0_ n1_ n2_ n3_ n4_ n5_ n6_ n7_ n8_ n9_
     clear hb ho30
     obtain ⟨Ao31, co31, eo31⟩ := Kd.R_slice HO144.out
     (first | subst eo31 | (injection eo31 with f1_ f2_ f3_; have f4_ := f1_.symm; have f5_ := f3_.symm; clear f1_ f2_ f3_; subst f4_; subst f5_))
     refine hK.out _ _ ⟨(blk_cell BK129.out 0).trans rfl, (blk_cell BK129.out 1).trans rfl, (blk_cell BK129.out 2).trans rfl⟩ (fun hHeld => ?_)
     clear hK K
     refine norm_ (a' := ?_) ?_ ?_
     rotate_left
     {
     show Act.put _ (some 38) _ = _
     simp only [qzs]
     rfl
     }
     refine one_ (i := 10) (N := some 39) (bqz 16 2047) rfl rfl qzc (by decide) (fun K hK => ?_)
     refine goes_ Try.func92 (by kernel_rfl) rfl #[.pointer (some ⟨g, 0, none⟩), .slice Ao31 y142.length co31] (by rfl) rfl rfl qz1 ?_
     with_reducible refine (spec_l1Int.calls g s0_0 t140 t141 _ _ y142 t145 t146 t147 w0 _ ?side1 ?side2 ?side3 ?side4 ?side5 A21.out).mono ?_
     (case side1 => exact qz48)
     (case side2 => exact qz50)
     (case side3 => repeat (first | exact (Kd.R_reads' HO144.out).2.2 | (with_reducible refine Kd.C_alloc ?_ _) | (with_reducible refine Kd.C_drewN ?_ _) | (with_reducible refine Kd.C_drew ?_)))
     (case side4 => exact (Kd.R_reads' HO144.out).2.1)
     (case side5 => exact far_slice (IsS122.own_ne HI0.out HO144.out (by decide)))
     rintro e w32 ⟨rfl, hi, hb, hk⟩
     refine ⟨_, rfl, ?_⟩
     have n0_ := aM (Kd.S_mono (Kd.S_keep (IsS122.apartS (show IsS122 w0 _ g s0_0 t140 t141 from by repeat (first | (with_reducible first | exact HI0.out | apply IsS122.alloc | apply IsS122.drewN | apply IsS122.drew | apply IsS122.set_1 | apply IsS122.set_2 | refine IsS122.far ?_ NB0_124.out _ | refine IsS122.far ?_ NB0_125.out _ | refine IsS122.far ?_ NB0_129.out _) | exact HI0.out)) (rs_ HO_126000.out) (by decide)) hk (fun _ h => h.2)) (fun _ h => h.1))
     have n1_ := aM (Kd.R_mono (Kd.R_keep (IsS122.apart (show IsS122 w0 _ g s0_0 t140 t141 from by repeat (first | (with_reducible first | exact HI0.out | apply IsS122.alloc | apply IsS122.drewN | apply IsS122.drew | apply IsS122.set_1 | apply IsS122.set_2 | refine IsS122.far ?_ NB0_124.out _ | refine IsS122.far ?_ NB0_125.out _ | refine IsS122.far ?_ NB0_129.out _) | exact HI0.out)) (rr_ HO_130002.out) (by decide)) hk (fun _ h => h.2)) (fun _ h => h.1))
     have n2_ := aM (KeepBut.blk hk (bk_ BK124.out) NB124_0.out (by simp))
     have n3_ := aM (KeepBut.blk hk (bk_ BK125.out) NB125_0.out (by simp))
     have n4_ := aM (KeepBut.blk hk (bk_ BK129.out) NB129_0.out (by simp))
     have n5_ := aM (Kd.R_mono (Kd.R_keep (IsS122.apart (show IsS122 w0 _ g s0_0 t140 t141 from by repeat (first | (with_reducible first | exact HI0.out | apply IsS122.alloc | apply IsS122.drewN | apply IsS122.drew | apply IsS122.set_1 | apply IsS122.set_2 | refine IsS122.far ?_ NB0_124.out _ | refine IsS122.far ?_ NB0_125.out _ | refine IsS122.far ?_ NB0_129.out _) | exact HI0.out)) (rr_ HO135.out) (by decide)) hk (fun _ h => h.2)) (fun _ h => h.1))
     have n6_ := aM (Kd.R_mono (Kd.R_keep (IsS122.apart (show IsS122 w0 _ g s0_0 t140 t141 from by repeat (first | (with_reducible first | exact HI0.out | apply IsS122.alloc | apply IsS122.drewN | apply IsS122.drew | apply IsS122.set_1 | apply IsS122.set_2 | refine IsS122.far ?_ NB0_124.out _ | refine IsS122.far ?_ NB0_125.out _ | refine IsS122.far ?_ NB0_129.out _) | exact HI0.out)) (rr_ HO144.out) (by decide)) hk (fun _ h => h.2)) (fun _ h => h.1))
     have n7_ := aM (KeepBut.trans qz18 hk (.inl rfl))
     have n8_ := aM (hb)
     have n9_ := aM (hi)
     clear HO_126000
     clear HO_130002
     clear BK124
     clear BK125
     clear BK129
     clear HO135
     clear HO144
     clear HK
     clear HB
     clear HI0
     have HO_126000 := n0_
     have HO_130002 := n1_
     have BK124 := n2_
     have BK125 := n3_
     have BK129 := n4_
     have HO135 := n5_
     have HO144 := n6_
     have HK := n7_
     have HB := n8_
     have HI0 := n9_
     clear n0_ n1_ n2_ n3_ n4_ n5_ n6_ n7_ n8_ n9_
     (try clear hb)
     (try clear hb2)
     (try clear hk)
     (try clear hi)
     refine hK.out _ _ ⟨(blk_cell BK129.out 0).trans rfl, (blk_cell BK129.out 1).trans rfl, (blk_cell BK129.out 2).trans rfl⟩ (fun hHeld => ?_)
     clear hK K
     refine norm_ (a' := ?_) ?_ ?_
     rotate_left
     {
     show Act.put _ (some 39) _ = _
     simp only [qzs]
     rfl
     }
     refine pI_ 11 40 (bqz 16 4095) ?_
     refine one_ (i := 12) (N := some 41) (bqz 16 8191) rfl rfl qzc (by decide) (fun K hK => ?_)
     refine value_ (w1 := ?_) (v := ?_) (by rfl) rfl ?_ ?_
     rotate_left 2
     {
     go_simp
     constructor
     {
     rfl
     }
     {
     rfl
     }
     }
     refine hK.out _ _ ⟨(blk_cell (blk_alloc BK129.out _) 0).trans rfl, (blk_cell (blk_alloc BK129.out _) 1).trans rfl, (blk_cell (blk_alloc BK129.out _) 2).trans rfl⟩ (fun hHeld => ?_)
     clear hK K
     refine norm_ (a' := ?_) ?_ ?_
     rotate_left
     {
     show Act.put _ (some 41) _ = _
     simp only [qzs]
     rfl
     }
     refine one_ (i := 13) (N := some 42) (bqz 16 16383) rfl rfl qzc (by decide) (fun K hK => ?_)
     refine Kd.R_append_step k72 w.heap.size (by rfl) (.tmp 30) (.tmp 41) 77 72 (.agg #[(.int .i64 0), (.int .i64 0), (.int .i64 0)]) 24 rfl Try.underlying77 info72 rfl (by decide) (by omega) u130002 x130002_2 (⟨x6_2, t136, t145⟩ : S72) [.int .i64 x6_2, .int .i64 t136, .int .i64 t145] (fun _ => True) (fun _ => False) rfl rfl ?aP (fun _ hk => hk.elim) ?aF ?aO (Below.refl _ _) ?aS ?aL ?_
     (case aP => exact k72_mkM _ _ _ (⟨x6_2, t136, t145⟩ : S72))
     (case aF => exact (fun _ _ => trivial))
     (case aO => exact (rr_ HO_130002.out))
     (case aS => exact (keep_size (w := w) (g := g) (row := none) qz18))
     (case aL => have := LMc22.out; omega)
     intro v149 w33 ho hb hg hat
     rw [← Ny148.out] at ho
     have n0_ := aM (Kd.S_after (ok := (fun k_ => k_ ≠ gb129)) (by (with_reducible repeat (first | apply Kd.S_alloc | apply Kd.S_drewN | apply Kd.S_drew)); exact Kd.S_mono HO_126000.out (fun _ hk => ⟨hk.2, hk.1⟩)) hg hat)
     have n1_ := aM (blk_grown (bk_ BK124.out) hg (Kd.R_ne HO_130002.out BK124.out (by decide)))
     have n2_ := aM (blk_grown (bk_ BK125.out) hg (Kd.R_ne HO_130002.out BK125.out (by decide)))
     have n3_ := aM (blk_grown (bk_ BK129.out) hg (Kd.R_ne HO_130002.out BK129.out (by decide)))
     have n4_ := aM (IsS122.grown qz48 hg (IsS122.own_ne HI0.out HO_130002.out (by decide)))
     have n5_ := aM (Kd.R_over' (rr_ HO135.out) (Kd.R_typed (rr_ HO_130002.out)) (by decide) hg)
     have n6_ := aM (Kd.R_over' (rr_ HO144.out) (Kd.R_typed (rr_ HO_130002.out)) (by decide) hg)
     have n7_ := aM (below_weaken qz50 HL.out hb)
     have n8_ := aM (KeepBut.trans qz18 (KeepBut.of_grown hg g) (Kd.R_base2 HO_130002.out))
     have n9_ := aM (ho)
     clear HO_126000
     clear BK124
     clear BK125
     clear BK129
     clear HI0
     clear HO135
     clear HO144
     clear HB
     clear HK
     clear HO_130002
     have HO_126000 := n0_
     have BK124 := n1_
     have BK125 := n2_
     have BK129 := n3_
     have HI0 := n4_
     have HO135 := n5_
     have HO144 := n6_
     have HB := n7_
     have HK := n8_
     have HO150 := n9_
     clear n0_ n1_ n2_ n3_ n4_ n5_ n6_ n7_ n8_ n9_
     clear ho hb hg hat
     obtain ⟨Ao34, co34, eo34⟩ := Kd.R_slice HO150.out
     (first | subst eo34 | (injection eo34 with f1_ f2_ f3_; have f4_ := f1_.symm; have f5_ := f3_.symm; clear f1_ f2_ f3_; subst f4_; subst f5_))
     refine hK.out _ _ ⟨(blk_cell BK129.out 0).trans rfl, (blk_cell BK129.out 1).trans rfl, (blk_cell BK129.out 2).trans rfl⟩ (fun hHeld => ?_)
     clear hK K
     refine norm_ (a' := ?_) ?_ ?_
     rotate_left
     {
     show Act.put _ (some 42) _ = _
     simp only [qzs]
     rfl
     }
     refine pI_ 14 43 (bqz 16 32767) ?_
     refine last_ (i := 15) (N := none) (bqz 16 65535) rfl rfl qzc (by decide) (fun K hK => ?_)
     have hs35 : w33.cell? ⟨gb129, 2, none⟩ = some (u130002) := (blk_cell BK129.out 2).trans rfl
     have hfs35 := blk_frozen BK129.out 2
     have hns35_0 := NB124_129.out
     have hns35_1 := NB125_129.out
     have hms35_0 := NB129_124.out
     have hms35_1 := NB129_125.out
     refine skip_ (w1 := ?_) (by rfl) rfl ?_ ?_
     rotate_left
     {
     go_simp
     rfl
     }
     refine hK.out _ _ ?_
     clear hK K
     refine done_ (done_of HT_.out (by kernel_rfl)) ?_
     try go_wp2
     go_roundg k2
     case measure => have := HK1.out; have := HK2.out; omega
     case rel => exact ⟨(wrap64 (x6_2 + 1)), (t146), (t147), (y148), (.slice Ao34 y148.length co34), qz13, H', ⟨by have := HK1.out; have := HK2.out; omega⟩, ⟨by (with_reducible repeat (first | apply Kd.S_alloc | apply Kd.S_drewN | apply Kd.S_drew)); exact Kd.S_mono (Kd.S_far (p := ⟨gb129, 2, none⟩) (Kd.S_mono HO_126000.out (fun k_ hk => (⟨hk, hk.1⟩ : _ ∧ k_ ≠ gb129))) (fun _ hk => hk.2) (.slice Ao34 y148.length co34)) (fun _ hk => ⟨hk.1.2, hk.1.1⟩)⟩, ⟨by (with_reducible repeat (first | apply Kd.R_alloc | apply Kd.R_drewN | apply Kd.R_drew)); exact Kd.R_mono (Kd.R_far (p := ⟨gb129, 2, none⟩) (Kd.R_types HO150.out BK129.out (by decide)) (fun _ hk => hk.2) (.slice Ao34 y148.length co34)) (fun _ hk => trivial)⟩, ⟨by (with_reducible repeat (first | refine blk_drewN ?_ _ | refine blk_drew ?_ | refine blk_alloc ?_ _)); refine blk_far ?_ NB124_129.out _; exact bk_ BK124.out⟩, ⟨by (with_reducible repeat (first | refine blk_drewN ?_ _ | refine blk_drew ?_ | refine blk_alloc ?_ _)); refine blk_far ?_ NB125_129.out _; exact bk_ BK125.out⟩, ⟨by (with_reducible repeat (first | refine blk_drewN ?_ _ | refine blk_drew ?_ | refine blk_alloc ?_ _)); refine blk_put (cs := #[.int .i64 (wrap64 (x4_1 * 10)), .int .i64 (wrap64 (20 - x4_1)), u130002]) ?_ 2 _ rfl; exact bk_ BK129.out⟩, ⟨by repeat (first | (with_reducible first | exact HI0.out | apply IsS122.alloc | apply IsS122.drewN | apply IsS122.drew | apply IsS122.set_1 | apply IsS122.set_2 | refine IsS122.far ?_ NB0_124.out _ | refine IsS122.far ?_ NB0_125.out _ | refine IsS122.far ?_ NB0_129.out _) | exact HI0.out)⟩, ⟨by repeat (first | (with_reducible first | exact HK.out | apply KeepBut.set_ | apply keep_drewN | apply keep_drew | apply keep_alloc | refine keep_far ?_ GW124.out _ | refine keep_far ?_ GW125.out _ | refine keep_far ?_ GW129.out _) | exact HK.out)⟩, ⟨by repeat (first | (with_reducible first | exact HB.out | apply below_alloc | apply pw_below_drewN | apply below_drew1 | refine below_set ?_ (IsS122.ge HI0.out) | refine below_set ?_ GE124.out | refine below_set ?_ GE125.out | refine below_set ?_ GE129.out) | exact HB.out)⟩⟩
     }
     {
     rw [if_neg c22] at H
     exact absurd H (by simp)
     }
     }
     {
     rw [if_neg c19] at H
     have c19b0 := decide_eq_false c19
     clear c19
     have H' := aM H
     clear H
     go_wp2_with (first | ((with_reducible refine gate_dst (N := 25) rfl ?_); refine Kd.R_lit (Kd.int .i64) _ 3 ?hg (N := 25) ?hd (xs := ([0, 0, 1, 3, 5, 12] : List Int)) (inner := [.int .i64 0, .int .i64 0, .int .i64 1, .int .i64 3, .int .i64 5, .int .i64 12]) (ok := fun _ => True) (okp := fun _ => True) ?hr ?hp (fun _ hk => hk) trivial (Below.refl _ _) (Nat.le_refl _) (by simp) ?_; (case hd => rfl); (case hg => rfl); (case hr => exact qz87); (case hp => exact qz82); intro v134 w36 ho37 hb hg_ hnew_; clear hg_ hnew_; (first | rw [← Ny133.out] at ho37 | (simp only [Int.reduceToNat] at ho37; rw [← Ny133.out] at ho37)); have n0_ := aM (Kd.S_below (rs_ HO_126000.out) hb); have n1_ := aM (Kd.R_below (rr_ HO_130002.out) hb); have n2_ := aM (Kd.R_lower ho37 (keep_size (w := w) (g := g) (row := none) qz18)); have n3_ := aM (blk_below (bk_ BK124.out) hb); have n4_ := aM (blk_below (bk_ BK125.out) hb); have n5_ := aM (blk_below (bk_ BK129.out) hb); have n6_ := aM (IsS122.below qz48 hb); have n7_ := aM (KeepBut.trans qz18 (KeepBut.of_below hb g none) (.inl rfl)); have n8_ := aM (below_step qz50 hb); clear HO_126000 HO_130002 BK124 BK125 BK129 HI0 HK HB; have HO_126000 := n0_; have HO_130002 := n1_; have HO135 := n2_; have BK124 := n3_; have BK125 := n4_; have BK129 := n5_; have HI0 := n6_; have HK := n7_; have HB := n8_; clear n0_ n1_ n2_ n3_ n4_ n5_ n6_ n7_ n8_; clear hb ho37; obtain ⟨Ao38, co38, eo38⟩ := Kd.R_slice HO135.out; subst eo38) | ((with_reducible refine gate_callee (f := 92) rfl ?_); refine goesL_ (some 26) rfl rfl Try.func92 (by kernel_rfl) rfl #[.pointer (some ⟨g, 0, none⟩), .slice Ao38 y133.length co38] rfl qz1 ?_; (with_reducible refine (spec_l1Int.calls g s0_0 x1001_2 x1002_2 _ _ y133 t136 t137 t138 w0 _ ?side1 ?side2 ?side3 ?side4 ?side5 A18.out).mono ?_); (case side1 => exact qz48); (case side2 => exact qz50); (case side3 => repeat (first | exact (Kd.R_reads' HO135.out).2.2 | (with_reducible refine Kd.C_alloc ?_ _) | (with_reducible refine Kd.C_drewN ?_ _) | (with_reducible refine Kd.C_drew ?_))); (case side4 => exact (Kd.R_reads' HO135.out).2.1); (case side5 => exact far_slice (IsS122.own_ne HI0.out HO135.out (by decide))); rintro e w39 ⟨rfl, hi, hb, hk⟩; refine ⟨_, rfl, ?_⟩; have n0_ := aM (Kd.S_mono (Kd.S_keep (IsS122.apartS (show IsS122 w0 _ g s0_0 x1001_2 x1002_2 from by repeat (first | (with_reducible first | exact HI0.out | apply IsS122.alloc | apply IsS122.drewN | apply IsS122.drew | apply IsS122.set_1 | apply IsS122.set_2 | refine IsS122.far ?_ NB0_124.out _ | refine IsS122.far ?_ NB0_125.out _ | refine IsS122.far ?_ NB0_129.out _) | exact HI0.out)) (rs_ HO_126000.out) (by decide)) hk (fun _ h => h.2)) (fun _ h => h.1)); have n1_ := aM (Kd.R_mono (Kd.R_keep (IsS122.apart (show IsS122 w0 _ g s0_0 x1001_2 x1002_2 from by repeat (first | (with_reducible first | exact HI0.out | apply IsS122.alloc | apply IsS122.drewN | apply IsS122.drew | apply IsS122.set_1 | apply IsS122.set_2 | refine IsS122.far ?_ NB0_124.out _ | refine IsS122.far ?_ NB0_125.out _ | refine IsS122.far ?_ NB0_129.out _) | exact HI0.out)) (rr_ HO_130002.out) (by decide)) hk (fun _ h => h.2)) (fun _ h => h.1)); have n2_ := aM (KeepBut.blk hk (bk_ BK124.out) NB124_0.out (by simp)); have n3_ := aM (KeepBut.blk hk (bk_ BK125.out) NB125_0.out (by simp)); have n4_ := aM (KeepBut.blk hk (bk_ BK129.out) NB129_0.out (by simp)); have n5_ := aM (Kd.R_mono (Kd.R_keep (IsS122.apart (show IsS122 w0 _ g s0_0 x1001_2 x1002_2 from by repeat (first | (with_reducible first | exact HI0.out | apply IsS122.alloc | apply IsS122.drewN | apply IsS122.drew | apply IsS122.set_1 | apply IsS122.set_2 | refine IsS122.far ?_ NB0_124.out _ | refine IsS122.far ?_ NB0_125.out _ | refine IsS122.far ?_ NB0_129.out _) | exact HI0.out)) (rr_ HO135.out) (by decide)) hk (fun _ h => h.2)) (fun _ h => h.1)); have n6_ := aM (KeepBut.trans qz18 hk (.inl rfl)); have n7_ := aM (hb); have n8_ := aM (hi); clear HO_126000 HO_130002 BK124 BK125 BK129 HO135 HK HB HI0; have HO_126000 := n0_; have HO_130002 := n1_; have BK124 := n2_; have BK125 := n3_; have BK129 := n4_; have HO135 := n5_; have HK := n6_; have HB := n7_; have HI0 := n8_; clear n0_ n1_ n2_ n3_ n4_ n5_ n6_ n7_ n8_; (try clear hb); (try clear hb2); (try clear hk); (try clear hi)))
     go_roundg k2
     case measure => have := HK1.out; have := HK2.out; omega
     case rel => exact ⟨(wrap64 (x6_2 + 1)), (t137), (t138), (x130002_2), (u130002), qz13, H', ⟨by have := HK1.out; have := HK2.out; omega⟩, ⟨rm_ HO_126000.out⟩, ⟨rm_ HO_130002.out⟩, ⟨bk_ BK124.out⟩, ⟨bk_ BK125.out⟩, ⟨bk_ BK129.out⟩, ⟨by repeat (first | (with_reducible first | exact HI0.out | apply IsS122.alloc | apply IsS122.drewN | apply IsS122.drew | apply IsS122.set_1 | apply IsS122.set_2 | refine IsS122.far ?_ NB0_124.out _ | refine IsS122.far ?_ NB0_125.out _ | refine IsS122.far ?_ NB0_129.out _) | exact HI0.out)⟩, ⟨by repeat (first | (with_reducible first | exact HK.out | apply KeepBut.set_ | apply keep_drewN | apply keep_drew | apply keep_alloc | refine keep_far ?_ GW124.out _ | refine keep_far ?_ GW125.out _ | refine keep_far ?_ GW129.out _) | exact HK.out)⟩, ⟨by repeat (first | (with_reducible first | exact HB.out | apply below_alloc | apply pw_below_drewN | apply below_drew1 | refine below_set ?_ (IsS122.ge HI0.out) | refine below_set ?_ GE124.out | refine below_set ?_ GE125.out | refine below_set ?_ GE129.out) | exact HB.out)⟩⟩
     }
     }
     {
     rw [if_neg c17] at H
     have c17b0 := decide_eq_false c17
     clear c17
     by_cases c40 : x126000_1.length < 3518437208883
     {
     rw [if_pos c40] at H
     have LMc40 := aM c40
     clear c40
     obtain ⟨y130, hy130⟩ : ∃ y_ : List (S79), y_ = (x126000_1 ++ [(⟨(wrap64 (x4_1 * 10)), (wrap64 (20 - x4_1)), x130002_2⟩ : S79)]) := ⟨_, rfl⟩
     replace H : (spec_l5Draw.l0 k2 (wrap64 (x4_1 + 1)) s0_0 x1001_2 x1002_2 y130) = some (r1, r2, r3) := by first | (rw [hy130]; with_reducible exact H) | (have H2_ := (Option.bind_some _ _).symm.trans H; rw [hy130]; with_reducible exact H2_) | (have H2_ := (Option.bind_some _ _).symm.trans H; with_reducible exact H2_) | with_reducible exact H | (rw [hy130]; exact H) | exact H
     have Ny130 := aM hy130
     clear hy130
     have H' := aM H
     clear H
     have hnb41 := NB125_124.out
     have hnc41 := NB124_125.out
     have hnb42 := NB125_129.out
     have hnc42 := NB129_125.out
     have hnb43 := NB125_0.out
     have hnc43 := NB0_125.out
     have hcz44_0 := bc0_ BK125.out
     have hfz44_0 := blk_frozen BK125.out 0
     have hnb45 := NB129_124.out
     have hnc45 := NB124_129.out
     have hnb46 := NB129_0.out
     have hnc46 := NB0_129.out
     obtain ⟨hcz47_0, hcz47_1, hcz47_2, hfz47_0, hfz47_1, hfz47_2⟩ := b6_ BK129.out
     obtain ⟨Ao49, co49, eo49⟩ := Kd.R_slice HO_130002.out
     subst eo49
     go_wp2_with (first | ((with_reducible refine gate_builtin (b := .append) (xs := #[.tmp 45, .tmp 47]) rfl ?_); at_builtin; refine Kd.S_append k79 w.heap.size rfl (.tmp 45) (.tmp 47) 24 79 (.agg #[(.int .i64 0), (.int .i64 0), (.slice none 0 0)]) 40 rfl Try.underlying24 info79 rfl (by decide) (by omega) u126000 x126000_1 (⟨(wrap64 (x4_1 * 10)), (wrap64 (20 - x4_1)), x130002_2⟩ : S79) [.int .i64 (wrap64 (x4_1 * 10)), .int .i64 (wrap64 (20 - x4_1)), .slice Ao49 x130002_2.length co49] (fun k_ => k_ ≠ gb129) (fun k_ => some k_ = (.slice Ao49 x130002_2.length co49 : Value).ownBlock) rfl rfl ?aP (fun k_ hk_ => ((Kd.R_mono (ok' := fun k_ => ((fun k_ => k_ ≠ gb129)) k_ ∧ some k_ ≠ (u126000 : Value).ownBlock) (Kd.R_types (Kd.R_apart' (HO_130002.out) (Kd.S_typed HO_126000.out) (by decide)) BK129.out (by decide)) (fun k_ hk => ⟨hk.2, hk.1.2⟩))).1 k_ hk_.symm) ?aF ?aO (Below.refl _ _) ?aS ?aL ?_; (case aP => exact k79_mkM _ _ _ (⟨(wrap64 (x4_1 * 10)), (wrap64 (20 - x4_1)), x130002_2⟩ : S79) (Kd.R_mono (Kd.R_tight rfl (Kd.R_mono (ok' := fun k_ => ((fun k_ => k_ ≠ gb129)) k_ ∧ some k_ ≠ (u126000 : Value).ownBlock) (Kd.R_types (Kd.R_apart' (HO_130002.out) (Kd.S_typed HO_126000.out) (by decide)) BK129.out (by decide)) (fun k_ hk => ⟨hk.2, hk.1.2⟩))) (fun _ h_ => h_))); (case aF => exact (fun k_ hk => Kd.freshB (bk_ BK129.out) k_ hk)); (case aO => exact (by (with_reducible repeat (first | apply Kd.S_alloc | apply Kd.S_drewN | apply Kd.S_drew)); exact Kd.S_mono HO_126000.out (fun k_ hk => ⟨hk.2, fun e_ => hk.1 e_⟩))); (case aS => exact (keep_size (w := w) (g := g) (row := none) qz18)); (case aL => have := LMc40.out; omega); intro v131 w48 ho hb hg hat; rw [← Ny130.out] at ho; have n0_ := aM (blk_grown (bk_ BK124.out) hg (Kd.S_ne HO_126000.out BK124.out (by decide))); have n1_ := aM (blk_grown (bk_ BK125.out) hg (Kd.S_ne HO_126000.out BK125.out (by decide))); have n2_ := aM (blk_grown (bk_ BK129.out) hg (Kd.S_away HO_126000.out (fun _ hk => hk.2))); have n3_ := aM (IsS122.grown qz48 hg (IsS122.own_neS HI0.out HO_126000.out (by decide))); have n4_ := aM (below_weaken qz50 HL.out hb); have n5_ := aM (KeepBut.trans qz18 (KeepBut.of_grown hg g) (Kd.S_base2 HO_126000.out)); have n6_ := aM (ho); clear BK124 BK125 BK129 HI0 HB HK HO_126000 HO_130002; have BK124 := n0_; have BK125 := n1_; have BK129 := n2_; have HI0 := n3_; have HB := n4_; have HK := n5_; have HO132 := n6_; clear n0_ n1_ n2_ n3_ n4_ n5_ n6_; clear ho hb hg hat; obtain ⟨Ao50, co50, eo50⟩ := Kd.S_slice HO132.out; subst eo50; have hcz51_0 := bc0_ BK125.out; have hfz51_0 := blk_frozen BK125.out 0))
     go_roundg k2
     case measure => have := HK1.out; have := HK2.out; omega
     case rel => exact ⟨(wrap64 (x4_1 + 1)), (x1001_2), (x1002_2), (y130), (.slice Ao50 y130.length co50), qz13, H', ⟨by have := HK1.out; have := HK2.out; omega⟩, ⟨by (with_reducible repeat (first | apply Kd.S_alloc | apply Kd.S_drewN | apply Kd.S_drew)); exact Kd.S_mono (Kd.S_far (p := ⟨gb125, 0, none⟩) (Kd.S_types HO132.out BK125.out (by decide)) (fun _ hk => hk.2) (.slice Ao50 y130.length co50)) (fun _ hk => trivial)⟩, ⟨by (with_reducible repeat (first | refine blk_drewN ?_ _ | refine blk_drew ?_ | refine blk_alloc ?_ _)); refine blk_far ?_ NB124_125.out _; exact bk_ BK124.out⟩, ⟨by (with_reducible repeat (first | refine blk_drewN ?_ _ | refine blk_drew ?_ | refine blk_alloc ?_ _)); refine blk_put (cs := #[u126000]) ?_ 0 _ rfl; exact bk_ BK125.out⟩, ⟨by repeat (first | (with_reducible first | exact HI0.out | apply IsS122.alloc | apply IsS122.drewN | apply IsS122.drew | apply IsS122.set_1 | apply IsS122.set_2 | refine IsS122.far ?_ NB0_124.out _ | refine IsS122.far ?_ NB0_125.out _ | refine IsS122.far ?_ NB0_129.out _) | exact HI0.out)⟩, ⟨by repeat (first | (with_reducible first | exact HK.out | apply KeepBut.set_ | apply keep_drewN | apply keep_drew | apply keep_alloc | refine keep_far ?_ GW124.out _ | refine keep_far ?_ GW125.out _ | refine keep_far ?_ GW129.out _) | exact HK.out)⟩, ⟨by repeat (first | (with_reducible first | exact HB.out | apply below_alloc | apply pw_below_drewN | apply below_drew1 | refine below_set ?_ (IsS122.ge HI0.out) | refine below_set ?_ GE124.out | refine below_set ?_ GE125.out | refine below_set ?_ GE129.out) | exact HB.out)⟩⟩
     }
     {
     rw [if_neg c40] at H
     exact absurd H (by simp)
     }
     }
   }
   }
   {
   rw [if_neg c7] at H
   have c7b0 := decide_eq_false c7
   clear c7
   simp only [Option.some.injEq, Prod.mk.injEq] at H
   obtain ⟨rfl, rfl, rfl⟩ := H
   have hnb52 := NB125_124.out
   have hnc52 := NB124_125.out
   have hnb53 := NB125_0.out
   have hnc53 := NB0_125.out
   have hcz54_0 := bc0_ BK125.out
   have hfz54_0 := blk_frozen BK125.out 0
   obtain ⟨Ao55, co55, eo55⟩ := Kd.S_slice HO_126000.out
   subst eo55
   have hnb56 := NB124_0.out
   have hnc56 := NB0_124.out
   have hcz57_0 := bc0_ BK124.out
   have hfz57_0 := blk_frozen BK124.out 0
   go_wp2
   refine bodyPost_ret (results_cell_row rfl _ _ gb124 26 #[.slice Ao55 x126000_1.length co55] (0, 0) _ rfl (by (with_reducible repeat (first | refine blk_drewN ?_ _ | refine blk_drew ?_ | refine blk_alloc ?_ _)); refine blk_put (cs := #[.slice none 0 0]) ?_ 0 _ rfl; exact bk_ BK124.out) Try.underlying26 rfl (by kernel_rfl)) rfl ?_
   exact ⟨_, by first | rfl | (simp [errW_none, errW_some] <;> rfl) | (simp [*, errW_none, errW_some] <;> rfl), by (with_reducible repeat (first | apply Kd.S_alloc | apply Kd.S_drewN | apply Kd.S_drew)); exact Kd.S_mono (Kd.S_far (p := ⟨gb124, 0, none⟩) (Kd.S_types HO_126000.out BK124.out (by decide)) (fun _ hk => hk.2) (.slice Ao55 x126000_1.length co55)) (fun _ hk => trivial), by repeat (first | (with_reducible first | exact HI0.out | apply IsS122.alloc | apply IsS122.drewN | apply IsS122.drew | apply IsS122.set_1 | apply IsS122.set_2 | refine IsS122.far ?_ NB0_124.out _ | refine IsS122.far ?_ NB0_125.out _) | exact HI0.out), by repeat (first | (with_reducible first | exact HB.out | apply below_alloc | apply pw_below_drewN | apply below_drew1 | refine below_set ?_ (IsS122.ge HI0.out) | refine below_set ?_ GE124.out | refine below_set ?_ GE125.out) | exact HB.out), by repeat (first | (with_reducible first | exact HK.out | apply KeepBut.set_ | apply keep_drewN | apply keep_drew | apply keep_alloc | refine keep_far ?_ GW124.out _ | refine keep_far ?_ GW125.out _) | exact HK.out)⟩

   }
end Go.Proofs.Yteajnkondkfmgaa.PFnHeld
