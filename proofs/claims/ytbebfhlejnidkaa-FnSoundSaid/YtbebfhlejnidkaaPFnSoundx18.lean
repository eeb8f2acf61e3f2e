-- Made by a program of this session out of the translation. Lean checks it.
import Derived.Test.YtbebfhlejnidkaaPFnSoundx0
import Derived.Test.YtbebfhlejnidkaaPFnSoundx1
import Derived.Test.YtbebfhlejnidkaaPFnSoundx2
import Derived.Test.YtbebfhlejnidkaaPFnSoundx10
import Derived.Test.YtbebfhlejnidkaaPFnSoundx17
namespace Go.Proofs.Ytbebfhlejnidkaa.PFnSound
open Go.RowKit Go.Proofs.YtbebfhlejnidkaaW.PrintWords Go.Proofs.YtbebfhlejnidkaaW.PrintLast Go.Proofs.YtbebfhlejnidkaaW.PrintMore
attribute [local go_sem] max2_int min2_int max_two min_two max_three min_three max_four min_four   -- for this text's walks alone
set_option linter.unusedVariables false
set_option linter.unusedSimpArgs false

/-! ### spec_Bridges: function 30 -/
mutual
def spec_Bridges.l0 : Nat → List (S71) → Int → Int → Int → List Int → Option ((List (S71)))
 | 0, _, _, _, _, _ => none
 | k + 1, x3, x4, x604000, x604001, x604002 => if x4 < (x604002.length : Int) then (if 0 ≤ x4 then (if (rd x604002 x4) = 0 then (spec_Bridges.l0 k x3 (wrap64 (x4 + 1)) x604000 x604001 x604002) else ((spec_l1Near.f k x604000 x604001 x604002 x4 false).bind fun t609 => (spec_Bridges.l1 k x3 x4 t609 0 x604000 x604001 x604002))) else (none)) else (some x3)
def spec_Bridges.l1 : Nat → List (S71) → Int → List Int → Int → Int → Int → List Int → Option ((List (S71)))
 | 0, _, _, _, _, _, _, _ => none
 | k + 1, x3, x4, x5, x6, x604000, x604001, x604002 => if x6 < (x5.length : Int) then (if 0 ≤ x6 then (if (rd x5 x6) > x4 then ((spec_l3Apart.f k x604000 x604001 x604002 x4 (rd x5 x6)).bind fun t614 => (if t614 = true then (if x3.length < 8796093022208 then (spec_Bridges.l1 k (x3 ++ [(⟨x4, rd x5 x6⟩ : S71)]) x4 x5 (wrap64 (x6 + 1)) x604000 x604001 x604002) else (none)) else (spec_Bridges.l1 k x3 x4 x5 (wrap64 (x6 + 1)) x604000 x604001 x604002))) else (spec_Bridges.l1 k x3 x4 x5 (wrap64 (x6 + 1)) x604000 x604001 x604002)) else (none)) else (spec_Bridges.l0 k x3 (wrap64 (x4 + 1)) x604000 x604001 x604002)
end
def spec_Bridges.f (k : Nat) (a0_0 : Int) (a0_1 : Int) (l0_2 : List Int) : Option ((List (S71))) := (some (([] : List (S71)) : List (S71))).bind fun y604 => ((spec_FloorOk.f k a0_0 a0_1 l0_2).bind fun t607 => (if t607 = true then (spec_Bridges.l0 k y604 0 a0_0 a0_1 l0_2) else (some y604)))
theorem spec_Bridges.mono_l : ∀ k, (∀ y0 y1 y2 y3 y4, LeO (spec_Bridges.l0 k y0 y1 y2 y3 y4) (spec_Bridges.l0 (k + 1) y0 y1 y2 y3 y4)) ∧ (∀ y0 y1 y2 y3 y4 y5 y6, LeO (spec_Bridges.l1 k y0 y1 y2 y3 y4 y5 y6) (spec_Bridges.l1 (k + 1) y0 y1 y2 y3 y4 y5 y6))
 | 0 => ⟨fun _ _ _ _ _ r h => by simp [spec_Bridges.l0] at h, fun _ _ _ _ _ _ _ r h => by simp [spec_Bridges.l1] at h⟩
 | k + 1 => by
  obtain ⟨ih0, ih1⟩ := spec_Bridges.mono_l k
  refine ⟨?_, ?_⟩
  {
  intro y0 y1 y2 y3 y4
  unfold spec_Bridges.l0
  repeat' first
  | (with_reducible first | exact ih0 _ _ _ _ _ | exact ih1 _ _ _ _ _ _ _ | exact spec_FloorOk.mono _ _ _ _ | exact spec_l1Near.mono _ _ _ _ _ _ | exact spec_l3Apart.mono _ _ _ _ _ _ | exact LeO.refl _ | exact LeO.none _ | refine LeO.ite ?_ ?_ | refine LeO.bind ?_ (fun _ => ?_))
  | exact ih0 _ _ _ _ _
  | exact ih1 _ _ _ _ _ _ _
  | exact spec_FloorOk.mono _ _ _ _
  | exact spec_l1Near.mono _ _ _ _ _ _
  | exact spec_l3Apart.mono _ _ _ _ _ _
  | exact LeO.none _
  | refine LeO.ite ?_ ?_
  | refine LeO.bind ?_ (fun _ => ?_)
  }
  {
  intro y0 y1 y2 y3 y4 y5 y6
  unfold spec_Bridges.l1
  repeat' first
  | (with_reducible first | exact ih0 _ _ _ _ _ | exact ih1 _ _ _ _ _ _ _ | exact spec_FloorOk.mono _ _ _ _ | exact spec_l1Near.mono _ _ _ _ _ _ | exact spec_l3Apart.mono _ _ _ _ _ _ | exact LeO.refl _ | exact LeO.none _ | refine LeO.ite ?_ ?_ | refine LeO.bind ?_ (fun _ => ?_))
  | exact ih0 _ _ _ _ _
  | exact ih1 _ _ _ _ _ _ _
  | exact spec_FloorOk.mono _ _ _ _
  | exact spec_l1Near.mono _ _ _ _ _ _
  | exact spec_l3Apart.mono _ _ _ _ _ _
  | exact LeO.none _
  | refine LeO.ite ?_ ?_
  | refine LeO.bind ?_ (fun _ => ?_)
  }
theorem spec_Bridges.mono : ∀ a0 a1 a2 k, LeO (spec_Bridges.f k a0 a1 a2) (spec_Bridges.f (k + 1) a0 a1 a2) := by
 intro a0 a1 a2 k
 obtain ⟨ih0, ih1⟩ := spec_Bridges.mono_l k
 unfold spec_Bridges.f
 repeat' first
  | (with_reducible first | exact ih0 _ _ _ _ _ | exact ih1 _ _ _ _ _ _ _ | exact spec_FloorOk.mono _ _ _ _ | exact spec_l1Near.mono _ _ _ _ _ _ | exact spec_l3Apart.mono _ _ _ _ _ _ | exact LeO.refl _ | exact LeO.none _ | refine LeO.ite ?_ ?_ | refine LeO.bind ?_ (fun _ => ?_))
  | exact ih0 _ _ _ _ _
  | exact ih1 _ _ _ _ _ _ _
  | exact spec_FloorOk.mono _ _ _ _
  | exact spec_l1Near.mono _ _ _ _ _ _
  | exact spec_l3Apart.mono _ _ _ _ _ _
  | exact LeO.none _
  | refine LeO.ite ?_ ?_
  | refine LeO.bind ?_ (fun _ => ?_)
def spec_Bridges.T12 : Bool × List (List Nat × List Nat) := (true, [([], []), ([], []), ([0, 1], [0, 1]), ([2], [2]), ([], []), ([3, 4], [3, 4]), ([5], [5]), ([6], [6]), ([6], [6]), ([6], [6]), ([6], [6]), ([9, 10, 6], [6, 9, 10]), ([11, 6], [6, 11]), ([7, 8, 12, 6, 6], [6, 7, 8, 12]), ([6, 13], [6, 13])])
def spec_Bridges.B12 : List Nat := [0, 0, 3, 7, 0, 31, 63, 127, 127, 127, 127, 1663, 3711, 8191, 16383]
theorem spec_Bridges.tab12 : rtab .any (opsOf Try.f30 12) = spec_Bridges.T12 := by kernel_rfl
theorem spec_Bridges.bits12 : waitsOk spec_Bridges.T12.2 spec_Bridges.B12 = true := by kernel_rfl
set_option maxHeartbeats 8000000 in
set_option maxRecDepth 100000 in
theorem spec_Bridges.calls (k : Nat) (a0_0 : Int) (a0_1 : Int) (A0_2 : Option Addr) (c0_2 : Nat) (l0_2 : List Int) (r : List (S71)) (w : World) (hr0_2 : Kd.C (Kd.int .i64) w A0_2 l0_2.length l0_2) (hc0_2 : l0_2.length ≤ c0_2) (h : spec_Bridges.f k a0_0 a0_1 l0_2 = some r) :
  Calls Try.prog 30 #[.agg #[.int .i64 a0_0, .int .i64 a0_1, .slice A0_2 l0_2.length c0_2]] w fun e w' => ∃ v0_ : Value, e = .returned (v0_) ∧ Kd.R k71 71 w' w.heap.size (fun _ => True) v0_ r ∧ Below w.heap.size w w' := by
 have hu43 := Try.underlying43
 have hu71 := Try.underlying71
 have HR0_2 := aM hr0_2
 have HC0_2 := aM hc0_2
 clear hr0_2 hc0_2
 have HB := aM (Below.refl w.heap.size w)
 have H : ((some (([] : List (S71)) : List (S71))).bind fun y604 => ((spec_FloorOk.f k a0_0 a0_1 l0_2).bind fun t607 => (if t607 = true then (spec_Bridges.l0 k y604 0 a0_0 a0_1 l0_2) else (some y604)))) = some r := h
 clear h
 obtain ⟨y604, hy604⟩ : ∃ y_ : List (S71), y_ = (([] : List (S71))) := ⟨_, rfl⟩
 replace H : ((spec_FloorOk.f k a0_0 a0_1 l0_2).bind fun t607 => (if t607 = true then (spec_Bridges.l0 k y604 0 a0_0 a0_1 l0_2) else (some y604))) = some r := by first | (rw [hy604]; with_reducible exact H) | (have H2_ := (Option.bind_some _ _).symm.trans H; rw [hy604]; with_reducible exact H2_) | (have H2_ := (Option.bind_some _ _).symm.trans H; with_reducible exact H2_) | with_reducible exact H | (rw [hy604]; exact H) | exact H
 have Ny604 := aM hy604
 clear hy604
 replace H := Option.bind_eq_some_iff.mp H
 obtain ⟨t607, A20, H⟩ := H
 replace H : (if t607 = true then (spec_Bridges.l0 k y604 0 a0_0 a0_1 l0_2) else (some y604)) = some r := H
 have A2 := aM A20
 clear A20
 by_cases c3 : t607 = true
 {
 subst c3
 rw [if_pos rfl] at H
 have H' := aM H
 clear H
 go_enter Try.func30, Try.ntmps30
 go_wp2_with (first | ((with_reducible refine gate_dst (N := 1) rfl ?_); refine bx_ 1 #[.int .i64 a0_0, .int .i64 a0_1, .slice A0_2 l0_2.length c0_2] 43 ?_; intro gb603 hg w4 hbox hb; have n0_ := aM (below_step qz1 hb); have n1_ := aM (hbox); have n2_ := aM ((by rw [hg]; exact (below_size qz1) : w.heap.size ≤ gb603)); have n3_ := aM ((by rw [hg]; exact (below_size qz1) : w.heap.size ≤ gb603)); clear HB; have HB := n0_; have BK603 := n1_; have GW603 := n2_; have GE603 := n3_; clear n0_ n1_ n2_ n3_; clear hb hbox hg) | ((with_reducible refine gate_dst (N := 7) rfl ?_); refine Kd.R_lit k71 _ 71 ?hg (N := 7) ?hd (xs := ([] : List (S71))) (inner := []) (ok := fun _ => True) (okp := fun _ => True) ?hr ?hp (fun _ hk => hk) trivial (Below.refl _ _) (Nat.le_refl _) (by simp) ?_; (case hd => rfl); (case hg => rfl); (case hr => exact qz28); (case hp => exact (Reps.none _ _)); intro v605 w5 ho6 hb hg_ hnew_; clear hg_ hnew_; (first | rw [← Ny604.out] at ho6 | (simp only [Int.reduceToNat] at ho6; rw [← Ny604.out] at ho6)); have n0_ := aM (Kd.R_lower ho6 (below_size qz19)); have n1_ := aM (blk_below (bk_ BK603.out) hb); have n2_ := aM (below_step qz19 hb); clear BK603 HB; have HO606 := n0_; have BK603 := n1_; have HB := n2_; clear n0_ n1_ n2_; clear hb ho6; obtain ⟨hcz7_0, hcz7_1, hcz7_2, hfz7_0, hfz7_1, hfz7_2⟩ := b6_ BK603.out) | ((with_reducible refine gate_callee (f := 60) rfl ?_); refine goesL_ (some 9) rfl rfl Try.func60 (by kernel_rfl) rfl #[.agg #[.int .i64 a0_0, .int .i64 a0_1, .slice A0_2 l0_2.length c0_2]] rfl qz3 ?_; (with_reducible refine (spec_FloorOk.calls k a0_0 a0_1 _ _ l0_2 true _ ?side1 ?side2 A2.out).mono ?_); (case side1 => exact qz4); (case side2 => exact qz69); rintro e w8 ⟨rfl, hb⟩; refine ⟨_, rfl, ?_⟩; have n0_ := aM (Kd.R_below (rr_ HO606.out) hb); have n1_ := aM (blk_below (bk_ BK603.out) hb); have n2_ := aM (below_step qz19 hb); clear HO606 BK603 HB; have HO606 := n0_; have BK603 := n1_; have HB := n2_; clear n0_ n1_ n2_; (try clear hb); (try clear hb2); (try clear hk); (try clear hi)))
 go_loopg [3, 4] k (fun kq v3 v4 w' => ∃ (x3_1 : List (S71)) (x4_1 : Int), v4 = .int .i64 x4_1 ∧ Aside0 (spec_Bridges.l0 kq x3_1 x4_1 a0_0 a0_1 l0_2 = some r) ∧ Aside0 (kq ≤ k) ∧ Aside0 (Kd.R k71 71 w' w.heap.size (fun _ => True) v3 x3_1) ∧ Aside0 (w'.heap[gb603]? = some (.cells #[.int .i64 a0_0, .int .i64 a0_1, (.slice A0_2 l0_2.length c0_2)] 43 (0, 0))) ∧ Aside0 (Below w.heap.size w w'))
 case atStart => exact ⟨(y604), (0), qz5, H', ⟨Nat.le_refl _⟩, ⟨rr_ HO606.out⟩, ⟨bk_ BK603.out⟩, ⟨by repeat (first | (with_reducible first | exact HB.out | apply below_alloc | apply pw_below_drewN | apply below_drew1 | refine below_set ?_ GE603.out) | exact HB.out)⟩⟩
 case round =>
  clear H'
  try clear p2
  try clear c3
  try clear c6
  try clear hcz7_0
  try clear hcz7_1
  try clear hcz7_2
  try clear hfz7_0
  try clear hfz7_1
  try clear hfz7_2
  obtain ⟨x3_1, x4_1, rfl, HA, HK1, HO_3, BK603, HB⟩ := hrel
  cases gk with
  | zero => exact absurd HA.out (by simp [spec_Bridges.l0])
  | succ k1 =>
   have H := HA.out
   clear HA
   simp only [spec_Bridges.l0] at H
   by_cases c9 : x4_1 < (l0_2.length : Int)
   {
   rw [if_pos c9] at H
   have c9b0 := decide_eq_true c9
   clear c9
   by_cases c10 : 0 ≤ x4_1
   {
   rw [if_pos c10] at H
   have c10b0 := decide_eq_true c10
   clear c10
   by_cases c11 : (rd l0_2 x4_1) = 0
   {
   rw [if_pos c11] at H
   have c11b0 := beq_iff_eq.mpr c11
   have c11b1 := bne_eq_false_iff_eq.mpr c11
   clear c11
   have H' := aM H
   clear H
   obtain ⟨hcz12_0, hcz12_1, hcz12_2, hfz12_0, hfz12_1, hfz12_2⟩ := b6_ BK603.out
   have p608 : 0 ≤ (x4_1 : Int) := of_decide_eq_true qz2
   have q608 : x4_1 < (l0_2.length : Int) := of_decide_eq_true qz2
   obtain ⟨ad608, e608, hx608_0⟩ := Kd.at_int HR0_2.out x4_1 p608 q608
   cases e608
   replace hx608_0 := pw_cell_below HB.out hx608_0
   replace p608 := eq_true p608
   replace q608 := eq_true q608
   go_wp2
   go_roundg k1
   case measure => have := HK1.out; omega
   case rel => exact ⟨(x3_1), (wrap64 (x4_1 + 1)), qz5, H', ⟨by have := HK1.out; omega⟩, ⟨rm_ HO_3.out⟩, ⟨bk_ BK603.out⟩, ⟨by repeat (first | (with_reducible first | exact HB.out | apply below_alloc | apply pw_below_drewN | apply below_drew1 | refine below_set ?_ GE603.out) | exact HB.out)⟩⟩
   }
   {
   rw [if_neg c11] at H
   have c11b0 := beq_eq_false_iff_ne.mpr c11
   have c11b1 := bne_iff_ne.mpr c11
   replace H := Option.bind_eq_some_iff.mp H
   obtain ⟨t609, A130, H⟩ := H
   replace H : (spec_Bridges.l1 k1 x3_1 x4_1 t609 0 a0_0 a0_1 l0_2) = some r := H
   have A13 := aM A130
   clear A130
   have H' := aM H
   clear H
   obtain ⟨hcz14_0, hcz14_1, hcz14_2, hfz14_0, hfz14_1, hfz14_2⟩ := b6_ BK603.out
   have p608 : 0 ≤ (x4_1 : Int) := of_decide_eq_true qz2
   have q608 : x4_1 < (l0_2.length : Int) := of_decide_eq_true qz2
   obtain ⟨ad608, e608, hx608_0⟩ := Kd.at_int HR0_2.out x4_1 p608 q608
   cases e608
   replace hx608_0 := pw_cell_below HB.out hx608_0
   replace p608 := eq_true p608
   replace q608 := eq_true q608
   go_wp2_with (first | ((with_reducible refine gate_callee (f := 61) rfl ?_); refine goesL_ (some 27) rfl rfl Try.func61 (by kernel_rfl) rfl #[.agg #[.int .i64 a0_0, .int .i64 a0_1, .slice (some ad608) l0_2.length c0_2], .int .i64 x4_1, .bool false] rfl qz3 ?_; (with_reducible refine (spec_l1Near.calls k1 a0_0 a0_1 _ _ l0_2 x4_1 false t609 _ ?side1 ?side2 A13.out).mono ?_); (case side1 => exact qz4); (case side2 => exact qz69); rintro e w15 ⟨v610, rfl, ho0, hb⟩; refine ⟨_, rfl, ?_⟩; have n0_ := aM (Kd.R_below (rr_ HO_3.out) hb); have n1_ := aM (Kd.R_lower ho0 (below_size qz19)); have n2_ := aM (blk_below (bk_ BK603.out) hb); have n3_ := aM (below_step qz19 hb); clear HO_3 BK603 HB; have HO_3 := n0_; have HO611 := n1_; have BK603 := n2_; have HB := n3_; clear n0_ n1_ n2_ n3_; (try clear hb); (try clear hb2); (try clear hk); (try clear hi); (try clear ho0)))
   go_loopg [3, 6] k1 (fun kq v3 v6 w' => ∃ (x3_2 : List (S71)) (x6_2 : Int), v6 = .int .i64 x6_2 ∧ Aside0 (spec_Bridges.l1 kq x3_2 x4_1 t609 x6_2 a0_0 a0_1 l0_2 = some r) ∧ Aside0 (kq ≤ k1) ∧ Aside0 (Kd.R k71 71 w' w.heap.size (fun _ => True) v3 x3_2) ∧ Aside0 (Kd.R (Kd.int .i64) 3 w' w.heap.size (fun _ => True) v610 t609) ∧ Aside0 (w'.heap[gb603]? = some (.cells #[.int .i64 a0_0, .int .i64 a0_1, (.slice (some ad608) l0_2.length c0_2)] 43 (0, 0))) ∧ Aside0 (Below w.heap.size w w'))
   case atStart => exact ⟨(x3_1), (0), qz5, H', ⟨Nat.le_refl _⟩, ⟨rr_ HO_3.out⟩, ⟨rr_ HO611.out⟩, ⟨bk_ BK603.out⟩, ⟨by repeat (first | (with_reducible first | exact HB.out | apply below_alloc | apply pw_below_drewN | apply below_drew1 | refine below_set ?_ GE603.out) | exact HB.out)⟩⟩
   case round =>
    clear H'
    try clear c1
    try clear p2
    try clear c3
    try clear c6
    try clear p6
    try clear q6
    try clear hx6
    try clear c9
    try clear c9b0
    try clear c10
    try clear c10b0
    try clear c11
    try clear c11b0
    try clear c11b1
    try clear hcz12_0
    try clear hcz12_1
    try clear hcz12_2
    try clear hcz14_0
    try clear hcz14_1
    try clear hcz14_2
    try clear hcz7_0
    try clear hcz7_1
    try clear hcz7_2
    try clear hfz12_0
    try clear hfz12_1
    try clear hfz12_2
    try clear hfz14_0
    try clear hfz14_1
    try clear hfz14_2
    try clear hfz7_0
    try clear hfz7_1
    try clear hfz7_2
    try clear hx608_0
    try clear p2
    try clear p608
    try clear q608
    obtain ⟨x3_2, x6_2, rfl, HA, HK2, HO_3, HO_5, BK603, HB⟩ := hrel
    cases gk with
    | zero => exact absurd HA.out (by simp [spec_Bridges.l1])
    | succ k2 =>
     have H := HA.out
     clear HA
     simp only [spec_Bridges.l1] at H
     by_cases c16 : x6_2 < (t609.length : Int)
     {
     rw [if_pos c16] at H
     have c16b0 := decide_eq_true c16
     clear c16
     by_cases c17 : 0 ≤ x6_2
     {
     rw [if_pos c17] at H
     have c17b0 := decide_eq_true c17
     clear c17
     by_cases c18 : (rd t609 x6_2) > x4_1
     {
     rw [if_pos c18] at H
     have c18b0 := decide_eq_true c18
     clear c18
     replace H := Option.bind_eq_some_iff.mp H
     obtain ⟨t614, A190, H⟩ := H
     replace H : (if t614 = true then (if x3_2.length < 8796093022208 then (spec_Bridges.l1 k2 (x3_2 ++ [(⟨x4_1, rd t609 x6_2⟩ : S71)]) x4_1 t609 (wrap64 (x6_2 + 1)) a0_0 a0_1 l0_2) else (none)) else (spec_Bridges.l1 k2 x3_2 x4_1 t609 (wrap64 (x6_2 + 1)) a0_0 a0_1 l0_2)) = some r := H
     have A19 := aM A190
     clear A190
     by_cases c20 : t614 = true
     {
     subst c20
     rw [if_pos rfl] at H
     by_cases c21 : x3_2.length < 8796093022208
     {
     rw [if_pos c21] at H
     have LMc21 := aM c21
     clear c21
     obtain ⟨y616, hy616⟩ : ∃ y_ : List (S71), y_ = (x3_2 ++ [(⟨x4_1, rd t609 x6_2⟩ : S71)]) := ⟨_, rfl⟩
     replace H : (spec_Bridges.l1 k2 y616 x4_1 t609 (wrap64 (x6_2 + 1)) a0_0 a0_1 l0_2) = some r := by first | (rw [hy616]; with_reducible exact H) | (have H2_ := (Option.bind_some _ _).symm.trans H; rw [hy616]; with_reducible exact H2_) | (have H2_ := (Option.bind_some _ _).symm.trans H; with_reducible exact H2_) | with_reducible exact H | (rw [hy616]; exact H) | exact H
     have Ny616 := aM hy616
     clear hy616
     have H' := aM H
     clear H
     obtain ⟨Ao22, co22, eo22⟩ := Kd.R_slice HO_5.out
     subst eo22
     try go_wp2
     have n0_ := aM (Kd.R_drew HO_3.out)
     have n1_ := aM (Kd.R_drew HO_5.out)
     have n2_ := aM (blk_drew BK603.out)
     have n3_ := aM (below_drew1 HB.out)
     clear HO_3
     clear HO_5
     clear BK603
     clear HB
     have HO_3 := n0_
     have HO_5 := n1_
     have BK603 := n2_
     have HB := n3_
     clear n0_ n1_ n2_ n3_
     have p612 : 0 ≤ (x6_2 : Int) := of_decide_eq_true qz2
     have q612 : x6_2 < (t609.length : Int) := of_decide_eq_true qz2
     obtain ⟨ad612, e612, hx612_0⟩ := Kd.at_int (Kd.R_reads' HO_5.out).2.2 x6_2 p612 q612
     cases e612
     replace p612 := eq_true p612
     replace q612 := eq_true q612
     have p613 : 0 ≤ (x6_2 : Int) := of_decide_eq_true qz2
     have q613 : x6_2 < (t609.length : Int) := of_decide_eq_true qz2
     obtain ⟨ad613, e613, hx613_0⟩ := Kd.at_int (Kd.R_reads' HO_5.out).2.2 x6_2 p613 q613
     obtain rfl : ad612 = ad613 := (by injection e613)
     replace p613 := eq_true p613
     replace q613 := eq_true q613
     refine start_ (n := 15) (S := fun w' => w'.cell? ⟨gb603, 0, none⟩ = some (.int .i64 a0_0) ∧ w'.cell? ⟨gb603, 1, none⟩ = some (.int .i64 a0_1) ∧ w'.cell? ⟨gb603, 2, none⟩ = some (.slice (some ad608) l0_2.length c0_2) ∧ w'.cell? (ad612.add (x6_2).toNat) = some (.int .i64 (rd t609 x6_2)) ∧ w'.cell? (ad612.add (x6_2).toNat) = some (.int .i64 (rd t609 x6_2))) (ds := []) #[false, false, false, false, false, false, false, false, false, false, false, false, false, false, false] (by kernel_rfl) rfl rfl ⟨(blk_cell BK603.out 0).trans rfl, (blk_cell BK603.out 1).trans rfl, (blk_cell BK603.out 2).trans rfl, hx612_0, hx613_0⟩ (fun hHeld => ?_); refine with_tabW spec_Bridges.tab12 spec_Bridges.bits12 (fun HT_ HW_ => ?_)
     generalize wr.drew = w23 at HO_3 HO_5 BK603 HB hx612_0 hx613_0 hHeld ⊢
     refine pI_ 0 34 (bqz 15 1) ?_
     refine pI_ 1 35 (bqz 15 3) ?_
     refine pI_ 2 36 (bqz 15 7) ?_
     refine pI_ 4 38 (bqz 15 23) ?_
     refine tI5_ 3 37 (bqz 15 31) ?_
     refine pI_ 5 39 (bqz 15 63) ?_
     refine pI_ 6 40 (bqz 15 127) ?_
     refine pI_ 8 42 (bqz 15 383) ?_
     refine pI_ 9 43 (bqz 15 895) ?_
     refine pI_ 10 44 (bqz 15 1919) ?_
     refine pI_ 11 45 (bqz 15 3967) ?_
     refine tI5_ 7 41 (bqz 15 4095) ?_
     refine tI5_ 12 46 (bqz 15 8191) ?_
     refine one_ (i := 13) (N := some 47) (bqz 15 16383) rfl rfl qzc (by decide) (fun K hK => ?_)
     refine goes_ Try.func62 (by kernel_rfl) rfl #[.agg #[.int .i64 a0_0, .int .i64 a0_1, .slice (some ad608) l0_2.length c0_2], .int .i64 x4_1, .int .i64 (rd t609 x6_2)] (by rfl) rfl rfl qz3 ?_
     with_reducible refine (spec_l3Apart.calls k2 a0_0 a0_1 _ _ l0_2 x4_1 (rd t609 x6_2) true _ ?side1 ?side2 A19.out).mono ?_
     (case side1 => exact qz4)
     (case side2 => exact qz69)
     rintro e w24 ⟨rfl, hb⟩
     have HS3_ := (hb.cell (World.block_lt_of_cell? _ _ (hHeld.2.2.2.1))).trans (hHeld.2.2.2.1)
     have HS4_ := (hb.cell (World.block_lt_of_cell? _ _ (hHeld.2.2.2.2))).trans (hHeld.2.2.2.2)
     refine ⟨_, rfl, ?_⟩
     have n0_ := aM (Kd.R_below (rr_ HO_3.out) hb)
     have n1_ := aM (Kd.R_below (rr_ HO_5.out) hb)
     have n2_ := aM (blk_below (bk_ BK603.out) hb)
     have n3_ := aM (below_step qz19 hb)
     clear HO_3
     clear HO_5
     clear BK603
     clear HB
     have HO_3 := n0_
     have HO_5 := n1_
     have BK603 := n2_
     have HB := n3_
     clear n0_ n1_ n2_ n3_
     (try clear hb)
     (try clear hb2)
     (try clear hk)
     (try clear hi)
     refine hK.out _ _ ⟨(blk_cell BK603.out 0).trans rfl, (blk_cell BK603.out 1).trans rfl, (blk_cell BK603.out 2).trans rfl, HS3_, HS4_⟩ (fun hHeld => ?_)
     clear hK K
     refine norm_ (a' := ?_) ?_ ?_
     rotate_left
     {
     show Act.put _ (some 47) _ = _
     simp only [qzs]
     rfl
     }
     refine pI_ 14 48 (bqz 15 32767) ?_
     refine done_ (done_of HT_.out (by kernel_rfl)) ?_
     have p615 : 0 ≤ (x6_2 : Int) := of_decide_eq_true qz2
     have q615 : x6_2 < (t609.length : Int) := of_decide_eq_true qz2
     obtain ⟨ad615, e615, hx615_0⟩ := Kd.at_int (Kd.R_reads' HO_5.out).2.2 x6_2 p615 q615
     obtain rfl : ad612 = ad615 := (by injection e615)
     replace p615 := eq_true p615
     replace q615 := eq_true q615
     try go_wp2_with (first | ((with_reducible refine gate_builtin (b := .append) (xs := #[.tmp 49, .tmp 56]) rfl ?_); at_builtin; refine Kd.R_append k71 (w0 := w) w.heap.size rfl (.tmp 49) (.tmp 56) 46 71 (.agg #[(.int .i64 0), (.int .i64 0)]) 16 rfl Try.underlying46 info71 rfl (by decide) (by omega) u3 x3_2 (⟨x4_1, rd t609 x6_2⟩ : S71) [.int .i64 x4_1, .int .i64 (rd t609 x6_2)] (fun _ => True) (fun _ => False) rfl rfl ?aP (fun _ hk => hk.elim) ?aF ?aO ?aB ?aS ?aL ?_; (case aP => exact k71_mkM _ _ _ (⟨x4_1, rd t609 x6_2⟩ : S71)); (case aB => exact qz19); (case aF => exact qz57); (case aO => exact (rr_ HO_3.out)); (case aS => exact (below_size qz19)); (case aL => have := LMc21.out; omega); intro v617 w25 ho hb hg hat; rw [← Ny616.out] at ho; have n0_ := aM (Kd.R_over' (rr_ HO_5.out) (Kd.R_typed (rr_ HO_3.out)) (by decide) hg); have n1_ := aM (blk_grown (bk_ BK603.out) hg (Kd.R_ne HO_3.out BK603.out (by decide))); have n2_ := aM (hb); have n3_ := aM (ho); clear HO_5 BK603 HB HO_3; have HO_5 := n0_; have BK603 := n1_; have HB := n2_; have HO618 := n3_; clear n0_ n1_ n2_ n3_; clear ho hb hg hat))
     go_roundg k2
     case measure => have := HK1.out; have := HK2.out; omega
     case rel => exact ⟨(y616), (wrap64 (x6_2 + 1)), qz5, H', ⟨by have := HK1.out; have := HK2.out; omega⟩, ⟨rm_ HO618.out⟩, ⟨rm_ HO_5.out⟩, ⟨bk_ BK603.out⟩, ⟨by repeat (first | (with_reducible first | exact HB.out | apply below_alloc | apply pw_below_drewN | apply below_drew1 | refine below_set ?_ GE603.out) | exact HB.out)⟩⟩
     }
     {
     rw [if_neg c21] at H
     exact absurd H (by simp)
     }
     }
     {
     replace c20 := Bool.eq_false_iff.mpr c20
     subst c20
     rw [if_neg (show ¬ (false = true) by decide)] at H
     have H' := aM H
     clear H
     obtain ⟨Ao26, co26, eo26⟩ := Kd.R_slice HO_5.out
     subst eo26
     try go_wp2
     have n0_ := aM (Kd.R_drew HO_3.out)
     have n1_ := aM (Kd.R_drew HO_5.out)
     have n2_ := aM (blk_drew BK603.out)
     have n3_ := aM (below_drew1 HB.out)
     clear HO_3
     clear HO_5
     clear BK603
     clear HB
     have HO_3 := n0_
     have HO_5 := n1_
     have BK603 := n2_
     have HB := n3_
     clear n0_ n1_ n2_ n3_
     have p612 : 0 ≤ (x6_2 : Int) := of_decide_eq_true qz2
     have q612 : x6_2 < (t609.length : Int) := of_decide_eq_true qz2
     obtain ⟨ad612, e612, hx612_0⟩ := Kd.at_int (Kd.R_reads' HO_5.out).2.2 x6_2 p612 q612
     cases e612
     replace p612 := eq_true p612
     replace q612 := eq_true q612
     have p613 : 0 ≤ (x6_2 : Int) := of_decide_eq_true qz2
     have q613 : x6_2 < (t609.length : Int) := of_decide_eq_true qz2
     obtain ⟨ad613, e613, hx613_0⟩ := Kd.at_int (Kd.R_reads' HO_5.out).2.2 x6_2 p613 q613
     obtain rfl : ad612 = ad613 := (by injection e613)
     replace p613 := eq_true p613
     replace q613 := eq_true q613
     refine start_ (n := 15) (S := fun w' => w'.cell? ⟨gb603, 0, none⟩ = some (.int .i64 a0_0) ∧ w'.cell? ⟨gb603, 1, none⟩ = some (.int .i64 a0_1) ∧ w'.cell? ⟨gb603, 2, none⟩ = some (.slice (some ad608) l0_2.length c0_2) ∧ w'.cell? (ad612.add (x6_2).toNat) = some (.int .i64 (rd t609 x6_2)) ∧ w'.cell? (ad612.add (x6_2).toNat) = some (.int .i64 (rd t609 x6_2))) (ds := []) #[false, false, false, false, false, false, false, false, false, false, false, false, false, false, false] (by kernel_rfl) rfl rfl ⟨(blk_cell BK603.out 0).trans rfl, (blk_cell BK603.out 1).trans rfl, (blk_cell BK603.out 2).trans rfl, hx612_0, hx613_0⟩ (fun hHeld => ?_); refine with_tabW spec_Bridges.tab12 spec_Bridges.bits12 (fun HT_ HW_ => ?_)
     generalize wr.drew = w27 at HO_3 HO_5 BK603 HB hx612_0 hx613_0 hHeld ⊢
     refine pI_ 0 34 (bqz 15 1) ?_
     refine pI_ 1 35 (bqz 15 3) ?_
     refine pI_ 2 36 (bqz 15 7) ?_
     refine pI_ 4 38 (bqz 15 23) ?_
     refine tI5_ 3 37 (bqz 15 31) ?_
     refine pI_ 5 39 (bqz 15 63) ?_
     refine pI_ 6 40 (bqz 15 127) ?_
     refine pI_ 8 42 (bqz 15 383) ?_
     refine pI_ 9 43 (bqz 15 895) ?_
     refine pI_ 10 44 (bqz 15 1919) ?_
     refine pI_ 11 45 (bqz 15 3967) ?_
     refine tI5_ 7 41 (bqz 15 4095) ?_
     refine tI5_ 12 46 (bqz 15 8191) ?_
     refine one_ (i := 13) (N := some 47) (bqz 15 16383) rfl rfl qzc (by decide) (fun K hK => ?_)
     refine goes_ Try.func62 (by kernel_rfl) rfl #[.agg #[.int .i64 a0_0, .int .i64 a0_1, .slice (some ad608) l0_2.length c0_2], .int .i64 x4_1, .int .i64 (rd t609 x6_2)] (by rfl) rfl rfl qz3 ?_
     with_reducible refine (spec_l3Apart.calls k2 a0_0 a0_1 _ _ l0_2 x4_1 (rd t609 x6_2) false _ ?side1 ?side2 A19.out).mono ?_
     (case side1 => exact qz4)
     (case side2 => exact qz69)
     rintro e w28 ⟨rfl, hb⟩
     have HS3_ := (hb.cell (World.block_lt_of_cell? _ _ (hHeld.2.2.2.1))).trans (hHeld.2.2.2.1)
     have HS4_ := (hb.cell (World.block_lt_of_cell? _ _ (hHeld.2.2.2.2))).trans (hHeld.2.2.2.2)
     refine ⟨_, rfl, ?_⟩
     have n0_ := aM (Kd.R_below (rr_ HO_3.out) hb)
     have n1_ := aM (Kd.R_below (rr_ HO_5.out) hb)
     have n2_ := aM (blk_below (bk_ BK603.out) hb)
     have n3_ := aM (below_step qz19 hb)
     clear HO_3
     clear HO_5
     clear BK603
     clear HB
     have HO_3 := n0_
     have HO_5 := n1_
     have BK603 := n2_
     have HB := n3_
     clear n0_ n1_ n2_ n3_
     (try clear hb)
     (try clear hb2)
     (try clear hk)
     (try clear hi)
     refine hK.out _ _ ⟨(blk_cell BK603.out 0).trans rfl, (blk_cell BK603.out 1).trans rfl, (blk_cell BK603.out 2).trans rfl, HS3_, HS4_⟩ (fun hHeld => ?_)
     clear hK K
     refine norm_ (a' := ?_) ?_ ?_
     rotate_left
     {
     show Act.put _ (some 47) _ = _
     simp only [qzs]
     rfl
     }
     refine pI_ 14 48 (bqz 15 32767) ?_
     refine done_ (done_of HT_.out (by kernel_rfl)) ?_
     try go_wp2
     go_roundg k2
     case measure => have := HK1.out; have := HK2.out; omega
     case rel => exact ⟨(x3_2), (wrap64 (x6_2 + 1)), qz5, H', ⟨by have := HK1.out; have := HK2.out; omega⟩, ⟨rm_ HO_3.out⟩, ⟨rm_ HO_5.out⟩, ⟨bk_ BK603.out⟩, ⟨by repeat (first | (with_reducible first | exact HB.out | apply below_alloc | apply pw_below_drewN | apply below_drew1 | refine below_set ?_ GE603.out) | exact HB.out)⟩⟩
     }
     }
     {
     rw [if_neg c18] at H
     have c18b0 := decide_eq_false c18
     clear c18
     have H' := aM H
     clear H
     obtain ⟨Ao29, co29, eo29⟩ := Kd.R_slice HO_5.out
     subst eo29
     try go_wp2
     have n0_ := aM (Kd.R_drew HO_3.out)
     have n1_ := aM (Kd.R_drew HO_5.out)
     have n2_ := aM (blk_drew BK603.out)
     have n3_ := aM (below_drew1 HB.out)
     clear HO_3
     clear HO_5
     clear BK603
     clear HB
     have HO_3 := n0_
     have HO_5 := n1_
     have BK603 := n2_
     have HB := n3_
     clear n0_ n1_ n2_ n3_
     have p612 : 0 ≤ (x6_2 : Int) := of_decide_eq_true qz2
     have q612 : x6_2 < (t609.length : Int) := of_decide_eq_true qz2
     obtain ⟨ad612, e612, hx612_0⟩ := Kd.at_int (Kd.R_reads' HO_5.out).2.2 x6_2 p612 q612
     cases e612
     replace p612 := eq_true p612
     replace q612 := eq_true q612
     refine start_ (n := 15) (S := fun w' => w'.cell? (ad612.add (x6_2).toNat) = some (.int .i64 (rd t609 x6_2))) (ds := []) #[false, false, false, false, false, false, false, false, false, false, false, false, false, false, false] (by kernel_rfl) rfl rfl (hx612_0) (fun hHeld => ?_); refine with_tabW spec_Bridges.tab12 spec_Bridges.bits12 (fun HT_ HW_ => ?_)
     generalize wr.drew = w30 at HO_3 HO_5 BK603 HB hx612_0 hHeld ⊢
     refine pI_ 0 34 (bqz 15 1) ?_
     refine pI_ 1 35 (bqz 15 3) ?_
     refine pI_ 2 36 (bqz 15 7) ?_
     refine pI_ 4 38 (bqz 15 23) ?_
     refine take_ (i := 3) (N := some 37) (v := ?_) (a' := ?_) (bqz 15 31) rfl rfl qzb qzd (Or.inl ⟨by rfl, ?_⟩) hHeld ?_ ?_
     rotate_left
     {
     intro w' s0
     go_simp
     with_reducible rfl
     }
     rotate_left
     {
     simp only [qzs]
     rfl
     }
     refine pI_ 5 39 (bqz 15 63) ?_
     refine pI_ 6 40 (bqz 15 127) ?_
     refine pU_ 7 41 (bqz 15 255) ?_
     refine pU_ 8 42 (bqz 15 511) ?_
     refine pU_ 9 43 (bqz 15 1023) ?_
     refine pU_ 10 44 (bqz 15 2047) ?_
     refine pU_ 11 45 (bqz 15 4095) ?_
     refine pU_ 12 46 (bqz 15 8191) ?_
     refine pU_ 13 47 (bqz 15 16383) ?_
     refine pI_ 14 48 (bqz 15 32767) ?_
     refine done_ (done_of HT_.out (by kernel_rfl)) ?_
     try go_wp2
     go_roundg k2
     case measure => have := HK1.out; have := HK2.out; omega
     case rel => exact ⟨(x3_2), (wrap64 (x6_2 + 1)), qz5, H', ⟨by have := HK1.out; have := HK2.out; omega⟩, ⟨rm_ HO_3.out⟩, ⟨rm_ HO_5.out⟩, ⟨bk_ BK603.out⟩, ⟨by repeat (first | (with_reducible first | exact HB.out | apply below_alloc | apply pw_below_drewN | apply below_drew1 | refine below_set ?_ GE603.out) | exact HB.out)⟩⟩
     }
     }
     {
     rw [if_neg c17] at H
     exact absurd H (by simp)
     }
     }
     {
     rw [if_neg c16] at H
     have c16b0 := decide_eq_false c16
     clear c16
     have H' := aM H
     clear H
     obtain ⟨Ao31, co31, eo31⟩ := Kd.R_slice HO_5.out
     subst eo31
     go_wp2
     go_roundg k2
     case measure => have := HK1.out; have := HK2.out; omega
     case rel => exact ⟨(x3_2), (wrap64 (x4_1 + 1)), qz5, H', ⟨by have := HK1.out; have := HK2.out; omega⟩, ⟨rm_ HO_3.out⟩, ⟨bk_ BK603.out⟩, ⟨by repeat (first | (with_reducible first | exact HB.out | apply below_alloc | apply pw_below_drewN | apply below_drew1 | refine below_set ?_ GE603.out) | exact HB.out)⟩⟩
     }
   }
   }
   {
   rw [if_neg c10] at H
   exact absurd H (by simp)
   }
   }
   {
   rw [if_neg c9] at H
   have c9b0 := decide_eq_false c9
   clear c9
   obtain rfl := Option.some.inj H
   simp only [Option.some.injEq, Prod.mk.injEq] at H
   obtain ⟨rfl⟩ := H
   obtain ⟨hcz32_0, hcz32_1, hcz32_2, hfz32_0, hfz32_1, hfz32_2⟩ := b6_ BK603.out
   go_wp2
   go_ret
   exact ⟨_, by first | rfl | (simp [errW_none, errW_some] <;> rfl) | (simp [*, errW_none, errW_some] <;> rfl), by (with_reducible repeat (first | apply Kd.R_alloc | apply Kd.R_drewN | apply Kd.R_drew)); exact HO_3.out, by repeat (first | (with_reducible first | exact HB.out | apply below_alloc | apply pw_below_drewN | apply below_drew1 | refine below_set ?_ GE603.out) | exact HB.out)⟩
   }
 }
 {
 replace c3 := Bool.eq_false_iff.mpr c3
 subst c3
 rw [if_neg (show ¬ (false = true) by decide)] at H
 obtain rfl := Option.some.inj H
 simp only [Option.some.injEq, Prod.mk.injEq] at H
 obtain ⟨rfl⟩ := H
 go_enter Try.func30, Try.ntmps30
 go_wp2_with (first | ((with_reducible refine gate_dst (N := 1) rfl ?_); refine bx_ 1 #[.int .i64 a0_0, .int .i64 a0_1, .slice A0_2 l0_2.length c0_2] 43 ?_; intro gb603 hg w33 hbox hb; have n0_ := aM (below_step qz1 hb); have n1_ := aM (hbox); have n2_ := aM ((by rw [hg]; exact (below_size qz1) : w.heap.size ≤ gb603)); have n3_ := aM ((by rw [hg]; exact (below_size qz1) : w.heap.size ≤ gb603)); clear HB; have HB := n0_; have BK603 := n1_; have GW603 := n2_; have GE603 := n3_; clear n0_ n1_ n2_ n3_; clear hb hbox hg) | ((with_reducible refine gate_dst (N := 7) rfl ?_); refine Kd.R_lit k71 _ 71 ?hg (N := 7) ?hd (xs := ([] : List (S71))) (inner := []) (ok := fun _ => True) (okp := fun _ => True) ?hr ?hp (fun _ hk => hk) trivial (Below.refl _ _) (Nat.le_refl _) (by simp) ?_; (case hd => rfl); (case hg => rfl); (case hr => exact qz28); (case hp => exact (Reps.none _ _)); intro v605 w34 ho35 hb hg_ hnew_; clear hg_ hnew_; (first | rw [← Ny604.out] at ho35 | (simp only [Int.reduceToNat] at ho35; rw [← Ny604.out] at ho35)); have n0_ := aM (Kd.R_lower ho35 (below_size qz19)); have n1_ := aM (blk_below (bk_ BK603.out) hb); have n2_ := aM (below_step qz19 hb); clear BK603 HB; have HO606 := n0_; have BK603 := n1_; have HB := n2_; clear n0_ n1_ n2_; clear hb ho35; obtain ⟨hcz36_0, hcz36_1, hcz36_2, hfz36_0, hfz36_1, hfz36_2⟩ := b6_ BK603.out) | ((with_reducible refine gate_callee (f := 60) rfl ?_); refine goesL_ (some 9) rfl rfl Try.func60 (by kernel_rfl) rfl #[.agg #[.int .i64 a0_0, .int .i64 a0_1, .slice A0_2 l0_2.length c0_2]] rfl qz3 ?_; (with_reducible refine (spec_FloorOk.calls k a0_0 a0_1 _ _ l0_2 false _ ?side1 ?side2 A2.out).mono ?_); (case side1 => exact qz4); (case side2 => exact qz69); rintro e w37 ⟨rfl, hb⟩; refine ⟨_, rfl, ?_⟩; have n0_ := aM (Kd.R_below (rr_ HO606.out) hb); have n1_ := aM (blk_below (bk_ BK603.out) hb); have n2_ := aM (below_step qz19 hb); clear HO606 BK603 HB; have HO606 := n0_; have BK603 := n1_; have HB := n2_; clear n0_ n1_ n2_; (try clear hb); (try clear hb2); (try clear hk); (try clear hi)))
 go_ret
 exact ⟨_, by first | rfl | (simp [errW_none, errW_some] <;> rfl) | (simp [*, errW_none, errW_some] <;> rfl), by (with_reducible repeat (first | apply Kd.R_alloc | apply Kd.R_drewN | apply Kd.R_drew)); exact HO606.out, by repeat (first | (with_reducible first | exact HB.out | apply below_alloc | apply pw_below_drewN | apply below_drew1 | refine below_set ?_ GE603.out) | exact HB.out)⟩

 }
/-! ### impl_isCell: function 75 -/
def impl_isCell.f (a0_0 : Int) (a0_1 : Int) (l0_2 : List Int) (a1 : Int) : Option (Bool) := (impl_in.f a1 0 (wrap64 ((l0_2.length : Int) - 1))).bind fun t620 => (some t620)
set_option maxHeartbeats 8000000 in
set_option maxRecDepth 100000 in
theorem impl_isCell.calls (a0_0 : Int) (a0_1 : Int) (A0_2 : Option Addr) (c0_2 : Nat) (l0_2 : List Int) (a1 : Int) (r : Bool) (w : World) (hr0_2 : Kd.C (Kd.int .i64) w A0_2 l0_2.length l0_2) (hc0_2 : l0_2.length ≤ c0_2) (h : impl_isCell.f a0_0 a0_1 l0_2 a1 = some r) :
  Calls Try.prog 75 #[.agg #[.int .i64 a0_0, .int .i64 a0_1, .slice A0_2 l0_2.length c0_2], .int .i64 a1] w fun e w' => e = .returned (.bool r) ∧ Below w.heap.size w w' := by
 have hu43 := Try.underlying43
 have HR0_2 := aM hr0_2
 have HC0_2 := aM hc0_2
 clear hr0_2 hc0_2
 have HB := aM (Below.refl w.heap.size w)
 have H : ((impl_in.f a1 0 (wrap64 ((l0_2.length : Int) - 1))).bind fun t620 => (some t620)) = some r := h
 clear h
 replace H := Option.bind_eq_some_iff.mp H
 obtain ⟨t620, A30, H⟩ := H
 replace H : (some t620) = some r := H
 have A3 := aM A30
 clear A30
 obtain rfl := Option.some.inj H
 simp only [Option.some.injEq, Prod.mk.injEq] at H
 obtain ⟨rfl⟩ := H
 go_enter Try.func75, Try.ntmps75
 go_wp2_with (first | ((with_reducible refine gate_dst (N := 2) rfl ?_); refine bx_ 2 #[.int .i64 a0_0, .int .i64 a0_1, .slice A0_2 l0_2.length c0_2] 43 ?_; intro gb619 hg w4 hbox hb; have n0_ := aM (below_step qz1 hb); have n1_ := aM (hbox); have n2_ := aM ((by rw [hg]; exact (below_size qz1) : w.heap.size ≤ gb619)); have n3_ := aM ((by rw [hg]; exact (below_size qz1) : w.heap.size ≤ gb619)); clear HB; have HB := n0_; have BK619 := n1_; have GW619 := n2_; have GE619 := n3_; clear n0_ n1_ n2_ n3_; clear hb hbox hg; obtain ⟨hcz5_0, hcz5_1, hcz5_2, hfz5_0, hfz5_1, hfz5_2⟩ := b6_ BK619.out) | ((with_reducible refine gate_callee (f := 42) rfl ?_); refine goesL_ (some 10) rfl rfl Try.func42 (by kernel_rfl) rfl #[.int .i64 a1, .int .i64 0, .int .i64 (wrap64 ((l0_2.length : Int) - 1))] rfl qz3 ?_; (with_reducible refine (impl_in.calls a1 0 (wrap64 ((l0_2.length : Int) - 1)) t620 _ A3.out).mono ?_); rintro e w' ⟨rfl, ⟨nd, rfl⟩⟩; refine ⟨_, rfl, ?_⟩))
 go_ret
 exact ⟨by first | rfl | (simp [errW_none, errW_some] <;> rfl) | (simp [*, errW_none, errW_some] <;> rfl), by repeat (first | (with_reducible first | exact HB.out | apply below_alloc | apply pw_below_drewN | apply below_drew1 | refine below_set ?_ GE619.out) | exact HB.out)⟩

end Go.Proofs.Ytbebfhlejnidkaa.PFnSound
