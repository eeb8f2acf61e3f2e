-- Made by a program of this session out of the translation. Lean checks it.
import Derived.Test.YtbebfhlejnidkaaPFnSoundx0
import Derived.Test.YtbebfhlejnidkaaPFnSoundx11
import Derived.Test.YtbebfhlejnidkaaPFnSoundx12
import Derived.Test.YtbebfhlejnidkaaPFnSoundx15
namespace Go.Proofs.Ytbebfhlejnidkaa.PFnSound
open Go.RowKit Go.Proofs.YtbebfhlejnidkaaW.PrintWords Go.Proofs.YtbebfhlejnidkaaW.PrintLast Go.Proofs.YtbebfhlejnidkaaW.PrintMore
attribute [local go_sem] max2_int min2_int max_two min_two max_three min_three max_four min_four   -- for this text's walks alone
set_option linter.unusedVariables false
set_option linter.unusedSimpArgs false

/-! ### impl_Bridges: function 29 -/
mutual
def impl_Bridges.l0 : Nat → List (S71) → List Int → Int → Int → Int → Int → List Int → Option ((List (S71)))
 | 0, _, _, _, _, _, _, _ => none
 | k + 1, x3, x13, x14, x15, x542000, x542001, x542002 => if x15 < x14 then (if 0 ≤ x15 then (if x15 < (x13.length : Int) then (if (rd x13 x15) = 0 then (impl_Bridges.l0 k x3 x13 x14 (wrap64 (x15 + 1)) x542000 x542001 x542002) else ((impl_near.f k x542000 x542001 x542002 x15 false).bind fun t544 => (impl_Bridges.l1 k x3 x15 x13 x14 x15 t544 (t544.length : Int) 0 x542000 x542001 x542002))) else (none)) else (none)) else (some x3)
def impl_Bridges.l1 : Nat → List (S71) → Int → List Int → Int → Int → List Int → Int → Int → Int → Int → List Int → Option ((List (S71)))
 | 0, _, _, _, _, _, _, _, _, _, _, _ => none
 | k + 1, x3, x4, x13, x14, x15, x24, x25, x26, x542000, x542001, x542002 => if x26 < x25 then (if 0 ≤ x26 then (if x26 < (x24.length : Int) then (if x4 < (rd x24 x26) then ((impl_without.f k x542000 x542001 x542002 x4 (rd x24 x26)).bind fun t548 => (if t548 = true then (impl_Bridges.l1 k x3 x4 x13 x14 x15 x24 x25 (wrap64 (x26 + 1)) x542000 x542001 x542002) else (if x3.length < 8796093022208 then (impl_Bridges.l1 k (x3 ++ [(⟨x4, rd x24 x26⟩ : S71)]) x4 x13 x14 x15 x24 x25 (wrap64 (x26 + 1)) x542000 x542001 x542002) else (none)))) else (impl_Bridges.l1 k x3 x4 x13 x14 x15 x24 x25 (wrap64 (x26 + 1)) x542000 x542001 x542002)) else (none)) else (none)) else (impl_Bridges.l0 k x3 x13 x14 (wrap64 (x15 + 1)) x542000 x542001 x542002)
end
def impl_Bridges.f (k : Nat) (a0_0 : Int) (a0_1 : Int) (l0_2 : List Int) : Option ((List (S71))) := (impl_FloorOk.f k a0_0 a0_1 l0_2).bind fun t542 => (if t542 = true then (impl_Bridges.l0 k ([] : List (S71)) l0_2 (l0_2.length : Int) 0 a0_0 a0_1 l0_2) else (some ([] : List (S71))))
theorem impl_Bridges.mono_l : ∀ k, (∀ y0 y1 y2 y3 y4 y5 y6, LeO (impl_Bridges.l0 k y0 y1 y2 y3 y4 y5 y6) (impl_Bridges.l0 (k + 1) y0 y1 y2 y3 y4 y5 y6)) ∧ (∀ y0 y1 y2 y3 y4 y5 y6 y7 y8 y9 y10, LeO (impl_Bridges.l1 k y0 y1 y2 y3 y4 y5 y6 y7 y8 y9 y10) (impl_Bridges.l1 (k + 1) y0 y1 y2 y3 y4 y5 y6 y7 y8 y9 y10))
 | 0 => ⟨fun _ _ _ _ _ _ _ r h => by simp [impl_Bridges.l0] at h, fun _ _ _ _ _ _ _ _ _ _ _ r h => by simp [impl_Bridges.l1] at h⟩
 | k + 1 => by
  obtain ⟨ih0, ih1⟩ := impl_Bridges.mono_l k
  refine ⟨?_, ?_⟩
  {
  intro y0 y1 y2 y3 y4 y5 y6
  unfold impl_Bridges.l0
  repeat' first
  | (with_reducible first | exact ih0 _ _ _ _ _ _ _ | exact ih1 _ _ _ _ _ _ _ _ _ _ _ | exact impl_FloorOk.mono _ _ _ _ | exact impl_near.mono _ _ _ _ _ _ | exact impl_without.mono _ _ _ _ _ _ | exact LeO.refl _ | exact LeO.none _ | refine LeO.ite ?_ ?_ | refine LeO.bind ?_ (fun _ => ?_))
  | exact ih0 _ _ _ _ _ _ _
  | exact ih1 _ _ _ _ _ _ _ _ _ _ _
  | exact impl_FloorOk.mono _ _ _ _
  | exact impl_near.mono _ _ _ _ _ _
  | exact impl_without.mono _ _ _ _ _ _
  | exact LeO.none _
  | refine LeO.ite ?_ ?_
  | refine LeO.bind ?_ (fun _ => ?_)
  }
  {
  intro y0 y1 y2 y3 y4 y5 y6 y7 y8 y9 y10
  unfold impl_Bridges.l1
  repeat' first
  | (with_reducible first | exact ih0 _ _ _ _ _ _ _ | exact ih1 _ _ _ _ _ _ _ _ _ _ _ | exact impl_FloorOk.mono _ _ _ _ | exact impl_near.mono _ _ _ _ _ _ | exact impl_without.mono _ _ _ _ _ _ | exact LeO.refl _ | exact LeO.none _ | refine LeO.ite ?_ ?_ | refine LeO.bind ?_ (fun _ => ?_))
  | exact ih0 _ _ _ _ _ _ _
  | exact ih1 _ _ _ _ _ _ _ _ _ _ _
  | exact impl_FloorOk.mono _ _ _ _
  | exact impl_near.mono _ _ _ _ _ _
  | exact impl_without.mono _ _ _ _ _ _
  | exact LeO.none _
  | refine LeO.ite ?_ ?_
  | refine LeO.bind ?_ (fun _ => ?_)
  }
theorem impl_Bridges.mono : ∀ a0 a1 a2 k, LeO (impl_Bridges.f k a0 a1 a2) (impl_Bridges.f (k + 1) a0 a1 a2) := by
 intro a0 a1 a2 k
 obtain ⟨ih0, ih1⟩ := impl_Bridges.mono_l k
 unfold impl_Bridges.f
 repeat' first
  | (with_reducible first | exact ih0 _ _ _ _ _ _ _ | exact ih1 _ _ _ _ _ _ _ _ _ _ _ | exact impl_FloorOk.mono _ _ _ _ | exact impl_near.mono _ _ _ _ _ _ | exact impl_without.mono _ _ _ _ _ _ | exact LeO.refl _ | exact LeO.none _ | refine LeO.ite ?_ ?_ | refine LeO.bind ?_ (fun _ => ?_))
  | exact ih0 _ _ _ _ _ _ _
  | exact ih1 _ _ _ _ _ _ _ _ _ _ _
  | exact impl_FloorOk.mono _ _ _ _
  | exact impl_near.mono _ _ _ _ _ _
  | exact impl_without.mono _ _ _ _ _ _
  | exact LeO.none _
  | refine LeO.ite ?_ ?_
  | refine LeO.bind ?_ (fun _ => ?_)
set_option maxHeartbeats 8000000 in
set_option maxRecDepth 100000 in
theorem impl_Bridges.calls (k : Nat) (a0_0 : Int) (a0_1 : Int) (A0_2 : Option Addr) (c0_2 : Nat) (l0_2 : List Int) (r : List (S71)) (w : World) (hr0_2 : Kd.C (Kd.int .i64) w A0_2 l0_2.length l0_2) (hc0_2 : l0_2.length ≤ c0_2) (h : impl_Bridges.f k a0_0 a0_1 l0_2 = some r) :
  Calls Try.prog 29 #[.agg #[.int .i64 a0_0, .int .i64 a0_1, .slice A0_2 l0_2.length c0_2]] w fun e w' => ∃ v0_ : Value, e = .returned (v0_) ∧ Kd.R k71 71 w' w.heap.size (fun _ => True) v0_ r ∧ Below w.heap.size w w' := by
 have hu43 := Try.underlying43
 have hu71 := Try.underlying71
 have HR0_2 := aM hr0_2
 have HC0_2 := aM hc0_2
 clear hr0_2 hc0_2
 have HB := aM (Below.refl w.heap.size w)
 have H : ((impl_FloorOk.f k a0_0 a0_1 l0_2).bind fun t542 => (if t542 = true then (impl_Bridges.l0 k ([] : List (S71)) l0_2 (l0_2.length : Int) 0 a0_0 a0_1 l0_2) else (some ([] : List (S71))))) = some r := h
 clear h
 replace H := Option.bind_eq_some_iff.mp H
 obtain ⟨t542, A20, H⟩ := H
 replace H : (if t542 = true then (impl_Bridges.l0 k ([] : List (S71)) l0_2 (l0_2.length : Int) 0 a0_0 a0_1 l0_2) else (some ([] : List (S71)))) = some r := H
 have A2 := aM A20
 clear A20
 by_cases c3 : t542 = true
 {
 subst c3
 rw [if_pos rfl] at H
 have H' := aM H
 clear H
 go_enter Try.func29, Try.ntmps29
 go_wp2_with (first | ((with_reducible refine gate_dst (N := 1) rfl ?_); refine bx_ 1 #[.int .i64 a0_0, .int .i64 a0_1, .slice A0_2 l0_2.length c0_2] 43 ?_; intro gb541 hg w4 hbox hb; have n0_ := aM (below_step qz1 hb); have n1_ := aM (hbox); have n2_ := aM ((by rw [hg]; exact (below_size qz1) : w.heap.size ≤ gb541)); have n3_ := aM ((by rw [hg]; exact (below_size qz1) : w.heap.size ≤ gb541)); clear HB; have HB := n0_; have BK541 := n1_; have GW541 := n2_; have GE541 := n3_; clear n0_ n1_ n2_ n3_; clear hb hbox hg; obtain ⟨hcz5_0, hcz5_1, hcz5_2, hfz5_0, hfz5_1, hfz5_2⟩ := b6_ BK541.out) | ((with_reducible refine gate_callee (f := 57) rfl ?_); refine goesL_ (some 9) rfl rfl Try.func57 (by kernel_rfl) rfl #[.agg #[.int .i64 a0_0, .int .i64 a0_1, .slice A0_2 l0_2.length c0_2]] rfl qz3 ?_; (with_reducible refine (impl_FloorOk.calls k a0_0 a0_1 _ _ l0_2 true _ ?side1 ?side2 A2.out).mono ?_); (case side1 => exact qz4); (case side2 => exact qz69); rintro e w6 ⟨rfl, hb⟩; refine ⟨_, rfl, ?_⟩; have n0_ := aM (blk_below (bk_ BK541.out) hb); have n1_ := aM (below_step qz32 hb); clear BK541 HB; have BK541 := n0_; have HB := n1_; clear n0_ n1_; (try clear hb); (try clear hb2); (try clear hk); (try clear hi); obtain ⟨hcz7_0, hcz7_1, hcz7_2, hfz7_0, hfz7_1, hfz7_2⟩ := b6_ BK541.out))
 go_loopg [3, 15] k (fun kq v3 v15 w' => ∃ (x3_1 : List (S71)) (x15_1 : Int), v15 = .int .i64 x15_1 ∧ Aside0 (impl_Bridges.l0 kq x3_1 l0_2 (l0_2.length : Int) x15_1 a0_0 a0_1 l0_2 = some r) ∧ Aside0 (kq ≤ k) ∧ Aside0 (Kd.R k71 71 w' w.heap.size (fun _ => True) v3 x3_1) ∧ Aside0 (w'.heap[gb541]? = some (.cells #[.int .i64 a0_0, .int .i64 a0_1, (.slice A0_2 l0_2.length c0_2)] 43 (0, 0))) ∧ Aside0 (Below w.heap.size w w'))
 case atStart => exact ⟨(([] : List (S71))), (0), qz5, H', ⟨Nat.le_refl _⟩, ⟨by first | exact Kd.R_nil _ _ _ _ _ | exact Kd.N_nil _ _ _ _ _ | exact Kd.V_nil _ _ _ _ _ | exact Kd.Q_nil _ _ _ _ _ | exact Kd.S_nil _ _ _ _ _⟩, ⟨bk_ BK541.out⟩, ⟨by repeat (first | (with_reducible first | exact HB.out | apply below_alloc | apply pw_below_drewN | apply below_drew1 | refine below_set ?_ GE541.out) | exact HB.out)⟩⟩
 case round =>
  clear H'
  try clear c2
  try clear p2
  try clear c3
  try clear c5
  try clear hcz5_0
  try clear hcz5_1
  try clear hcz5_2
  try clear hcz7_0
  try clear hcz7_1
  try clear hcz7_2
  try clear hfz5_0
  try clear hfz5_1
  try clear hfz5_2
  try clear hfz7_0
  try clear hfz7_1
  try clear hfz7_2
  obtain ⟨x3_1, x15_1, rfl, HA, HK1, HO_3, BK541, HB⟩ := hrel
  cases gk with
  | zero => exact absurd HA.out (by simp [impl_Bridges.l0])
  | succ k1 =>
   have H := HA.out
   clear HA
   simp only [impl_Bridges.l0] at H
   by_cases c8 : x15_1 < (l0_2.length : Int)
   {
   rw [if_pos c8] at H
   have c8b0 := decide_eq_true c8
   clear c8
   by_cases c9 : 0 ≤ x15_1
   {
   rw [if_pos c9] at H
   have c9b0 := decide_eq_true c9
   clear c9
   by_cases c10 : x15_1 < (l0_2.length : Int)
   {
   rw [if_pos c10] at H
   have c10b0 := decide_eq_true c10
   clear c10
   by_cases c11 : (rd l0_2 x15_1) = 0
   {
   rw [if_pos c11] at H
   have c11b0 := beq_iff_eq.mpr c11
   have c11b1 := bne_eq_false_iff_eq.mpr c11
   clear c11
   have H' := aM H
   clear H
   have p543 : 0 ≤ (x15_1 : Int) := of_decide_eq_true qz2
   have q543 : x15_1 < (l0_2.length : Int) := of_decide_eq_true qz2
   obtain ⟨ad543, e543, hx543_0⟩ := Kd.at_int HR0_2.out x15_1 p543 q543
   cases e543
   replace hx543_0 := pw_cell_below HB.out hx543_0
   replace p543 := eq_true p543
   replace q543 := eq_true q543
   go_wp2
   go_roundg k1
   case measure => have := HK1.out; omega
   case rel => exact ⟨(x3_1), (wrap64 (x15_1 + 1)), qz5, H', ⟨by have := HK1.out; omega⟩, ⟨rm_ HO_3.out⟩, ⟨bk_ BK541.out⟩, ⟨by repeat (first | (with_reducible first | exact HB.out | apply below_alloc | apply pw_below_drewN | apply below_drew1 | refine below_set ?_ GE541.out) | exact HB.out)⟩⟩
   }
   {
   rw [if_neg c11] at H
   have c11b0 := beq_eq_false_iff_ne.mpr c11
   have c11b1 := bne_iff_ne.mpr c11
   replace H := Option.bind_eq_some_iff.mp H
   obtain ⟨t544, A120, H⟩ := H
   replace H : (impl_Bridges.l1 k1 x3_1 x15_1 l0_2 (l0_2.length : Int) x15_1 t544 (t544.length : Int) 0 a0_0 a0_1 l0_2) = some r := H
   have A12 := aM A120
   clear A120
   have H' := aM H
   clear H
   have p543 : 0 ≤ (x15_1 : Int) := of_decide_eq_true qz2
   have q543 : x15_1 < (l0_2.length : Int) := of_decide_eq_true qz2
   obtain ⟨ad543, e543, hx543_0⟩ := Kd.at_int HR0_2.out x15_1 p543 q543
   cases e543
   replace hx543_0 := pw_cell_below HB.out hx543_0
   replace p543 := eq_true p543
   replace q543 := eq_true q543
   obtain ⟨hcz13_0, hcz13_1, hcz13_2, hfz13_0, hfz13_1, hfz13_2⟩ := b6_ BK541.out
   go_wp2_with (first | ((with_reducible refine gate_callee (f := 58) rfl ?_); refine goesL_ (some 24) rfl rfl Try.func58 (by kernel_rfl) rfl #[.agg #[.int .i64 a0_0, .int .i64 a0_1, .slice (some ad543) l0_2.length c0_2], .int .i64 x15_1, .bool false] rfl qz3 ?_; (with_reducible refine (impl_near.calls k1 a0_0 a0_1 _ _ l0_2 x15_1 false t544 _ ?side1 ?side2 A12.out).mono ?_); (case side1 => exact qz4); (case side2 => exact qz69); rintro e w14 ⟨v545, rfl, ho0, hb⟩; refine ⟨_, rfl, ?_⟩; have n0_ := aM (Kd.R_below (rr_ HO_3.out) hb); have n1_ := aM (Kd.R_lower ho0 (below_size qz32)); have n2_ := aM (blk_below (bk_ BK541.out) hb); have n3_ := aM (below_step qz32 hb); clear HO_3 BK541 HB; have HO_3 := n0_; have HO546 := n1_; have BK541 := n2_; have HB := n3_; clear n0_ n1_ n2_ n3_; (try clear hb); (try clear hb2); (try clear hk); (try clear hi); (try clear ho0); obtain ⟨Ao15, co15, eo15⟩ := Kd.R_slice HO546.out; subst eo15))
   go_loopg [3, 26] k1 (fun kq v3 v26 w' => ∃ (x3_2 : List (S71)) (x26_2 : Int), v26 = .int .i64 x26_2 ∧ Aside0 (impl_Bridges.l1 kq x3_2 x15_1 l0_2 (l0_2.length : Int) x15_1 t544 (t544.length : Int) x26_2 a0_0 a0_1 l0_2 = some r) ∧ Aside0 (kq ≤ k1) ∧ Aside0 (Kd.R k71 71 w' w.heap.size (fun _ => True) v3 x3_2) ∧ Aside0 (Kd.R (Kd.int .i64) 3 w' w.heap.size (fun _ => True) (.slice Ao15 t544.length co15) t544) ∧ Aside0 (w'.heap[gb541]? = some (.cells #[.int .i64 a0_0, .int .i64 a0_1, (.slice (some ad543) l0_2.length c0_2)] 43 (0, 0))) ∧ Aside0 (Below w.heap.size w w'))
   case atStart => exact ⟨(x3_1), (0), qz5, H', ⟨Nat.le_refl _⟩, ⟨rr_ HO_3.out⟩, ⟨rr_ HO546.out⟩, ⟨bk_ BK541.out⟩, ⟨by repeat (first | (with_reducible first | exact HB.out | apply below_alloc | apply pw_below_drewN | apply below_drew1 | refine below_set ?_ GE541.out) | exact HB.out)⟩⟩
   case round =>
    clear H'
    try clear c1
    try clear c2
    try clear p2
    try clear c3
    try clear c5
    try clear p5
    try clear q5
    try clear hx5
    try clear p6
    try clear c8
    try clear c8b0
    try clear c9
    try clear c9b0
    try clear c10
    try clear c10b0
    try clear c11
    try clear c11b0
    try clear c11b1
    try clear hcz13_0
    try clear hcz13_1
    try clear hcz13_2
    try clear hcz5_0
    try clear hcz5_1
    try clear hcz5_2
    try clear hcz7_0
    try clear hcz7_1
    try clear hcz7_2
    try clear hfz13_0
    try clear hfz13_1
    try clear hfz13_2
    try clear hfz5_0
    try clear hfz5_1
    try clear hfz5_2
    try clear hfz7_0
    try clear hfz7_1
    try clear hfz7_2
    try clear hx543_0
    try clear p2
    try clear p543
    try clear q543
    obtain ⟨x3_2, x26_2, rfl, HA, HK2, HO_3, HO_24, BK541, HB⟩ := hrel
    cases gk with
    | zero => exact absurd HA.out (by simp [impl_Bridges.l1])
    | succ k2 =>
     have H := HA.out
     clear HA
     simp only [impl_Bridges.l1] at H
     by_cases c16 : x26_2 < (t544.length : Int)
     {
     rw [if_pos c16] at H
     have c16b0 := decide_eq_true c16
     clear c16
     by_cases c17 : 0 ≤ x26_2
     {
     rw [if_pos c17] at H
     have c17b0 := decide_eq_true c17
     clear c17
     by_cases c18 : x26_2 < (t544.length : Int)
     {
     rw [if_pos c18] at H
     have c18b0 := decide_eq_true c18
     clear c18
     by_cases c19 : x15_1 < (rd t544 x26_2)
     {
     rw [if_pos c19] at H
     have c19b0 := decide_eq_true c19
     clear c19
     replace H := Option.bind_eq_some_iff.mp H
     obtain ⟨t548, A200, H⟩ := H
     replace H : (if t548 = true then (impl_Bridges.l1 k2 x3_2 x15_1 l0_2 (l0_2.length : Int) x15_1 t544 (t544.length : Int) (wrap64 (x26_2 + 1)) a0_0 a0_1 l0_2) else (if x3_2.length < 8796093022208 then (impl_Bridges.l1 k2 (x3_2 ++ [(⟨x15_1, rd t544 x26_2⟩ : S71)]) x15_1 l0_2 (l0_2.length : Int) x15_1 t544 (t544.length : Int) (wrap64 (x26_2 + 1)) a0_0 a0_1 l0_2) else (none))) = some r := H
     have A20 := aM A200
     clear A200
     by_cases c21 : t548 = true
     {
     subst c21
     rw [if_pos rfl] at H
     have H' := aM H
     clear H
     have p547 : 0 ≤ (x26_2 : Int) := of_decide_eq_true qz2
     have q547 : x26_2 < (t544.length : Int) := of_decide_eq_true qz2
     obtain ⟨ad547, e547, hx547_0⟩ := Kd.at_int (Kd.R_reads' HO_24.out).2.2 x26_2 p547 q547
     cases e547
     replace p547 := eq_true p547
     replace q547 := eq_true q547
     obtain ⟨hcz22_0, hcz22_1, hcz22_2, hfz22_0, hfz22_1, hfz22_2⟩ := b6_ BK541.out
     go_wp2_with (first | (go_at_call 59; (with_reducible refine (impl_without.calls k2 a0_0 a0_1 _ _ l0_2 x15_1 (rd t544 x26_2) true _ ?side1 ?side2 A20.out).mono ?_); (case side1 => exact qz4); (case side2 => exact qz69); rintro e w23 ⟨rfl, hb⟩; have n0_ := aM (Kd.R_below (rr_ HO_3.out) hb); have n1_ := aM (Kd.R_below (rr_ HO_24.out) hb); have n2_ := aM (blk_below (bk_ BK541.out) hb); have n3_ := aM (below_step qz32 hb); clear HO_3 HO_24 BK541 HB; have HO_3 := n0_; have HO_24 := n1_; have BK541 := n2_; have HB := n3_; clear n0_ n1_ n2_ n3_; (try clear hb); (try clear hb2); (try clear hk); (try clear hi)))
     go_roundg k2
     case measure => have := HK1.out; have := HK2.out; omega
     case rel => exact ⟨(x3_2), (wrap64 (x26_2 + 1)), qz5, H', ⟨by have := HK1.out; have := HK2.out; omega⟩, ⟨rm_ HO_3.out⟩, ⟨rm_ HO_24.out⟩, ⟨bk_ BK541.out⟩, ⟨by repeat (first | (with_reducible first | exact HB.out | apply below_alloc | apply pw_below_drewN | apply below_drew1 | refine below_set ?_ GE541.out) | exact HB.out)⟩⟩
     }
     {
     replace c21 := Bool.eq_false_iff.mpr c21
     subst c21
     rw [if_neg (show ¬ (false = true) by decide)] at H
     by_cases c24 : x3_2.length < 8796093022208
     {
     rw [if_pos c24] at H
     have LMc24 := aM c24
     clear c24
     obtain ⟨y549, hy549⟩ : ∃ y_ : List (S71), y_ = (x3_2 ++ [(⟨x15_1, rd t544 x26_2⟩ : S71)]) := ⟨_, rfl⟩
     replace H : (impl_Bridges.l1 k2 y549 x15_1 l0_2 (l0_2.length : Int) x15_1 t544 (t544.length : Int) (wrap64 (x26_2 + 1)) a0_0 a0_1 l0_2) = some r := by first | (rw [hy549]; with_reducible exact H) | (have H2_ := (Option.bind_some _ _).symm.trans H; rw [hy549]; with_reducible exact H2_) | (have H2_ := (Option.bind_some _ _).symm.trans H; with_reducible exact H2_) | with_reducible exact H | (rw [hy549]; exact H) | exact H
     have Ny549 := aM hy549
     clear hy549
     have H' := aM H
     clear H
     have p547 : 0 ≤ (x26_2 : Int) := of_decide_eq_true qz2
     have q547 : x26_2 < (t544.length : Int) := of_decide_eq_true qz2
     obtain ⟨ad547, e547, hx547_0⟩ := Kd.at_int (Kd.R_reads' HO_24.out).2.2 x26_2 p547 q547
     cases e547
     replace p547 := eq_true p547
     replace q547 := eq_true q547
     obtain ⟨hcz25_0, hcz25_1, hcz25_2, hfz25_0, hfz25_1, hfz25_2⟩ := b6_ BK541.out
     go_wp2_with (first | (go_at_call 59; (with_reducible refine (impl_without.calls k2 a0_0 a0_1 _ _ l0_2 x15_1 (rd t544 x26_2) false _ ?side1 ?side2 A20.out).mono ?_); (case side1 => exact qz4); (case side2 => exact qz69); rintro e w26 ⟨rfl, hb⟩; have n0_ := aM (Kd.R_below (rr_ HO_3.out) hb); have n1_ := aM (Kd.R_below (rr_ HO_24.out) hb); have n2_ := aM (blk_below (bk_ BK541.out) hb); have n3_ := aM (below_step qz32 hb); clear HO_3 HO_24 BK541 HB; have HO_3 := n0_; have HO_24 := n1_; have BK541 := n2_; have HB := n3_; clear n0_ n1_ n2_ n3_; (try clear hb); (try clear hb2); (try clear hk); (try clear hi)) | ((with_reducible refine gate_builtin (b := .append) (xs := #[.tmp 40, .tmp 44]) rfl ?_); at_builtin; refine Kd.R_append k71 (w0 := w) w.heap.size rfl (.tmp 40) (.tmp 44) 46 71 (.agg #[(.int .i64 0), (.int .i64 0)]) 16 rfl Try.underlying46 info71 rfl (by decide) (by omega) u3 x3_2 (⟨x15_1, rd t544 x26_2⟩ : S71) [.int .i64 x15_1, .int .i64 (rd t544 x26_2)] (fun _ => True) (fun _ => False) rfl rfl ?aP (fun _ hk => hk.elim) ?aF ?aO ?aB ?aS ?aL ?_; (case aP => exact k71_mkM _ _ _ (⟨x15_1, rd t544 x26_2⟩ : S71)); (case aB => exact qz32); (case aF => exact qz57); (case aO => exact (rr_ HO_3.out)); (case aS => exact (below_size qz32)); (case aL => have := LMc24.out; omega); intro v550 w27 ho hb hg hat; rw [← Ny549.out] at ho; have n0_ := aM (Kd.R_over' (rr_ HO_24.out) (Kd.R_typed (rr_ HO_3.out)) (by decide) hg); have n1_ := aM (blk_grown (bk_ BK541.out) hg (Kd.R_ne HO_3.out BK541.out (by decide))); have n2_ := aM (hb); have n3_ := aM (ho); clear HO_24 BK541 HB HO_3; have HO_24 := n0_; have BK541 := n1_; have HB := n2_; have HO551 := n3_; clear n0_ n1_ n2_ n3_; clear ho hb hg hat))
     go_roundg k2
     case measure => have := HK1.out; have := HK2.out; omega
     case rel => exact ⟨(y549), (wrap64 (x26_2 + 1)), qz5, H', ⟨by have := HK1.out; have := HK2.out; omega⟩, ⟨rm_ HO551.out⟩, ⟨rm_ HO_24.out⟩, ⟨bk_ BK541.out⟩, ⟨by repeat (first | (with_reducible first | exact HB.out | apply below_alloc | apply pw_below_drewN | apply below_drew1 | refine below_set ?_ GE541.out) | exact HB.out)⟩⟩
     }
     {
     rw [if_neg c24] at H
     exact absurd H (by simp)
     }
     }
     }
     {
     rw [if_neg c19] at H
     have c19b0 := decide_eq_false c19
     clear c19
     have H' := aM H
     clear H
     have p547 : 0 ≤ (x26_2 : Int) := of_decide_eq_true qz2
     have q547 : x26_2 < (t544.length : Int) := of_decide_eq_true qz2
     obtain ⟨ad547, e547, hx547_0⟩ := Kd.at_int (Kd.R_reads' HO_24.out).2.2 x26_2 p547 q547
     cases e547
     replace p547 := eq_true p547
     replace q547 := eq_true q547
     go_wp2
     go_roundg k2
     case measure => have := HK1.out; have := HK2.out; omega
     case rel => exact ⟨(x3_2), (wrap64 (x26_2 + 1)), qz5, H', ⟨by have := HK1.out; have := HK2.out; omega⟩, ⟨rm_ HO_3.out⟩, ⟨rm_ HO_24.out⟩, ⟨bk_ BK541.out⟩, ⟨by repeat (first | (with_reducible first | exact HB.out | apply below_alloc | apply pw_below_drewN | apply below_drew1 | refine below_set ?_ GE541.out) | exact HB.out)⟩⟩
     }
     }
     {
     rw [if_neg c18] at H
     exact absurd H (by simp)
     }
     }
     {
     rw [if_neg c17] at H
     exact absurd H (by simp)
     }
     }
     {
     rw [if_neg c16] at H
     have c16b0 := decide_eq_false c16
     clear c16
     have H' := aM H
     clear H
     go_wp2
     go_roundg k2
     case measure => have := HK1.out; have := HK2.out; omega
     case rel => exact ⟨(x3_2), (wrap64 (x15_1 + 1)), qz5, H', ⟨by have := HK1.out; have := HK2.out; omega⟩, ⟨rm_ HO_3.out⟩, ⟨bk_ BK541.out⟩, ⟨by repeat (first | (with_reducible first | exact HB.out | apply below_alloc | apply pw_below_drewN | apply below_drew1 | refine below_set ?_ GE541.out) | exact HB.out)⟩⟩
     }
   }
   }
   {
   rw [if_neg c10] at H
   exact absurd H (by simp)
   }
   }
   {
   rw [if_neg c9] at H
   exact absurd H (by simp)
   }
   }
   {
   rw [if_neg c8] at H
   have c8b0 := decide_eq_false c8
   clear c8
   obtain rfl := Option.some.inj H
   simp only [Option.some.injEq, Prod.mk.injEq] at H
   obtain ⟨rfl⟩ := H
   go_wp2
   go_ret
   exact ⟨_, by first | rfl | (simp [errW_none, errW_some] <;> rfl) | (simp [*, errW_none, errW_some] <;> rfl), by (with_reducible repeat (first | apply Kd.R_alloc | apply Kd.R_drewN | apply Kd.R_drew)); exact HO_3.out, by repeat (first | (with_reducible first | exact HB.out | apply below_alloc | apply pw_below_drewN | apply below_drew1 | refine below_set ?_ GE541.out) | exact HB.out)⟩
   }
 }
 {
 replace c3 := Bool.eq_false_iff.mpr c3
 subst c3
 rw [if_neg (show ¬ (false = true) by decide)] at H
 obtain rfl := Option.some.inj H
 simp only [Option.some.injEq, Prod.mk.injEq] at H
 obtain ⟨rfl⟩ := H
 go_enter Try.func29, Try.ntmps29
 go_wp2_with (first | ((with_reducible refine gate_dst (N := 1) rfl ?_); refine bx_ 1 #[.int .i64 a0_0, .int .i64 a0_1, .slice A0_2 l0_2.length c0_2] 43 ?_; intro gb541 hg w28 hbox hb; have n0_ := aM (below_step qz1 hb); have n1_ := aM (hbox); have n2_ := aM ((by rw [hg]; exact (below_size qz1) : w.heap.size ≤ gb541)); have n3_ := aM ((by rw [hg]; exact (below_size qz1) : w.heap.size ≤ gb541)); clear HB; have HB := n0_; have BK541 := n1_; have GW541 := n2_; have GE541 := n3_; clear n0_ n1_ n2_ n3_; clear hb hbox hg; obtain ⟨hcz29_0, hcz29_1, hcz29_2, hfz29_0, hfz29_1, hfz29_2⟩ := b6_ BK541.out) | ((with_reducible refine gate_callee (f := 57) rfl ?_); refine goesL_ (some 9) rfl rfl Try.func57 (by kernel_rfl) rfl #[.agg #[.int .i64 a0_0, .int .i64 a0_1, .slice A0_2 l0_2.length c0_2]] rfl qz3 ?_; (with_reducible refine (impl_FloorOk.calls k a0_0 a0_1 _ _ l0_2 false _ ?side1 ?side2 A2.out).mono ?_); (case side1 => exact qz4); (case side2 => exact qz69); rintro e w30 ⟨rfl, hb⟩; refine ⟨_, rfl, ?_⟩; have n0_ := aM (blk_below (bk_ BK541.out) hb); have n1_ := aM (below_step qz32 hb); clear BK541 HB; have BK541 := n0_; have HB := n1_; clear n0_ n1_; (try clear hb); (try clear hb2); (try clear hk); (try clear hi)))
 go_ret
 exact ⟨_, by first | rfl | (simp [errW_none, errW_some] <;> rfl) | (simp [*, errW_none, errW_some] <;> rfl), by first | exact Kd.R_nil _ _ _ _ _ | exact Kd.N_nil _ _ _ _ _ | exact Kd.V_nil _ _ _ _ _ | exact Kd.Q_nil _ _ _ _ _ | exact Kd.S_nil _ _ _ _ _, by repeat (first | (with_reducible first | exact HB.out | apply below_alloc | apply pw_below_drewN | apply below_drew1 | refine below_set ?_ GE541.out) | exact HB.out)⟩

 }
end Go.Proofs.Ytbebfhlejnidkaa.PFnSound
