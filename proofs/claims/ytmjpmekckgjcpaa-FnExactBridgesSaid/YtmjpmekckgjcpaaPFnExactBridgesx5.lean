-- Made by a program of this session out of the translation. Lean checks it.
import Derived.Test.YtmjpmekckgjcpaaPFnExactBridgesx0
import Derived.Test.YtmjpmekckgjcpaaPFnExactBridgesx2
import Derived.Test.YtmjpmekckgjcpaaPFnExactBridgesx3
import Derived.Test.YtmjpmekckgjcpaaPFnExactBridgesx4
namespace Go.Proofs.Ytmjpmekckgjcpaa.PFnExactBridges
open Go.RowKit Go.Proofs.YtmjpmekckgjcpaaW.PrintWords Go.Proofs.YtmjpmekckgjcpaaW.PrintLast Go.Proofs.YtmjpmekckgjcpaaW.PrintMore
attribute [local go_sem] max2_int min2_int max_two min_two max_three min_three max_four min_four   -- for this text's walks alone
set_option linter.unusedVariables false
set_option linter.unusedSimpArgs false

/-! ### spec_Bridges: function 54 -/
mutual
def spec_Bridges.l0 : Nat → List (S111) → Int → Int → Int → List Int → Option ((List (S111)))
  | 0, _, _, _, _, _ => none
  | k + 1, x3, x4, x216000, x216001, x216002 => if x4 < (x216002.length : Int) then (if 0 ≤ x4 then (if (rd x216002 x4) = 0 then (spec_Bridges.l0 k x3 (wrap64 (x4 + 1)) x216000 x216001 x216002) else ((spec_l1Near.f k x216000 x216001 x216002 x4 false).bind fun t221 => (spec_Bridges.l1 k x3 x4 t221 0 x216000 x216001 x216002))) else (none)) else (some x3)
def spec_Bridges.l1 : Nat → List (S111) → Int → List Int → Int → Int → Int → List Int → Option ((List (S111)))
  | 0, _, _, _, _, _, _, _ => none
  | k + 1, x3, x4, x5, x6, x216000, x216001, x216002 => if x6 < (x5.length : Int) then (if 0 ≤ x6 then (if (rd x5 x6) > x4 then ((spec_l3Apart.f k x216000 x216001 x216002 x4 (rd x5 x6)).bind fun t226 => (if t226 = true then (if x3.length < 8796093022208 then (spec_Bridges.l1 k (x3 ++ [(⟨x4, rd x5 x6⟩ : S111)]) x4 x5 (wrap64 (x6 + 1)) x216000 x216001 x216002) else (none)) else (spec_Bridges.l1 k x3 x4 x5 (wrap64 (x6 + 1)) x216000 x216001 x216002))) else (spec_Bridges.l1 k x3 x4 x5 (wrap64 (x6 + 1)) x216000 x216001 x216002)) else (none)) else (spec_Bridges.l0 k x3 (wrap64 (x4 + 1)) x216000 x216001 x216002)
end
def spec_Bridges.f (k : Nat) (a0_0 : Int) (a0_1 : Int) (l0_2 : List Int) : Option ((List (S111))) := (some (([] : List (S111)) : List (S111))).bind fun y216 => ((spec_FloorOk.f k a0_0 a0_1 l0_2).bind fun t219 => (if t219 = true then (spec_Bridges.l0 k y216 0 a0_0 a0_1 l0_2) else (some y216)))
theorem spec_Bridges.mono_l : ∀ k, (∀ y0 y1 y2 y3 y4, LeO (spec_Bridges.l0 k y0 y1 y2 y3 y4) (spec_Bridges.l0 (k + 1) y0 y1 y2 y3 y4)) ∧ (∀ y0 y1 y2 y3 y4 y5 y6, LeO (spec_Bridges.l1 k y0 y1 y2 y3 y4 y5 y6) (spec_Bridges.l1 (k + 1) y0 y1 y2 y3 y4 y5 y6))
  | 0 => ⟨fun _ _ _ _ _ r h => by simp [spec_Bridges.l0] at h, fun _ _ _ _ _ _ _ r h => by simp [spec_Bridges.l1] at h⟩
  | k + 1 => by
    obtain ⟨ih0, ih1⟩ := spec_Bridges.mono_l k
    refine ⟨?_, ?_⟩
    {
    intro y0 y1 y2 y3 y4
    unfold spec_Bridges.l0
    repeat' first
    | (with_reducible exact ih0 _ _ _ _ _)
    | (with_reducible exact ih1 _ _ _ _ _ _ _)
    | (with_reducible exact spec_FloorOk.mono _ _ _ _)
    | (with_reducible exact spec_l1Near.mono _ _ _ _ _ _)
    | (with_reducible exact spec_l3Apart.mono _ _ _ _ _ _)
    | (with_reducible exact LeO.refl _)
    | (with_reducible exact LeO.none _)
    | (with_reducible refine LeO.ite ?_ ?_)
    | (with_reducible refine LeO.bind ?_ (fun _ => ?_))
    | exact ih0 _ _ _ _ _
    | exact ih1 _ _ _ _ _ _ _
    | exact spec_FloorOk.mono _ _ _ _
    | exact spec_l1Near.mono _ _ _ _ _ _
    | exact spec_l3Apart.mono _ _ _ _ _ _
    | exact LeO.none _
    | refine LeO.ite ?_ ?_
    | refine LeO.bind ?_ (fun _ => ?_)
    }
    {
    intro y0 y1 y2 y3 y4 y5 y6
    unfold spec_Bridges.l1
    repeat' first
    | (with_reducible exact ih0 _ _ _ _ _)
    | (with_reducible exact ih1 _ _ _ _ _ _ _)
    | (with_reducible exact spec_FloorOk.mono _ _ _ _)
    | (with_reducible exact spec_l1Near.mono _ _ _ _ _ _)
    | (with_reducible exact spec_l3Apart.mono _ _ _ _ _ _)
    | (with_reducible exact LeO.refl _)
    | (with_reducible exact LeO.none _)
    | (with_reducible refine LeO.ite ?_ ?_)
    | (with_reducible refine LeO.bind ?_ (fun _ => ?_))
    | exact ih0 _ _ _ _ _
    | exact ih1 _ _ _ _ _ _ _
    | exact spec_FloorOk.mono _ _ _ _
    | exact spec_l1Near.mono _ _ _ _ _ _
    | exact spec_l3Apart.mono _ _ _ _ _ _
    | exact LeO.none _
    | refine LeO.ite ?_ ?_
    | refine LeO.bind ?_ (fun _ => ?_)
    }
theorem spec_Bridges.mono : ∀ a0 a1 a2 k, LeO (spec_Bridges.f k a0 a1 a2) (spec_Bridges.f (k + 1) a0 a1 a2) := by
  intro a0 a1 a2 k
  obtain ⟨ih0, ih1⟩ := spec_Bridges.mono_l k
  unfold spec_Bridges.f
  repeat' first
      | (with_reducible exact ih0 _ _ _ _ _)
      | (with_reducible exact ih1 _ _ _ _ _ _ _)
      | (with_reducible exact spec_FloorOk.mono _ _ _ _)
      | (with_reducible exact spec_l1Near.mono _ _ _ _ _ _)
      | (with_reducible exact spec_l3Apart.mono _ _ _ _ _ _)
      | (with_reducible exact LeO.refl _)
      | (with_reducible exact LeO.none _)
      | (with_reducible refine LeO.ite ?_ ?_)
      | (with_reducible refine LeO.bind ?_ (fun _ => ?_))
      | exact ih0 _ _ _ _ _
      | exact ih1 _ _ _ _ _ _ _
      | exact spec_FloorOk.mono _ _ _ _
      | exact spec_l1Near.mono _ _ _ _ _ _
      | exact spec_l3Apart.mono _ _ _ _ _ _
      | exact LeO.none _
      | refine LeO.ite ?_ ?_
      | refine LeO.bind ?_ (fun _ => ?_)
def spec_Bridges.T12 : Bool × List (List Nat × List Nat) := (true, [([], []), ([], []), ([0, 1], [0, 1]), ([2], [2]), ([], []), ([3, 4], [3, 4]), ([5], [5]), ([6], [6]), ([6], [6]), ([6], [6]), ([6], [6]), ([9, 10, 6], [6, 9, 10]), ([11, 6], [6, 11]), ([7, 8, 12, 6, 6], [6, 7, 8, 12]), ([6, 13], [6, 13])])
def spec_Bridges.B12 : List Nat := [0, 0, 3, 7, 0, 31, 63, 127, 127, 127, 127, 1663, 3711, 8191, 16383]
theorem spec_Bridges.tab12 : rtab .any (opsOf Try.f54 12) = spec_Bridges.T12 := by kernel_rfl
theorem spec_Bridges.bits12 : waitsOk spec_Bridges.T12.2 spec_Bridges.B12 = true := by kernel_rfl
set_option maxHeartbeats 8000000 in
set_option maxRecDepth 100000 in
theorem spec_Bridges.calls (k : Nat) (a0_0 : Int) (a0_1 : Int) (A0_2 : Option Addr) (c0_2 : Nat) (l0_2 : List Int) (r : List (S111)) (w : World) (hr0_2 : Kd.C (Kd.int .i64) w A0_2 l0_2.length l0_2) (hc0_2 : l0_2.length ≤ c0_2) (h : spec_Bridges.f k a0_0 a0_1 l0_2 = some r) :
    Calls Try.prog 54 #[.agg #[.int .i64 a0_0, .int .i64 a0_1, .slice A0_2 l0_2.length c0_2]] w fun e w' => ∃ v0_ : Value, e = .returned (v0_) ∧ Kd.R k111 111 w' w.heap.size (fun _ => True) v0_ r ∧ Below w.heap.size w w' := by
  have hu27 := Try.underlying27
  have hu111 := Try.underlying111
  have HR0_2 := Aside0.mk hr0_2
  have HC0_2 := Aside0.mk hc0_2
  clear hr0_2 hc0_2
  have HB := Aside0.mk (Below.refl w.heap.size w)
  have H : ((some (([] : List (S111)) : List (S111))).bind fun y216 => ((spec_FloorOk.f k a0_0 a0_1 l0_2).bind fun t219 => (if t219 = true then (spec_Bridges.l0 k y216 0 a0_0 a0_1 l0_2) else (some y216)))) = some r := h
  clear h
  obtain ⟨y216, hy216⟩ : ∃ y_ : List (S111), y_ = (([] : List (S111))) := ⟨_, rfl⟩
  replace H : ((spec_FloorOk.f k a0_0 a0_1 l0_2).bind fun t219 => (if t219 = true then (spec_Bridges.l0 k y216 0 a0_0 a0_1 l0_2) else (some y216))) = some r := by first | (rw [hy216]; with_reducible exact H) | (have H2_ := (Option.bind_some _ _).symm.trans H; rw [hy216]; with_reducible exact H2_) | (have H2_ := (Option.bind_some _ _).symm.trans H; with_reducible exact H2_) | with_reducible exact H | (rw [hy216]; exact H) | exact H
  have Ny216 := Aside0.mk hy216
  clear hy216
  replace H := Option.bind_eq_some_iff.mp H
  obtain ⟨t219, A20, H⟩ := H
  replace H : (if t219 = true then (spec_Bridges.l0 k y216 0 a0_0 a0_1 l0_2) else (some y216)) = some r := H
  have A2 := Aside0.mk A20
  clear A20
  by_cases c3 : t219 = true
  {
  subst c3
  have H1 : (spec_Bridges.l0 k y216 0 a0_0 a0_1 l0_2) = some r := by rw [if_pos rfl] at H; exact H
  clear H
  have H := H1
  clear H1
  have H' := Aside0.mk H
  clear H
  go_enter Try.func54, Try.ntmps54
  go_wp2_with (first | ((with_reducible refine gate_dst (N := 1) rfl ?_); refine box_event ?hg (N := 1) ?hd (cs := #[.int .i64 a0_0, .int .i64 a0_1, .slice A0_2 l0_2.length c0_2]) (t := 27) ?hr ?_; (case hd => rfl); (case hg => rfl); (case hr => first | (go_simp; done) | (go_simp; rfl)); intro gb215 hg w4 hbox hb; have n0_ := Aside0.mk (below_step qz2 hb); have n1_ := Aside0.mk (hbox); have n2_ := Aside0.mk ((by rw [hg]; exact (below_size qz2) : w.heap.size ≤ gb215)); have n3_ := Aside0.mk ((by rw [hg]; exact (below_size qz2) : w.heap.size ≤ gb215)); clear HB; have HB := n0_; have BK215 := n1_; have GW215 := n2_; have GE215 := n3_; clear n0_ n1_ n2_ n3_; clear hb hbox hg) | ((with_reducible refine gate_dst (N := 7) rfl ?_); refine Kd.R_lit k111 _ 111 ?hg (N := 7) ?hd (xs := ([] : List (S111))) (inner := []) (ok := fun _ => True) (okp := fun _ => True) ?hr ?hp (fun _ hk => hk) trivial (Below.refl _ _) (Nat.le_refl _) (by simp) ?_; (case hd => rfl); (case hg => rfl); (case hr => first | (go_simp; done) | (go_simp; rfl)); (case hp => exact (Reps.none _ _)); intro v217 w5 ho6 hb hg_ hnew_; clear hg_ hnew_; (first | rw [← Ny216.out] at ho6 | (simp only [Int.reduceToNat] at ho6; rw [← Ny216.out] at ho6)); have n0_ := Aside0.mk (Kd.R_lower ho6 (below_size qz14)); have n1_ := Aside0.mk (blk_below (g := gb215) (o := .cells #[.int .i64 a0_0, .int .i64 a0_1, .slice A0_2 l0_2.length c0_2] 27 (0, 0)) (by (with_reducible repeat (first | refine blk_drewN ?_ _ | refine blk_drew ?_ | refine blk_alloc ?_ _)); exact BK215.out) hb); have n2_ := Aside0.mk (below_step qz14 hb); clear BK215; clear HB; have HO218 := n0_; have BK215 := n1_; have HB := n2_; clear n0_ n1_ n2_; clear hb ho6; have hcz7_0 : w5.cell? ⟨gb215, 0, none⟩ = some (.int .i64 a0_0) := (blk_cell BK215.out 0).trans rfl; have hcz7_1 : w5.cell? ⟨gb215, 1, none⟩ = some (.int .i64 a0_1) := (blk_cell BK215.out 1).trans rfl; have hcz7_2 : w5.cell? ⟨gb215, 2, none⟩ = some (.slice A0_2 l0_2.length c0_2) := (blk_cell BK215.out 2).trans rfl; have hfz7_0 := blk_frozen BK215.out 0; have hfz7_1 := blk_frozen BK215.out 1; have hfz7_2 := blk_frozen BK215.out 2) | ((with_reducible refine gate_callee (f := 88) rfl ?_); refine goesL_ (some 9) rfl rfl Try.func88 (by kernel_rfl) rfl #[.agg #[.int .i64 a0_0, .int .i64 a0_1, .slice A0_2 l0_2.length c0_2]] rfl qz3 ?_; (with_reducible refine (spec_FloorOk.calls k a0_0 a0_1 _ _ l0_2 true _ ?side1 ?side2 A2.out).mono ?_); (case side1 => repeat (first | exact (Kd.C_below HR0_2.out HB.out) | (with_reducible refine Kd.C_alloc ?_ _) | (with_reducible refine Kd.C_drewN ?_ _) | (with_reducible refine Kd.C_drew ?_))); (case side2 => exact HC0_2.out); rintro e w8 ⟨rfl, hb⟩; refine ⟨_, rfl, ?_⟩; have n0_ := Aside0.mk (Kd.R_below (by (with_reducible repeat (first | apply Kd.R_alloc | apply Kd.R_drewN | apply Kd.R_drew)); exact HO218.out) hb); have n1_ := Aside0.mk (blk_below (g := gb215) (o := .cells #[.int .i64 a0_0, .int .i64 a0_1, .slice A0_2 l0_2.length c0_2] 27 (0, 0)) (by (with_reducible repeat (first | refine blk_drewN ?_ _ | refine blk_drew ?_ | refine blk_alloc ?_ _)); exact BK215.out) hb); have n2_ := Aside0.mk (below_step qz14 hb); clear HO218; clear BK215; clear HB; have HO218 := n0_; have BK215 := n1_; have HB := n2_; clear n0_ n1_ n2_; (try clear hb); (try clear hb2); (try clear hk); (try clear hi)))
  go_loopg [3, 4] k (fun kq v3 v4 w' => ∃ (x3_1 : List (S111)) (x4_1 : Int), v4 = .int .i64 x4_1 ∧ Aside0 (spec_Bridges.l0 kq x3_1 x4_1 a0_0 a0_1 l0_2 = some r) ∧ Aside0 (kq ≤ k) ∧ Aside0 (Kd.R k111 111 w' w.heap.size (fun _ => True) v3 x3_1) ∧ Aside0 (w'.heap[gb215]? = some (.cells #[.int .i64 a0_0, .int .i64 a0_1, (.slice A0_2 l0_2.length c0_2)] 27 (0, 0))) ∧ Aside0 (Below w.heap.size w w'))
  case atStart => exact ⟨(y216), (0), qz6, H', ⟨Nat.le_refl _⟩, ⟨by (with_reducible repeat (first | apply Kd.R_alloc | apply Kd.R_drewN | apply Kd.R_drew)); exact HO218.out⟩, ⟨by (with_reducible repeat (first | refine blk_drewN ?_ _ | refine blk_drew ?_ | refine blk_alloc ?_ _)); exact BK215.out⟩, ⟨by repeat (first | (with_reducible first | exact HB.out | apply below_alloc | apply pw_below_drewN | apply below_drew1 | refine below_set ?_ GE215.out) | exact HB.out)⟩⟩
  case round =>
    clear H'
    try clear p2
    try clear c3
    try clear c5
    try clear c8
    try clear hcz7_0
    try clear hcz7_1
    try clear hcz7_2
    try clear hfz7_0
    try clear hfz7_1
    try clear hfz7_2
    obtain ⟨x3_1, x4_1, rfl, HA, HK1, HO_3, BK215, HB⟩ := hrel
    cases gk with
    | zero => exact absurd HA.out (by simp [spec_Bridges.l0])
    | succ k1 =>
      have H := HA.out
      clear HA
      simp only [spec_Bridges.l0] at H
      by_cases c9 : x4_1 < (l0_2.length : Int)
      {
      rw [if_pos c9] at H
      have c9b0 : decide (x4_1 < (l0_2.length : Int)) = true := decide_eq_true c9
      clear c9
      by_cases c10 : 0 ≤ x4_1
      {
      rw [if_pos c10] at H
      have c10b0 : decide (0 ≤ x4_1) = true := decide_eq_true c10
      clear c10
      by_cases c11 : (rd l0_2 x4_1) = 0
      {
      rw [if_pos c11] at H
      have c11b0 : ((rd l0_2 x4_1) == 0) = true := beq_iff_eq.mpr c11
      have c11b1 : ((rd l0_2 x4_1) != 0) = false := bne_eq_false_iff_eq.mpr c11
      clear c11
      have H' := Aside0.mk H
      clear H
      have hcz12_0 : wr.cell? ⟨gb215, 0, none⟩ = some (.int .i64 a0_0) := (blk_cell BK215.out 0).trans rfl
      have hcz12_1 : wr.cell? ⟨gb215, 1, none⟩ = some (.int .i64 a0_1) := (blk_cell BK215.out 1).trans rfl
      have hcz12_2 : wr.cell? ⟨gb215, 2, none⟩ = some (.slice A0_2 l0_2.length c0_2) := (blk_cell BK215.out 2).trans rfl
      have hfz12_0 := blk_frozen BK215.out 0
      have hfz12_1 := blk_frozen BK215.out 1
      have hfz12_2 := blk_frozen BK215.out 2
      have p220 : 0 ≤ (x4_1 : Int) := of_decide_eq_true qz1
      have q220 : x4_1 < (l0_2.length : Int) := of_decide_eq_true qz1
      obtain ⟨ad220, e220, hx220_0⟩ := Kd.at_int HR0_2.out x4_1 p220 q220
      cases e220
      replace hx220_0 := (HB.out.cell (World.block_lt_of_cell? w _ hx220_0)).trans hx220_0
      replace p220 := eq_true p220
      replace q220 := eq_true q220
      go_wp2
      go_roundg k1
      case measure => have := HK1.out; omega
      case rel => exact ⟨(x3_1), (wrap64 (x4_1 + 1)), qz6, H', ⟨by have := HK1.out; omega⟩, ⟨by (with_reducible repeat (first | apply Kd.R_alloc | apply Kd.R_drewN | apply Kd.R_drew)); (first | exact HO_3.out | exact Kd.R_mono HO_3.out (fun _ h_ => h_.1) | exact Kd.R_mono HO_3.out (fun _ h_ => h_.2))⟩, ⟨by (with_reducible repeat (first | refine blk_drewN ?_ _ | refine blk_drew ?_ | refine blk_alloc ?_ _)); exact BK215.out⟩, ⟨by repeat (first | (with_reducible first | exact HB.out | apply below_alloc | apply pw_below_drewN | apply below_drew1 | refine below_set ?_ GE215.out) | exact HB.out)⟩⟩
      }
      {
      rw [if_neg c11] at H
      have c11b0 : ((rd l0_2 x4_1) == 0) = false := beq_eq_false_iff_ne.mpr c11
      have c11b1 : ((rd l0_2 x4_1) != 0) = true := bne_iff_ne.mpr c11
      replace H := Option.bind_eq_some_iff.mp H
      obtain ⟨t221, A130, H⟩ := H
      replace H : (spec_Bridges.l1 k1 x3_1 x4_1 t221 0 a0_0 a0_1 l0_2) = some r := H
      have A13 := Aside0.mk A130
      clear A130
      have H' := Aside0.mk H
      clear H
      have hcz14_0 : wr.cell? ⟨gb215, 0, none⟩ = some (.int .i64 a0_0) := (blk_cell BK215.out 0).trans rfl
      have hcz14_1 : wr.cell? ⟨gb215, 1, none⟩ = some (.int .i64 a0_1) := (blk_cell BK215.out 1).trans rfl
      have hcz14_2 : wr.cell? ⟨gb215, 2, none⟩ = some (.slice A0_2 l0_2.length c0_2) := (blk_cell BK215.out 2).trans rfl
      have hfz14_0 := blk_frozen BK215.out 0
      have hfz14_1 := blk_frozen BK215.out 1
      have hfz14_2 := blk_frozen BK215.out 2
      have p220 : 0 ≤ (x4_1 : Int) := of_decide_eq_true qz1
      have q220 : x4_1 < (l0_2.length : Int) := of_decide_eq_true qz1
      obtain ⟨ad220, e220, hx220_0⟩ := Kd.at_int HR0_2.out x4_1 p220 q220
      cases e220
      replace hx220_0 := (HB.out.cell (World.block_lt_of_cell? w _ hx220_0)).trans hx220_0
      replace p220 := eq_true p220
      replace q220 := eq_true q220
      go_wp2_with (first | ((with_reducible refine gate_callee (f := 81) rfl ?_); refine goesL_ (some 27) rfl rfl Try.func81 (by kernel_rfl) rfl #[.agg #[.int .i64 a0_0, .int .i64 a0_1, .slice (some ad220) l0_2.length c0_2], .int .i64 x4_1, .bool false] rfl qz3 ?_; (with_reducible refine (spec_l1Near.calls k1 a0_0 a0_1 _ _ l0_2 x4_1 false t221 _ ?side1 ?side2 A13.out).mono ?_); (case side1 => repeat (first | exact (Kd.C_below HR0_2.out HB.out) | (with_reducible refine Kd.C_alloc ?_ _) | (with_reducible refine Kd.C_drewN ?_ _) | (with_reducible refine Kd.C_drew ?_))); (case side2 => exact HC0_2.out); rintro e w15 ⟨v222, rfl, ho0, hb⟩; refine ⟨_, rfl, ?_⟩; have n0_ := Aside0.mk (Kd.R_below (by (with_reducible repeat (first | apply Kd.R_alloc | apply Kd.R_drewN | apply Kd.R_drew)); exact HO_3.out) hb); have n1_ := Aside0.mk (Kd.R_lower ho0 (below_size qz14)); have n2_ := Aside0.mk (blk_below (g := gb215) (o := .cells #[.int .i64 a0_0, .int .i64 a0_1, .slice (some ad220) l0_2.length c0_2] 27 (0, 0)) (by (with_reducible repeat (first | refine blk_drewN ?_ _ | refine blk_drew ?_ | refine blk_alloc ?_ _)); exact BK215.out) hb); have n3_ := Aside0.mk (below_step qz14 hb); clear HO_3; clear BK215; clear HB; have HO_3 := n0_; have HO223 := n1_; have BK215 := n2_; have HB := n3_; clear n0_ n1_ n2_ n3_; (try clear hb); (try clear hb2); (try clear hk); (try clear hi); (try clear ho0)))
      go_loopg [3, 6] k1 (fun kq v3 v6 w' => ∃ (x3_2 : List (S111)) (x6_2 : Int), v6 = .int .i64 x6_2 ∧ Aside0 (spec_Bridges.l1 kq x3_2 x4_1 t221 x6_2 a0_0 a0_1 l0_2 = some r) ∧ Aside0 (kq ≤ k1) ∧ Aside0 (Kd.R k111 111 w' w.heap.size (fun _ => True) v3 x3_2) ∧ Aside0 (Kd.R (Kd.int .i64) 3 w' w.heap.size (fun _ => True) v222 t221) ∧ Aside0 (w'.heap[gb215]? = some (.cells #[.int .i64 a0_0, .int .i64 a0_1, (.slice (some ad220) l0_2.length c0_2)] 27 (0, 0))) ∧ Aside0 (Below w.heap.size w w'))
      case atStart => exact ⟨(x3_1), (0), qz6, H', ⟨Nat.le_refl _⟩, ⟨by (with_reducible repeat (first | apply Kd.R_alloc | apply Kd.R_drewN | apply Kd.R_drew)); exact HO_3.out⟩, ⟨by (with_reducible repeat (first | apply Kd.R_alloc | apply Kd.R_drewN | apply Kd.R_drew)); exact HO223.out⟩, ⟨by (with_reducible repeat (first | refine blk_drewN ?_ _ | refine blk_drew ?_ | refine blk_alloc ?_ _)); exact BK215.out⟩, ⟨by repeat (first | (with_reducible first | exact HB.out | apply below_alloc | apply pw_below_drewN | apply below_drew1 | refine below_set ?_ GE215.out) | exact HB.out)⟩⟩
      case round =>
        clear H'
        try clear c1
        try clear p2
        try clear q2
        try clear hx2
        try clear c3
        try clear c5
        try clear p6
        try clear c8
        try clear c9
        try clear c9b0
        try clear c10
        try clear c10b0
        try clear c11
        try clear c11b0
        try clear c11b1
        try clear hcz12_0
        try clear hcz12_1
        try clear hcz12_2
        try clear hcz14_0
        try clear hcz14_1
        try clear hcz14_2
        try clear hcz7_0
        try clear hcz7_1
        try clear hcz7_2
        try clear hfz12_0
        try clear hfz12_1
        try clear hfz12_2
        try clear hfz14_0
        try clear hfz14_1
        try clear hfz14_2
        try clear hfz7_0
        try clear hfz7_1
        try clear hfz7_2
        try clear hx220_0
        try clear p2
        try clear p220
        try clear q220
        obtain ⟨x3_2, x6_2, rfl, HA, HK2, HO_3, HO_5, BK215, HB⟩ := hrel
        cases gk with
        | zero => exact absurd HA.out (by simp [spec_Bridges.l1])
        | succ k2 =>
          have H := HA.out
          clear HA
          simp only [spec_Bridges.l1] at H
          by_cases c16 : x6_2 < (t221.length : Int)
          {
          rw [if_pos c16] at H
          have c16b0 : decide (x6_2 < (t221.length : Int)) = true := decide_eq_true c16
          clear c16
          by_cases c17 : 0 ≤ x6_2
          {
          rw [if_pos c17] at H
          have c17b0 : decide (0 ≤ x6_2) = true := decide_eq_true c17
          clear c17
          by_cases c18 : (rd t221 x6_2) > x4_1
          {
          rw [if_pos c18] at H
          have c18b0 : decide (x4_1 < (rd t221 x6_2)) = true := decide_eq_true c18
          clear c18
          replace H := Option.bind_eq_some_iff.mp H
          obtain ⟨t226, A190, H⟩ := H
          replace H : (if t226 = true then (if x3_2.length < 8796093022208 then (spec_Bridges.l1 k2 (x3_2 ++ [(⟨x4_1, rd t221 x6_2⟩ : S111)]) x4_1 t221 (wrap64 (x6_2 + 1)) a0_0 a0_1 l0_2) else (none)) else (spec_Bridges.l1 k2 x3_2 x4_1 t221 (wrap64 (x6_2 + 1)) a0_0 a0_1 l0_2)) = some r := H
          have A19 := Aside0.mk A190
          clear A190
          by_cases c20 : t226 = true
          {
          subst c20
          have H1 : (if x3_2.length < 8796093022208 then (spec_Bridges.l1 k2 (x3_2 ++ [(⟨x4_1, rd t221 x6_2⟩ : S111)]) x4_1 t221 (wrap64 (x6_2 + 1)) a0_0 a0_1 l0_2) else (none)) = some r := by rw [if_pos rfl] at H; exact H
          clear H
          have H := H1
          clear H1
          by_cases c21 : x3_2.length < 8796093022208
          {
          rw [if_pos c21] at H
          have LMc21 := Aside0.mk c21
          clear c21
          obtain ⟨y228, hy228⟩ : ∃ y_ : List (S111), y_ = (x3_2 ++ [(⟨x4_1, rd t221 x6_2⟩ : S111)]) := ⟨_, rfl⟩
          replace H : (spec_Bridges.l1 k2 y228 x4_1 t221 (wrap64 (x6_2 + 1)) a0_0 a0_1 l0_2) = some r := by first | (rw [hy228]; with_reducible exact H) | (have H2_ := (Option.bind_some _ _).symm.trans H; rw [hy228]; with_reducible exact H2_) | (have H2_ := (Option.bind_some _ _).symm.trans H; with_reducible exact H2_) | with_reducible exact H | (rw [hy228]; exact H) | exact H
          have Ny228 := Aside0.mk hy228
          clear hy228
          have H' := Aside0.mk H
          clear H
          obtain ⟨Ao22, co22, eo22⟩ := Kd.R_slice HO_5.out
          subst eo22
          try go_wp2
          have n0_ := Aside0.mk (Kd.R_drew HO_3.out)
          have n1_ := Aside0.mk (Kd.R_drew HO_5.out)
          have n2_ := Aside0.mk (blk_drew BK215.out)
          have n3_ := Aside0.mk (below_drew1 HB.out)
          clear HO_3
          clear HO_5
          clear BK215
          clear HB
          have HO_3 := n0_
          have HO_5 := n1_
          have BK215 := n2_
          have HB := n3_
          clear n0_ n1_ n2_ n3_
          have p224 : 0 ≤ (x6_2 : Int) := of_decide_eq_true qz1
          have q224 : x6_2 < (t221.length : Int) := of_decide_eq_true qz1
          obtain ⟨ad224, e224, hx224_0⟩ := Kd.at_int (Kd.R_reads' HO_5.out).2.2 x6_2 p224 q224
          cases e224
          replace p224 := eq_true p224
          replace q224 := eq_true q224
          have p225 : 0 ≤ (x6_2 : Int) := of_decide_eq_true qz1
          have q225 : x6_2 < (t221.length : Int) := of_decide_eq_true qz1
          obtain ⟨ad225, e225, hx225_0⟩ := Kd.at_int (Kd.R_reads' HO_5.out).2.2 x6_2 p225 q225
          obtain rfl : ad224 = ad225 := (by injection e225)
          replace p225 := eq_true p225
          replace q225 := eq_true q225
          refine start_ (n := 15) (S := fun w' => w'.cell? ⟨gb215, 0, none⟩ = some (.int .i64 a0_0) ∧ w'.cell? ⟨gb215, 1, none⟩ = some (.int .i64 a0_1) ∧ w'.cell? ⟨gb215, 2, none⟩ = some (.slice (some ad220) l0_2.length c0_2) ∧ w'.cell? (ad224.add (x6_2).toNat) = some (.int .i64 (rd t221 x6_2)) ∧ w'.cell? (ad224.add (x6_2).toNat) = some (.int .i64 (rd t221 x6_2))) (ds := []) #[false, false, false, false, false, false, false, false, false, false, false, false, false, false, false] (by kernel_rfl) rfl rfl ⟨(blk_cell BK215.out 0).trans rfl, (blk_cell BK215.out 1).trans rfl, (blk_cell BK215.out 2).trans rfl, hx224_0, hx225_0⟩ (fun hHeld => ?_); refine with_tabW spec_Bridges.tab12 spec_Bridges.bits12 (fun HT_ HW_ => ?_)
          generalize wr.drew = w23 at HO_3 HO_5 BK215 HB hx224_0 hx225_0 hHeld ⊢
          refine pure_ (i := 0) (N := some 34) (v := ?_) (a' := ?_) (bqz 15 1) rfl rfl qza qzd (Or.inl ⟨by rfl, ?_⟩) ?_ ?_
          rotate_left
          {
          intro w'
          go_simp
          with_reducible rfl
          }
          rotate_left
          {
          simp only [qzs]
          rfl
          }
          refine pure_ (i := 1) (N := some 35) (v := ?_) (a' := ?_) (bqz 15 3) rfl rfl qza qzd (Or.inl ⟨by rfl, ?_⟩) ?_ ?_
          rotate_left
          {
          intro w'
          go_simp
          with_reducible rfl
          }
          rotate_left
          {
          simp only [qzs]
          rfl
          }
          refine pure_ (i := 2) (N := some 36) (v := ?_) (a' := ?_) (bqz 15 7) rfl rfl qza qzd (Or.inl ⟨by rfl, ?_⟩) ?_ ?_
          rotate_left
          {
          intro w'
          go_simp
          with_reducible rfl
          }
          rotate_left
          {
          simp only [qzs]
          rfl
          }
          refine pure_ (i := 4) (N := some 38) (v := ?_) (a' := ?_) (bqz 15 23) rfl rfl qza qzd (Or.inl ⟨by rfl, ?_⟩) ?_ ?_
          rotate_left
          {
          intro w'
          go_simp
          with_reducible rfl
          }
          rotate_left
          {
          simp only [qzs]
          rfl
          }
          refine take_ (i := 3) (N := some 37) (v := ?_) (a' := ?_) (bqz 15 31) rfl rfl qzb qzd (Or.inl ⟨by rfl, ?_⟩) hHeld ?_ ?_
          rotate_left
          {
          rintro w' ⟨s0, s1, s2, s3, s4⟩
          go_simp
          with_reducible rfl
          }
          rotate_left
          {
          simp only [qzs]
          rfl
          }
          refine pure_ (i := 5) (N := some 39) (v := ?_) (a' := ?_) (bqz 15 63) rfl rfl qza qzd (Or.inl ⟨by rfl, ?_⟩) ?_ ?_
          rotate_left
          {
          intro w'
          go_simp
          with_reducible rfl
          }
          rotate_left
          {
          simp only [qzs]
          rfl
          }
          refine pure_ (i := 6) (N := some 40) (v := ?_) (a' := ?_) (bqz 15 127) rfl rfl qza qzd (Or.inl ⟨by rfl, ?_⟩) ?_ ?_
          rotate_left
          {
          intro w'
          go_simp
          with_reducible rfl
          }
          rotate_left
          {
          simp only [qzs]
          rfl
          }
          refine pure_ (i := 8) (N := some 42) (v := ?_) (a' := ?_) (bqz 15 383) rfl rfl qza qzd (Or.inl ⟨by rfl, ?_⟩) ?_ ?_
          rotate_left
          {
          intro w'
          go_simp
          with_reducible rfl
          }
          rotate_left
          {
          simp only [qzs]
          rfl
          }
          refine pure_ (i := 9) (N := some 43) (v := ?_) (a' := ?_) (bqz 15 895) rfl rfl qza qzd (Or.inl ⟨by rfl, ?_⟩) ?_ ?_
          rotate_left
          {
          intro w'
          go_simp
          with_reducible rfl
          }
          rotate_left
          {
          simp only [qzs]
          rfl
          }
          refine pure_ (i := 10) (N := some 44) (v := ?_) (a' := ?_) (bqz 15 1919) rfl rfl qza qzd (Or.inl ⟨by rfl, ?_⟩) ?_ ?_
          rotate_left
          {
          intro w'
          go_simp
          with_reducible rfl
          }
          rotate_left
          {
          simp only [qzs]
          rfl
          }
          refine pure_ (i := 11) (N := some 45) (v := ?_) (a' := ?_) (bqz 15 3967) rfl rfl qza qzd (Or.inl ⟨by rfl, ?_⟩) ?_ ?_
          rotate_left
          {
          intro w'
          go_simp
          with_reducible rfl
          }
          rotate_left
          {
          simp only [qzs]
          rfl
          }
          refine take_ (i := 7) (N := some 41) (v := ?_) (a' := ?_) (bqz 15 4095) rfl rfl qzb qzd (Or.inl ⟨by rfl, ?_⟩) hHeld ?_ ?_
          rotate_left
          {
          rintro w' ⟨s0, s1, s2, s3, s4⟩
          go_simp
          with_reducible rfl
          }
          rotate_left
          {
          simp only [qzs]
          rfl
          }
          refine take_ (i := 12) (N := some 46) (v := ?_) (a' := ?_) (bqz 15 8191) rfl rfl qzb qzd (Or.inl ⟨by rfl, ?_⟩) hHeld ?_ ?_
          rotate_left
          {
          rintro w' ⟨s0, s1, s2, s3, s4⟩
          go_simp
          with_reducible rfl
          }
          rotate_left
          {
          simp only [qzs]
          rfl
          }
          refine one_ (i := 13) (N := some 47) (bqz 15 16383) rfl rfl qzc (by decide) (fun K hK => ?_)
          refine goes_ Try.func99 (by kernel_rfl) rfl #[.agg #[.int .i64 a0_0, .int .i64 a0_1, .slice (some ad220) l0_2.length c0_2], .int .i64 x4_1, .int .i64 (rd t221 x6_2)] (by rfl) rfl rfl qz3 ?_
          with_reducible refine (spec_l3Apart.calls k2 a0_0 a0_1 _ _ l0_2 x4_1 (rd t221 x6_2) true _ ?side1 ?side2 A19.out).mono ?_
          (case side1 => repeat (first | exact (Kd.C_below HR0_2.out HB.out) | (with_reducible refine Kd.C_alloc ?_ _) | (with_reducible refine Kd.C_drewN ?_ _) | (with_reducible refine Kd.C_drew ?_)))
          (case side2 => exact HC0_2.out)
          rintro e w24 ⟨rfl, hb⟩
          have HS3_ := (hb.cell (World.block_lt_of_cell? _ _ (hHeld.2.2.2.1))).trans (hHeld.2.2.2.1)
          have HS4_ := (hb.cell (World.block_lt_of_cell? _ _ (hHeld.2.2.2.2))).trans (hHeld.2.2.2.2)
          refine ⟨_, rfl, ?_⟩
          have n0_ := Aside0.mk (Kd.R_below (by (with_reducible repeat (first | apply Kd.R_alloc | apply Kd.R_drewN | apply Kd.R_drew)); exact HO_3.out) hb)
          have n1_ := Aside0.mk (Kd.R_below qz16 hb)
          have n2_ := Aside0.mk (blk_below (g := gb215) (o := .cells #[.int .i64 a0_0, .int .i64 a0_1, .slice (some ad220) l0_2.length c0_2] 27 (0, 0)) (by (with_reducible repeat (first | refine blk_drewN ?_ _ | refine blk_drew ?_ | refine blk_alloc ?_ _)); exact BK215.out) hb)
          have n3_ := Aside0.mk (below_step qz14 hb)
          clear HO_3
          clear HO_5
          clear BK215
          clear HB
          have HO_3 := n0_
          have HO_5 := n1_
          have BK215 := n2_
          have HB := n3_
          clear n0_ n1_ n2_ n3_
          (try clear hb)
          (try clear hb2)
          (try clear hk)
          (try clear hi)
          refine hK.out _ _ ⟨(blk_cell BK215.out 0).trans rfl, (blk_cell BK215.out 1).trans rfl, (blk_cell BK215.out 2).trans rfl, HS3_, HS4_⟩ (fun hHeld => ?_)
          clear hK K
          refine norm_ (a' := ?_) ?_ ?_
          rotate_left
          {
          show Act.put _ (some 47) _ = _
          simp only [qzs]
          rfl
          }
          refine pure_ (i := 14) (N := some 48) (v := ?_) (a' := ?_) (bqz 15 32767) rfl rfl qza qzd (Or.inl ⟨by rfl, ?_⟩) ?_ ?_
          rotate_left
          {
          intro w'
          go_simp
          with_reducible rfl
          }
          rotate_left
          {
          simp only [qzs]
          rfl
          }
          refine done_ (done_of HT_.out (by kernel_rfl)) ?_
          have p227 : 0 ≤ (x6_2 : Int) := of_decide_eq_true qz1
          have q227 : x6_2 < (t221.length : Int) := of_decide_eq_true qz1
          obtain ⟨ad227, e227, hx227_0⟩ := Kd.at_int (Kd.R_reads' HO_5.out).2.2 x6_2 p227 q227
          obtain rfl : ad224 = ad227 := (by injection e227)
          replace p227 := eq_true p227
          replace q227 := eq_true q227
          try go_wp2_with (first | ((with_reducible refine gate_builtin (b := .append) (xs := #[.tmp 49, .tmp 56]) rfl ?_); at_builtin; refine Kd.R_append k111 (w0 := w) w.heap.size rfl (.tmp 49) (.tmp 56) 70 111 (.agg #[(.int .i64 0), (.int .i64 0)]) 16 rfl Try.underlying70 info111 rfl (by decide) (by omega) u3 x3_2 (⟨x4_1, rd t221 x6_2⟩ : S111) [.int .i64 x4_1, .int .i64 (rd t221 x6_2)] (fun _ => True) (fun _ => False) rfl rfl ?aP (fun _ hk => hk.elim) ?aF ?aO ?aB ?aS ?aL ?_; (case aP => exact k111_mkM _ _ _ (⟨x4_1, rd t221 x6_2⟩ : S111)); (case aB => exact qz14); (case aF => exact (fun _ _ => trivial)); (case aO => exact (by (with_reducible repeat (first | apply Kd.R_alloc | apply Kd.R_drewN | apply Kd.R_drew)); exact HO_3.out)); (case aS => exact (below_size qz14)); (case aL => have := LMc21.out; omega); intro v229 w25 ho hb hg hat; rw [← Ny228.out] at ho; have n0_ := Aside0.mk (Kd.R_over' qz16 (Kd.R_typed (by (with_reducible repeat (first | apply Kd.R_alloc | apply Kd.R_drewN | apply Kd.R_drew)); exact HO_3.out)) (by decide) hg); have n1_ := Aside0.mk (blk_grown (g := gb215) (o := .cells #[.int .i64 a0_0, .int .i64 a0_1, .slice (some ad220) l0_2.length c0_2] 27 (0, 0)) (by (with_reducible repeat (first | refine blk_drewN ?_ _ | refine blk_drew ?_ | refine blk_alloc ?_ _)); exact BK215.out) hg (Kd.R_ne HO_3.out BK215.out (by decide))); have n2_ := Aside0.mk (hb); have n3_ := Aside0.mk (ho); clear HO_5; clear BK215; clear HB; clear HO_3; have HO_5 := n0_; have BK215 := n1_; have HB := n2_; have HO230 := n3_; clear n0_ n1_ n2_ n3_; clear ho hb hg hat))
          go_roundg k2
          case measure => have := HK1.out; have := HK2.out; omega
          case rel => exact ⟨(y228), (wrap64 (x6_2 + 1)), qz6, H', ⟨by have := HK1.out; have := HK2.out; omega⟩, ⟨by (with_reducible repeat (first | apply Kd.R_alloc | apply Kd.R_drewN | apply Kd.R_drew)); (first | exact HO230.out | exact Kd.R_mono HO230.out (fun _ h_ => h_.1) | exact Kd.R_mono HO230.out (fun _ h_ => h_.2))⟩, ⟨by (with_reducible repeat (first | apply Kd.R_alloc | apply Kd.R_drewN | apply Kd.R_drew)); (first | exact HO_5.out | exact Kd.R_mono HO_5.out (fun _ h_ => h_.1) | exact Kd.R_mono HO_5.out (fun _ h_ => h_.2))⟩, ⟨by (with_reducible repeat (first | refine blk_drewN ?_ _ | refine blk_drew ?_ | refine blk_alloc ?_ _)); exact BK215.out⟩, ⟨by repeat (first | (with_reducible first | exact HB.out | apply below_alloc | apply pw_below_drewN | apply below_drew1 | refine below_set ?_ GE215.out) | exact HB.out)⟩⟩
          }
          {
          rw [if_neg c21] at H
          exact absurd H (by simp)
          }
          }
          {
          replace c20 := Bool.eq_false_iff.mpr c20
          subst c20
          have H1 : (spec_Bridges.l1 k2 x3_2 x4_1 t221 (wrap64 (x6_2 + 1)) a0_0 a0_1 l0_2) = some r := by rw [if_neg (show ¬ (false = true) by decide)] at H; exact H
          clear H
          have H := H1
          clear H1
          have H' := Aside0.mk H
          clear H
          obtain ⟨Ao26, co26, eo26⟩ := Kd.R_slice HO_5.out
          subst eo26
          try go_wp2
          have n0_ := Aside0.mk (Kd.R_drew HO_3.out)
          have n1_ := Aside0.mk (Kd.R_drew HO_5.out)
          have n2_ := Aside0.mk (blk_drew BK215.out)
          have n3_ := Aside0.mk (below_drew1 HB.out)
          clear HO_3
          clear HO_5
          clear BK215
          clear HB
          have HO_3 := n0_
          have HO_5 := n1_
          have BK215 := n2_
          have HB := n3_
          clear n0_ n1_ n2_ n3_
          have p224 : 0 ≤ (x6_2 : Int) := of_decide_eq_true qz1
          have q224 : x6_2 < (t221.length : Int) := of_decide_eq_true qz1
          obtain ⟨ad224, e224, hx224_0⟩ := Kd.at_int (Kd.R_reads' HO_5.out).2.2 x6_2 p224 q224
          cases e224
          replace p224 := eq_true p224
          replace q224 := eq_true q224
          have p225 : 0 ≤ (x6_2 : Int) := of_decide_eq_true qz1
          have q225 : x6_2 < (t221.length : Int) := of_decide_eq_true qz1
          obtain ⟨ad225, e225, hx225_0⟩ := Kd.at_int (Kd.R_reads' HO_5.out).2.2 x6_2 p225 q225
          obtain rfl : ad224 = ad225 := (by injection e225)
          replace p225 := eq_true p225
          replace q225 := eq_true q225
          refine start_ (n := 15) (S := fun w' => w'.cell? ⟨gb215, 0, none⟩ = some (.int .i64 a0_0) ∧ w'.cell? ⟨gb215, 1, none⟩ = some (.int .i64 a0_1) ∧ w'.cell? ⟨gb215, 2, none⟩ = some (.slice (some ad220) l0_2.length c0_2) ∧ w'.cell? (ad224.add (x6_2).toNat) = some (.int .i64 (rd t221 x6_2)) ∧ w'.cell? (ad224.add (x6_2).toNat) = some (.int .i64 (rd t221 x6_2))) (ds := []) #[false, false, false, false, false, false, false, false, false, false, false, false, false, false, false] (by kernel_rfl) rfl rfl ⟨(blk_cell BK215.out 0).trans rfl, (blk_cell BK215.out 1).trans rfl, (blk_cell BK215.out 2).trans rfl, hx224_0, hx225_0⟩ (fun hHeld => ?_); refine with_tabW spec_Bridges.tab12 spec_Bridges.bits12 (fun HT_ HW_ => ?_)
          generalize wr.drew = w27 at HO_3 HO_5 BK215 HB hx224_0 hx225_0 hHeld ⊢
          refine pure_ (i := 0) (N := some 34) (v := ?_) (a' := ?_) (bqz 15 1) rfl rfl qza qzd (Or.inl ⟨by rfl, ?_⟩) ?_ ?_
          rotate_left
          {
          intro w'
          go_simp
          with_reducible rfl
          }
          rotate_left
          {
          simp only [qzs]
          rfl
          }
          refine pure_ (i := 1) (N := some 35) (v := ?_) (a' := ?_) (bqz 15 3) rfl rfl qza qzd (Or.inl ⟨by rfl, ?_⟩) ?_ ?_
          rotate_left
          {
          intro w'
          go_simp
          with_reducible rfl
          }
          rotate_left
          {
          simp only [qzs]
          rfl
          }
          refine pure_ (i := 2) (N := some 36) (v := ?_) (a' := ?_) (bqz 15 7) rfl rfl qza qzd (Or.inl ⟨by rfl, ?_⟩) ?_ ?_
          rotate_left
          {
          intro w'
          go_simp
          with_reducible rfl
          }
          rotate_left
          {
          simp only [qzs]
          rfl
          }
          refine pure_ (i := 4) (N := some 38) (v := ?_) (a' := ?_) (bqz 15 23) rfl rfl qza qzd (Or.inl ⟨by rfl, ?_⟩) ?_ ?_
          rotate_left
          {
          intro w'
          go_simp
          with_reducible rfl
          }
          rotate_left
          {
          simp only [qzs]
          rfl
          }
          refine take_ (i := 3) (N := some 37) (v := ?_) (a' := ?_) (bqz 15 31) rfl rfl qzb qzd (Or.inl ⟨by rfl, ?_⟩) hHeld ?_ ?_
          rotate_left
          {
          rintro w' ⟨s0, s1, s2, s3, s4⟩
          go_simp
          with_reducible rfl
          }
          rotate_left
          {
          simp only [qzs]
          rfl
          }
          refine pure_ (i := 5) (N := some 39) (v := ?_) (a' := ?_) (bqz 15 63) rfl rfl qza qzd (Or.inl ⟨by rfl, ?_⟩) ?_ ?_
          rotate_left
          {
          intro w'
          go_simp
          with_reducible rfl
          }
          rotate_left
          {
          simp only [qzs]
          rfl
          }
          refine pure_ (i := 6) (N := some 40) (v := ?_) (a' := ?_) (bqz 15 127) rfl rfl qza qzd (Or.inl ⟨by rfl, ?_⟩) ?_ ?_
          rotate_left
          {
          intro w'
          go_simp
          with_reducible rfl
          }
          rotate_left
          {
          simp only [qzs]
          rfl
          }
          refine pure_ (i := 8) (N := some 42) (v := ?_) (a' := ?_) (bqz 15 383) rfl rfl qza qzd (Or.inl ⟨by rfl, ?_⟩) ?_ ?_
          rotate_left
          {
          intro w'
          go_simp
          with_reducible rfl
          }
          rotate_left
          {
          simp only [qzs]
          rfl
          }
          refine pure_ (i := 9) (N := some 43) (v := ?_) (a' := ?_) (bqz 15 895) rfl rfl qza qzd (Or.inl ⟨by rfl, ?_⟩) ?_ ?_
          rotate_left
          {
          intro w'
          go_simp
          with_reducible rfl
          }
          rotate_left
          {
          simp only [qzs]
          rfl
          }
          refine pure_ (i := 10) (N := some 44) (v := ?_) (a' := ?_) (bqz 15 1919) rfl rfl qza qzd (Or.inl ⟨by rfl, ?_⟩) ?_ ?_
          rotate_left
          {
          intro w'
          go_simp
          with_reducible rfl
          }
          rotate_left
          {
          simp only [qzs]
          rfl
          }
          refine pure_ (i := 11) (N := some 45) (v := ?_) (a' := ?_) (bqz 15 3967) rfl rfl qza qzd (Or.inl ⟨by rfl, ?_⟩) ?_ ?_
          rotate_left
          {
          intro w'
          go_simp
          with_reducible rfl
          }
          rotate_left
          {
          simp only [qzs]
          rfl
          }
          refine take_ (i := 7) (N := some 41) (v := ?_) (a' := ?_) (bqz 15 4095) rfl rfl qzb qzd (Or.inl ⟨by rfl, ?_⟩) hHeld ?_ ?_
          rotate_left
          {
          rintro w' ⟨s0, s1, s2, s3, s4⟩
          go_simp
          with_reducible rfl
          }
          rotate_left
          {
          simp only [qzs]
          rfl
          }
          refine take_ (i := 12) (N := some 46) (v := ?_) (a' := ?_) (bqz 15 8191) rfl rfl qzb qzd (Or.inl ⟨by rfl, ?_⟩) hHeld ?_ ?_
          rotate_left
          {
          rintro w' ⟨s0, s1, s2, s3, s4⟩
          go_simp
          with_reducible rfl
          }
          rotate_left
          {
          simp only [qzs]
          rfl
          }
          refine one_ (i := 13) (N := some 47) (bqz 15 16383) rfl rfl qzc (by decide) (fun K hK => ?_)
          refine goes_ Try.func99 (by kernel_rfl) rfl #[.agg #[.int .i64 a0_0, .int .i64 a0_1, .slice (some ad220) l0_2.length c0_2], .int .i64 x4_1, .int .i64 (rd t221 x6_2)] (by rfl) rfl rfl qz3 ?_
          with_reducible refine (spec_l3Apart.calls k2 a0_0 a0_1 _ _ l0_2 x4_1 (rd t221 x6_2) false _ ?side1 ?side2 A19.out).mono ?_
          (case side1 => repeat (first | exact (Kd.C_below HR0_2.out HB.out) | (with_reducible refine Kd.C_alloc ?_ _) | (with_reducible refine Kd.C_drewN ?_ _) | (with_reducible refine Kd.C_drew ?_)))
          (case side2 => exact HC0_2.out)
          rintro e w28 ⟨rfl, hb⟩
          have HS3_ := (hb.cell (World.block_lt_of_cell? _ _ (hHeld.2.2.2.1))).trans (hHeld.2.2.2.1)
          have HS4_ := (hb.cell (World.block_lt_of_cell? _ _ (hHeld.2.2.2.2))).trans (hHeld.2.2.2.2)
          refine ⟨_, rfl, ?_⟩
          have n0_ := Aside0.mk (Kd.R_below (by (with_reducible repeat (first | apply Kd.R_alloc | apply Kd.R_drewN | apply Kd.R_drew)); exact HO_3.out) hb)
          have n1_ := Aside0.mk (Kd.R_below qz16 hb)
          have n2_ := Aside0.mk (blk_below (g := gb215) (o := .cells #[.int .i64 a0_0, .int .i64 a0_1, .slice (some ad220) l0_2.length c0_2] 27 (0, 0)) (by (with_reducible repeat (first | refine blk_drewN ?_ _ | refine blk_drew ?_ | refine blk_alloc ?_ _)); exact BK215.out) hb)
          have n3_ := Aside0.mk (below_step qz14 hb)
          clear HO_3
          clear HO_5
          clear BK215
          clear HB
          have HO_3 := n0_
          have HO_5 := n1_
          have BK215 := n2_
          have HB := n3_
          clear n0_ n1_ n2_ n3_
          (try clear hb)
          (try clear hb2)
          (try clear hk)
          (try clear hi)
          refine hK.out _ _ ⟨(blk_cell BK215.out 0).trans rfl, (blk_cell BK215.out 1).trans rfl, (blk_cell BK215.out 2).trans rfl, HS3_, HS4_⟩ (fun hHeld => ?_)
          clear hK K
          refine norm_ (a' := ?_) ?_ ?_
          rotate_left
          {
          show Act.put _ (some 47) _ = _
          simp only [qzs]
          rfl
          }
          refine pure_ (i := 14) (N := some 48) (v := ?_) (a' := ?_) (bqz 15 32767) rfl rfl qza qzd (Or.inl ⟨by rfl, ?_⟩) ?_ ?_
          rotate_left
          {
          intro w'
          go_simp
          with_reducible rfl
          }
          rotate_left
          {
          simp only [qzs]
          rfl
          }
          refine done_ (done_of HT_.out (by kernel_rfl)) ?_
          try go_wp2
          go_roundg k2
          case measure => have := HK1.out; have := HK2.out; omega
          case rel => exact ⟨(x3_2), (wrap64 (x6_2 + 1)), qz6, H', ⟨by have := HK1.out; have := HK2.out; omega⟩, ⟨by (with_reducible repeat (first | apply Kd.R_alloc | apply Kd.R_drewN | apply Kd.R_drew)); (first | exact HO_3.out | exact Kd.R_mono HO_3.out (fun _ h_ => h_.1) | exact Kd.R_mono HO_3.out (fun _ h_ => h_.2))⟩, ⟨by (with_reducible repeat (first | apply Kd.R_alloc | apply Kd.R_drewN | apply Kd.R_drew)); (first | exact HO_5.out | exact Kd.R_mono HO_5.out (fun _ h_ => h_.1) | exact Kd.R_mono HO_5.out (fun _ h_ => h_.2))⟩, ⟨by (with_reducible repeat (first | refine blk_drewN ?_ _ | refine blk_drew ?_ | refine blk_alloc ?_ _)); exact BK215.out⟩, ⟨by repeat (first | (with_reducible first | exact HB.out | apply below_alloc | apply pw_below_drewN | apply below_drew1 | refine below_set ?_ GE215.out) | exact HB.out)⟩⟩
          }
          }
          {
          rw [if_neg c18] at H
          have c18b0 : decide (x4_1 < (rd t221 x6_2)) = false := decide_eq_false c18
          clear c18
          have H' := Aside0.mk H
          clear H
          obtain ⟨Ao29, co29, eo29⟩ := Kd.R_slice HO_5.out
          subst eo29
          try go_wp2
          have n0_ := Aside0.mk (Kd.R_drew HO_3.out)
          have n1_ := Aside0.mk (Kd.R_drew HO_5.out)
          have n2_ := Aside0.mk (blk_drew BK215.out)
          have n3_ := Aside0.mk (below_drew1 HB.out)
          clear HO_3
          clear HO_5
          clear BK215
          clear HB
          have HO_3 := n0_
          have HO_5 := n1_
          have BK215 := n2_
          have HB := n3_
          clear n0_ n1_ n2_ n3_
          have p224 : 0 ≤ (x6_2 : Int) := of_decide_eq_true qz1
          have q224 : x6_2 < (t221.length : Int) := of_decide_eq_true qz1
          obtain ⟨ad224, e224, hx224_0⟩ := Kd.at_int (Kd.R_reads' HO_5.out).2.2 x6_2 p224 q224
          cases e224
          replace p224 := eq_true p224
          replace q224 := eq_true q224
          refine start_ (n := 15) (S := fun w' => w'.cell? (ad224.add (x6_2).toNat) = some (.int .i64 (rd t221 x6_2))) (ds := []) #[false, false, false, false, false, false, false, false, false, false, false, false, false, false, false] (by kernel_rfl) rfl rfl (hx224_0) (fun hHeld => ?_); refine with_tabW spec_Bridges.tab12 spec_Bridges.bits12 (fun HT_ HW_ => ?_)
          generalize wr.drew = w30 at HO_3 HO_5 BK215 HB hx224_0 hHeld ⊢
          refine pure_ (i := 0) (N := some 34) (v := ?_) (a' := ?_) (bqz 15 1) rfl rfl qza qzd (Or.inl ⟨by rfl, ?_⟩) ?_ ?_
          rotate_left
          {
          intro w'
          go_simp
          with_reducible rfl
          }
          rotate_left
          {
          simp only [qzs]
          rfl
          }
          refine pure_ (i := 1) (N := some 35) (v := ?_) (a' := ?_) (bqz 15 3) rfl rfl qza qzd (Or.inl ⟨by rfl, ?_⟩) ?_ ?_
          rotate_left
          {
          intro w'
          go_simp
          with_reducible rfl
          }
          rotate_left
          {
          simp only [qzs]
          rfl
          }
          refine pure_ (i := 2) (N := some 36) (v := ?_) (a' := ?_) (bqz 15 7) rfl rfl qza qzd (Or.inl ⟨by rfl, ?_⟩) ?_ ?_
          rotate_left
          {
          intro w'
          go_simp
          with_reducible rfl
          }
          rotate_left
          {
          simp only [qzs]
          rfl
          }
          refine pure_ (i := 4) (N := some 38) (v := ?_) (a' := ?_) (bqz 15 23) rfl rfl qza qzd (Or.inl ⟨by rfl, ?_⟩) ?_ ?_
          rotate_left
          {
          intro w'
          go_simp
          with_reducible rfl
          }
          rotate_left
          {
          simp only [qzs]
          rfl
          }
          refine take_ (i := 3) (N := some 37) (v := ?_) (a' := ?_) (bqz 15 31) rfl rfl qzb qzd (Or.inl ⟨by rfl, ?_⟩) hHeld ?_ ?_
          rotate_left
          {
          intro w' s0
          go_simp
          with_reducible rfl
          }
          rotate_left
          {
          simp only [qzs]
          rfl
          }
          refine pure_ (i := 5) (N := some 39) (v := ?_) (a' := ?_) (bqz 15 63) rfl rfl qza qzd (Or.inl ⟨by rfl, ?_⟩) ?_ ?_
          rotate_left
          {
          intro w'
          go_simp
          with_reducible rfl
          }
          rotate_left
          {
          simp only [qzs]
          rfl
          }
          refine pure_ (i := 6) (N := some 40) (v := ?_) (a' := ?_) (bqz 15 127) rfl rfl qza qzd (Or.inl ⟨by rfl, ?_⟩) ?_ ?_
          rotate_left
          {
          intro w'
          go_simp
          with_reducible rfl
          }
          rotate_left
          {
          simp only [qzs]
          rfl
          }
          refine pure_ (i := 7) (N := some 41) (v := undef) (a' := ?_) (bqz 15 255) rfl rfl qza qzd (Or.inr ⟨by rfl, rfl⟩) ?_ ?_
          rotate_left
          {
          simp only [qzs]
          rfl
          }
          refine pure_ (i := 8) (N := some 42) (v := undef) (a' := ?_) (bqz 15 511) rfl rfl qza qzd (Or.inr ⟨by rfl, rfl⟩) ?_ ?_
          rotate_left
          {
          simp only [qzs]
          rfl
          }
          refine pure_ (i := 9) (N := some 43) (v := undef) (a' := ?_) (bqz 15 1023) rfl rfl qza qzd (Or.inr ⟨by rfl, rfl⟩) ?_ ?_
          rotate_left
          {
          simp only [qzs]
          rfl
          }
          refine pure_ (i := 10) (N := some 44) (v := undef) (a' := ?_) (bqz 15 2047) rfl rfl qza qzd (Or.inr ⟨by rfl, rfl⟩) ?_ ?_
          rotate_left
          {
          simp only [qzs]
          rfl
          }
          refine pure_ (i := 11) (N := some 45) (v := undef) (a' := ?_) (bqz 15 4095) rfl rfl qza qzd (Or.inr ⟨by rfl, rfl⟩) ?_ ?_
          rotate_left
          {
          simp only [qzs]
          rfl
          }
          refine pure_ (i := 12) (N := some 46) (v := undef) (a' := ?_) (bqz 15 8191) rfl rfl qza qzd (Or.inr ⟨by rfl, rfl⟩) ?_ ?_
          rotate_left
          {
          simp only [qzs]
          rfl
          }
          refine pure_ (i := 13) (N := some 47) (v := undef) (a' := ?_) (bqz 15 16383) rfl rfl qza qzd (Or.inr ⟨by rfl, rfl⟩) ?_ ?_
          rotate_left
          {
          simp only [qzs]
          rfl
          }
          refine pure_ (i := 14) (N := some 48) (v := ?_) (a' := ?_) (bqz 15 32767) rfl rfl qza qzd (Or.inl ⟨by rfl, ?_⟩) ?_ ?_
          rotate_left
          {
          intro w'
          go_simp
          with_reducible rfl
          }
          rotate_left
          {
          simp only [qzs]
          rfl
          }
          refine done_ (done_of HT_.out (by kernel_rfl)) ?_
          try go_wp2
          go_roundg k2
          case measure => have := HK1.out; have := HK2.out; omega
          case rel => exact ⟨(x3_2), (wrap64 (x6_2 + 1)), qz6, H', ⟨by have := HK1.out; have := HK2.out; omega⟩, ⟨by (with_reducible repeat (first | apply Kd.R_alloc | apply Kd.R_drewN | apply Kd.R_drew)); (first | exact HO_3.out | exact Kd.R_mono HO_3.out (fun _ h_ => h_.1) | exact Kd.R_mono HO_3.out (fun _ h_ => h_.2))⟩, ⟨by (with_reducible repeat (first | apply Kd.R_alloc | apply Kd.R_drewN | apply Kd.R_drew)); (first | exact HO_5.out | exact Kd.R_mono HO_5.out (fun _ h_ => h_.1) | exact Kd.R_mono HO_5.out (fun _ h_ => h_.2))⟩, ⟨by (with_reducible repeat (first | refine blk_drewN ?_ _ | refine blk_drew ?_ | refine blk_alloc ?_ _)); exact BK215.out⟩, ⟨by repeat (first | (with_reducible first | exact HB.out | apply below_alloc | apply pw_below_drewN | apply below_drew1 | refine below_set ?_ GE215.out) | exact HB.out)⟩⟩
          }
          }
          {
          rw [if_neg c17] at H
          exact absurd H (by simp)
          }
          }
          {
          rw [if_neg c16] at H
          have c16b0 : decide (x6_2 < (t221.length : Int)) = false := decide_eq_false c16
          clear c16
          have H' := Aside0.mk H
          clear H
          obtain ⟨Ao31, co31, eo31⟩ := Kd.R_slice HO_5.out
          subst eo31
          go_wp2
          go_roundg k2
          case measure => have := HK1.out; have := HK2.out; omega
          case rel => exact ⟨(x3_2), (wrap64 (x4_1 + 1)), qz6, H', ⟨by have := HK1.out; have := HK2.out; omega⟩, ⟨by (with_reducible repeat (first | apply Kd.R_alloc | apply Kd.R_drewN | apply Kd.R_drew)); (first | exact HO_3.out | exact Kd.R_mono HO_3.out (fun _ h_ => h_.1) | exact Kd.R_mono HO_3.out (fun _ h_ => h_.2))⟩, ⟨by (with_reducible repeat (first | refine blk_drewN ?_ _ | refine blk_drew ?_ | refine blk_alloc ?_ _)); exact BK215.out⟩, ⟨by repeat (first | (with_reducible first | exact HB.out | apply below_alloc | apply pw_below_drewN | apply below_drew1 | refine below_set ?_ GE215.out) | exact HB.out)⟩⟩
          }
      }
      }
      {
      rw [if_neg c10] at H
      exact absurd H (by simp)
      }
      }
      {
      rw [if_neg c9] at H
      have c9b0 : decide (x4_1 < (l0_2.length : Int)) = false := decide_eq_false c9
      clear c9
      obtain rfl := Option.some.inj H
      simp only [Option.some.injEq, Prod.mk.injEq] at H
      obtain ⟨rfl⟩ := H
      have hcz32_0 : wr.cell? ⟨gb215, 0, none⟩ = some (.int .i64 a0_0) := (blk_cell BK215.out 0).trans rfl
      have hcz32_1 : wr.cell? ⟨gb215, 1, none⟩ = some (.int .i64 a0_1) := (blk_cell BK215.out 1).trans rfl
      have hcz32_2 : wr.cell? ⟨gb215, 2, none⟩ = some (.slice A0_2 l0_2.length c0_2) := (blk_cell BK215.out 2).trans rfl
      have hfz32_0 := blk_frozen BK215.out 0
      have hfz32_1 := blk_frozen BK215.out 1
      have hfz32_2 := blk_frozen BK215.out 2
      go_wp2
      go_ret
      exact ⟨_, by first | rfl | (simp [errW_none, errW_some] <;> rfl) | (simp [*, errW_none, errW_some] <;> rfl), by (with_reducible repeat (first | apply Kd.R_alloc | apply Kd.R_drewN | apply Kd.R_drew)); exact HO_3.out, by repeat (first | (with_reducible first | exact HB.out | apply below_alloc | apply pw_below_drewN | apply below_drew1 | refine below_set ?_ GE215.out) | exact HB.out)⟩
      }
  }
  {
  replace c3 := Bool.eq_false_iff.mpr c3
  subst c3
  have H1 : (some y216) = some r := by rw [if_neg (show ¬ (false = true) by decide)] at H; exact H
  clear H
  have H := H1
  clear H1
  obtain rfl := Option.some.inj H
  simp only [Option.some.injEq, Prod.mk.injEq] at H
  obtain ⟨rfl⟩ := H
  go_enter Try.func54, Try.ntmps54
  go_wp2_with (first | ((with_reducible refine gate_dst (N := 1) rfl ?_); refine box_event ?hg (N := 1) ?hd (cs := #[.int .i64 a0_0, .int .i64 a0_1, .slice A0_2 l0_2.length c0_2]) (t := 27) ?hr ?_; (case hd => rfl); (case hg => rfl); (case hr => first | (go_simp; done) | (go_simp; rfl)); intro gb215 hg w33 hbox hb; have n0_ := Aside0.mk (below_step qz2 hb); have n1_ := Aside0.mk (hbox); have n2_ := Aside0.mk ((by rw [hg]; exact (below_size qz2) : w.heap.size ≤ gb215)); have n3_ := Aside0.mk ((by rw [hg]; exact (below_size qz2) : w.heap.size ≤ gb215)); clear HB; have HB := n0_; have BK215 := n1_; have GW215 := n2_; have GE215 := n3_; clear n0_ n1_ n2_ n3_; clear hb hbox hg) | ((with_reducible refine gate_dst (N := 7) rfl ?_); refine Kd.R_lit k111 _ 111 ?hg (N := 7) ?hd (xs := ([] : List (S111))) (inner := []) (ok := fun _ => True) (okp := fun _ => True) ?hr ?hp (fun _ hk => hk) trivial (Below.refl _ _) (Nat.le_refl _) (by simp) ?_; (case hd => rfl); (case hg => rfl); (case hr => first | (go_simp; done) | (go_simp; rfl)); (case hp => exact (Reps.none _ _)); intro v217 w34 ho35 hb hg_ hnew_; clear hg_ hnew_; (first | rw [← Ny216.out] at ho35 | (simp only [Int.reduceToNat] at ho35; rw [← Ny216.out] at ho35)); have n0_ := Aside0.mk (Kd.R_lower ho35 (below_size qz14)); have n1_ := Aside0.mk (blk_below (g := gb215) (o := .cells #[.int .i64 a0_0, .int .i64 a0_1, .slice A0_2 l0_2.length c0_2] 27 (0, 0)) (by (with_reducible repeat (first | refine blk_drewN ?_ _ | refine blk_drew ?_ | refine blk_alloc ?_ _)); exact BK215.out) hb); have n2_ := Aside0.mk (below_step qz14 hb); clear BK215; clear HB; have HO218 := n0_; have BK215 := n1_; have HB := n2_; clear n0_ n1_ n2_; clear hb ho35; have hcz36_0 : w34.cell? ⟨gb215, 0, none⟩ = some (.int .i64 a0_0) := (blk_cell BK215.out 0).trans rfl; have hcz36_1 : w34.cell? ⟨gb215, 1, none⟩ = some (.int .i64 a0_1) := (blk_cell BK215.out 1).trans rfl; have hcz36_2 : w34.cell? ⟨gb215, 2, none⟩ = some (.slice A0_2 l0_2.length c0_2) := (blk_cell BK215.out 2).trans rfl; have hfz36_0 := blk_frozen BK215.out 0; have hfz36_1 := blk_frozen BK215.out 1; have hfz36_2 := blk_frozen BK215.out 2) | ((with_reducible refine gate_callee (f := 88) rfl ?_); refine goesL_ (some 9) rfl rfl Try.func88 (by kernel_rfl) rfl #[.agg #[.int .i64 a0_0, .int .i64 a0_1, .slice A0_2 l0_2.length c0_2]] rfl qz3 ?_; (with_reducible refine (spec_FloorOk.calls k a0_0 a0_1 _ _ l0_2 false _ ?side1 ?side2 A2.out).mono ?_); (case side1 => repeat (first | exact (Kd.C_below HR0_2.out HB.out) | (with_reducible refine Kd.C_alloc ?_ _) | (with_reducible refine Kd.C_drewN ?_ _) | (with_reducible refine Kd.C_drew ?_))); (case side2 => exact HC0_2.out); rintro e w37 ⟨rfl, hb⟩; refine ⟨_, rfl, ?_⟩; have n0_ := Aside0.mk (Kd.R_below (by (with_reducible repeat (first | apply Kd.R_alloc | apply Kd.R_drewN | apply Kd.R_drew)); exact HO218.out) hb); have n1_ := Aside0.mk (blk_below (g := gb215) (o := .cells #[.int .i64 a0_0, .int .i64 a0_1, .slice A0_2 l0_2.length c0_2] 27 (0, 0)) (by (with_reducible repeat (first | refine blk_drewN ?_ _ | refine blk_drew ?_ | refine blk_alloc ?_ _)); exact BK215.out) hb); have n2_ := Aside0.mk (below_step qz14 hb); clear HO218; clear BK215; clear HB; have HO218 := n0_; have BK215 := n1_; have HB := n2_; clear n0_ n1_ n2_; (try clear hb); (try clear hb2); (try clear hk); (try clear hi)))
  go_ret
  exact ⟨_, by first | rfl | (simp [errW_none, errW_some] <;> rfl) | (simp [*, errW_none, errW_some] <;> rfl), by (with_reducible repeat (first | apply Kd.R_alloc | apply Kd.R_drewN | apply Kd.R_drew)); exact HO218.out, by repeat (first | (with_reducible first | exact HB.out | apply below_alloc | apply pw_below_drewN | apply below_drew1 | refine below_set ?_ GE215.out) | exact HB.out)⟩

  }
/-! ### impl_in: function 96 -/
def impl_in.f (a0 : Int) (a1 : Int) (a2 : Int) : Option (Bool) := if a0 ≥ a1 then (some (decide (a0 ≤ a2))) else (some false)
set_option maxHeartbeats 8000000 in
set_option maxRecDepth 100000 in
theorem impl_in.calls (a0 : Int) (a1 : Int) (a2 : Int) (r : Bool) (w : World) (h : impl_in.f a0 a1 a2 = some r) :
    Calls Try.prog 96 #[.int .i64 a0, .int .i64 a1, .int .i64 a2] w fun e w' => e = .returned (.bool r) ∧ Drawn0 w w' := by
  have H : (if a0 ≥ a1 then (some (decide (a0 ≤ a2))) else (some false)) = some r := h
  clear h
  by_cases c4 : a0 ≥ a1
  {
  rw [if_pos c4] at H
  have c4b0 : decide (a1 ≤ a0) = true := decide_eq_true c4
  clear c4
  obtain rfl := Option.some.inj H
  simp only [Option.some.injEq, Prod.mk.injEq] at H
  obtain ⟨rfl⟩ := H
  go_enter Try.func96, Try.ntmps96
  go_wp2
  go_ret
  exact ⟨by first | rfl | (simp; done) | (simp [*]; done), by repeat (first | exact Drawn0.refl _ | apply Drawn0.step)⟩
  }
  {
  rw [if_neg c4] at H
  have c4b0 : decide (a1 ≤ a0) = false := decide_eq_false c4
  clear c4
  obtain rfl := Option.some.inj H
  simp only [Option.some.injEq, Prod.mk.injEq] at H
  obtain ⟨rfl⟩ := H
  go_enter Try.func96, Try.ntmps96
  go_wp2
  go_ret
  exact ⟨by first | rfl | (simp; done) | (simp [*]; done), by repeat (first | exact Drawn0.refl _ | apply Drawn0.step)⟩

  }
end Go.Proofs.Ytmjpmekckgjcpaa.PFnExactBridges
