-- Made by a program of this session out of the translation. Lean checks it.
import Derived.Test.YtdlkmjilakaklaaPFnCutsx0
import Derived.Test.YtdlkmjilakaklaaPFnCutsx7
namespace Go.Proofs.Ytdlkmjilakaklaa.PFnCuts
open Go.RowKit Go.Proofs.YtdlkmjilakaklaaW.PrintWords Go.Proofs.YtdlkmjilakaklaaW.PrintLast Go.Proofs.YtdlkmjilakaklaaW.PrintMore
attribute [local go_sem] max2_int min2_int max_two min_two max_three min_three max_four min_four   -- for this text's walks alone
set_option linter.unusedVariables false
set_option linter.unusedSimpArgs false

/-! ### impl_field: function 88 -/
mutual
def impl_field.l0 : Nat → Int → Bool → List Int → Int → Int → Int → Int → List Int → Option (List Int)
  | 0, _, _, _, _, _, _, _, _ => none
  | k + 1, x1, x2, x7, x18, x19, x244000, x244001, x244002 => if x19 < x18 then (if 0 ≤ x19 then (if x19 < (x7.length : Int) then (impl_field.l0 k x1 x2 (x7.set (x19 : Int).toNat (-1)) x18 (wrap64 (x19 + 1)) x244000 x244001 x244002) else (none)) else (none)) else (if 0 ≤ x1 then (if x1 < (x7.length : Int) then (impl_field.l1 k x1 x2 (x7.set (x1 : Int).toNat 0) (([x1] : List Int)) x244000 x244001 x244002) else (none)) else (none))
def impl_field.l1 : Nat → Int → Bool → List Int → List Int → Int → Int → List Int → Option (List Int)
  | 0, _, _, _, _, _, _, _ => none
  | k + 1, x1, x2, x7, x9, x244000, x244001, x244002 => if (x9.length : Int) > 0 then (if 0 < (x9.length : Int) then (if 1 ≤ (x9.length : Int) then ((some (x9.drop (1 : Int).toNat : List Int)).bind fun y253 => (if x2 = true then (if (rd x9 0) = x1 then (impl_field.j2 k x1 x2 x7 y253 (rd x9 0) false x244000 x244001 x244002) else (if 0 ≤ (rd x9 0) then (if (rd x9 0) < (x244002.length : Int) then (impl_field.j2 k x1 x2 x7 y253 (rd x9 0) ((rd x244002 (rd x9 0)) == 2) x244000 x244001 x244002) else (none)) else (none))) else (impl_field.j2 k x1 x2 x7 y253 (rd x9 0) false x244000 x244001 x244002))) else (none)) else (none)) else (some x7)
def impl_field.j2 : Nat → Int → Bool → List Int → List Int → Int → Bool → Int → Int → List Int → Option (List Int)
  | 0, _, _, _, _, _, _, _, _, _ => none
  | k + 1, x1, x2, x7, x9, x10, x52, x244000, x244001, x244002 => if x52 = true then (impl_field.l1 k x1 x2 x7 x9 x244000 x244001 x244002) else ((impl_near.f k x244000 x244001 x244002 x10 false).bind fun t257 => (impl_field.l2 k x1 x2 x7 x9 x10 t257 (t257.length : Int) 0 x244000 x244001 x244002))
def impl_field.l2 : Nat → Int → Bool → List Int → List Int → Int → List Int → Int → Int → Int → Int → List Int → Option (List Int)
  | 0, _, _, _, _, _, _, _, _, _, _, _ => none
  | k + 1, x1, x2, x7, x9, x10, x55, x56, x57, x244000, x244001, x244002 => if x57 < x56 then (if 0 ≤ x57 then (if x57 < (x55.length : Int) then (if 0 ≤ (rd x55 x57) then (if (rd x55 x57) < (x7.length : Int) then (if (rd x7 (rd x55 x57)) < 0 then (if 0 ≤ x10 then (if x10 < (x7.length : Int) then (if x9.length < 17592186044416 then (impl_field.l2 k x1 x2 (x7.set ((rd x55 x57) : Int).toNat (wrap64 ((rd x7 x10) + 1))) (x9 ++ [rd x55 x57]) x10 x55 x56 (wrap64 (x57 + 1)) x244000 x244001 x244002) else (none)) else (none)) else (none)) else (impl_field.l2 k x1 x2 x7 x9 x10 x55 x56 (wrap64 (x57 + 1)) x244000 x244001 x244002)) else (none)) else (none)) else (none)) else (none)) else (impl_field.l1 k x1 x2 x7 x9 x244000 x244001 x244002)
end
def impl_field.f (k : Nat) (a0_0 : Int) (a0_1 : Int) (l0_2 : List Int) (a1 : Int) (a2 : Bool) : Option (List Int) := if 0 ≤ (l0_2.length : Int) then (if ((l0_2.length : Int) : Int).toNat ≤ 35184372088832 then ((some (List.replicate ((l0_2.length : Int) : Int).toNat 0 : List Int)).bind fun y244 => (impl_field.l0 k a1 a2 y244 (y244.length : Int) 0 a0_0 a0_1 l0_2)) else (none)) else (none)
theorem impl_field.mono_l : ∀ k, (∀ y0 y1 y2 y3 y4 y5 y6 y7, LeO (impl_field.l0 k y0 y1 y2 y3 y4 y5 y6 y7) (impl_field.l0 (k + 1) y0 y1 y2 y3 y4 y5 y6 y7)) ∧ (∀ y0 y1 y2 y3 y4 y5 y6, LeO (impl_field.l1 k y0 y1 y2 y3 y4 y5 y6) (impl_field.l1 (k + 1) y0 y1 y2 y3 y4 y5 y6)) ∧ (∀ y0 y1 y2 y3 y4 y5 y6 y7 y8, LeO (impl_field.j2 k y0 y1 y2 y3 y4 y5 y6 y7 y8) (impl_field.j2 (k + 1) y0 y1 y2 y3 y4 y5 y6 y7 y8)) ∧ (∀ y0 y1 y2 y3 y4 y5 y6 y7 y8 y9 y10, LeO (impl_field.l2 k y0 y1 y2 y3 y4 y5 y6 y7 y8 y9 y10) (impl_field.l2 (k + 1) y0 y1 y2 y3 y4 y5 y6 y7 y8 y9 y10))
  | 0 => ⟨fun _ _ _ _ _ _ _ _ r h => by simp [impl_field.l0] at h, fun _ _ _ _ _ _ _ r h => by simp [impl_field.l1] at h, fun _ _ _ _ _ _ _ _ _ r h => by simp [impl_field.j2] at h, fun _ _ _ _ _ _ _ _ _ _ _ r h => by simp [impl_field.l2] at h⟩
  | k + 1 => by
    obtain ⟨ih0, ih1, ih2, ih3⟩ := impl_field.mono_l k
    refine ⟨?_, ?_, ?_, ?_⟩
    · intro y0 y1 y2 y3 y4 y5 y6 y7
      unfold impl_field.l0
      repeat' first
      | (with_reducible exact ih0 _ _ _ _ _ _ _ _)
      | (with_reducible exact ih1 _ _ _ _ _ _ _)
      | (with_reducible exact ih2 _ _ _ _ _ _ _ _ _)
      | (with_reducible exact ih3 _ _ _ _ _ _ _ _ _ _ _)
      | (with_reducible exact impl_near.mono _ _ _ _ _ _)
      | (with_reducible exact LeO.refl _)
      | (with_reducible exact LeO.none _)
      | (with_reducible refine LeO.ite ?_ ?_)
      | (with_reducible refine LeO.bind ?_ (fun _ => ?_))
      | exact ih0 _ _ _ _ _ _ _ _
      | exact ih1 _ _ _ _ _ _ _
      | exact ih2 _ _ _ _ _ _ _ _ _
      | exact ih3 _ _ _ _ _ _ _ _ _ _ _
      | exact impl_near.mono _ _ _ _ _ _
      | exact LeO.none _
      | refine LeO.ite ?_ ?_
      | refine LeO.bind ?_ (fun _ => ?_)
    · intro y0 y1 y2 y3 y4 y5 y6
      unfold impl_field.l1
      repeat' first
      | (with_reducible exact ih0 _ _ _ _ _ _ _ _)
      | (with_reducible exact ih1 _ _ _ _ _ _ _)
      | (with_reducible exact ih2 _ _ _ _ _ _ _ _ _)
      | (with_reducible exact ih3 _ _ _ _ _ _ _ _ _ _ _)
      | (with_reducible exact impl_near.mono _ _ _ _ _ _)
      | (with_reducible exact LeO.refl _)
      | (with_reducible exact LeO.none _)
      | (with_reducible refine LeO.ite ?_ ?_)
      | (with_reducible refine LeO.bind ?_ (fun _ => ?_))
      | exact ih0 _ _ _ _ _ _ _ _
      | exact ih1 _ _ _ _ _ _ _
      | exact ih2 _ _ _ _ _ _ _ _ _
      | exact ih3 _ _ _ _ _ _ _ _ _ _ _
      | exact impl_near.mono _ _ _ _ _ _
      | exact LeO.none _
      | refine LeO.ite ?_ ?_
      | refine LeO.bind ?_ (fun _ => ?_)
    · intro y0 y1 y2 y3 y4 y5 y6 y7 y8
      unfold impl_field.j2
      repeat' first
      | (with_reducible exact ih0 _ _ _ _ _ _ _ _)
      | (with_reducible exact ih1 _ _ _ _ _ _ _)
      | (with_reducible exact ih2 _ _ _ _ _ _ _ _ _)
      | (with_reducible exact ih3 _ _ _ _ _ _ _ _ _ _ _)
      | (with_reducible exact impl_near.mono _ _ _ _ _ _)
      | (with_reducible exact LeO.refl _)
      | (with_reducible exact LeO.none _)
      | (with_reducible refine LeO.ite ?_ ?_)
      | (with_reducible refine LeO.bind ?_ (fun _ => ?_))
      | exact ih0 _ _ _ _ _ _ _ _
      | exact ih1 _ _ _ _ _ _ _
      | exact ih2 _ _ _ _ _ _ _ _ _
      | exact ih3 _ _ _ _ _ _ _ _ _ _ _
      | exact impl_near.mono _ _ _ _ _ _
      | exact LeO.none _
      | refine LeO.ite ?_ ?_
      | refine LeO.bind ?_ (fun _ => ?_)
    · intro y0 y1 y2 y3 y4 y5 y6 y7 y8 y9 y10
      unfold impl_field.l2
      repeat' first
      | (with_reducible exact ih0 _ _ _ _ _ _ _ _)
      | (with_reducible exact ih1 _ _ _ _ _ _ _)
      | (with_reducible exact ih2 _ _ _ _ _ _ _ _ _)
      | (with_reducible exact ih3 _ _ _ _ _ _ _ _ _ _ _)
      | (with_reducible exact impl_near.mono _ _ _ _ _ _)
      | (with_reducible exact LeO.refl _)
      | (with_reducible exact LeO.none _)
      | (with_reducible refine LeO.ite ?_ ?_)
      | (with_reducible refine LeO.bind ?_ (fun _ => ?_))
      | exact ih0 _ _ _ _ _ _ _ _
      | exact ih1 _ _ _ _ _ _ _
      | exact ih2 _ _ _ _ _ _ _ _ _
      | exact ih3 _ _ _ _ _ _ _ _ _ _ _
      | exact impl_near.mono _ _ _ _ _ _
      | exact LeO.none _
      | refine LeO.ite ?_ ?_
      | refine LeO.bind ?_ (fun _ => ?_)
theorem impl_field.mono : ∀ a0 a1 a2 a3 a4 k, LeO (impl_field.f k a0 a1 a2 a3 a4) (impl_field.f (k + 1) a0 a1 a2 a3 a4) := by
  intro a0 a1 a2 a3 a4 k
  obtain ⟨ih0, ih1, ih2, ih3⟩ := impl_field.mono_l k
  unfold impl_field.f
  repeat' first
      | (with_reducible exact ih0 _ _ _ _ _ _ _ _)
      | (with_reducible exact ih1 _ _ _ _ _ _ _)
      | (with_reducible exact ih2 _ _ _ _ _ _ _ _ _)
      | (with_reducible exact ih3 _ _ _ _ _ _ _ _ _ _ _)
      | (with_reducible exact impl_near.mono _ _ _ _ _ _)
      | (with_reducible exact LeO.refl _)
      | (with_reducible exact LeO.none _)
      | (with_reducible refine LeO.ite ?_ ?_)
      | (with_reducible refine LeO.bind ?_ (fun _ => ?_))
      | exact ih0 _ _ _ _ _ _ _ _
      | exact ih1 _ _ _ _ _ _ _
      | exact ih2 _ _ _ _ _ _ _ _ _
      | exact ih3 _ _ _ _ _ _ _ _ _ _ _
      | exact impl_near.mono _ _ _ _ _ _
      | exact LeO.none _
      | refine LeO.ite ?_ ?_
      | refine LeO.bind ?_ (fun _ => ?_)
set_option maxHeartbeats 8000000 in
set_option maxRecDepth 100000 in
theorem impl_field.calls (k : Nat) (a0_0 : Int) (a0_1 : Int) (A0_2 : Option Addr) (c0_2 : Nat) (l0_2 : List Int) (a1 : Int) (a2 : Bool) (r : List Int) (w : World) (hr0_2 : Kd.C (Kd.int .i64) w A0_2 l0_2.length l0_2) (hc0_2 : l0_2.length ≤ c0_2) (h : impl_field.f k a0_0 a0_1 l0_2 a1 a2 = some r) :
    Calls Try.prog 88 #[.agg #[.int .i64 a0_0, .int .i64 a0_1, .slice A0_2 l0_2.length c0_2], .int .i64 a1, .bool a2] w fun e w' => ∃ v0_ : Value, e = .returned (v0_) ∧ Kd.R (Kd.int .i64) 3 w' w.heap.size (fun _ => True) v0_ r ∧ Below w.heap.size w w' := by
  have hu27 := Try.underlying27
  have HR0_2 := Aside0.mk hr0_2
  have HC0_2 := Aside0.mk hc0_2
  clear hr0_2 hc0_2
  have HB := Aside0.mk (Below.refl w.heap.size w)
  have H : (if 0 ≤ (l0_2.length : Int) then (if ((l0_2.length : Int) : Int).toNat ≤ 35184372088832 then ((some (List.replicate ((l0_2.length : Int) : Int).toNat 0 : List Int)).bind fun y244 => (impl_field.l0 k a1 a2 y244 (y244.length : Int) 0 a0_0 a0_1 l0_2)) else (none)) else (none)) = some r := h
  clear h
  by_cases c4 : 0 ≤ (l0_2.length : Int)
  · rw [if_pos c4] at H
    have c4b0 := eq_true c4
    have c4b1 : decide (0 ≤ (l0_2.length : Int)) = true := decide_eq_true c4
    clear c4
    by_cases c5 : ((l0_2.length : Int) : Int).toNat ≤ 35184372088832
    · rw [if_pos c5] at H
      have c5b0 := eq_true c5
      have c5b1 : decide (((l0_2.length : Int) : Int).toNat ≤ 35184372088832) = true := decide_eq_true c5
      clear c5
      obtain ⟨y244, hy244⟩ : ∃ y_ : List Int, y_ = (List.replicate ((l0_2.length : Int) : Int).toNat 0) := ⟨_, rfl⟩
      replace H : (impl_field.l0 k a1 a2 y244 (y244.length : Int) 0 a0_0 a0_1 l0_2) = some r := by first | (rw [hy244]; with_reducible exact H) | (have H2_ := (Option.bind_some _ _).symm.trans H; rw [hy244]; with_reducible exact H2_) | (have H2_ := (Option.bind_some _ _).symm.trans H; with_reducible exact H2_) | with_reducible exact H | (rw [hy244]; exact H) | exact H
      have Ny244 := Aside0.mk hy244
      clear hy244
      have H' := Aside0.mk H
      clear H
      go_enter Try.func88, Try.ntmps88
      go_wp2_with (first | ((with_reducible refine gate_dst (N := 3) rfl ?_); refine box_event ?hg (N := 3) ?hd (cs := #[.int .i64 a0_0, .int .i64 a0_1, .slice A0_2 l0_2.length c0_2]) (t := 27) ?hr ?_; (case hd => rfl); (case hg => rfl); (case hr => first | (go_simp; done) | (go_simp; rfl)); intro gb243 hg w6 hbox hb; have n0_ := Aside0.mk (below_step qz1 hb); have n1_ := Aside0.mk (hbox); have n2_ := Aside0.mk ((by rw [hg]; exact (below_size qz1) : w.heap.size ≤ gb243)); have n3_ := Aside0.mk ((by rw [hg]; exact (below_size qz1) : w.heap.size ≤ gb243)); clear HB; have HB := n0_; have BK243 := n1_; have GW243 := n2_; have GE243 := n3_; clear n0_ n1_ n2_ n3_; clear hb hbox hg; have hcz7_0 : w6.cell? ⟨gb243, 0, none⟩ = some (.int .i64 a0_0) := (blk_cell BK243.out 0).trans rfl; have hcz7_1 : w6.cell? ⟨gb243, 1, none⟩ = some (.int .i64 a0_1) := (blk_cell BK243.out 1).trans rfl; have hcz7_2 : w6.cell? ⟨gb243, 2, none⟩ = some (.slice A0_2 l0_2.length c0_2) := (blk_cell BK243.out 2).trans rfl; have hfz7_0 := blk_frozen BK243.out 0; have hfz7_1 := blk_frozen BK243.out 1; have hfz7_2 := blk_frozen BK243.out 2) | ((with_reducible refine gate_dst (N := 16) rfl ?_); refine Kd.R_make (Kd.int .i64) _ 3 rfl (N := 16) rfl 22 _ _ rfl (l0_2.length : Int) rfl rfl Try.underlying22 (.int .i64 0) 8 info3 rfl (by decide) (by omega) 0 (ok := fun _ => True) (okp := fun _ => True) rfl (fun _ hk => hk) trivial (of_decide_eq_true qz3) (Nat.le_trans (Nat.mul_le_mul_right _ (of_decide_eq_true qz3 : (l0_2.length : Int).toNat ≤ 35184372088832)) (by omega)) (Below.refl _ _) (Nat.le_refl _) ?_; intro v245 w8 ho9 hb hg_ hnew_; clear hg_ hnew_; (first | rw [← Ny244.out] at ho9 | (simp only [Int.reduceToNat] at ho9; rw [← Ny244.out] at ho9)); have n0_ := Aside0.mk (Kd.R_lower ho9 (below_size (by repeat (first | (with_reducible first | exact HB.out | apply below_alloc | apply pw_below_drewN | apply below_drew1 | refine below_set ?_ GE243.out) | exact HB.out)))); have n1_ := Aside0.mk (blk_below (g := gb243) (o := .cells #[.int .i64 a0_0, .int .i64 a0_1, .slice A0_2 l0_2.length c0_2] 27 (0, 0)) (by (with_reducible repeat (first | refine blk_drewN ?_ _ | refine blk_drew ?_ | refine blk_alloc ?_ _)); exact BK243.out) hb); have n2_ := Aside0.mk (below_step (by repeat (first | (with_reducible first | exact HB.out | apply below_alloc | apply pw_below_drewN | apply below_drew1 | refine below_set ?_ GE243.out) | exact HB.out)) hb); clear BK243; clear HB; have HO246 := n0_; have BK243 := n1_; have HB := n2_; clear n0_ n1_ n2_; clear hb ho9; obtain ⟨Ao10, co10, eo10⟩ := Kd.R_slice HO246.out; subst eo10))
      go_loopg [19] k (fun kq v19 w' => ∃ (x7_1 : List Int) (x19_1 : Int), v19 = .int .i64 x19_1 ∧ Aside0 (impl_field.l0 kq a1 a2 x7_1 (y244.length : Int) x19_1 a0_0 a0_1 l0_2 = some r) ∧ Aside0 (kq ≤ k) ∧ Aside0 (Kd.R (Kd.int .i64) 3 w' w.heap.size (fun _ => True) (.slice Ao10 y244.length co10) x7_1) ∧ Aside0 (w'.heap[gb243]? = some (.cells #[.int .i64 a0_0, .int .i64 a0_1, (.slice A0_2 l0_2.length c0_2)] 27 (0, 0))) ∧ Aside0 (Below w.heap.size w w'))
      case atStart => exact ⟨(y244), (0), qz5, H', ⟨Nat.le_refl _⟩, ⟨by (with_reducible repeat (first | apply Kd.R_alloc | apply Kd.R_drewN | apply Kd.R_drew)); exact HO246.out⟩, ⟨by (with_reducible repeat (first | refine blk_drewN ?_ _ | refine blk_drew ?_ | refine blk_alloc ?_ _)); exact BK243.out⟩, ⟨by repeat (first | (with_reducible first | exact HB.out | apply below_alloc | apply pw_below_drewN | apply below_drew1 | refine below_set ?_ GE243.out) | exact HB.out)⟩⟩
      case round =>
        clear H'
        try clear p2
        try clear c4
        try clear c4b0
        try clear c4b1
        try clear c5
        try clear c5b0
        try clear c5b1
        try clear c8
        try clear hcz7_0
        try clear hcz7_1
        try clear hcz7_2
        try clear hfz7_0
        try clear hfz7_1
        try clear hfz7_2
        obtain ⟨x7_1, x19_1, rfl, HA, HK1, HO_7, BK243, HB⟩ := hrel
        have hl7_1 := (Kd.R_reads' HO_7.out).1
        rw [hl7_1] at HO_7
        (try simp only [hl7_1])
        (try simp only [hl7_1] at BK243)
        cases gk with
        | zero => exact absurd HA.out (by simp [impl_field.l0])
        | succ k1 =>
          have H := HA.out
          clear HA
          simp only [impl_field.l0] at H
          by_cases c11 : x19_1 < (y244.length : Int)
          · rw [if_pos c11] at H
            have c11b0 : decide (x19_1 < (y244.length : Int)) = true := decide_eq_true c11
            (try (have c11b0q7_1 := c11b0; simp only [hl7_1] at c11b0q7_1))
            clear c11
            by_cases c12 : 0 ≤ x19_1
            · rw [if_pos c12] at H
              have c12b0 : decide (0 ≤ x19_1) = true := decide_eq_true c12
              clear c12
              by_cases c13 : x19_1 < (x7_1.length : Int)
              · rw [if_pos c13] at H
                have c13b0 : decide (x19_1 < (x7_1.length : Int)) = true := decide_eq_true c13
                (try (have c13b0q7_1 := c13b0; simp only [hl7_1] at c13b0q7_1))
                clear c13
                obtain ⟨y247, hy247⟩ : ∃ y_ : List Int, y_ = (x7_1.set (x19_1 : Int).toNat (-1)) := ⟨_, rfl⟩
                replace H : (impl_field.l0 k1 a1 a2 y247 (y244.length : Int) (wrap64 (x19_1 + 1)) a0_0 a0_1 l0_2) = some r := by first | (rw [hy247]; with_reducible exact H) | (have H2_ := (Option.bind_some _ _).symm.trans H; rw [hy247]; with_reducible exact H2_) | (have H2_ := (Option.bind_some _ _).symm.trans H; with_reducible exact H2_) | with_reducible exact H | (rw [hy247]; exact H) | exact H
                have Ny247 := Aside0.mk hy247
                clear hy247
                have H' := Aside0.mk H
                clear H
                have p14 : 0 ≤ (x19_1 : Int) := of_decide_eq_true qz3
                have q14 : (x19_1 : Int) < ((x7_1.length : Int) : Int) := of_decide_eq_true qz3
                obtain ⟨go14, co14, eo14, gb14, gl14, cl14, HG14⟩ := Kd.R_form HO_7.out (by omega)
                (first | cases eo14 | (injection eo14 with ea_ en_ ec_; (first | subst ea_ | (injection ea_ with ea_; subst ea_)); subst ec_; clear en_))
                have GB14 := Aside0.mk gb14
                have GG14 := Aside0.mk HG14
                clear gb14 gl14 HG14
                obtain ⟨hx14_0, hf14_0⟩ := Kd.R_celln 0 HO_7.out (x19_1 : Int) p14 q14
                replace p14 := eq_true p14
                replace q14 := eq_true q14
                have HP15 := Kd.R_putg HO_7.out (x19_1 : Int) (-1)
                go_wp2_with (first | ((with_reducible refine gate_store (t := 3) (p := 24) rfl ?_); refine store_event (t := 3) (p := 24) (v := ?vo_w16) (w1 := (wr.setCell ⟨go14, (x19_1 : Int).toNat, none⟩ (.int .i64 (-1)))) ?hg ?ho ?hn ?hr ?_; (case ho => rfl); (case hg => rfl); (case hn => rfl); (case hr => first | (go_simp; done) | (go_simp; rfl)); intro w16 hw; have hg : wr.grownBy w16 (some go14) := (by rw [hw]; exact HP15.2); have hp_ : Kd.R (Kd.int .i64) 3 w16 w.heap.size (fun _ => True) (.slice (some ⟨go14, 0, none⟩) x7_1.length co10) y247 := (by rw [hw, Ny247.out]; exact HP15.1); clear HP15; have n0_ := Aside0.mk (hp_); have n1_ := Aside0.mk (blk_grown (g := gb243) (o := .cells #[.int .i64 a0_0, .int .i64 a0_1, .slice A0_2 l0_2.length c0_2] 27 (0, 0)) (by (with_reducible repeat (first | refine blk_drewN ?_ _ | refine blk_drew ?_ | refine blk_alloc ?_ _)); exact BK243.out) hg (Kd.R_ne HO_7.out BK243.out (by decide))); have n2_ := Aside0.mk ((by rw [hw]; exact below_set (HB.out) GB14.out : Below w.heap.size w w16)); clear HO_7; clear BK243; clear HB; have HO_7 := n0_; have BK243 := n1_; have HB := n2_; clear n0_ n1_ n2_; clear hg hw hp_))
                (try simp only [← hl7_1])
                go_roundg k1
                case measure => have := HK1.out; omega
                case rel => exact ⟨(y247), (wrap64 (x19_1 + 1)), qz5, H', ⟨by have := HK1.out; omega⟩, ⟨by (try simp only [hl7_1]); (with_reducible repeat (first | apply Kd.R_alloc | apply Kd.R_drewN | apply Kd.R_drew)); exact HO_7.out⟩, ⟨by (try simp only [hl7_1]); (with_reducible repeat (first | refine blk_drewN ?_ _ | refine blk_drew ?_ | refine blk_alloc ?_ _)); exact BK243.out⟩, ⟨by repeat (first | (with_reducible first | exact HB.out | apply below_alloc | apply pw_below_drewN | apply below_drew1 | refine below_set ?_ GE243.out) | exact HB.out)⟩⟩
              · rw [if_neg c13] at H
                exact absurd H (by simp)
            · rw [if_neg c12] at H
              exact absurd H (by simp)
          · rw [if_neg c11] at H
            have c11b0 : decide (x19_1 < (y244.length : Int)) = false := decide_eq_false c11
            (try (have c11b0q7_1 := c11b0; simp only [hl7_1] at c11b0q7_1))
            clear c11
            by_cases c17 : 0 ≤ a1
            · rw [if_pos c17] at H
              have c17b0 : decide (0 ≤ a1) = true := decide_eq_true c17
              clear c17
              by_cases c18 : a1 < (x7_1.length : Int)
              · rw [if_pos c18] at H
                have c18b0 : decide (a1 < (x7_1.length : Int)) = true := decide_eq_true c18
                (try (have c18b0q7_1 := c18b0; simp only [hl7_1] at c18b0q7_1))
                clear c18
                obtain ⟨y248, hy248⟩ : ∃ y_ : List Int, y_ = (x7_1.set (a1 : Int).toNat 0) := ⟨_, rfl⟩
                replace H : (impl_field.l1 k1 a1 a2 y248 (([a1] : List Int)) a0_0 a0_1 l0_2) = some r := by first | (rw [hy248]; with_reducible exact H) | (have H2_ := (Option.bind_some _ _).symm.trans H; rw [hy248]; with_reducible exact H2_) | (have H2_ := (Option.bind_some _ _).symm.trans H; with_reducible exact H2_) | with_reducible exact H | (rw [hy248]; exact H) | exact H
                have Ny248 := Aside0.mk hy248
                clear hy248
                obtain ⟨y249, hy249⟩ : ∃ y_ : List Int, y_ = (([a1] : List Int)) := ⟨_, rfl⟩
                replace H : (impl_field.l1 k1 a1 a2 y248 y249 a0_0 a0_1 l0_2) = some r := by first | (rw [hy249]; with_reducible exact H) | (have H2_ := (Option.bind_some _ _).symm.trans H; rw [hy249]; with_reducible exact H2_) | (have H2_ := (Option.bind_some _ _).symm.trans H; with_reducible exact H2_) | with_reducible exact H | (rw [hy249]; exact H) | exact H
                have Ny249 := Aside0.mk hy249
                clear hy249
                have H' := Aside0.mk H
                clear H
                have p19 : 0 ≤ (a1 : Int) := of_decide_eq_true qz3
                have q19 : (a1 : Int) < ((x7_1.length : Int) : Int) := of_decide_eq_true qz3
                obtain ⟨go19, co19, eo19, gb19, gl19, cl19, HG19⟩ := Kd.R_form HO_7.out (by omega)
                (first | cases eo19 | (injection eo19 with ea_ en_ ec_; (first | subst ea_ | (injection ea_ with ea_; subst ea_)); subst ec_; clear en_))
                have GB19 := Aside0.mk gb19
                have GG19 := Aside0.mk HG19
                clear gb19 gl19 HG19
                obtain ⟨hx19_0, hf19_0⟩ := Kd.R_celln 0 HO_7.out (a1 : Int) p19 q19
                replace p19 := eq_true p19
                replace q19 := eq_true q19
                have HP20 := Kd.R_putg HO_7.out (a1 : Int) 0
                go_wp2_with (first | ((with_reducible refine gate_store (t := 3) (p := 28) rfl ?_); refine store_event (t := 3) (p := 28) (v := ?vo_w21) (w1 := (wr.setCell ⟨go19, (a1 : Int).toNat, none⟩ (.int .i64 0))) ?hg ?ho ?hn ?hr ?_; (case ho => rfl); (case hg => rfl); (case hn => rfl); (case hr => first | (go_simp; done) | (go_simp; rfl)); intro w21 hw; have hg : wr.grownBy w21 (some go19) := (by rw [hw]; exact HP20.2); have hp_ : Kd.R (Kd.int .i64) 3 w21 w.heap.size (fun _ => True) (.slice (some ⟨go19, 0, none⟩) x7_1.length co10) y248 := (by rw [hw, Ny248.out]; exact HP20.1); clear HP20; have n0_ := Aside0.mk (hp_); have n1_ := Aside0.mk (blk_grown (g := gb243) (o := .cells #[.int .i64 a0_0, .int .i64 a0_1, .slice A0_2 l0_2.length c0_2] 27 (0, 0)) (by (with_reducible repeat (first | refine blk_drewN ?_ _ | refine blk_drew ?_ | refine blk_alloc ?_ _)); exact BK243.out) hg (Kd.R_ne HO_7.out BK243.out (by decide))); have n2_ := Aside0.mk ((by rw [hw]; exact below_set (HB.out) GB19.out : Below w.heap.size w w21)); clear HO_7; clear BK243; clear HB; have HO_7 := n0_; have BK243 := n1_; have HB := n2_; clear n0_ n1_ n2_; clear hg hw hp_) | ((with_reducible refine gate_dst (N := 30) rfl ?_); refine Kd.R_lit (Kd.int .i64) _ 3 ?hg (N := 30) ?hd (xs := ([a1] : List Int)) (inner := [.int .i64 a1]) (ok := fun _ => True) (okp := fun _ => True) ?hr ?hp (fun _ hk => hk) trivial (Below.refl _ _) (Nat.le_refl _) (by simp) ?_; (case hd => rfl); (case hg => rfl); (case hr => first | (go_simp; done) | (go_simp; rfl)); (case hp => exact (Reps.one (show Kd.M (Kd.int .i64) _ _ _ a1 [.int .i64 a1] from rfl) (Reps.none _ _))); intro v250 w22 ho23 hb hg_ hnew_; clear hg_ hnew_; (first | rw [← Ny249.out] at ho23 | (simp only [Int.reduceToNat] at ho23; rw [← Ny249.out] at ho23)); have n0_ := Aside0.mk (Kd.R_elder' qz16 (Kd.R_base ho23) hb); have n1_ := Aside0.mk (Kd.R_lower (Kd.R_new' ho23 (Kd.R_lt qz16)) (below_size (by repeat (first | (with_reducible first | exact HB.out | apply below_alloc | apply pw_below_drewN | apply below_drew1 | refine below_set ?_ GE243.out) | exact HB.out)))); have n2_ := Aside0.mk (blk_below (g := gb243) (o := .cells #[.int .i64 a0_0, .int .i64 a0_1, .slice A0_2 l0_2.length c0_2] 27 (0, 0)) (by (with_reducible repeat (first | refine blk_drewN ?_ _ | refine blk_drew ?_ | refine blk_alloc ?_ _)); exact BK243.out) hb); have n3_ := Aside0.mk (below_step (by repeat (first | (with_reducible first | exact HB.out | apply below_alloc | apply pw_below_drewN | apply below_drew1 | refine below_set ?_ GE243.out) | exact HB.out)) hb); clear HO_7; clear BK243; clear HB; have HO_7 := n0_; have HO251 := n1_; have BK243 := n2_; have HB := n3_; clear n0_ n1_ n2_ n3_; clear hb ho23))
                go_loopg [9] k1 (fun kq v9 w' => ∃ (x7_2 : List Int) (x9_2 : List Int), Aside0 (impl_field.l1 kq a1 a2 x7_2 x9_2 a0_0 a0_1 l0_2 = some r) ∧ Aside0 (kq ≤ k1) ∧ Aside0 (Kd.R (Kd.int .i64) 3 w' w.heap.size (fun k_ => some k_ ≠ (v9 : Value).ownBlock) (.slice (some ⟨go19, 0, none⟩) x7_1.length co10) x7_2) ∧ Aside0 (Kd.Q (Kd.int .i64) 3 w' w.heap.size (fun k_ => some k_ ≠ ((.slice (some ⟨go19, 0, none⟩) x7_1.length co10) : Value).ownBlock) v9 x9_2) ∧ Aside0 (w'.heap[gb243]? = some (.cells #[.int .i64 a0_0, .int .i64 a0_1, (.slice A0_2 l0_2.length c0_2)] 27 (0, 0))) ∧ Aside0 (Below w.heap.size w w'))
                case atStart => exact ⟨(y248), (y249), H', ⟨Nat.le_refl _⟩, ⟨by (try simp only [hl7_1]); (with_reducible repeat (first | apply Kd.R_alloc | apply Kd.R_drewN | apply Kd.R_drew)); exact Kd.R_mono HO_7.out (fun _ hk => hk.2)⟩, ⟨Kd.Q_of_R (by (try simp only [hl7_1]); (with_reducible repeat (first | apply Kd.R_alloc | apply Kd.R_drewN | apply Kd.R_drew)); exact Kd.R_mono HO251.out (fun _ hk => hk.2))⟩, ⟨by (try simp only [hl7_1]); (with_reducible repeat (first | refine blk_drewN ?_ _ | refine blk_drew ?_ | refine blk_alloc ?_ _)); exact BK243.out⟩, ⟨by repeat (first | (with_reducible first | exact HB.out | apply below_alloc | apply pw_below_drewN | apply below_drew1 | refine below_set ?_ GE243.out) | exact HB.out)⟩⟩
                case round =>
                  clear H'
                  try clear c1
                  try clear p1
                  try clear q1
                  try clear hx1
                  try clear p2
                  try clear c4
                  try clear c4b0
                  try clear c4b1
                  try clear c5
                  try clear c5b0
                  try clear c5b1
                  try clear p6
                  try clear c8
                  try clear c11
                  try clear c11b0
                  try clear c12
                  try clear c12b0
                  try clear c13
                  try clear c13b0
                  try clear p14
                  try clear q14
                  try clear hx14
                  try clear hf14
                  try clear c17
                  try clear c17b0
                  try clear c18
                  try clear c18b0
                  try clear p19
                  try clear q19
                  try clear hx19
                  try clear hf19
                  try clear hcz7_0
                  try clear hcz7_1
                  try clear hcz7_2
                  try clear hfz7_0
                  try clear hfz7_1
                  try clear hfz7_2
                  try clear hx14_0
                  try clear hx19_0
                  try clear p14
                  try clear p19
                  try clear p2
                  try clear q14
                  try clear q19
                  obtain ⟨x7_2, x9_2, HA, HK2, HO_7, HO_9, BK243, HB⟩ := hrel
                  have hl7_2 := (Kd.R_reads' HO_7.out).1
                  rw [hl7_2] at HO_7
                  (try simp only [hl7_2])
                  (try simp only [hl7_2] at BK243)
                  (try simp only [hl7_2] at HO_9)
                  cases gk with
                  | zero => exact absurd HA.out (by simp [impl_field.l1])
                  | succ k2 =>
                    have H := HA.out
                    clear HA
                    simp only [impl_field.l1] at H
                    by_cases c24 : (x9_2.length : Int) > 0
                    · rw [if_pos c24] at H
                      have c24b0 : decide (0 < (x9_2.length : Int)) = true := decide_eq_true c24
                      (try (have c24b0q7_1 := c24b0; simp only [hl7_1] at c24b0q7_1))
                      (try (have c24b0q7_2 := c24b0; simp only [hl7_2] at c24b0q7_2))
                      have c24b1 : decide (0 < x9_2.length) = true := decide_eq_true (by omega)
                      (try (have c24b1q7_1 := c24b1; simp only [hl7_1] at c24b1q7_1))
                      (try (have c24b1q7_2 := c24b1; simp only [hl7_2] at c24b1q7_2))
                      clear c24
                      by_cases c25 : 0 < (x9_2.length : Int)
                      · rw [if_pos c25] at H
                        have c25b0 : decide (0 < (x9_2.length : Int)) = true := decide_eq_true c25
                        (try (have c25b0q7_1 := c25b0; simp only [hl7_1] at c25b0q7_1))
                        (try (have c25b0q7_2 := c25b0; simp only [hl7_2] at c25b0q7_2))
                        have c25b1 : decide (0 < x9_2.length) = true := decide_eq_true (by omega)
                        (try (have c25b1q7_1 := c25b1; simp only [hl7_1] at c25b1q7_1))
                        (try (have c25b1q7_2 := c25b1; simp only [hl7_2] at c25b1q7_2))
                        clear c25
                        by_cases c26 : 1 ≤ (x9_2.length : Int)
                        · rw [if_pos c26] at H
                          have c26b0 := eq_true c26
                          have c26b1 : decide (1 ≤ (x9_2.length : Int)) = true := decide_eq_true c26
                          (try (have c26b1q7_1 := c26b1; simp only [hl7_1] at c26b1q7_1))
                          (try (have c26b1q7_2 := c26b1; simp only [hl7_2] at c26b1q7_2))
                          clear c26
                          obtain ⟨y253, hy253⟩ : ∃ y_ : List Int, y_ = (x9_2.drop (1 : Int).toNat) := ⟨_, rfl⟩
                          replace H : (if a2 = true then (if (rd x9_2 0) = a1 then (impl_field.j2 k2 a1 a2 x7_2 y253 (rd x9_2 0) false a0_0 a0_1 l0_2) else (if 0 ≤ (rd x9_2 0) then (if (rd x9_2 0) < (l0_2.length : Int) then (impl_field.j2 k2 a1 a2 x7_2 y253 (rd x9_2 0) ((rd l0_2 (rd x9_2 0)) == 2) a0_0 a0_1 l0_2) else (none)) else (none))) else (impl_field.j2 k2 a1 a2 x7_2 y253 (rd x9_2 0) false a0_0 a0_1 l0_2)) = some r := by first | (rw [hy253]; with_reducible exact H) | (have H2_ := (Option.bind_some _ _).symm.trans H; rw [hy253]; with_reducible exact H2_) | (have H2_ := (Option.bind_some _ _).symm.trans H; with_reducible exact H2_) | with_reducible exact H | (rw [hy253]; exact H) | exact H
                          have Ny253 := Aside0.mk hy253
                          clear hy253
                          have HC27 := Aside0.mk H
                          clear H
                          obtain ⟨Ao28, co28, eo28, _⟩ := Kd.Q_slice HO_9.out
                          subst eo28
                          have p252 : 0 ≤ (0 : Int) := (by omega)
                          have q252 : 0 < (x9_2.length : Int) := of_decide_eq_true qz3
                          obtain ⟨ad252, e252, hx252_0⟩ := Kd.at_int (Kd.Q_reads' HO_9.out).2.2 0 p252 q252
                          cases e252
                          have qi252 : (0 < x9_2.length) = True := eq_true (by omega)
                          (try rw [show ((0 : Int)).toNat = 0 from rfl] at hx252_0)
                          (try rw [Addr.add_zero'] at hx252_0)
                          replace p252 := eq_true p252
                          replace q252 := eq_true q252
                          have q29 : (1 : Int) ≤ ((x9_2.length : Int) : Int) := of_decide_eq_true qz3
                          obtain ⟨i029, hi029, _, hsz29, _⟩ := info_parts info3
                          have hcut29 := cut_from (P := Try.prog) 22 3 .i64 Try.underlying22 hi029 1 hsz29 (some ad252) x9_2.length co28 1 (by omega) q29
                          have hr29 := Kd.Q_drop (k := (1 : Int).toNat) HO_9.out (by omega)
                          obtain ⟨A29, hA29⟩ : ∃ A1, A1 = (if co28 = (1 : Int).toNat then (some ad252) else ((some ad252) : Option Addr).map (·.add ((1 : Int).toNat * 1))) := ⟨_, rfl⟩
                          obtain ⟨c29, hc29⟩ : ∃ c1, c1 = co28 - (1 : Int).toNat := ⟨_, rfl⟩
                          have hy29 : y253.length = x9_2.length - (1 : Int).toNat := (by rw [Ny253.out, List.length_drop])
                          rw [← Ny253.out] at hr29
                          rw [← hy29, ← hA29, ← hc29] at hcut29
                          replace hr29 : Kd.Q (Kd.int .i64) 3 wr w.heap.size (fun k_ => some k_ ≠ (.slice (some ⟨go19, 0, none⟩) x7_2.length co10 : Value).ownBlock) (.slice A29 y253.length c29) y253 := (by rw [hA29, hc29, hy29]; exact hr29)
                          have HE29 : Aside0 ((Value.slice A29 y253.length c29).ownBlock = (.slice (some ad252) x9_2.length co28 : Value).ownBlock) := ⟨by rw [hA29]; split <;> (cases ((some ad252) : Option Addr) <;> rfl)⟩
                          clear hy29 hi029 hsz29 HO_9 hA29 hc29
                          have HO255 := Aside0.mk hr29
                          clear hr29
                          replace q29 := eq_true q29
                          have n_ := Aside0.mk (Kd.R_mono (ok' := fun k_ => some k_ ≠ (.slice A29 y253.length c29 : Value).ownBlock) HO_7.out (fun k_ hk => (by rw [HE29.out]; exact hk)))
                          clear HO_7
                          have HO_7 := n_
                          clear n_
                          go_upto_region 12 with (fail)
                          go_cut [52] (fun v52 wc => ∃ (kq : Nat) (x52_26 : Bool), v52 = .bool x52_26 ∧ Aside0 (impl_field.j2 kq a1 a2 x7_2 y253 (rd x9_2 0) x52_26 a0_0 a0_1 l0_2 = some r) ∧ Aside0 (kq ≤ k2) ∧ Aside0 (Kd.R (Kd.int .i64) 3 wc w.heap.size (fun k_ => some k_ ≠ ((.slice A29 y253.length c29) : Value).ownBlock) (.slice (some ⟨go19, 0, none⟩) x7_2.length co10) x7_2) ∧ Aside0 (Kd.Q (Kd.int .i64) 3 wc w.heap.size (fun k_ => some k_ ≠ ((.slice (some ⟨go19, 0, none⟩) x7_2.length co10) : Value).ownBlock) (.slice A29 y253.length c29) y253) ∧ Aside0 (wc.heap[gb243]? = some (.cells #[.int .i64 a0_0, .int .i64 a0_1, (.slice A0_2 l0_2.length c0_2)] 27 (0, 0))) ∧ Aside0 (Below w.heap.size w wc))
                          case first =>
                            have H := HC27.out
                            clear HC27
                            by_cases c30 : a2 = true
                            · subst c30
                              have H1 : (if (rd x9_2 0) = a1 then (impl_field.j2 k2 a1 true x7_2 y253 (rd x9_2 0) false a0_0 a0_1 l0_2) else (if 0 ≤ (rd x9_2 0) then (if (rd x9_2 0) < (l0_2.length : Int) then (impl_field.j2 k2 a1 true x7_2 y253 (rd x9_2 0) ((rd l0_2 (rd x9_2 0)) == 2) a0_0 a0_1 l0_2) else (none)) else (none))) = some r := by rw [if_pos rfl] at H; exact H
                              clear H
                              have H := H1
                              clear H1
                              by_cases c31 : (rd x9_2 0) = a1
                              · rw [if_pos c31] at H
                                have c31b0 : ((rd x9_2 0) == a1) = true := beq_iff_eq.mpr c31
                                have c31b1 : ((rd x9_2 0) != a1) = false := bne_eq_false_iff_eq.mpr c31
                                clear c31
                                (first | rw [c31b0] | (simp only [i64_w, i32_w]; rw [c31b0]) | rw [@decide_eq_true _ _ (of_decide_eq_true c31b0)] | rw [@decide_eq_true _ _ (of_decide_eq_true c31b1)] | skip)
                                have H' := Aside0.mk H
                                clear H
                                go_wp2
                                go_meet
                                case rel => exact ⟨_, (false), qz5, H', ⟨by have := HK1.out; have := HK2.out; first | omega | exact Nat.le_refl _⟩, ⟨by (try simp only [hl7_1]); (try simp only [hl7_2]); (with_reducible repeat (first | apply Kd.R_alloc | apply Kd.R_drewN | apply Kd.R_drew)); exact HO_7.out⟩, ⟨by (try simp only [hl7_1]); (try simp only [hl7_2]); (with_reducible repeat (first | apply Kd.Q_alloc | apply Kd.Q_drewN | apply Kd.Q_drew)); exact HO255.out⟩, ⟨by (try simp only [hl7_1]); (try simp only [hl7_2]); (with_reducible repeat (first | refine blk_drewN ?_ _ | refine blk_drew ?_ | refine blk_alloc ?_ _)); exact BK243.out⟩, ⟨by repeat (first | (with_reducible first | exact HB.out | apply below_alloc | apply pw_below_drewN | apply below_drew1 | refine below_set ?_ GE243.out) | exact HB.out)⟩⟩
                              · rw [if_neg c31] at H
                                have c31b0 : ((rd x9_2 0) == a1) = false := beq_eq_false_iff_ne.mpr c31
                                have c31b1 : ((rd x9_2 0) != a1) = true := bne_iff_ne.mpr c31
                                (first | rw [c31b0] | (simp only [i64_w, i32_w]; rw [c31b0]) | rw [@decide_eq_false _ _ (of_decide_eq_false c31b0)] | rw [@decide_eq_false _ _ (of_decide_eq_false c31b1)] | skip)
                                by_cases c32 : 0 ≤ (rd x9_2 0)
                                · rw [if_pos c32] at H
                                  have c32b0 : decide (0 ≤ (rd x9_2 0)) = true := decide_eq_true c32
                                  clear c32
                                  by_cases c33 : (rd x9_2 0) < (l0_2.length : Int)
                                  · rw [if_pos c33] at H
                                    have c33b0 : decide ((rd x9_2 0) < (l0_2.length : Int)) = true := decide_eq_true c33
                                    (try (have c33b0q7_1 := c33b0; simp only [hl7_1] at c33b0q7_1))
                                    (try (have c33b0q7_2 := c33b0; simp only [hl7_2] at c33b0q7_2))
                                    clear c33
                                    have H' := Aside0.mk H
                                    clear H
                                    have hcz34_0 : wr.cell? ⟨gb243, 0, none⟩ = some (.int .i64 a0_0) := (blk_cell BK243.out 0).trans rfl
                                    have hcz34_1 : wr.cell? ⟨gb243, 1, none⟩ = some (.int .i64 a0_1) := (blk_cell BK243.out 1).trans rfl
                                    have hcz34_2 : wr.cell? ⟨gb243, 2, none⟩ = some (.slice A0_2 l0_2.length c0_2) := (blk_cell BK243.out 2).trans rfl
                                    have hfz34_0 := blk_frozen BK243.out 0
                                    have hfz34_1 := blk_frozen BK243.out 1
                                    have hfz34_2 := blk_frozen BK243.out 2
                                    have p256 : 0 ≤ ((rd x9_2 0) : Int) := of_decide_eq_true qz3
                                    have q256 : (rd x9_2 0) < (l0_2.length : Int) := of_decide_eq_true qz3
                                    obtain ⟨ad256, e256, hx256_0⟩ := Kd.at_int HR0_2.out (rd x9_2 0) p256 q256
                                    cases e256
                                    replace hx256_0 := (HB.out.cell (World.block_lt_of_cell? w _ hx256_0)).trans hx256_0
                                    replace p256 := eq_true p256
                                    replace q256 := eq_true q256
                                    go_wp2
                                    go_meet
                                    case rel => exact ⟨_, (((rd l0_2 (rd x9_2 0)) == 2)), qz5, H', ⟨by have := HK1.out; have := HK2.out; first | omega | exact Nat.le_refl _⟩, ⟨by (try simp only [hl7_1]); (try simp only [hl7_2]); (with_reducible repeat (first | apply Kd.R_alloc | apply Kd.R_drewN | apply Kd.R_drew)); exact HO_7.out⟩, ⟨by (try simp only [hl7_1]); (try simp only [hl7_2]); (with_reducible repeat (first | apply Kd.Q_alloc | apply Kd.Q_drewN | apply Kd.Q_drew)); exact HO255.out⟩, ⟨by (try simp only [hl7_1]); (try simp only [hl7_2]); (with_reducible repeat (first | refine blk_drewN ?_ _ | refine blk_drew ?_ | refine blk_alloc ?_ _)); exact BK243.out⟩, ⟨by repeat (first | (with_reducible first | exact HB.out | apply below_alloc | apply pw_below_drewN | apply below_drew1 | refine below_set ?_ GE243.out) | exact HB.out)⟩⟩
                                  · rw [if_neg c33] at H
                                    exact absurd H (by simp)
                                · rw [if_neg c32] at H
                                  exact absurd H (by simp)
                            · replace c30 := Bool.eq_false_iff.mpr c30
                              subst c30
                              have H1 : (impl_field.j2 k2 a1 false x7_2 y253 (rd x9_2 0) false a0_0 a0_1 l0_2) = some r := by rw [if_neg (show ¬ (false = true) by decide)] at H; exact H
                              clear H
                              have H := H1
                              clear H1
                              have H' := Aside0.mk H
                              clear H
                              go_wp2
                              go_meet
                              case rel => exact ⟨_, (false), qz5, H', ⟨by have := HK1.out; have := HK2.out; first | omega | exact Nat.le_refl _⟩, ⟨by (try simp only [hl7_1]); (try simp only [hl7_2]); (with_reducible repeat (first | apply Kd.R_alloc | apply Kd.R_drewN | apply Kd.R_drew)); exact HO_7.out⟩, ⟨by (try simp only [hl7_1]); (try simp only [hl7_2]); (with_reducible repeat (first | apply Kd.Q_alloc | apply Kd.Q_drewN | apply Kd.Q_drew)); exact HO255.out⟩, ⟨by (try simp only [hl7_1]); (try simp only [hl7_2]); (with_reducible repeat (first | refine blk_drewN ?_ _ | refine blk_drew ?_ | refine blk_alloc ?_ _)); exact BK243.out⟩, ⟨by repeat (first | (with_reducible first | exact HB.out | apply below_alloc | apply pw_below_drewN | apply below_drew1 | refine below_set ?_ GE243.out) | exact HB.out)⟩⟩
                          case rest =>
                            clear HC27
                            try clear c1
                            try clear p1
                            try clear q1
                            try clear hx1
                            try clear c2
                            try clear p2
                            try clear q2
                            try clear hx2
                            try clear qi2
                            try clear c3
                            try clear c4
                            try clear c4b0
                            try clear c4b1
                            try clear c5
                            try clear c5b0
                            try clear c5b1
                            try clear p6
                            try clear c8
                            try clear c11
                            try clear c11b0
                            try clear c12
                            try clear c12b0
                            try clear c13
                            try clear c13b0
                            try clear p14
                            try clear q14
                            try clear hx14
                            try clear hf14
                            try clear c17
                            try clear c17b0
                            try clear c18
                            try clear c18b0
                            try clear p19
                            try clear q19
                            try clear hx19
                            try clear hf19
                            try clear c24
                            try clear c24b0
                            try clear c24b1
                            try clear c25
                            try clear c25b0
                            try clear c25b1
                            try clear p25
                            try clear q25
                            try clear hx25
                            try clear qi25
                            try clear c26
                            try clear c26b0
                            try clear c26b1
                            try clear c29
                            try clear q29
                            try clear c30
                            try clear c31
                            try clear c31b0
                            try clear c31b1
                            try clear c32
                            try clear c32b0
                            try clear c33
                            try clear c33b0
                            try clear hcz34_0
                            try clear hcz34_1
                            try clear hcz34_2
                            try clear hcz7_0
                            try clear hcz7_1
                            try clear hcz7_2
                            try clear hfz34_0
                            try clear hfz34_1
                            try clear hfz34_2
                            try clear hfz7_0
                            try clear hfz7_1
                            try clear hfz7_2
                            try clear hx14_0
                            try clear hx19_0
                            try clear hx252_0
                            try clear hx256_0
                            try clear p1
                            try clear p14
                            try clear p19
                            try clear p2
                            try clear p252
                            try clear p256
                            try clear p6
                            try clear q1
                            try clear q14
                            try clear q19
                            try clear q252
                            try clear q256
                            try clear q29
                            obtain ⟨kq, x52_26, rfl, HA, HJ26, HO_7, HO_9, BK243, HB⟩ := hcut
                            cases kq with
                            | zero => exact absurd HA.out (by simp [impl_field.j2])
                            | succ kj26 =>
                              have H := HA.out
                              clear HA
                              simp only [impl_field.j2] at H
                              by_cases c35 : x52_26 = true
                              · subst c35
                                have H1 : (impl_field.l1 kj26 a1 a2 x7_2 y253 a0_0 a0_1 l0_2) = some r := by rw [if_pos rfl] at H; exact H
                                clear H
                                have H := H1
                                clear H1
                                have H' := Aside0.mk H
                                clear H
                                go_wp2
                                (try simp only [← hl7_2])
                                go_roundg kj26
                                case measure => have := HK1.out; have := HK2.out; have := HJ26.out; omega
                                case rel => exact ⟨(x7_2), (y253), H', ⟨by have := HK1.out; have := HK2.out; have := HJ26.out; omega⟩, ⟨by (try simp only [hl7_1]); (try simp only [hl7_2]); (with_reducible repeat (first | apply Kd.R_alloc | apply Kd.R_drewN | apply Kd.R_drew)); exact HO_7.out⟩, ⟨by (try simp only [hl7_1]); (try simp only [hl7_2]); (with_reducible repeat (first | apply Kd.Q_alloc | apply Kd.Q_drewN | apply Kd.Q_drew)); exact HO_9.out⟩, ⟨by (try simp only [hl7_1]); (try simp only [hl7_2]); (with_reducible repeat (first | refine blk_drewN ?_ _ | refine blk_drew ?_ | refine blk_alloc ?_ _)); exact BK243.out⟩, ⟨by repeat (first | (with_reducible first | exact HB.out | apply below_alloc | apply pw_below_drewN | apply below_drew1 | refine below_set ?_ GE243.out) | exact HB.out)⟩⟩
                              · replace c35 := Bool.eq_false_iff.mpr c35
                                subst c35
                                have H1 : ((impl_near.f kj26 a0_0 a0_1 l0_2 (rd x9_2 0) false).bind fun t257 => (impl_field.l2 kj26 a1 a2 x7_2 y253 (rd x9_2 0) t257 (t257.length : Int) 0 a0_0 a0_1 l0_2)) = some r := by rw [if_neg (show ¬ (false = true) by decide)] at H; exact H
                                clear H
                                have H := H1
                                clear H1
                                replace H := Option.bind_eq_some_iff.mp H
                                obtain ⟨t257, A360, H⟩ := H
                                replace H : (impl_field.l2 kj26 a1 a2 x7_2 y253 (rd x9_2 0) t257 (t257.length : Int) 0 a0_0 a0_1 l0_2) = some r := H
                                have A36 := Aside0.mk A360
                                clear A360
                                have H' := Aside0.mk H
                                clear H
                                have hcz37_0 : wc.cell? ⟨gb243, 0, none⟩ = some (.int .i64 a0_0) := (blk_cell BK243.out 0).trans rfl
                                have hcz37_1 : wc.cell? ⟨gb243, 1, none⟩ = some (.int .i64 a0_1) := (blk_cell BK243.out 1).trans rfl
                                have hcz37_2 : wc.cell? ⟨gb243, 2, none⟩ = some (.slice A0_2 l0_2.length c0_2) := (blk_cell BK243.out 2).trans rfl
                                have hfz37_0 := blk_frozen BK243.out 0
                                have hfz37_1 := blk_frozen BK243.out 1
                                have hfz37_2 := blk_frozen BK243.out 2
                                go_wp2_with (first | ((with_reducible refine gate_callee (f := 100) rfl ?_); refine goesL_ (some 55) rfl rfl Try.func100 (by kernel_rfl) rfl #[.agg #[.int .i64 a0_0, .int .i64 a0_1, .slice A0_2 l0_2.length c0_2], .int .i64 (rd x9_2 0), .bool false] rfl qz2 ?_; (with_reducible refine (impl_near.calls kj26 a0_0 a0_1 _ _ l0_2 (rd x9_2 0) false t257 _ ?side1 ?side2 A36.out).mono ?_); (case side1 => repeat (first | exact (Kd.C_below HR0_2.out HB.out) | (with_reducible refine Kd.C_alloc ?_ _) | (with_reducible refine Kd.C_drewN ?_ _) | (with_reducible refine Kd.C_drew ?_))); (case side2 => exact HC0_2.out); rintro e w38 ⟨v258, rfl, ho0, hb⟩; refine ⟨_, rfl, ?_⟩; have n0_ := Aside0.mk (Kd.R_elder' qz16 (Kd.R_base ho0) hb); have n1_ := Aside0.mk (Kd.Q_elder' (by (with_reducible repeat (first | apply Kd.Q_alloc | apply Kd.Q_drewN | apply Kd.Q_drew)); exact HO_9.out) (Kd.R_base ho0) hb); have n2_ := Aside0.mk (Kd.R_lower (Kd.R_new' (Kd.R_new' ho0 (Kd.R_lt qz16)) (Kd.Q_lt (by (with_reducible repeat (first | apply Kd.Q_alloc | apply Kd.Q_drewN | apply Kd.Q_drew)); exact HO_9.out))) (below_size (by repeat (first | (with_reducible first | exact HB.out | apply below_alloc | apply pw_below_drewN | apply below_drew1 | refine below_set ?_ GE243.out) | exact HB.out)))); have n3_ := Aside0.mk (blk_below (g := gb243) (o := .cells #[.int .i64 a0_0, .int .i64 a0_1, .slice A0_2 l0_2.length c0_2] 27 (0, 0)) (by (with_reducible repeat (first | refine blk_drewN ?_ _ | refine blk_drew ?_ | refine blk_alloc ?_ _)); exact BK243.out) hb); have n4_ := Aside0.mk (below_step (by repeat (first | (with_reducible first | exact HB.out | apply below_alloc | apply pw_below_drewN | apply below_drew1 | refine below_set ?_ GE243.out) | exact HB.out)) hb); clear HO_7; clear HO_9; clear BK243; clear HB; have HO_7 := n0_; have HO_9 := n1_; have HO259 := n2_; have BK243 := n3_; have HB := n4_; clear n0_ n1_ n2_ n3_ n4_; (try clear hb); (try clear hb2); (try clear hk); (try clear hi); (try clear ho0); obtain ⟨Ao39, co39, eo39⟩ := Kd.R_slice HO259.out; subst eo39))
                                go_loopg [9, 57] kj26 (fun kq v9 v57 w' => ∃ (x7_4 : List Int) (x9_4 : List Int) (x57_4 : Int), v57 = .int .i64 x57_4 ∧ Aside0 (impl_field.l2 kq a1 a2 x7_4 x9_4 (rd x9_2 0) t257 (t257.length : Int) x57_4 a0_0 a0_1 l0_2 = some r) ∧ Aside0 (kq ≤ kj26) ∧ Aside0 (Kd.R (Kd.int .i64) 3 w' w.heap.size (fun k_ => some k_ ≠ (v9 : Value).ownBlock ∧ some k_ ≠ ((.slice Ao39 t257.length co39) : Value).ownBlock) (.slice (some ⟨go19, 0, none⟩) x7_2.length co10) x7_4) ∧ Aside0 (Kd.Q (Kd.int .i64) 3 w' w.heap.size (fun k_ => some k_ ≠ ((.slice (some ⟨go19, 0, none⟩) x7_2.length co10) : Value).ownBlock ∧ some k_ ≠ ((.slice Ao39 t257.length co39) : Value).ownBlock) v9 x9_4) ∧ Aside0 (Kd.R (Kd.int .i64) 3 w' w.heap.size (fun k_ => some k_ ≠ ((.slice (some ⟨go19, 0, none⟩) x7_2.length co10) : Value).ownBlock ∧ some k_ ≠ (v9 : Value).ownBlock) (.slice Ao39 t257.length co39) t257) ∧ Aside0 (w'.heap[gb243]? = some (.cells #[.int .i64 a0_0, .int .i64 a0_1, (.slice A0_2 l0_2.length c0_2)] 27 (0, 0))) ∧ Aside0 (Below w.heap.size w w'))
                                case atStart => exact ⟨(x7_2), (y253), (0), qz5, H', ⟨Nat.le_refl _⟩, ⟨by (try simp only [hl7_1]); (try simp only [hl7_2]); (with_reducible repeat (first | apply Kd.R_alloc | apply Kd.R_drewN | apply Kd.R_drew)); exact HO_7.out⟩, ⟨by (try simp only [hl7_1]); (try simp only [hl7_2]); (with_reducible repeat (first | apply Kd.Q_alloc | apply Kd.Q_drewN | apply Kd.Q_drew)); exact HO_9.out⟩, ⟨by (try simp only [hl7_1]); (try simp only [hl7_2]); (with_reducible repeat (first | apply Kd.R_alloc | apply Kd.R_drewN | apply Kd.R_drew)); exact Kd.R_mono HO259.out (fun _ hk => ⟨hk.1.2, hk.2⟩)⟩, ⟨by (try simp only [hl7_1]); (try simp only [hl7_2]); (with_reducible repeat (first | refine blk_drewN ?_ _ | refine blk_drew ?_ | refine blk_alloc ?_ _)); exact BK243.out⟩, ⟨by repeat (first | (with_reducible first | exact HB.out | apply below_alloc | apply pw_below_drewN | apply below_drew1 | refine below_set ?_ GE243.out) | exact HB.out)⟩⟩
                                case round =>
                                  clear H'
                                  try clear c1
                                  try clear p1
                                  try clear q1
                                  try clear hx1
                                  try clear c2
                                  try clear p2
                                  try clear q2
                                  try clear hx2
                                  try clear qi2
                                  try clear c3
                                  try clear c4
                                  try clear c4b0
                                  try clear c4b1
                                  try clear c5
                                  try clear c5b0
                                  try clear c5b1
                                  try clear p6
                                  try clear c8
                                  try clear c10
                                  try clear c11
                                  try clear c11b0
                                  try clear c12
                                  try clear c12b0
                                  try clear c13
                                  try clear c13b0
                                  try clear p14
                                  try clear q14
                                  try clear hx14
                                  try clear hf14
                                  try clear c17
                                  try clear c17b0
                                  try clear c18
                                  try clear c18b0
                                  try clear p19
                                  try clear q19
                                  try clear hx19
                                  try clear hf19
                                  try clear c24
                                  try clear c24b0
                                  try clear c24b1
                                  try clear c25
                                  try clear c25b0
                                  try clear c25b1
                                  try clear p25
                                  try clear q25
                                  try clear hx25
                                  try clear qi25
                                  try clear c26
                                  try clear c26b0
                                  try clear c26b1
                                  try clear c29
                                  try clear q29
                                  try clear c30
                                  try clear c31
                                  try clear c31b0
                                  try clear c31b1
                                  try clear c32
                                  try clear c32b0
                                  try clear c33
                                  try clear c33b0
                                  try clear c35
                                  try clear hcz34_0
                                  try clear hcz34_1
                                  try clear hcz34_2
                                  try clear hcz37_0
                                  try clear hcz37_1
                                  try clear hcz37_2
                                  try clear hcz7_0
                                  try clear hcz7_1
                                  try clear hcz7_2
                                  try clear hfz34_0
                                  try clear hfz34_1
                                  try clear hfz34_2
                                  try clear hfz37_0
                                  try clear hfz37_1
                                  try clear hfz37_2
                                  try clear hfz7_0
                                  try clear hfz7_1
                                  try clear hfz7_2
                                  try clear hx14_0
                                  try clear hx19_0
                                  try clear hx252_0
                                  try clear hx256_0
                                  try clear p1
                                  try clear p14
                                  try clear p19
                                  try clear p2
                                  try clear p25
                                  try clear p252
                                  try clear p256
                                  try clear p6
                                  try clear q1
                                  try clear q14
                                  try clear q19
                                  try clear q2
                                  try clear q25
                                  try clear q252
                                  try clear q256
                                  try clear q29
                                  obtain ⟨x7_4, x9_4, x57_4, rfl, HA, HK4, HO_7, HO_9, HO_55, BK243, HB⟩ := hrel
                                  have hl7_4 := (Kd.R_reads' HO_7.out).1
                                  rw [hl7_4] at HO_7
                                  (try simp only [hl7_4])
                                  (try simp only [hl7_4] at BK243)
                                  (try simp only [hl7_4] at HO_9)
                                  (try simp only [hl7_4] at HO_55)
                                  cases gk with
                                  | zero => exact absurd HA.out (by simp [impl_field.l2])
                                  | succ k4 =>
                                    have H := HA.out
                                    clear HA
                                    simp only [impl_field.l2] at H
                                    by_cases c40 : x57_4 < (t257.length : Int)
                                    · rw [if_pos c40] at H
                                      have c40b0 : decide (x57_4 < (t257.length : Int)) = true := decide_eq_true c40
                                      (try (have c40b0q7_1 := c40b0; simp only [hl7_1] at c40b0q7_1))
                                      (try (have c40b0q7_2 := c40b0; simp only [hl7_2] at c40b0q7_2))
                                      (try (have c40b0q7_4 := c40b0; simp only [hl7_4] at c40b0q7_4))
                                      clear c40
                                      by_cases c41 : 0 ≤ x57_4
                                      · rw [if_pos c41] at H
                                        have c41b0 : decide (0 ≤ x57_4) = true := decide_eq_true c41
                                        clear c41
                                        by_cases c42 : x57_4 < (t257.length : Int)
                                        · rw [if_pos c42] at H
                                          have c42b0 : decide (x57_4 < (t257.length : Int)) = true := decide_eq_true c42
                                          (try (have c42b0q7_1 := c42b0; simp only [hl7_1] at c42b0q7_1))
                                          (try (have c42b0q7_2 := c42b0; simp only [hl7_2] at c42b0q7_2))
                                          (try (have c42b0q7_4 := c42b0; simp only [hl7_4] at c42b0q7_4))
                                          clear c42
                                          by_cases c43 : 0 ≤ (rd t257 x57_4)
                                          · rw [if_pos c43] at H
                                            have c43b0 : decide (0 ≤ (rd t257 x57_4)) = true := decide_eq_true c43
                                            clear c43
                                            by_cases c44 : (rd t257 x57_4) < (x7_4.length : Int)
                                            · rw [if_pos c44] at H
                                              have c44b0 : decide ((rd t257 x57_4) < (x7_4.length : Int)) = true := decide_eq_true c44
                                              (try (have c44b0q7_1 := c44b0; simp only [hl7_1] at c44b0q7_1))
                                              (try (have c44b0q7_2 := c44b0; simp only [hl7_2] at c44b0q7_2))
                                              (try (have c44b0q7_4 := c44b0; simp only [hl7_4] at c44b0q7_4))
                                              clear c44
                                              by_cases c45 : (rd x7_4 (rd t257 x57_4)) < 0
                                              · rw [if_pos c45] at H
                                                have c45b0 : decide ((rd x7_4 (rd t257 x57_4)) < 0) = true := decide_eq_true c45
                                                clear c45
                                                by_cases c46 : 0 ≤ (rd x9_2 0)
                                                · rw [if_pos c46] at H
                                                  have c46b0 : decide (0 ≤ (rd x9_2 0)) = true := decide_eq_true c46
                                                  clear c46
                                                  by_cases c47 : (rd x9_2 0) < (x7_4.length : Int)
                                                  · rw [if_pos c47] at H
                                                    have c47b0 : decide ((rd x9_2 0) < (x7_4.length : Int)) = true := decide_eq_true c47
                                                    (try (have c47b0q7_1 := c47b0; simp only [hl7_1] at c47b0q7_1))
                                                    (try (have c47b0q7_2 := c47b0; simp only [hl7_2] at c47b0q7_2))
                                                    (try (have c47b0q7_4 := c47b0; simp only [hl7_4] at c47b0q7_4))
                                                    clear c47
                                                    obtain ⟨y263, hy263⟩ : ∃ y_ : List Int, y_ = (x7_4.set ((rd t257 x57_4) : Int).toNat (wrap64 ((rd x7_4 (rd x9_2 0)) + 1))) := ⟨_, rfl⟩
                                                    replace H : (if x9_4.length < 17592186044416 then (impl_field.l2 k4 a1 a2 y263 (x9_4 ++ [rd t257 x57_4]) (rd x9_2 0) t257 (t257.length : Int) (wrap64 (x57_4 + 1)) a0_0 a0_1 l0_2) else (none)) = some r := by first | (rw [hy263]; with_reducible exact H) | (have H2_ := (Option.bind_some _ _).symm.trans H; rw [hy263]; with_reducible exact H2_) | (have H2_ := (Option.bind_some _ _).symm.trans H; with_reducible exact H2_) | with_reducible exact H | (rw [hy263]; exact H) | exact H
                                                    have Ny263 := Aside0.mk hy263
                                                    clear hy263
                                                    by_cases c49 : x9_4.length < 17592186044416
                                                    · rw [if_pos c49] at H
                                                      have LMc49 := Aside0.mk c49
                                                      clear c49
                                                      obtain ⟨y264, hy264⟩ : ∃ y_ : List Int, y_ = (x9_4 ++ [rd t257 x57_4]) := ⟨_, rfl⟩
                                                      replace H : (impl_field.l2 k4 a1 a2 y263 y264 (rd x9_2 0) t257 (t257.length : Int) (wrap64 (x57_4 + 1)) a0_0 a0_1 l0_2) = some r := by first | (rw [hy264]; with_reducible exact H) | (have H2_ := (Option.bind_some _ _).symm.trans H; rw [hy264]; with_reducible exact H2_) | (have H2_ := (Option.bind_some _ _).symm.trans H; with_reducible exact H2_) | with_reducible exact H | (rw [hy264]; exact H) | exact H
                                                      have Ny264 := Aside0.mk hy264
                                                      clear hy264
                                                      have H' := Aside0.mk H
                                                      clear H
                                                      have p260 : 0 ≤ (x57_4 : Int) := of_decide_eq_true qz3
                                                      have q260 : x57_4 < (t257.length : Int) := of_decide_eq_true qz3
                                                      obtain ⟨ad260, e260, hx260_0⟩ := Kd.at_int (Kd.R_reads' HO_55.out).2.2 x57_4 p260 q260
                                                      cases e260
                                                      replace p260 := eq_true p260
                                                      replace q260 := eq_true q260
                                                      have p261 : 0 ≤ ((rd t257 x57_4) : Int) := of_decide_eq_true qz3
                                                      have q261 : (rd t257 x57_4) < (x7_4.length : Int) := of_decide_eq_true qz3
                                                      obtain ⟨ad261, e261, hx261_0⟩ := Kd.at_int (Kd.R_reads' HO_7.out).2.2 (rd t257 x57_4) p261 q261
                                                      obtain rfl : (⟨go19, 0, none⟩ : Addr) = ad261 := (by injection e261)
                                                      (first | simp only [add_plain] at hx261_0 | simp only [add_at] at hx261_0 | simp only [Addr.add, Nat.zero_add] at hx261_0 | skip)
                                                      replace p261 := eq_true p261
                                                      replace q261 := eq_true q261
                                                      have p262 : 0 ≤ ((rd x9_2 0) : Int) := of_decide_eq_true qz3
                                                      have q262 : (rd x9_2 0) < (x7_4.length : Int) := of_decide_eq_true qz3
                                                      obtain ⟨ad262, e262, hx262_0⟩ := Kd.at_int (Kd.R_reads' HO_7.out).2.2 (rd x9_2 0) p262 q262
                                                      obtain rfl : (⟨go19, 0, none⟩ : Addr) = ad262 := (by injection e262)
                                                      (first | simp only [add_plain] at hx262_0 | simp only [add_at] at hx262_0 | simp only [Addr.add, Nat.zero_add] at hx262_0 | skip)
                                                      replace p262 := eq_true p262
                                                      replace q262 := eq_true q262
                                                      have p48 : 0 ≤ ((rd t257 x57_4) : Int) := of_decide_eq_true qz3
                                                      have q48 : ((rd t257 x57_4) : Int) < ((x7_4.length : Int) : Int) := of_decide_eq_true qz3
                                                      obtain ⟨hx48_0, hf48_0⟩ := Kd.R_celln 0 HO_7.out ((rd t257 x57_4) : Int) p48 q48
                                                      replace p48 := eq_true p48
                                                      replace q48 := eq_true q48
                                                      have HP50 := Kd.R_putg HO_7.out ((rd t257 x57_4) : Int) (wrap64 ((rd x7_4 (rd x9_2 0)) + 1))
                                                      go_wp2_with (first | ((with_reducible refine gate_store (t := 3) (p := 73) rfl ?_); refine store_event (t := 3) (p := 73) (v := ?vo_w51) (w1 := (wr.setCell ⟨go19, ((rd t257 x57_4) : Int).toNat, none⟩ (.int .i64 (wrap64 ((rd x7_4 (rd x9_2 0)) + 1))))) ?hg ?ho ?hn ?hr ?_; (case ho => rfl); (case hg => rfl); (case hn => rfl); (case hr => first | (go_simp; done) | (go_simp; rfl)); intro w51 hw; have hg : wr.grownBy w51 (some go19) := (by rw [hw]; exact HP50.2); have hp_ : Kd.R (Kd.int .i64) 3 w51 w.heap.size (fun k_ => some k_ ≠ (u9 : Value).ownBlock ∧ some k_ ≠ (.slice (some ad260) t257.length co39 : Value).ownBlock) (.slice (some ⟨go19, 0, none⟩) x7_4.length co10) y263 := (by rw [hw, Ny263.out]; exact HP50.1); clear HP50; have n0_ := Aside0.mk (hp_); have n1_ := Aside0.mk (Kd.Q_after (v := (.slice (some ⟨go19, 0, none⟩) x7_4.length co10)) (v1 := (.slice (some ⟨go19, 0, none⟩) x7_4.length co10)) (ok := (fun k_ => some k_ ≠ (.slice (some ad260) t257.length co39 : Value).ownBlock)) (by (with_reducible repeat (first | apply Kd.Q_alloc | apply Kd.Q_drewN | apply Kd.Q_drew)); exact Kd.Q_mono HO_9.out (fun _ hk => ⟨hk.2, hk.1⟩)) hg (.inl rfl)); have n2_ := Aside0.mk (Kd.R_after (v := (.slice (some ⟨go19, 0, none⟩) x7_4.length co10)) (v1 := (.slice (some ⟨go19, 0, none⟩) x7_4.length co10)) (ok := (fun k_ => some k_ ≠ (u9 : Value).ownBlock)) (by (with_reducible repeat (first | apply Kd.R_alloc | apply Kd.R_drewN | apply Kd.R_drew)); exact Kd.R_mono HO_55.out (fun _ hk => ⟨hk.2, hk.1⟩)) hg (.inl rfl)); have n3_ := Aside0.mk (blk_grown (g := gb243) (o := .cells #[.int .i64 a0_0, .int .i64 a0_1, .slice A0_2 l0_2.length c0_2] 27 (0, 0)) (by (with_reducible repeat (first | refine blk_drewN ?_ _ | refine blk_drew ?_ | refine blk_alloc ?_ _)); exact BK243.out) hg (Kd.R_ne HO_7.out BK243.out (by decide))); have n4_ := Aside0.mk ((by rw [hw]; exact below_set (HB.out) GB19.out : Below w.heap.size w w51)); clear HO_7; clear HO_9; clear HO_55; clear BK243; clear HB; have HO_7 := n0_; have HO_9 := n1_; have HO_55 := n2_; have BK243 := n3_; have HB := n4_; clear n0_ n1_ n2_ n3_ n4_; clear hg hw hp_) | ((with_reducible refine gate_builtin (b := .append) (xs := #[.tmp 74, .tmp 76]) rfl ?_); at_builtin; refine Kd.Q_append (Kd.int .i64) (w0 := w) w.heap.size rfl (.tmp 74) (.tmp 76) 22 3 (.int .i64 0) 8 rfl Try.underlying22 info3 rfl (by decide) (by omega) u9 x9_4 (rd t257 x57_4) [.int .i64 (rd t257 x57_4)] (fun k_ => some k_ ≠ (.slice (some ⟨go19, 0, none⟩) x7_4.length co10 : Value).ownBlock ∧ some k_ ≠ (.slice (some ad260) t257.length co39 : Value).ownBlock) (fun _ => False) rfl rfl ?aP (fun _ hk => hk.elim) ?aF ?aO ?aB ?aS ?aL ?_; (case aP => exact rfl); (case aB => exact (by repeat (first | (with_reducible first | exact HB.out | apply below_alloc | apply pw_below_drewN | apply below_drew1 | refine below_set ?_ GE243.out) | exact HB.out))); (case aF => exact (fun k_ hk => ⟨Kd.fresh' (Kd.R_lt qz16) k_ hk, Kd.fresh' (Kd.R_lt (by (with_reducible repeat (first | apply Kd.R_alloc | apply Kd.R_drewN | apply Kd.R_drew)); exact HO_55.out)) k_ hk⟩)); (case aO => exact (by (with_reducible repeat (first | apply Kd.Q_alloc | apply Kd.Q_drewN | apply Kd.Q_drew)); exact Kd.Q_mono HO_9.out (fun _ hk => ⟨hk.2, hk.1⟩))); (case aS => exact (below_size (by repeat (first | (with_reducible first | exact HB.out | apply below_alloc | apply pw_below_drewN | apply below_drew1 | refine below_set ?_ GE243.out) | exact HB.out)))); (case aL => have := LMc49.out; omega); intro v265 w52 ho hb hg hat; rw [← Ny264.out] at ho; have n0_ := Aside0.mk (Kd.R_after (ok := (fun k_ => some k_ ≠ (.slice (some ad260) t257.length co39 : Value).ownBlock)) (by (with_reducible repeat (first | apply Kd.R_alloc | apply Kd.R_drewN | apply Kd.R_drew)); exact Kd.R_mono HO_7.out (fun _ hk => ⟨hk.2, hk.1⟩)) hg hat); have n1_ := Aside0.mk (Kd.R_after (ok := (fun k_ => some k_ ≠ (.slice (some ⟨go19, 0, none⟩) x7_4.length co10 : Value).ownBlock)) (by (with_reducible repeat (first | apply Kd.R_alloc | apply Kd.R_drewN | apply Kd.R_drew)); exact Kd.R_mono HO_55.out (fun _ hk => ⟨hk.2, hk.1⟩)) hg hat); have n2_ := Aside0.mk (blk_grown (g := gb243) (o := .cells #[.int .i64 a0_0, .int .i64 a0_1, .slice A0_2 l0_2.length c0_2] 27 (0, 0)) (by (with_reducible repeat (first | refine blk_drewN ?_ _ | refine blk_drew ?_ | refine blk_alloc ?_ _)); exact BK243.out) hg (Kd.Q_ne HO_9.out BK243.out (by decide))); have n3_ := Aside0.mk (hb); have n4_ := Aside0.mk (ho); clear HO_7; clear HO_55; clear BK243; clear HB; clear HO_9; have HO_7 := n0_; have HO_55 := n1_; have BK243 := n2_; have HB := n3_; have HO266 := n4_; clear n0_ n1_ n2_ n3_ n4_; clear ho hb hg hat))
                                                      (try simp only [← hl7_4])
                                                      go_roundg k4
                                                      case measure => have := HK1.out; have := HK2.out; have := HJ26.out; have := HK4.out; omega
                                                      case rel => exact ⟨(y263), (y264), (wrap64 (x57_4 + 1)), qz5, H', ⟨by have := HK1.out; have := HK2.out; have := HJ26.out; have := HK4.out; omega⟩, ⟨by (try simp only [hl7_1]); (try simp only [hl7_2]); (try simp only [hl7_4]); (with_reducible repeat (first | apply Kd.R_alloc | apply Kd.R_drewN | apply Kd.R_drew)); exact Kd.R_mono HO_7.out (fun _ hk => ⟨hk.2, hk.1⟩)⟩, ⟨by (try simp only [hl7_1]); (try simp only [hl7_2]); (try simp only [hl7_4]); (with_reducible repeat (first | apply Kd.Q_alloc | apply Kd.Q_drewN | apply Kd.Q_drew)); exact HO266.out⟩, ⟨by (try simp only [hl7_1]); (try simp only [hl7_2]); (try simp only [hl7_4]); (with_reducible repeat (first | apply Kd.R_alloc | apply Kd.R_drewN | apply Kd.R_drew)); exact HO_55.out⟩, ⟨by (try simp only [hl7_1]); (try simp only [hl7_2]); (try simp only [hl7_4]); (with_reducible repeat (first | refine blk_drewN ?_ _ | refine blk_drew ?_ | refine blk_alloc ?_ _)); exact BK243.out⟩, ⟨by repeat (first | (with_reducible first | exact HB.out | apply below_alloc | apply pw_below_drewN | apply below_drew1 | refine below_set ?_ GE243.out) | exact HB.out)⟩⟩
                                                    · rw [if_neg c49] at H
                                                      exact absurd H (by simp)
                                                  · rw [if_neg c47] at H
                                                    exact absurd H (by simp)
                                                · rw [if_neg c46] at H
                                                  exact absurd H (by simp)
                                              · rw [if_neg c45] at H
                                                have c45b0 : decide ((rd x7_4 (rd t257 x57_4)) < 0) = false := decide_eq_false c45
                                                clear c45
                                                have H' := Aside0.mk H
                                                clear H
                                                have p260 : 0 ≤ (x57_4 : Int) := of_decide_eq_true qz3
                                                have q260 : x57_4 < (t257.length : Int) := of_decide_eq_true qz3
                                                obtain ⟨ad260, e260, hx260_0⟩ := Kd.at_int (Kd.R_reads' HO_55.out).2.2 x57_4 p260 q260
                                                cases e260
                                                replace p260 := eq_true p260
                                                replace q260 := eq_true q260
                                                have p261 : 0 ≤ ((rd t257 x57_4) : Int) := of_decide_eq_true qz3
                                                have q261 : (rd t257 x57_4) < (x7_4.length : Int) := of_decide_eq_true qz3
                                                obtain ⟨ad261, e261, hx261_0⟩ := Kd.at_int (Kd.R_reads' HO_7.out).2.2 (rd t257 x57_4) p261 q261
                                                obtain rfl : (⟨go19, 0, none⟩ : Addr) = ad261 := (by injection e261)
                                                (first | simp only [add_plain] at hx261_0 | simp only [add_at] at hx261_0 | simp only [Addr.add, Nat.zero_add] at hx261_0 | skip)
                                                replace p261 := eq_true p261
                                                replace q261 := eq_true q261
                                                go_wp2
                                                (try simp only [← hl7_4])
                                                go_roundg k4
                                                case measure => have := HK1.out; have := HK2.out; have := HJ26.out; have := HK4.out; omega
                                                case rel => exact ⟨(x7_4), (x9_4), (wrap64 (x57_4 + 1)), qz5, H', ⟨by have := HK1.out; have := HK2.out; have := HJ26.out; have := HK4.out; omega⟩, ⟨by (try simp only [hl7_1]); (try simp only [hl7_2]); (try simp only [hl7_4]); (with_reducible repeat (first | apply Kd.R_alloc | apply Kd.R_drewN | apply Kd.R_drew)); exact HO_7.out⟩, ⟨by (try simp only [hl7_1]); (try simp only [hl7_2]); (try simp only [hl7_4]); (with_reducible repeat (first | apply Kd.Q_alloc | apply Kd.Q_drewN | apply Kd.Q_drew)); exact HO_9.out⟩, ⟨by (try simp only [hl7_1]); (try simp only [hl7_2]); (try simp only [hl7_4]); (with_reducible repeat (first | apply Kd.R_alloc | apply Kd.R_drewN | apply Kd.R_drew)); exact HO_55.out⟩, ⟨by (try simp only [hl7_1]); (try simp only [hl7_2]); (try simp only [hl7_4]); (with_reducible repeat (first | refine blk_drewN ?_ _ | refine blk_drew ?_ | refine blk_alloc ?_ _)); exact BK243.out⟩, ⟨by repeat (first | (with_reducible first | exact HB.out | apply below_alloc | apply pw_below_drewN | apply below_drew1 | refine below_set ?_ GE243.out) | exact HB.out)⟩⟩
                                            · rw [if_neg c44] at H
                                              exact absurd H (by simp)
                                          · rw [if_neg c43] at H
                                            exact absurd H (by simp)
                                        · rw [if_neg c42] at H
                                          exact absurd H (by simp)
                                      · rw [if_neg c41] at H
                                        exact absurd H (by simp)
                                    · rw [if_neg c40] at H
                                      have c40b0 : decide (x57_4 < (t257.length : Int)) = false := decide_eq_false c40
                                      (try (have c40b0q7_1 := c40b0; simp only [hl7_1] at c40b0q7_1))
                                      (try (have c40b0q7_2 := c40b0; simp only [hl7_2] at c40b0q7_2))
                                      (try (have c40b0q7_4 := c40b0; simp only [hl7_4] at c40b0q7_4))
                                      clear c40
                                      have H' := Aside0.mk H
                                      clear H
                                      go_wp2
                                      (try simp only [← hl7_2, ← hl7_4])
                                      go_roundg k4
                                      case measure => have := HK1.out; have := HK2.out; have := HJ26.out; have := HK4.out; omega
                                      case rel => exact ⟨(x7_4), (x9_4), H', ⟨by have := HK1.out; have := HK2.out; have := HJ26.out; have := HK4.out; omega⟩, ⟨by (try simp only [hl7_1]); (try simp only [hl7_2]); (try simp only [hl7_4]); (with_reducible repeat (first | apply Kd.R_alloc | apply Kd.R_drewN | apply Kd.R_drew)); exact Kd.R_mono HO_7.out (fun _ hk => hk.1)⟩, ⟨by (try simp only [hl7_1]); (try simp only [hl7_2]); (try simp only [hl7_4]); (with_reducible repeat (first | apply Kd.Q_alloc | apply Kd.Q_drewN | apply Kd.Q_drew)); exact Kd.Q_mono HO_9.out (fun _ hk => hk.1)⟩, ⟨by (try simp only [hl7_1]); (try simp only [hl7_2]); (try simp only [hl7_4]); (with_reducible repeat (first | refine blk_drewN ?_ _ | refine blk_drew ?_ | refine blk_alloc ?_ _)); exact BK243.out⟩, ⟨by repeat (first | (with_reducible first | exact HB.out | apply below_alloc | apply pw_below_drewN | apply below_drew1 | refine below_set ?_ GE243.out) | exact HB.out)⟩⟩
                        · rw [if_neg c26] at H
                          exact absurd H (by simp)
                      · rw [if_neg c25] at H
                        exact absurd H (by simp)
                    · rw [if_neg c24] at H
                      have c24b0 : decide (0 < (x9_2.length : Int)) = false := decide_eq_false c24
                      (try (have c24b0q7_1 := c24b0; simp only [hl7_1] at c24b0q7_1))
                      (try (have c24b0q7_2 := c24b0; simp only [hl7_2] at c24b0q7_2))
                      have c24b1 : decide (0 < x9_2.length) = false := decide_eq_false (by omega)
                      (try (have c24b1q7_1 := c24b1; simp only [hl7_1] at c24b1q7_1))
                      (try (have c24b1q7_2 := c24b1; simp only [hl7_2] at c24b1q7_2))
                      clear c24
                      obtain rfl := Option.some.inj H
                      simp only [Option.some.injEq, Prod.mk.injEq] at H
                      obtain ⟨rfl⟩ := H
                      obtain ⟨Ao53, co53, eo53, _⟩ := Kd.Q_slice HO_9.out
                      subst eo53
                      go_wp2
                      go_ret
                      exact ⟨_, by first | rfl | (simp [errW_none, errW_some] <;> rfl) | (simp [*, errW_none, errW_some] <;> rfl), by (with_reducible repeat (first | apply Kd.R_alloc | apply Kd.R_drewN | apply Kd.R_drew)); exact Kd.R_mono HO_7.out (fun _ hk => trivial), by repeat (first | (with_reducible first | exact HB.out | apply below_alloc | apply pw_below_drewN | apply below_drew1 | refine below_set ?_ GE243.out) | exact HB.out)⟩
              · rw [if_neg c18] at H
                exact absurd H (by simp)
            · rw [if_neg c17] at H
              exact absurd H (by simp)
    · rw [if_neg c5] at H
      exact absurd H (by simp)
  · rw [if_neg c4] at H
    exact absurd H (by simp)

end Go.Proofs.Ytdlkmjilakaklaa.PFnCuts
