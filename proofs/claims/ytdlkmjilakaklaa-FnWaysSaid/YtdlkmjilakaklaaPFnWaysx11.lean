-- Made by a program of this session out of the translation. Lean checks it.
import Derived.Test.YtdlkmjilakaklaaPFnWaysx0
import Derived.Test.YtdlkmjilakaklaaPFnWaysx8
import Derived.Test.YtdlkmjilakaklaaPFnWaysx9
import Derived.Test.YtdlkmjilakaklaaPFnWaysx10
namespace Go.Proofs.Ytdlkmjilakaklaa.PFnWays
open Go.RowKit Go.Proofs.YtdlkmjilakaklaaW.PrintWords Go.Proofs.YtdlkmjilakaklaaW.PrintLast Go.Proofs.YtdlkmjilakaklaaW.PrintMore
attribute [local go_sem] max2_int min2_int max_two min_two max_three min_three max_four min_four   -- for this text's walks alone
set_option linter.unusedVariables false
set_option linter.unusedSimpArgs false

/-! ### spec_Field: function 89 -/
def spec_Field.f (k : Nat) (a0_0 : Int) (a0_1 : Int) (l0_2 : List Int) (a1 : Int) (a2 : Bool) : Option (List Int) := (spec_l1Cell.f k a0_0 a0_1 l0_2 a1).bind fun t373 => (if t373 = true then (if 0 ≤ a1 then (if a1 < (l0_2.length : Int) then (if (rd l0_2 a1) = 0 then (some (([] : List Int))) else ((spec_l2Field.f k a0_0 a0_1 l0_2 a1 a2).bind fun t378 => (some t378))) else (none)) else (none)) else (some (([] : List Int))))
theorem spec_Field.mono : ∀ a0 a1 a2 a3 a4 k, LeO (spec_Field.f k a0 a1 a2 a3 a4) (spec_Field.f (k + 1) a0 a1 a2 a3 a4) := by
  intro a0 a1 a2 a3 a4 k
  unfold spec_Field.f
  repeat' first
      | (with_reducible exact spec_l1Cell.mono _ _ _ _ _)
      | (with_reducible exact spec_l2Field.mono _ _ _ _ _ _)
      | (with_reducible exact LeO.refl _)
      | (with_reducible exact LeO.none _)
      | (with_reducible refine LeO.ite ?_ ?_)
      | (with_reducible refine LeO.bind ?_ (fun _ => ?_))
      | exact spec_l1Cell.mono _ _ _ _ _
      | exact spec_l2Field.mono _ _ _ _ _ _
      | exact LeO.none _
      | refine LeO.ite ?_ ?_
      | refine LeO.bind ?_ (fun _ => ?_)
set_option maxHeartbeats 8000000 in
set_option maxRecDepth 100000 in
theorem spec_Field.calls (k : Nat) (a0_0 : Int) (a0_1 : Int) (A0_2 : Option Addr) (c0_2 : Nat) (l0_2 : List Int) (a1 : Int) (a2 : Bool) (r : List Int) (w : World) (hr0_2 : Kd.C (Kd.int .i64) w A0_2 l0_2.length l0_2) (hc0_2 : l0_2.length ≤ c0_2) (h : spec_Field.f k a0_0 a0_1 l0_2 a1 a2 = some r) :
    Calls Try.prog 89 #[.agg #[.int .i64 a0_0, .int .i64 a0_1, .slice A0_2 l0_2.length c0_2], .int .i64 a1, .bool a2] w fun e w' => ∃ v0_ : Value, e = .returned (v0_) ∧ Kd.R (Kd.int .i64) 3 w' w.heap.size (fun _ => True) v0_ r ∧ Below w.heap.size w w' := by
  have hu27 := Try.underlying27
  have HR0_2 := Aside0.mk hr0_2
  have HC0_2 := Aside0.mk hc0_2
  clear hr0_2 hc0_2
  have HB := Aside0.mk (Below.refl w.heap.size w)
  have H : ((spec_l1Cell.f k a0_0 a0_1 l0_2 a1).bind fun t373 => (if t373 = true then (if 0 ≤ a1 then (if a1 < (l0_2.length : Int) then (if (rd l0_2 a1) = 0 then (some (([] : List Int))) else ((spec_l2Field.f k a0_0 a0_1 l0_2 a1 a2).bind fun t378 => (some t378))) else (none)) else (none)) else (some (([] : List Int))))) = some r := h
  clear h
  replace H := Option.bind_eq_some_iff.mp H
  obtain ⟨t373, A40, H⟩ := H
  replace H : (if t373 = true then (if 0 ≤ a1 then (if a1 < (l0_2.length : Int) then (if (rd l0_2 a1) = 0 then (some (([] : List Int))) else ((spec_l2Field.f k a0_0 a0_1 l0_2 a1 a2).bind fun t378 => (some t378))) else (none)) else (none)) else (some (([] : List Int)))) = some r := H
  have A4 := Aside0.mk A40
  clear A40
  by_cases c5 : t373 = true
  · subst c5
    have H1 : (if 0 ≤ a1 then (if a1 < (l0_2.length : Int) then (if (rd l0_2 a1) = 0 then (some (([] : List Int))) else ((spec_l2Field.f k a0_0 a0_1 l0_2 a1 a2).bind fun t378 => (some t378))) else (none)) else (none)) = some r := by rw [if_pos rfl] at H; exact H
    clear H
    have H := H1
    clear H1
    by_cases c6 : 0 ≤ a1
    · rw [if_pos c6] at H
      have c6b0 : decide (0 ≤ a1) = true := decide_eq_true c6
      clear c6
      by_cases c7 : a1 < (l0_2.length : Int)
      · rw [if_pos c7] at H
        have c7b0 : decide (a1 < (l0_2.length : Int)) = true := decide_eq_true c7
        clear c7
        by_cases c8 : (rd l0_2 a1) = 0
        · rw [if_pos c8] at H
          have c8b0 : ((rd l0_2 a1) == 0) = true := beq_iff_eq.mpr c8
          have c8b1 : ((rd l0_2 a1) != 0) = false := bne_eq_false_iff_eq.mpr c8
          clear c8
          obtain ⟨y375, hy375⟩ : ∃ y_ : List Int, y_ = (([] : List Int)) := ⟨_, rfl⟩
          replace H : (some y375) = some r := by first | (rw [hy375]; with_reducible exact H) | (have H2_ := (Option.bind_some _ _).symm.trans H; rw [hy375]; with_reducible exact H2_) | (have H2_ := (Option.bind_some _ _).symm.trans H; with_reducible exact H2_) | with_reducible exact H | (rw [hy375]; exact H) | exact H
          have Ny375 := Aside0.mk hy375
          clear hy375
          obtain rfl := Option.some.inj H
          simp only [Option.some.injEq, Prod.mk.injEq] at H
          obtain ⟨rfl⟩ := H
          go_enter Try.func89, Try.ntmps89
          go_wp2_with (first | ((with_reducible refine gate_dst (N := 3) rfl ?_); refine box_event ?hg (N := 3) ?hd (cs := #[.int .i64 a0_0, .int .i64 a0_1, .slice A0_2 l0_2.length c0_2]) (t := 27) ?hr ?_; (case hd => rfl); (case hg => rfl); (case hr => first | (go_simp; done) | (go_simp; rfl)); intro gb372 hg w9 hbox hb; have n0_ := Aside0.mk (below_step qz1 hb); have n1_ := Aside0.mk (hbox); have n2_ := Aside0.mk ((by rw [hg]; exact (below_size qz1) : w.heap.size ≤ gb372)); have n3_ := Aside0.mk ((by rw [hg]; exact (below_size qz1) : w.heap.size ≤ gb372)); clear HB; have HB := n0_; have BK372 := n1_; have GW372 := n2_; have GE372 := n3_; clear n0_ n1_ n2_ n3_; clear hb hbox hg; have hcz10_0 : w9.cell? ⟨gb372, 0, none⟩ = some (.int .i64 a0_0) := (blk_cell BK372.out 0).trans rfl; have hcz10_1 : w9.cell? ⟨gb372, 1, none⟩ = some (.int .i64 a0_1) := (blk_cell BK372.out 1).trans rfl; have hcz10_2 : w9.cell? ⟨gb372, 2, none⟩ = some (.slice A0_2 l0_2.length c0_2) := (blk_cell BK372.out 2).trans rfl; have hfz10_0 := blk_frozen BK372.out 0; have hfz10_1 := blk_frozen BK372.out 1; have hfz10_2 := blk_frozen BK372.out 2) | ((with_reducible refine gate_callee (f := 90) rfl ?_); refine goesL_ (some 9) rfl rfl Try.func90 (by kernel_rfl) rfl #[.agg #[.int .i64 a0_0, .int .i64 a0_1, .slice A0_2 l0_2.length c0_2], .int .i64 a1] rfl qz5 ?_; (with_reducible refine (spec_l1Cell.calls k a0_0 a0_1 _ _ l0_2 a1 true _ ?side1 ?side2 A4.out).mono ?_); (case side1 => repeat (first | exact (Kd.C_below HR0_2.out HB.out) | (with_reducible refine Kd.C_alloc ?_ _) | (with_reducible refine Kd.C_drewN ?_ _) | (with_reducible refine Kd.C_drew ?_))); (case side2 => exact HC0_2.out); rintro e w11 ⟨rfl, hb⟩; refine ⟨_, rfl, ?_⟩; have n0_ := Aside0.mk (blk_below (g := gb372) (o := .cells #[.int .i64 a0_0, .int .i64 a0_1, .slice A0_2 l0_2.length c0_2] 27 (0, 0)) (by (with_reducible repeat (first | refine blk_drewN ?_ _ | refine blk_drew ?_ | refine blk_alloc ?_ _)); exact BK372.out) hb); have n1_ := Aside0.mk (below_step (by repeat (first | (with_reducible first | exact HB.out | apply below_alloc | apply pw_below_drewN | apply below_drew1 | refine below_set ?_ GE372.out) | exact HB.out)) hb); clear BK372; clear HB; have BK372 := n0_; have HB := n1_; clear n0_ n1_; (try clear hb); (try clear hb2); (try clear hk); (try clear hi); have hcz12_0 : w11.cell? ⟨gb372, 0, none⟩ = some (.int .i64 a0_0) := (blk_cell BK372.out 0).trans rfl; have hcz12_1 : w11.cell? ⟨gb372, 1, none⟩ = some (.int .i64 a0_1) := (blk_cell BK372.out 1).trans rfl; have hcz12_2 : w11.cell? ⟨gb372, 2, none⟩ = some (.slice A0_2 l0_2.length c0_2) := (blk_cell BK372.out 2).trans rfl; have hfz12_0 := blk_frozen BK372.out 0; have hfz12_1 := blk_frozen BK372.out 1; have hfz12_2 := blk_frozen BK372.out 2; have p374 : 0 ≤ (a1 : Int) := of_decide_eq_true qz2; have q374 : a1 < (l0_2.length : Int) := of_decide_eq_true qz2; obtain ⟨ad374, e374, hx374_0⟩ := Kd.at_int HR0_2.out a1 p374 q374; cases e374; replace hx374_0 := (HB.out.cell (World.block_lt_of_cell? w _ hx374_0)).trans hx374_0; replace p374 := eq_true p374; replace q374 := eq_true q374) | ((with_reducible refine gate_dst (N := 19) rfl ?_); refine Kd.R_lit (Kd.int .i64) _ 3 ?hg (N := 19) ?hd (xs := ([] : List Int)) (inner := []) (ok := fun _ => True) (okp := fun _ => True) ?hr ?hp (fun _ hk => hk) trivial (Below.refl _ _) (Nat.le_refl _) (by simp) ?_; (case hd => rfl); (case hg => rfl); (case hr => first | (go_simp; done) | (go_simp; rfl)); (case hp => exact (Reps.none _ _)); intro v376 w13 ho14 hb hg_ hnew_; clear hg_ hnew_; (first | rw [← Ny375.out] at ho14 | (simp only [Int.reduceToNat] at ho14; rw [← Ny375.out] at ho14)); have n0_ := Aside0.mk (Kd.R_lower ho14 (below_size (by repeat (first | (with_reducible first | exact HB.out | apply below_alloc | apply pw_below_drewN | apply below_drew1 | refine below_set ?_ GE372.out) | exact HB.out)))); have n1_ := Aside0.mk (blk_below (g := gb372) (o := .cells #[.int .i64 a0_0, .int .i64 a0_1, .slice (some ad374) l0_2.length c0_2] 27 (0, 0)) (by (with_reducible repeat (first | refine blk_drewN ?_ _ | refine blk_drew ?_ | refine blk_alloc ?_ _)); exact BK372.out) hb); have n2_ := Aside0.mk (below_step (by repeat (first | (with_reducible first | exact HB.out | apply below_alloc | apply pw_below_drewN | apply below_drew1 | refine below_set ?_ GE372.out) | exact HB.out)) hb); clear BK372; clear HB; have HO377 := n0_; have BK372 := n1_; have HB := n2_; clear n0_ n1_ n2_; clear hb ho14))
          go_ret
          exact ⟨_, by first | rfl | (simp [errW_none, errW_some] <;> rfl) | (simp [*, errW_none, errW_some] <;> rfl), by (with_reducible repeat (first | apply Kd.R_alloc | apply Kd.R_drewN | apply Kd.R_drew)); exact HO377.out, by repeat (first | (with_reducible first | exact HB.out | apply below_alloc | apply pw_below_drewN | apply below_drew1 | refine below_set ?_ GE372.out) | exact HB.out)⟩
        · rw [if_neg c8] at H
          have c8b0 : ((rd l0_2 a1) == 0) = false := beq_eq_false_iff_ne.mpr c8
          have c8b1 : ((rd l0_2 a1) != 0) = true := bne_iff_ne.mpr c8
          replace H := Option.bind_eq_some_iff.mp H
          obtain ⟨t378, A150, H⟩ := H
          replace H : (some t378) = some r := H
          have A15 := Aside0.mk A150
          clear A150
          obtain rfl := Option.some.inj H
          simp only [Option.some.injEq, Prod.mk.injEq] at H
          obtain ⟨rfl⟩ := H
          go_enter Try.func89, Try.ntmps89
          go_wp2_with (first | ((with_reducible refine gate_dst (N := 3) rfl ?_); refine box_event ?hg (N := 3) ?hd (cs := #[.int .i64 a0_0, .int .i64 a0_1, .slice A0_2 l0_2.length c0_2]) (t := 27) ?hr ?_; (case hd => rfl); (case hg => rfl); (case hr => first | (go_simp; done) | (go_simp; rfl)); intro gb372 hg w16 hbox hb; have n0_ := Aside0.mk (below_step qz1 hb); have n1_ := Aside0.mk (hbox); have n2_ := Aside0.mk ((by rw [hg]; exact (below_size qz1) : w.heap.size ≤ gb372)); have n3_ := Aside0.mk ((by rw [hg]; exact (below_size qz1) : w.heap.size ≤ gb372)); clear HB; have HB := n0_; have BK372 := n1_; have GW372 := n2_; have GE372 := n3_; clear n0_ n1_ n2_ n3_; clear hb hbox hg; have hcz17_0 : w16.cell? ⟨gb372, 0, none⟩ = some (.int .i64 a0_0) := (blk_cell BK372.out 0).trans rfl; have hcz17_1 : w16.cell? ⟨gb372, 1, none⟩ = some (.int .i64 a0_1) := (blk_cell BK372.out 1).trans rfl; have hcz17_2 : w16.cell? ⟨gb372, 2, none⟩ = some (.slice A0_2 l0_2.length c0_2) := (blk_cell BK372.out 2).trans rfl; have hfz17_0 := blk_frozen BK372.out 0; have hfz17_1 := blk_frozen BK372.out 1; have hfz17_2 := blk_frozen BK372.out 2) | ((with_reducible refine gate_callee (f := 90) rfl ?_); refine goesL_ (some 9) rfl rfl Try.func90 (by kernel_rfl) rfl #[.agg #[.int .i64 a0_0, .int .i64 a0_1, .slice A0_2 l0_2.length c0_2], .int .i64 a1] rfl qz5 ?_; (with_reducible refine (spec_l1Cell.calls k a0_0 a0_1 _ _ l0_2 a1 true _ ?side1 ?side2 A4.out).mono ?_); (case side1 => repeat (first | exact (Kd.C_below HR0_2.out HB.out) | (with_reducible refine Kd.C_alloc ?_ _) | (with_reducible refine Kd.C_drewN ?_ _) | (with_reducible refine Kd.C_drew ?_))); (case side2 => exact HC0_2.out); rintro e w18 ⟨rfl, hb⟩; refine ⟨_, rfl, ?_⟩; have n0_ := Aside0.mk (blk_below (g := gb372) (o := .cells #[.int .i64 a0_0, .int .i64 a0_1, .slice A0_2 l0_2.length c0_2] 27 (0, 0)) (by (with_reducible repeat (first | refine blk_drewN ?_ _ | refine blk_drew ?_ | refine blk_alloc ?_ _)); exact BK372.out) hb); have n1_ := Aside0.mk (below_step (by repeat (first | (with_reducible first | exact HB.out | apply below_alloc | apply pw_below_drewN | apply below_drew1 | refine below_set ?_ GE372.out) | exact HB.out)) hb); clear BK372; clear HB; have BK372 := n0_; have HB := n1_; clear n0_ n1_; (try clear hb); (try clear hb2); (try clear hk); (try clear hi); have hcz19_0 : w18.cell? ⟨gb372, 0, none⟩ = some (.int .i64 a0_0) := (blk_cell BK372.out 0).trans rfl; have hcz19_1 : w18.cell? ⟨gb372, 1, none⟩ = some (.int .i64 a0_1) := (blk_cell BK372.out 1).trans rfl; have hcz19_2 : w18.cell? ⟨gb372, 2, none⟩ = some (.slice A0_2 l0_2.length c0_2) := (blk_cell BK372.out 2).trans rfl; have hfz19_0 := blk_frozen BK372.out 0; have hfz19_1 := blk_frozen BK372.out 1; have hfz19_2 := blk_frozen BK372.out 2; have p374 : 0 ≤ (a1 : Int) := of_decide_eq_true qz2; have q374 : a1 < (l0_2.length : Int) := of_decide_eq_true qz2; obtain ⟨ad374, e374, hx374_0⟩ := Kd.at_int HR0_2.out a1 p374 q374; cases e374; replace hx374_0 := (HB.out.cell (World.block_lt_of_cell? w _ hx374_0)).trans hx374_0; replace p374 := eq_true p374; replace q374 := eq_true q374) | ((with_reducible refine gate_callee (f := 115) rfl ?_); refine goesL_ (some 23) rfl rfl Try.func115 (by kernel_rfl) rfl #[.agg #[.int .i64 a0_0, .int .i64 a0_1, .slice (some ad374) l0_2.length c0_2], .int .i64 a1, .bool a2] rfl qz5 ?_; (with_reducible refine (spec_l2Field.calls k a0_0 a0_1 _ _ l0_2 a1 a2 t378 _ ?side1 ?side2 A15.out).mono ?_); (case side1 => repeat (first | exact (Kd.C_below HR0_2.out HB.out) | (with_reducible refine Kd.C_alloc ?_ _) | (with_reducible refine Kd.C_drewN ?_ _) | (with_reducible refine Kd.C_drew ?_))); (case side2 => exact HC0_2.out); rintro e w20 ⟨v379, rfl, ho0, hb⟩; refine ⟨_, rfl, ?_⟩; have n0_ := Aside0.mk (Kd.R_lower ho0 (below_size (by repeat (first | (with_reducible first | exact HB.out | apply below_alloc | apply pw_below_drewN | apply below_drew1 | refine below_set ?_ GE372.out) | exact HB.out)))); have n1_ := Aside0.mk (blk_below (g := gb372) (o := .cells #[.int .i64 a0_0, .int .i64 a0_1, .slice (some ad374) l0_2.length c0_2] 27 (0, 0)) (by (with_reducible repeat (first | refine blk_drewN ?_ _ | refine blk_drew ?_ | refine blk_alloc ?_ _)); exact BK372.out) hb); have n2_ := Aside0.mk (below_step (by repeat (first | (with_reducible first | exact HB.out | apply below_alloc | apply pw_below_drewN | apply below_drew1 | refine below_set ?_ GE372.out) | exact HB.out)) hb); clear BK372; clear HB; have HO380 := n0_; have BK372 := n1_; have HB := n2_; clear n0_ n1_ n2_; (try clear hb); (try clear hb2); (try clear hk); (try clear hi); (try clear ho0)))
          go_ret
          exact ⟨_, by first | rfl | (simp [errW_none, errW_some] <;> rfl) | (simp [*, errW_none, errW_some] <;> rfl), by (with_reducible repeat (first | apply Kd.R_alloc | apply Kd.R_drewN | apply Kd.R_drew)); exact HO380.out, by repeat (first | (with_reducible first | exact HB.out | apply below_alloc | apply pw_below_drewN | apply below_drew1 | refine below_set ?_ GE372.out) | exact HB.out)⟩
      · rw [if_neg c7] at H
        exact absurd H (by simp)
    · rw [if_neg c6] at H
      exact absurd H (by simp)
  · replace c5 := Bool.eq_false_iff.mpr c5
    subst c5
    have H1 : (some (([] : List Int))) = some r := by rw [if_neg (show ¬ (false = true) by decide)] at H; exact H
    clear H
    have H := H1
    clear H1
    obtain ⟨y381, hy381⟩ : ∃ y_ : List Int, y_ = (([] : List Int)) := ⟨_, rfl⟩
    replace H : (some y381) = some r := by first | (rw [hy381]; with_reducible exact H) | (have H2_ := (Option.bind_some _ _).symm.trans H; rw [hy381]; with_reducible exact H2_) | (have H2_ := (Option.bind_some _ _).symm.trans H; with_reducible exact H2_) | with_reducible exact H | (rw [hy381]; exact H) | exact H
    have Ny381 := Aside0.mk hy381
    clear hy381
    obtain rfl := Option.some.inj H
    simp only [Option.some.injEq, Prod.mk.injEq] at H
    obtain ⟨rfl⟩ := H
    go_enter Try.func89, Try.ntmps89
    go_wp2_with (first | ((with_reducible refine gate_dst (N := 3) rfl ?_); refine box_event ?hg (N := 3) ?hd (cs := #[.int .i64 a0_0, .int .i64 a0_1, .slice A0_2 l0_2.length c0_2]) (t := 27) ?hr ?_; (case hd => rfl); (case hg => rfl); (case hr => first | (go_simp; done) | (go_simp; rfl)); intro gb372 hg w21 hbox hb; have n0_ := Aside0.mk (below_step qz1 hb); have n1_ := Aside0.mk (hbox); have n2_ := Aside0.mk ((by rw [hg]; exact (below_size qz1) : w.heap.size ≤ gb372)); have n3_ := Aside0.mk ((by rw [hg]; exact (below_size qz1) : w.heap.size ≤ gb372)); clear HB; have HB := n0_; have BK372 := n1_; have GW372 := n2_; have GE372 := n3_; clear n0_ n1_ n2_ n3_; clear hb hbox hg; have hcz22_0 : w21.cell? ⟨gb372, 0, none⟩ = some (.int .i64 a0_0) := (blk_cell BK372.out 0).trans rfl; have hcz22_1 : w21.cell? ⟨gb372, 1, none⟩ = some (.int .i64 a0_1) := (blk_cell BK372.out 1).trans rfl; have hcz22_2 : w21.cell? ⟨gb372, 2, none⟩ = some (.slice A0_2 l0_2.length c0_2) := (blk_cell BK372.out 2).trans rfl; have hfz22_0 := blk_frozen BK372.out 0; have hfz22_1 := blk_frozen BK372.out 1; have hfz22_2 := blk_frozen BK372.out 2) | ((with_reducible refine gate_callee (f := 90) rfl ?_); refine goesL_ (some 9) rfl rfl Try.func90 (by kernel_rfl) rfl #[.agg #[.int .i64 a0_0, .int .i64 a0_1, .slice A0_2 l0_2.length c0_2], .int .i64 a1] rfl qz5 ?_; (with_reducible refine (spec_l1Cell.calls k a0_0 a0_1 _ _ l0_2 a1 false _ ?side1 ?side2 A4.out).mono ?_); (case side1 => repeat (first | exact (Kd.C_below HR0_2.out HB.out) | (with_reducible refine Kd.C_alloc ?_ _) | (with_reducible refine Kd.C_drewN ?_ _) | (with_reducible refine Kd.C_drew ?_))); (case side2 => exact HC0_2.out); rintro e w23 ⟨rfl, hb⟩; refine ⟨_, rfl, ?_⟩; have n0_ := Aside0.mk (blk_below (g := gb372) (o := .cells #[.int .i64 a0_0, .int .i64 a0_1, .slice A0_2 l0_2.length c0_2] 27 (0, 0)) (by (with_reducible repeat (first | refine blk_drewN ?_ _ | refine blk_drew ?_ | refine blk_alloc ?_ _)); exact BK372.out) hb); have n1_ := Aside0.mk (below_step (by repeat (first | (with_reducible first | exact HB.out | apply below_alloc | apply pw_below_drewN | apply below_drew1 | refine below_set ?_ GE372.out) | exact HB.out)) hb); clear BK372; clear HB; have BK372 := n0_; have HB := n1_; clear n0_ n1_; (try clear hb); (try clear hb2); (try clear hk); (try clear hi)) | ((with_reducible refine gate_dst (N := 19) rfl ?_); refine Kd.R_lit (Kd.int .i64) _ 3 ?hg (N := 19) ?hd (xs := ([] : List Int)) (inner := []) (ok := fun _ => True) (okp := fun _ => True) ?hr ?hp (fun _ hk => hk) trivial (Below.refl _ _) (Nat.le_refl _) (by simp) ?_; (case hd => rfl); (case hg => rfl); (case hr => first | (go_simp; done) | (go_simp; rfl)); (case hp => exact (Reps.none _ _)); intro v382 w24 ho25 hb hg_ hnew_; clear hg_ hnew_; (first | rw [← Ny381.out] at ho25 | (simp only [Int.reduceToNat] at ho25; rw [← Ny381.out] at ho25)); have n0_ := Aside0.mk (Kd.R_lower ho25 (below_size (by repeat (first | (with_reducible first | exact HB.out | apply below_alloc | apply pw_below_drewN | apply below_drew1 | refine below_set ?_ GE372.out) | exact HB.out)))); have n1_ := Aside0.mk (blk_below (g := gb372) (o := .cells #[.int .i64 a0_0, .int .i64 a0_1, .slice A0_2 l0_2.length c0_2] 27 (0, 0)) (by (with_reducible repeat (first | refine blk_drewN ?_ _ | refine blk_drew ?_ | refine blk_alloc ?_ _)); exact BK372.out) hb); have n2_ := Aside0.mk (below_step (by repeat (first | (with_reducible first | exact HB.out | apply below_alloc | apply pw_below_drewN | apply below_drew1 | refine below_set ?_ GE372.out) | exact HB.out)) hb); clear BK372; clear HB; have HO383 := n0_; have BK372 := n1_; have HB := n2_; clear n0_ n1_ n2_; clear hb ho25))
    go_ret
    exact ⟨_, by first | rfl | (simp [errW_none, errW_some] <;> rfl) | (simp [*, errW_none, errW_some] <;> rfl), by (with_reducible repeat (first | apply Kd.R_alloc | apply Kd.R_drewN | apply Kd.R_drew)); exact HO383.out, by repeat (first | (with_reducible first | exact HB.out | apply below_alloc | apply pw_below_drewN | apply below_drew1 | refine below_set ?_ GE372.out) | exact HB.out)⟩

/-! ### spec_Way: function 49 -/
mutual
def spec_Way.j0 : Nat → Int → Int → Bool → List Int → Bool → Int → Int → List Int → Option (List Int)
  | 0, _, _, _, _, _, _, _, _ => none
  | k + 1, x1, x2, x3, x9, x33, x385000, x385001, x385002 => if x33 = true then (some (([] : List Int))) else (spec_Way.l0 k x2 x3 x9 (([x1] : List Int)) x1 x385000 x385001 x385002)
def spec_Way.l0 : Nat → Int → Bool → List Int → List Int → Int → Int → Int → List Int → Option (List Int)
  | 0, _, _, _, _, _, _, _, _ => none
  | k + 1, x2, x3, x9, x10, x11, x385000, x385001, x385002 => if x11 = x2 then (some x10) else ((spec_l1Near.f k x385000 x385001 x385002 x11 false).bind fun t396 => (spec_Way.l1 k x2 x3 x9 x10 x11 t396 0 x385000 x385001 x385002))
def spec_Way.l1 : Nat → Int → Bool → List Int → List Int → Int → List Int → Int → Int → Int → List Int → Option (List Int)
  | 0, _, _, _, _, _, _, _, _, _, _ => none
  | k + 1, x2, x3, x9, x10, x11, x12, x13, x385000, x385001, x385002 => if x13 < (x12.length : Int) then (if 0 ≤ x13 then (if 0 ≤ (rd x12 x13) then (if (rd x12 x13) < (x9.length : Int) then (if 0 ≤ x11 then (if x11 < (x9.length : Int) then (if (rd x9 (rd x12 x13)) = (wrap64 ((rd x9 x11) - 1)) then (if (rd x12 x13) = x2 then (if x10.length < 17592186044416 then (spec_Way.l0 k x2 x3 x9 (x10 ++ [rd x12 x13]) (rd x12 x13) x385000 x385001 x385002) else (none)) else (if x3 = true then (if (rd x12 x13) < (x385002.length : Int) then (if (rd x385002 (rd x12 x13)) = 2 then (spec_Way.l1 k x2 x3 x9 x10 x11 x12 (wrap64 (x13 + 1)) x385000 x385001 x385002) else (if x10.length < 17592186044416 then (spec_Way.l0 k x2 x3 x9 (x10 ++ [rd x12 x13]) (rd x12 x13) x385000 x385001 x385002) else (none))) else (none)) else (if x10.length < 17592186044416 then (spec_Way.l0 k x2 x3 x9 (x10 ++ [rd x12 x13]) (rd x12 x13) x385000 x385001 x385002) else (none)))) else (spec_Way.l1 k x2 x3 x9 x10 x11 x12 (wrap64 (x13 + 1)) x385000 x385001 x385002)) else (none)) else (none)) else (none)) else (none)) else (none)) else (if x10.length < 17592186044416 then (spec_Way.l0 k x2 x3 x9 (x10 ++ [x11]) x11 x385000 x385001 x385002) else (none))
end
def spec_Way.f (k : Nat) (a0_0 : Int) (a0_1 : Int) (l0_2 : List Int) (a1 : Int) (a2 : Int) (a3 : Bool) : Option (List Int) := (spec_Field.f k a0_0 a0_1 l0_2 a2 a3).bind fun t385 => (if (t385.length : Int) = 0 then (spec_Way.j0 k a1 a2 a3 t385 true a0_0 a0_1 l0_2) else ((spec_l1Cell.f k a0_0 a0_1 l0_2 a1).bind fun t388 => (if t388 = true then (if 0 ≤ a1 then (if a1 < (t385.length : Int) then (spec_Way.j0 k a1 a2 a3 t385 (decide ((rd t385 a1) < 0)) a0_0 a0_1 l0_2) else (none)) else (none)) else (spec_Way.j0 k a1 a2 a3 t385 true a0_0 a0_1 l0_2))))
theorem spec_Way.mono_l : ∀ k, (∀ y0 y1 y2 y3 y4 y5 y6 y7, LeO (spec_Way.j0 k y0 y1 y2 y3 y4 y5 y6 y7) (spec_Way.j0 (k + 1) y0 y1 y2 y3 y4 y5 y6 y7)) ∧ (∀ y0 y1 y2 y3 y4 y5 y6 y7, LeO (spec_Way.l0 k y0 y1 y2 y3 y4 y5 y6 y7) (spec_Way.l0 (k + 1) y0 y1 y2 y3 y4 y5 y6 y7)) ∧ (∀ y0 y1 y2 y3 y4 y5 y6 y7 y8 y9, LeO (spec_Way.l1 k y0 y1 y2 y3 y4 y5 y6 y7 y8 y9) (spec_Way.l1 (k + 1) y0 y1 y2 y3 y4 y5 y6 y7 y8 y9))
  | 0 => ⟨fun _ _ _ _ _ _ _ _ r h => by simp [spec_Way.j0] at h, fun _ _ _ _ _ _ _ _ r h => by simp [spec_Way.l0] at h, fun _ _ _ _ _ _ _ _ _ _ r h => by simp [spec_Way.l1] at h⟩
  | k + 1 => by
    obtain ⟨ih0, ih1, ih2⟩ := spec_Way.mono_l k
    refine ⟨?_, ?_, ?_⟩
    · intro y0 y1 y2 y3 y4 y5 y6 y7
      unfold spec_Way.j0
      repeat' first
      | (with_reducible exact ih0 _ _ _ _ _ _ _ _)
      | (with_reducible exact ih1 _ _ _ _ _ _ _ _)
      | (with_reducible exact ih2 _ _ _ _ _ _ _ _ _ _)
      | (with_reducible exact spec_Field.mono _ _ _ _ _ _)
      | (with_reducible exact spec_l1Cell.mono _ _ _ _ _)
      | (with_reducible exact spec_l1Near.mono _ _ _ _ _ _)
      | (with_reducible exact LeO.refl _)
      | (with_reducible exact LeO.none _)
      | (with_reducible refine LeO.ite ?_ ?_)
      | (with_reducible refine LeO.bind ?_ (fun _ => ?_))
      | exact ih0 _ _ _ _ _ _ _ _
      | exact ih1 _ _ _ _ _ _ _ _
      | exact ih2 _ _ _ _ _ _ _ _ _ _
      | exact spec_Field.mono _ _ _ _ _ _
      | exact spec_l1Cell.mono _ _ _ _ _
      | exact spec_l1Near.mono _ _ _ _ _ _
      | exact LeO.none _
      | refine LeO.ite ?_ ?_
      | refine LeO.bind ?_ (fun _ => ?_)
    · intro y0 y1 y2 y3 y4 y5 y6 y7
      unfold spec_Way.l0
      repeat' first
      | (with_reducible exact ih0 _ _ _ _ _ _ _ _)
      | (with_reducible exact ih1 _ _ _ _ _ _ _ _)
      | (with_reducible exact ih2 _ _ _ _ _ _ _ _ _ _)
      | (with_reducible exact spec_Field.mono _ _ _ _ _ _)
      | (with_reducible exact spec_l1Cell.mono _ _ _ _ _)
      | (with_reducible exact spec_l1Near.mono _ _ _ _ _ _)
      | (with_reducible exact LeO.refl _)
      | (with_reducible exact LeO.none _)
      | (with_reducible refine LeO.ite ?_ ?_)
      | (with_reducible refine LeO.bind ?_ (fun _ => ?_))
      | exact ih0 _ _ _ _ _ _ _ _
      | exact ih1 _ _ _ _ _ _ _ _
      | exact ih2 _ _ _ _ _ _ _ _ _ _
      | exact spec_Field.mono _ _ _ _ _ _
      | exact spec_l1Cell.mono _ _ _ _ _
      | exact spec_l1Near.mono _ _ _ _ _ _
      | exact LeO.none _
      | refine LeO.ite ?_ ?_
      | refine LeO.bind ?_ (fun _ => ?_)
    · intro y0 y1 y2 y3 y4 y5 y6 y7 y8 y9
      unfold spec_Way.l1
      repeat' first
      | (with_reducible exact ih0 _ _ _ _ _ _ _ _)
      | (with_reducible exact ih1 _ _ _ _ _ _ _ _)
      | (with_reducible exact ih2 _ _ _ _ _ _ _ _ _ _)
      | (with_reducible exact spec_Field.mono _ _ _ _ _ _)
      | (with_reducible exact spec_l1Cell.mono _ _ _ _ _)
      | (with_reducible exact spec_l1Near.mono _ _ _ _ _ _)
      | (with_reducible exact LeO.refl _)
      | (with_reducible exact LeO.none _)
      | (with_reducible refine LeO.ite ?_ ?_)
      | (with_reducible refine LeO.bind ?_ (fun _ => ?_))
      | exact ih0 _ _ _ _ _ _ _ _
      | exact ih1 _ _ _ _ _ _ _ _
      | exact ih2 _ _ _ _ _ _ _ _ _ _
      | exact spec_Field.mono _ _ _ _ _ _
      | exact spec_l1Cell.mono _ _ _ _ _
      | exact spec_l1Near.mono _ _ _ _ _ _
      | exact LeO.none _
      | refine LeO.ite ?_ ?_
      | refine LeO.bind ?_ (fun _ => ?_)
theorem spec_Way.mono : ∀ a0 a1 a2 a3 a4 a5 k, LeO (spec_Way.f k a0 a1 a2 a3 a4 a5) (spec_Way.f (k + 1) a0 a1 a2 a3 a4 a5) := by
  intro a0 a1 a2 a3 a4 a5 k
  obtain ⟨ih0, ih1, ih2⟩ := spec_Way.mono_l k
  unfold spec_Way.f
  repeat' first
      | (with_reducible exact ih0 _ _ _ _ _ _ _ _)
      | (with_reducible exact ih1 _ _ _ _ _ _ _ _)
      | (with_reducible exact ih2 _ _ _ _ _ _ _ _ _ _)
      | (with_reducible exact spec_Field.mono _ _ _ _ _ _)
      | (with_reducible exact spec_l1Cell.mono _ _ _ _ _)
      | (with_reducible exact spec_l1Near.mono _ _ _ _ _ _)
      | (with_reducible exact LeO.refl _)
      | (with_reducible exact LeO.none _)
      | (with_reducible refine LeO.ite ?_ ?_)
      | (with_reducible refine LeO.bind ?_ (fun _ => ?_))
      | exact ih0 _ _ _ _ _ _ _ _
      | exact ih1 _ _ _ _ _ _ _ _
      | exact ih2 _ _ _ _ _ _ _ _ _ _
      | exact spec_Field.mono _ _ _ _ _ _
      | exact spec_l1Cell.mono _ _ _ _ _
      | exact spec_l1Near.mono _ _ _ _ _ _
      | exact LeO.none _
      | refine LeO.ite ?_ ?_
      | refine LeO.bind ?_ (fun _ => ?_)
set_option maxHeartbeats 8000000 in
set_option maxRecDepth 100000 in
theorem spec_Way.calls (k : Nat) (a0_0 : Int) (a0_1 : Int) (A0_2 : Option Addr) (c0_2 : Nat) (l0_2 : List Int) (a1 : Int) (a2 : Int) (a3 : Bool) (r : List Int) (w : World) (hr0_2 : Kd.C (Kd.int .i64) w A0_2 l0_2.length l0_2) (hc0_2 : l0_2.length ≤ c0_2) (h : spec_Way.f k a0_0 a0_1 l0_2 a1 a2 a3 = some r) :
    Calls Try.prog 49 #[.agg #[.int .i64 a0_0, .int .i64 a0_1, .slice A0_2 l0_2.length c0_2], .int .i64 a1, .int .i64 a2, .bool a3] w fun e w' => ∃ v0_ : Value, e = .returned (v0_) ∧ Kd.R (Kd.int .i64) 3 w' w.heap.size (fun _ => True) v0_ r ∧ Below w.heap.size w w' := by
  have hu27 := Try.underlying27
  have HR0_2 := Aside0.mk hr0_2
  have HC0_2 := Aside0.mk hc0_2
  clear hr0_2 hc0_2
  have HB := Aside0.mk (Below.refl w.heap.size w)
  have H : ((spec_Field.f k a0_0 a0_1 l0_2 a2 a3).bind fun t385 => (if (t385.length : Int) = 0 then (spec_Way.j0 k a1 a2 a3 t385 true a0_0 a0_1 l0_2) else ((spec_l1Cell.f k a0_0 a0_1 l0_2 a1).bind fun t388 => (if t388 = true then (if 0 ≤ a1 then (if a1 < (t385.length : Int) then (spec_Way.j0 k a1 a2 a3 t385 (decide ((rd t385 a1) < 0)) a0_0 a0_1 l0_2) else (none)) else (none)) else (spec_Way.j0 k a1 a2 a3 t385 true a0_0 a0_1 l0_2))))) = some r := h
  clear h
  replace H := Option.bind_eq_some_iff.mp H
  obtain ⟨t385, A50, H⟩ := H
  replace H : (if (t385.length : Int) = 0 then (spec_Way.j0 k a1 a2 a3 t385 true a0_0 a0_1 l0_2) else ((spec_l1Cell.f k a0_0 a0_1 l0_2 a1).bind fun t388 => (if t388 = true then (if 0 ≤ a1 then (if a1 < (t385.length : Int) then (spec_Way.j0 k a1 a2 a3 t385 (decide ((rd t385 a1) < 0)) a0_0 a0_1 l0_2) else (none)) else (none)) else (spec_Way.j0 k a1 a2 a3 t385 true a0_0 a0_1 l0_2)))) = some r := H
  have A5 := Aside0.mk A50
  clear A50
  have HC6 := Aside0.mk H
  clear H
  go_enter Try.func49, Try.ntmps49
  go_upto_region 2 with (first | ((with_reducible refine gate_dst (N := 4) rfl ?_); refine box_event ?hg (N := 4) ?hd (cs := #[.int .i64 a0_0, .int .i64 a0_1, .slice A0_2 l0_2.length c0_2]) (t := 27) ?hr ?_; (case hd => rfl); (case hg => rfl); (case hr => first | (go_simp; done) | (go_simp; rfl)); intro gb384 hg w7 hbox hb; have n0_ := Aside0.mk (below_step qz1 hb); have n1_ := Aside0.mk (hbox); have n2_ := Aside0.mk ((by rw [hg]; exact (below_size qz1) : w.heap.size ≤ gb384)); have n3_ := Aside0.mk ((by rw [hg]; exact (below_size qz1) : w.heap.size ≤ gb384)); clear HB; have HB := n0_; have BK384 := n1_; have GW384 := n2_; have GE384 := n3_; clear n0_ n1_ n2_ n3_; clear hb hbox hg; have hcz8_0 : w7.cell? ⟨gb384, 0, none⟩ = some (.int .i64 a0_0) := (blk_cell BK384.out 0).trans rfl; have hcz8_1 : w7.cell? ⟨gb384, 1, none⟩ = some (.int .i64 a0_1) := (blk_cell BK384.out 1).trans rfl; have hcz8_2 : w7.cell? ⟨gb384, 2, none⟩ = some (.slice A0_2 l0_2.length c0_2) := (blk_cell BK384.out 2).trans rfl; have hfz8_0 := blk_frozen BK384.out 0; have hfz8_1 := blk_frozen BK384.out 1; have hfz8_2 := blk_frozen BK384.out 2) | (go_at_call 89; (with_reducible refine (spec_Field.calls k a0_0 a0_1 _ _ l0_2 a2 a3 t385 _ ?side1 ?side2 A5.out).mono ?_); (case side1 => repeat (first | exact (Kd.C_below HR0_2.out HB.out) | (with_reducible refine Kd.C_alloc ?_ _) | (with_reducible refine Kd.C_drewN ?_ _) | (with_reducible refine Kd.C_drew ?_))); (case side2 => exact HC0_2.out); rintro e w9 ⟨v386, rfl, ho0, hb⟩; have n0_ := Aside0.mk (Kd.R_lower ho0 (below_size qz4)); have n1_ := Aside0.mk (blk_below (g := gb384) (o := .cells #[.int .i64 a0_0, .int .i64 a0_1, .slice A0_2 l0_2.length c0_2] 27 (0, 0)) qz12 hb); have n2_ := Aside0.mk (below_step qz4 hb); clear BK384; clear HB; have HO387 := n0_; have BK384 := n1_; have HB := n2_; clear n0_ n1_ n2_; (try clear hb); (try clear hb2); (try clear hk); (try clear hi); (try clear ho0)))
  repeat (go_quiet (first | ((with_reducible refine gate_dst (N := 4) rfl ?_); refine box_event ?hg (N := 4) ?hd (cs := #[.int .i64 a0_0, .int .i64 a0_1, .slice A0_2 l0_2.length c0_2]) (t := 27) ?hr ?_; (case hd => rfl); (case hg => rfl); (case hr => first | (go_simp; done) | (go_simp; rfl)); intro gb384 hg w7 hbox hb; have n0_ := Aside0.mk (below_step qz1 hb); have n1_ := Aside0.mk (hbox); have n2_ := Aside0.mk ((by rw [hg]; exact (below_size qz1) : w.heap.size ≤ gb384)); have n3_ := Aside0.mk ((by rw [hg]; exact (below_size qz1) : w.heap.size ≤ gb384)); clear HB; have HB := n0_; have BK384 := n1_; have GW384 := n2_; have GE384 := n3_; clear n0_ n1_ n2_ n3_; clear hb hbox hg; have hcz8_0 : w7.cell? ⟨gb384, 0, none⟩ = some (.int .i64 a0_0) := (blk_cell BK384.out 0).trans rfl; have hcz8_1 : w7.cell? ⟨gb384, 1, none⟩ = some (.int .i64 a0_1) := (blk_cell BK384.out 1).trans rfl; have hcz8_2 : w7.cell? ⟨gb384, 2, none⟩ = some (.slice A0_2 l0_2.length c0_2) := (blk_cell BK384.out 2).trans rfl; have hfz8_0 := blk_frozen BK384.out 0; have hfz8_1 := blk_frozen BK384.out 1; have hfz8_2 := blk_frozen BK384.out 2) | (go_at_call 89; (with_reducible refine (spec_Field.calls k a0_0 a0_1 _ _ l0_2 a2 a3 t385 _ ?side1 ?side2 A5.out).mono ?_); (case side1 => repeat (first | exact (Kd.C_below HR0_2.out HB.out) | (with_reducible refine Kd.C_alloc ?_ _) | (with_reducible refine Kd.C_drewN ?_ _) | (with_reducible refine Kd.C_drew ?_))); (case side2 => exact HC0_2.out); rintro e w9 ⟨v386, rfl, ho0, hb⟩; have n0_ := Aside0.mk (Kd.R_lower ho0 (below_size qz4)); have n1_ := Aside0.mk (blk_below (g := gb384) (o := .cells #[.int .i64 a0_0, .int .i64 a0_1, .slice A0_2 l0_2.length c0_2] 27 (0, 0)) qz12 hb); have n2_ := Aside0.mk (below_step qz4 hb); clear BK384; clear HB; have HO387 := n0_; have BK384 := n1_; have HB := n2_; clear n0_ n1_ n2_; (try clear hb); (try clear hb2); (try clear hk); (try clear hi); (try clear ho0))); go_upto_region 2 with (first | ((with_reducible refine gate_dst (N := 4) rfl ?_); refine box_event ?hg (N := 4) ?hd (cs := #[.int .i64 a0_0, .int .i64 a0_1, .slice A0_2 l0_2.length c0_2]) (t := 27) ?hr ?_; (case hd => rfl); (case hg => rfl); (case hr => first | (go_simp; done) | (go_simp; rfl)); intro gb384 hg w7 hbox hb; have n0_ := Aside0.mk (below_step qz1 hb); have n1_ := Aside0.mk (hbox); have n2_ := Aside0.mk ((by rw [hg]; exact (below_size qz1) : w.heap.size ≤ gb384)); have n3_ := Aside0.mk ((by rw [hg]; exact (below_size qz1) : w.heap.size ≤ gb384)); clear HB; have HB := n0_; have BK384 := n1_; have GW384 := n2_; have GE384 := n3_; clear n0_ n1_ n2_ n3_; clear hb hbox hg; have hcz8_0 : w7.cell? ⟨gb384, 0, none⟩ = some (.int .i64 a0_0) := (blk_cell BK384.out 0).trans rfl; have hcz8_1 : w7.cell? ⟨gb384, 1, none⟩ = some (.int .i64 a0_1) := (blk_cell BK384.out 1).trans rfl; have hcz8_2 : w7.cell? ⟨gb384, 2, none⟩ = some (.slice A0_2 l0_2.length c0_2) := (blk_cell BK384.out 2).trans rfl; have hfz8_0 := blk_frozen BK384.out 0; have hfz8_1 := blk_frozen BK384.out 1; have hfz8_2 := blk_frozen BK384.out 2) | (go_at_call 89; (with_reducible refine (spec_Field.calls k a0_0 a0_1 _ _ l0_2 a2 a3 t385 _ ?side1 ?side2 A5.out).mono ?_); (case side1 => repeat (first | exact (Kd.C_below HR0_2.out HB.out) | (with_reducible refine Kd.C_alloc ?_ _) | (with_reducible refine Kd.C_drewN ?_ _) | (with_reducible refine Kd.C_drew ?_))); (case side2 => exact HC0_2.out); rintro e w9 ⟨v386, rfl, ho0, hb⟩; have n0_ := Aside0.mk (Kd.R_lower ho0 (below_size qz4)); have n1_ := Aside0.mk (blk_below (g := gb384) (o := .cells #[.int .i64 a0_0, .int .i64 a0_1, .slice A0_2 l0_2.length c0_2] 27 (0, 0)) qz12 hb); have n2_ := Aside0.mk (below_step qz4 hb); clear BK384; clear HB; have HO387 := n0_; have BK384 := n1_; have HB := n2_; clear n0_ n1_ n2_; (try clear hb); (try clear hb2); (try clear hk); (try clear hi); (try clear ho0))))
  (try simp only [Act.put, List.setIfInBounds_toArray, List.set_cons_zero, List.set_cons_succ])
  go_cut [33] (fun v33 wc => ∃ (kq : Nat) (x33_5 : Bool), v33 = .bool x33_5 ∧ Aside0 (spec_Way.j0 kq a1 a2 a3 t385 x33_5 a0_0 a0_1 l0_2 = some r) ∧ Aside0 (kq ≤ k) ∧ Aside0 (Kd.R (Kd.int .i64) 3 wc w.heap.size (fun _ => True) v386 t385) ∧ Aside0 (wc.heap[gb384]? = some (.cells #[.int .i64 a0_0, .int .i64 a0_1, (.slice A0_2 l0_2.length c0_2)] 27 (0, 0))) ∧ Aside0 (Below w.heap.size w wc))
  case first =>
    have H := HC6.out
    clear HC6
    by_cases c10 : (t385.length : Int) = 0
    · rw [if_pos c10] at H
      have c10b0 : ((t385.length : Int) == 0) = true := beq_iff_eq.mpr c10
      have c10b1 : ((t385.length : Int) != 0) = false := bne_eq_false_iff_eq.mpr c10
      clear c10
      (first | rw [c10b0] | (simp only [i64_w, i32_w]; rw [c10b0]) | rw [@decide_eq_true _ _ (of_decide_eq_true c10b0)] | rw [@decide_eq_true _ _ (of_decide_eq_true c10b1)] | skip)
      have H' := Aside0.mk H
      clear H
      obtain ⟨Ao11, co11, eo11⟩ := Kd.R_slice HO387.out
      subst eo11
      go_wp2
      repeat (go_quiet (fail); try go_wp2)
      go_meet
      case rel => exact ⟨_, (true), qz8, H', ⟨by first | omega | exact Nat.le_refl _⟩, ⟨by (with_reducible repeat (first | apply Kd.R_alloc | apply Kd.R_drewN | apply Kd.R_drew)); exact HO387.out⟩, ⟨by (with_reducible repeat (first | refine blk_drewN ?_ _ | refine blk_drew ?_ | refine blk_alloc ?_ _)); exact BK384.out⟩, ⟨by repeat (first | (with_reducible first | exact HB.out | apply below_alloc | apply pw_below_drewN | apply below_drew1 | refine below_set ?_ GE384.out) | exact HB.out)⟩⟩
    · rw [if_neg c10] at H
      have c10b0 : ((t385.length : Int) == 0) = false := beq_eq_false_iff_ne.mpr c10
      have c10b1 : ((t385.length : Int) != 0) = true := bne_iff_ne.mpr c10
      have c10b2 : ¬ (t385 = []) := fun h_ => c10 (by rw [h_]; rfl)
      (first | rw [c10b0] | (simp only [i64_w, i32_w]; rw [c10b0]) | rw [@decide_eq_false _ _ (of_decide_eq_false c10b0)] | rw [@decide_eq_false _ _ (of_decide_eq_false c10b1)] | skip)
      replace H := Option.bind_eq_some_iff.mp H
      obtain ⟨t388, A120, H⟩ := H
      replace H : (if t388 = true then (if 0 ≤ a1 then (if a1 < (t385.length : Int) then (spec_Way.j0 k a1 a2 a3 t385 (decide ((rd t385 a1) < 0)) a0_0 a0_1 l0_2) else (none)) else (none)) else (spec_Way.j0 k a1 a2 a3 t385 true a0_0 a0_1 l0_2)) = some r := H
      have A12 := Aside0.mk A120
      clear A120
      by_cases c13 : t388 = true
      · subst c13
        have H1 : (if 0 ≤ a1 then (if a1 < (t385.length : Int) then (spec_Way.j0 k a1 a2 a3 t385 (decide ((rd t385 a1) < 0)) a0_0 a0_1 l0_2) else (none)) else (none)) = some r := by rw [if_pos rfl] at H; exact H
        clear H
        have H := H1
        clear H1
        by_cases c14 : 0 ≤ a1
        · rw [if_pos c14] at H
          have c14b0 : decide (0 ≤ a1) = true := decide_eq_true c14
          clear c14
          by_cases c15 : a1 < (t385.length : Int)
          · rw [if_pos c15] at H
            have c15b0 : decide (a1 < (t385.length : Int)) = true := decide_eq_true c15
            clear c15
            have H' := Aside0.mk H
            clear H
            obtain ⟨Ao16, co16, eo16⟩ := Kd.R_slice HO387.out
            subst eo16
            have hcz17_0 : w9.cell? ⟨gb384, 0, none⟩ = some (.int .i64 a0_0) := (blk_cell BK384.out 0).trans rfl
            have hcz17_1 : w9.cell? ⟨gb384, 1, none⟩ = some (.int .i64 a0_1) := (blk_cell BK384.out 1).trans rfl
            have hcz17_2 : w9.cell? ⟨gb384, 2, none⟩ = some (.slice A0_2 l0_2.length c0_2) := (blk_cell BK384.out 2).trans rfl
            have hfz17_0 := blk_frozen BK384.out 0
            have hfz17_1 := blk_frozen BK384.out 1
            have hfz17_2 := blk_frozen BK384.out 2
            go_wp2_with (first | (go_at_call 90; (with_reducible refine (spec_l1Cell.calls k a0_0 a0_1 _ _ l0_2 a1 true _ ?side1 ?side2 A12.out).mono ?_); (case side1 => repeat (first | exact (Kd.C_below HR0_2.out HB.out) | (with_reducible refine Kd.C_alloc ?_ _) | (with_reducible refine Kd.C_drewN ?_ _) | (with_reducible refine Kd.C_drew ?_))); (case side2 => exact HC0_2.out); rintro e w18 ⟨rfl, hb⟩; have n0_ := Aside0.mk (Kd.R_below (by (with_reducible repeat (first | apply Kd.R_alloc | apply Kd.R_drewN | apply Kd.R_drew)); exact HO387.out) hb); have n1_ := Aside0.mk (blk_below (g := gb384) (o := .cells #[.int .i64 a0_0, .int .i64 a0_1, .slice A0_2 l0_2.length c0_2] 27 (0, 0)) qz12 hb); have n2_ := Aside0.mk (below_step qz4 hb); clear HO387; clear BK384; clear HB; have HO387 := n0_; have BK384 := n1_; have HB := n2_; clear n0_ n1_ n2_; (try clear hb); (try clear hb2); (try clear hk); (try clear hi); have p389 : 0 ≤ (a1 : Int) := of_decide_eq_true qz2; have q389 : a1 < (t385.length : Int) := of_decide_eq_true qz2; obtain ⟨ad389, e389, hx389_0⟩ := Kd.at_int (Kd.R_reads' HO387.out).2.2 a1 p389 q389; cases e389; replace p389 := eq_true p389; replace q389 := eq_true q389))
            repeat (go_quiet (first | (go_at_call 90; (with_reducible refine (spec_l1Cell.calls k a0_0 a0_1 _ _ l0_2 a1 true _ ?side1 ?side2 A12.out).mono ?_); (case side1 => repeat (first | exact (Kd.C_below HR0_2.out HB.out) | (with_reducible refine Kd.C_alloc ?_ _) | (with_reducible refine Kd.C_drewN ?_ _) | (with_reducible refine Kd.C_drew ?_))); (case side2 => exact HC0_2.out); rintro e w18 ⟨rfl, hb⟩; have n0_ := Aside0.mk (Kd.R_below (by (with_reducible repeat (first | apply Kd.R_alloc | apply Kd.R_drewN | apply Kd.R_drew)); exact HO387.out) hb); have n1_ := Aside0.mk (blk_below (g := gb384) (o := .cells #[.int .i64 a0_0, .int .i64 a0_1, .slice A0_2 l0_2.length c0_2] 27 (0, 0)) qz12 hb); have n2_ := Aside0.mk (below_step qz4 hb); clear HO387; clear BK384; clear HB; have HO387 := n0_; have BK384 := n1_; have HB := n2_; clear n0_ n1_ n2_; (try clear hb); (try clear hb2); (try clear hk); (try clear hi); have p389 : 0 ≤ (a1 : Int) := of_decide_eq_true qz2; have q389 : a1 < (t385.length : Int) := of_decide_eq_true qz2; obtain ⟨ad389, e389, hx389_0⟩ := Kd.at_int (Kd.R_reads' HO387.out).2.2 a1 p389 q389; cases e389; replace p389 := eq_true p389; replace q389 := eq_true q389)); try go_wp2_with (first | (go_at_call 90; (with_reducible refine (spec_l1Cell.calls k a0_0 a0_1 _ _ l0_2 a1 true _ ?side1 ?side2 A12.out).mono ?_); (case side1 => repeat (first | exact (Kd.C_below HR0_2.out HB.out) | (with_reducible refine Kd.C_alloc ?_ _) | (with_reducible refine Kd.C_drewN ?_ _) | (with_reducible refine Kd.C_drew ?_))); (case side2 => exact HC0_2.out); rintro e w18 ⟨rfl, hb⟩; have n0_ := Aside0.mk (Kd.R_below (by (with_reducible repeat (first | apply Kd.R_alloc | apply Kd.R_drewN | apply Kd.R_drew)); exact HO387.out) hb); have n1_ := Aside0.mk (blk_below (g := gb384) (o := .cells #[.int .i64 a0_0, .int .i64 a0_1, .slice A0_2 l0_2.length c0_2] 27 (0, 0)) qz12 hb); have n2_ := Aside0.mk (below_step qz4 hb); clear HO387; clear BK384; clear HB; have HO387 := n0_; have BK384 := n1_; have HB := n2_; clear n0_ n1_ n2_; (try clear hb); (try clear hb2); (try clear hk); (try clear hi); have p389 : 0 ≤ (a1 : Int) := of_decide_eq_true qz2; have q389 : a1 < (t385.length : Int) := of_decide_eq_true qz2; obtain ⟨ad389, e389, hx389_0⟩ := Kd.at_int (Kd.R_reads' HO387.out).2.2 a1 p389 q389; cases e389; replace p389 := eq_true p389; replace q389 := eq_true q389)))
            go_meet
            case rel => exact ⟨_, (decide ((rd t385 a1) < 0)), qz8, H', ⟨by first | omega | exact Nat.le_refl _⟩, ⟨by (with_reducible repeat (first | apply Kd.R_alloc | apply Kd.R_drewN | apply Kd.R_drew)); exact HO387.out⟩, ⟨by (with_reducible repeat (first | refine blk_drewN ?_ _ | refine blk_drew ?_ | refine blk_alloc ?_ _)); exact BK384.out⟩, ⟨by repeat (first | (with_reducible first | exact HB.out | apply below_alloc | apply pw_below_drewN | apply below_drew1 | refine below_set ?_ GE384.out) | exact HB.out)⟩⟩
          · rw [if_neg c15] at H
            exact absurd H (by simp)
        · rw [if_neg c14] at H
          exact absurd H (by simp)
      · replace c13 := Bool.eq_false_iff.mpr c13
        subst c13
        have H1 : (spec_Way.j0 k a1 a2 a3 t385 true a0_0 a0_1 l0_2) = some r := by rw [if_neg (show ¬ (false = true) by decide)] at H; exact H
        clear H
        have H := H1
        clear H1
        have H' := Aside0.mk H
        clear H
        obtain ⟨Ao19, co19, eo19⟩ := Kd.R_slice HO387.out
        subst eo19
        have hcz20_0 : w9.cell? ⟨gb384, 0, none⟩ = some (.int .i64 a0_0) := (blk_cell BK384.out 0).trans rfl
        have hcz20_1 : w9.cell? ⟨gb384, 1, none⟩ = some (.int .i64 a0_1) := (blk_cell BK384.out 1).trans rfl
        have hcz20_2 : w9.cell? ⟨gb384, 2, none⟩ = some (.slice A0_2 l0_2.length c0_2) := (blk_cell BK384.out 2).trans rfl
        have hfz20_0 := blk_frozen BK384.out 0
        have hfz20_1 := blk_frozen BK384.out 1
        have hfz20_2 := blk_frozen BK384.out 2
        go_wp2_with (first | (go_at_call 90; (with_reducible refine (spec_l1Cell.calls k a0_0 a0_1 _ _ l0_2 a1 false _ ?side1 ?side2 A12.out).mono ?_); (case side1 => repeat (first | exact (Kd.C_below HR0_2.out HB.out) | (with_reducible refine Kd.C_alloc ?_ _) | (with_reducible refine Kd.C_drewN ?_ _) | (with_reducible refine Kd.C_drew ?_))); (case side2 => exact HC0_2.out); rintro e w21 ⟨rfl, hb⟩; have n0_ := Aside0.mk (Kd.R_below (by (with_reducible repeat (first | apply Kd.R_alloc | apply Kd.R_drewN | apply Kd.R_drew)); exact HO387.out) hb); have n1_ := Aside0.mk (blk_below (g := gb384) (o := .cells #[.int .i64 a0_0, .int .i64 a0_1, .slice A0_2 l0_2.length c0_2] 27 (0, 0)) qz12 hb); have n2_ := Aside0.mk (below_step qz4 hb); clear HO387; clear BK384; clear HB; have HO387 := n0_; have BK384 := n1_; have HB := n2_; clear n0_ n1_ n2_; (try clear hb); (try clear hb2); (try clear hk); (try clear hi)))
        repeat (go_quiet (first | (go_at_call 90; (with_reducible refine (spec_l1Cell.calls k a0_0 a0_1 _ _ l0_2 a1 false _ ?side1 ?side2 A12.out).mono ?_); (case side1 => repeat (first | exact (Kd.C_below HR0_2.out HB.out) | (with_reducible refine Kd.C_alloc ?_ _) | (with_reducible refine Kd.C_drewN ?_ _) | (with_reducible refine Kd.C_drew ?_))); (case side2 => exact HC0_2.out); rintro e w21 ⟨rfl, hb⟩; have n0_ := Aside0.mk (Kd.R_below (by (with_reducible repeat (first | apply Kd.R_alloc | apply Kd.R_drewN | apply Kd.R_drew)); exact HO387.out) hb); have n1_ := Aside0.mk (blk_below (g := gb384) (o := .cells #[.int .i64 a0_0, .int .i64 a0_1, .slice A0_2 l0_2.length c0_2] 27 (0, 0)) qz12 hb); have n2_ := Aside0.mk (below_step qz4 hb); clear HO387; clear BK384; clear HB; have HO387 := n0_; have BK384 := n1_; have HB := n2_; clear n0_ n1_ n2_; (try clear hb); (try clear hb2); (try clear hk); (try clear hi))); try go_wp2_with (first | (go_at_call 90; (with_reducible refine (spec_l1Cell.calls k a0_0 a0_1 _ _ l0_2 a1 false _ ?side1 ?side2 A12.out).mono ?_); (case side1 => repeat (first | exact (Kd.C_below HR0_2.out HB.out) | (with_reducible refine Kd.C_alloc ?_ _) | (with_reducible refine Kd.C_drewN ?_ _) | (with_reducible refine Kd.C_drew ?_))); (case side2 => exact HC0_2.out); rintro e w21 ⟨rfl, hb⟩; have n0_ := Aside0.mk (Kd.R_below (by (with_reducible repeat (first | apply Kd.R_alloc | apply Kd.R_drewN | apply Kd.R_drew)); exact HO387.out) hb); have n1_ := Aside0.mk (blk_below (g := gb384) (o := .cells #[.int .i64 a0_0, .int .i64 a0_1, .slice A0_2 l0_2.length c0_2] 27 (0, 0)) qz12 hb); have n2_ := Aside0.mk (below_step qz4 hb); clear HO387; clear BK384; clear HB; have HO387 := n0_; have BK384 := n1_; have HB := n2_; clear n0_ n1_ n2_; (try clear hb); (try clear hb2); (try clear hk); (try clear hi))))
        go_meet
        case rel => exact ⟨_, (true), qz8, H', ⟨by first | omega | exact Nat.le_refl _⟩, ⟨by (with_reducible repeat (first | apply Kd.R_alloc | apply Kd.R_drewN | apply Kd.R_drew)); exact HO387.out⟩, ⟨by (with_reducible repeat (first | refine blk_drewN ?_ _ | refine blk_drew ?_ | refine blk_alloc ?_ _)); exact BK384.out⟩, ⟨by repeat (first | (with_reducible first | exact HB.out | apply below_alloc | apply pw_below_drewN | apply below_drew1 | refine below_set ?_ GE384.out) | exact HB.out)⟩⟩
  case rest =>
    clear HC6
    try clear c1
    try clear p2
    try clear p3
    try clear q3
    try clear hx3
    try clear c4
    try clear c10
    try clear c10b0
    try clear c10b1
    try clear c10b2
    try clear c13
    try clear c14
    try clear c14b0
    try clear c15
    try clear c15b0
    try clear hcz17_0
    try clear hcz17_1
    try clear hcz17_2
    try clear hcz20_0
    try clear hcz20_1
    try clear hcz20_2
    try clear hcz8_0
    try clear hcz8_1
    try clear hcz8_2
    try clear hfz17_0
    try clear hfz17_1
    try clear hfz17_2
    try clear hfz20_0
    try clear hfz20_1
    try clear hfz20_2
    try clear hfz8_0
    try clear hfz8_1
    try clear hfz8_2
    try clear hx389_0
    try clear p389
    try clear q389
    obtain ⟨kq, x33_5, rfl, HA, HJ5, HO_9, BK384, HB⟩ := hcut
    cases kq with
    | zero => exact absurd HA.out (by simp [spec_Way.j0])
    | succ kj5 =>
      have H := HA.out
      clear HA
      simp only [spec_Way.j0] at H
      by_cases c22 : x33_5 = true
      · subst c22
        have H1 : (some (([] : List Int))) = some r := by rw [if_pos rfl] at H; exact H
        clear H
        have H := H1
        clear H1
        obtain ⟨y390, hy390⟩ : ∃ y_ : List Int, y_ = (([] : List Int)) := ⟨_, rfl⟩
        replace H : (some y390) = some r := by first | (rw [hy390]; with_reducible exact H) | (have H2_ := (Option.bind_some _ _).symm.trans H; rw [hy390]; with_reducible exact H2_) | (have H2_ := (Option.bind_some _ _).symm.trans H; with_reducible exact H2_) | with_reducible exact H | (rw [hy390]; exact H) | exact H
        have Ny390 := Aside0.mk hy390
        clear hy390
        obtain rfl := Option.some.inj H
        simp only [Option.some.injEq, Prod.mk.injEq] at H
        obtain ⟨rfl⟩ := H
        go_wp2_with (first | ((with_reducible refine gate_dst (N := 34) rfl ?_); refine Kd.R_lit (Kd.int .i64) _ 3 ?hg (N := 34) ?hd (xs := ([] : List Int)) (inner := []) (ok := fun _ => True) (okp := fun _ => True) ?hr ?hp (fun _ hk => hk) trivial (Below.refl _ _) (Nat.le_refl _) (by simp) ?_; (case hd => rfl); (case hg => rfl); (case hr => first | (go_simp; done) | (go_simp; rfl)); (case hp => exact (Reps.none _ _)); intro v391 w23 ho24 hb hg_ hnew_; clear hg_ hnew_; (first | rw [← Ny390.out] at ho24 | (simp only [Int.reduceToNat] at ho24; rw [← Ny390.out] at ho24)); have n0_ := Aside0.mk (Kd.R_elder' qz7 (Kd.R_base ho24) hb); have n1_ := Aside0.mk (Kd.R_lower (Kd.R_new' ho24 (Kd.R_lt qz7)) (below_size qz4)); have n2_ := Aside0.mk (blk_below (g := gb384) (o := .cells #[.int .i64 a0_0, .int .i64 a0_1, .slice A0_2 l0_2.length c0_2] 27 (0, 0)) qz12 hb); have n3_ := Aside0.mk (below_step qz4 hb); clear HO_9; clear BK384; clear HB; have HO_9 := n0_; have HO392 := n1_; have BK384 := n2_; have HB := n3_; clear n0_ n1_ n2_ n3_; clear hb ho24))
        repeat (go_quiet (first | ((with_reducible refine gate_dst (N := 34) rfl ?_); refine Kd.R_lit (Kd.int .i64) _ 3 ?hg (N := 34) ?hd (xs := ([] : List Int)) (inner := []) (ok := fun _ => True) (okp := fun _ => True) ?hr ?hp (fun _ hk => hk) trivial (Below.refl _ _) (Nat.le_refl _) (by simp) ?_; (case hd => rfl); (case hg => rfl); (case hr => first | (go_simp; done) | (go_simp; rfl)); (case hp => exact (Reps.none _ _)); intro v391 w23 ho24 hb hg_ hnew_; clear hg_ hnew_; (first | rw [← Ny390.out] at ho24 | (simp only [Int.reduceToNat] at ho24; rw [← Ny390.out] at ho24)); have n0_ := Aside0.mk (Kd.R_elder' qz7 (Kd.R_base ho24) hb); have n1_ := Aside0.mk (Kd.R_lower (Kd.R_new' ho24 (Kd.R_lt qz7)) (below_size qz4)); have n2_ := Aside0.mk (blk_below (g := gb384) (o := .cells #[.int .i64 a0_0, .int .i64 a0_1, .slice A0_2 l0_2.length c0_2] 27 (0, 0)) qz12 hb); have n3_ := Aside0.mk (below_step qz4 hb); clear HO_9; clear BK384; clear HB; have HO_9 := n0_; have HO392 := n1_; have BK384 := n2_; have HB := n3_; clear n0_ n1_ n2_ n3_; clear hb ho24)); try go_wp2_with (first | ((with_reducible refine gate_dst (N := 34) rfl ?_); refine Kd.R_lit (Kd.int .i64) _ 3 ?hg (N := 34) ?hd (xs := ([] : List Int)) (inner := []) (ok := fun _ => True) (okp := fun _ => True) ?hr ?hp (fun _ hk => hk) trivial (Below.refl _ _) (Nat.le_refl _) (by simp) ?_; (case hd => rfl); (case hg => rfl); (case hr => first | (go_simp; done) | (go_simp; rfl)); (case hp => exact (Reps.none _ _)); intro v391 w23 ho24 hb hg_ hnew_; clear hg_ hnew_; (first | rw [← Ny390.out] at ho24 | (simp only [Int.reduceToNat] at ho24; rw [← Ny390.out] at ho24)); have n0_ := Aside0.mk (Kd.R_elder' qz7 (Kd.R_base ho24) hb); have n1_ := Aside0.mk (Kd.R_lower (Kd.R_new' ho24 (Kd.R_lt qz7)) (below_size qz4)); have n2_ := Aside0.mk (blk_below (g := gb384) (o := .cells #[.int .i64 a0_0, .int .i64 a0_1, .slice A0_2 l0_2.length c0_2] 27 (0, 0)) qz12 hb); have n3_ := Aside0.mk (below_step qz4 hb); clear HO_9; clear BK384; clear HB; have HO_9 := n0_; have HO392 := n1_; have BK384 := n2_; have HB := n3_; clear n0_ n1_ n2_ n3_; clear hb ho24)))
        go_ret
        exact ⟨_, by first | rfl | (simp [errW_none, errW_some] <;> rfl) | (simp [*, errW_none, errW_some] <;> rfl), by (with_reducible repeat (first | apply Kd.R_alloc | apply Kd.R_drewN | apply Kd.R_drew)); exact Kd.R_mono HO392.out (fun _ hk => trivial), by repeat (first | (with_reducible first | exact HB.out | apply below_alloc | apply pw_below_drewN | apply below_drew1 | refine below_set ?_ GE384.out) | exact HB.out)⟩
      · replace c22 := Bool.eq_false_iff.mpr c22
        subst c22
        have H1 : (spec_Way.l0 kj5 a2 a3 t385 (([a1] : List Int)) a1 a0_0 a0_1 l0_2) = some r := by rw [if_neg (show ¬ (false = true) by decide)] at H; exact H
        clear H
        have H := H1
        clear H1
        obtain ⟨y393, hy393⟩ : ∃ y_ : List Int, y_ = (([a1] : List Int)) := ⟨_, rfl⟩
        replace H : (spec_Way.l0 kj5 a2 a3 t385 y393 a1 a0_0 a0_1 l0_2) = some r := by first | (rw [hy393]; with_reducible exact H) | (have H2_ := (Option.bind_some _ _).symm.trans H; rw [hy393]; with_reducible exact H2_) | (have H2_ := (Option.bind_some _ _).symm.trans H; with_reducible exact H2_) | with_reducible exact H | (rw [hy393]; exact H) | exact H
        have Ny393 := Aside0.mk hy393
        clear hy393
        have H' := Aside0.mk H
        clear H
        go_wp2_with (first | ((with_reducible refine gate_dst (N := 36) rfl ?_); refine Kd.R_lit (Kd.int .i64) _ 3 ?hg (N := 36) ?hd (xs := ([a1] : List Int)) (inner := [.int .i64 a1]) (ok := fun _ => True) (okp := fun _ => True) ?hr ?hp (fun _ hk => hk) trivial (Below.refl _ _) (Nat.le_refl _) (by simp) ?_; (case hd => rfl); (case hg => rfl); (case hr => first | (go_simp; done) | (go_simp; rfl)); (case hp => exact (Reps.one (show Kd.M (Kd.int .i64) _ _ _ a1 [.int .i64 a1] from rfl) (Reps.none _ _))); intro v394 w25 ho26 hb hg_ hnew_; clear hg_ hnew_; (first | rw [← Ny393.out] at ho26 | (simp only [Int.reduceToNat] at ho26; rw [← Ny393.out] at ho26)); have n0_ := Aside0.mk (Kd.R_elder' qz7 (Kd.R_base ho26) hb); have n1_ := Aside0.mk (Kd.R_lower (Kd.R_new' ho26 (Kd.R_lt qz7)) (below_size qz4)); have n2_ := Aside0.mk (blk_below (g := gb384) (o := .cells #[.int .i64 a0_0, .int .i64 a0_1, .slice A0_2 l0_2.length c0_2] 27 (0, 0)) qz12 hb); have n3_ := Aside0.mk (below_step qz4 hb); clear HO_9; clear BK384; clear HB; have HO_9 := n0_; have HO395 := n1_; have BK384 := n2_; have HB := n3_; clear n0_ n1_ n2_ n3_; clear hb ho26))
        repeat (go_quiet (first | ((with_reducible refine gate_dst (N := 36) rfl ?_); refine Kd.R_lit (Kd.int .i64) _ 3 ?hg (N := 36) ?hd (xs := ([a1] : List Int)) (inner := [.int .i64 a1]) (ok := fun _ => True) (okp := fun _ => True) ?hr ?hp (fun _ hk => hk) trivial (Below.refl _ _) (Nat.le_refl _) (by simp) ?_; (case hd => rfl); (case hg => rfl); (case hr => first | (go_simp; done) | (go_simp; rfl)); (case hp => exact (Reps.one (show Kd.M (Kd.int .i64) _ _ _ a1 [.int .i64 a1] from rfl) (Reps.none _ _))); intro v394 w25 ho26 hb hg_ hnew_; clear hg_ hnew_; (first | rw [← Ny393.out] at ho26 | (simp only [Int.reduceToNat] at ho26; rw [← Ny393.out] at ho26)); have n0_ := Aside0.mk (Kd.R_elder' qz7 (Kd.R_base ho26) hb); have n1_ := Aside0.mk (Kd.R_lower (Kd.R_new' ho26 (Kd.R_lt qz7)) (below_size qz4)); have n2_ := Aside0.mk (blk_below (g := gb384) (o := .cells #[.int .i64 a0_0, .int .i64 a0_1, .slice A0_2 l0_2.length c0_2] 27 (0, 0)) qz12 hb); have n3_ := Aside0.mk (below_step qz4 hb); clear HO_9; clear BK384; clear HB; have HO_9 := n0_; have HO395 := n1_; have BK384 := n2_; have HB := n3_; clear n0_ n1_ n2_ n3_; clear hb ho26)); try go_wp2_with (first | ((with_reducible refine gate_dst (N := 36) rfl ?_); refine Kd.R_lit (Kd.int .i64) _ 3 ?hg (N := 36) ?hd (xs := ([a1] : List Int)) (inner := [.int .i64 a1]) (ok := fun _ => True) (okp := fun _ => True) ?hr ?hp (fun _ hk => hk) trivial (Below.refl _ _) (Nat.le_refl _) (by simp) ?_; (case hd => rfl); (case hg => rfl); (case hr => first | (go_simp; done) | (go_simp; rfl)); (case hp => exact (Reps.one (show Kd.M (Kd.int .i64) _ _ _ a1 [.int .i64 a1] from rfl) (Reps.none _ _))); intro v394 w25 ho26 hb hg_ hnew_; clear hg_ hnew_; (first | rw [← Ny393.out] at ho26 | (simp only [Int.reduceToNat] at ho26; rw [← Ny393.out] at ho26)); have n0_ := Aside0.mk (Kd.R_elder' qz7 (Kd.R_base ho26) hb); have n1_ := Aside0.mk (Kd.R_lower (Kd.R_new' ho26 (Kd.R_lt qz7)) (below_size qz4)); have n2_ := Aside0.mk (blk_below (g := gb384) (o := .cells #[.int .i64 a0_0, .int .i64 a0_1, .slice A0_2 l0_2.length c0_2] 27 (0, 0)) qz12 hb); have n3_ := Aside0.mk (below_step qz4 hb); clear HO_9; clear BK384; clear HB; have HO_9 := n0_; have HO395 := n1_; have BK384 := n2_; have HB := n3_; clear n0_ n1_ n2_ n3_; clear hb ho26)))
        go_loopg [10, 11] kj5 (fun kq v10 v11 w' => ∃ (x10_2 : List Int) (x11_2 : Int), v11 = .int .i64 x11_2 ∧ Aside0 (spec_Way.l0 kq a2 a3 t385 x10_2 x11_2 a0_0 a0_1 l0_2 = some r) ∧ Aside0 (kq ≤ kj5) ∧ Aside0 (Kd.R (Kd.int .i64) 3 w' w.heap.size (fun k_ => some k_ ≠ (v10 : Value).ownBlock) v386 t385) ∧ Aside0 (Kd.R (Kd.int .i64) 3 w' w.heap.size (fun k_ => some k_ ≠ (v386 : Value).ownBlock) v10 x10_2) ∧ Aside0 (w'.heap[gb384]? = some (.cells #[.int .i64 a0_0, .int .i64 a0_1, (.slice A0_2 l0_2.length c0_2)] 27 (0, 0))) ∧ Aside0 (Below w.heap.size w w'))
        case atStart => exact ⟨(y393), (a1), qz8, H', ⟨Nat.le_refl _⟩, ⟨by (with_reducible repeat (first | apply Kd.R_alloc | apply Kd.R_drewN | apply Kd.R_drew)); exact Kd.R_mono HO_9.out (fun _ hk => hk.2)⟩, ⟨by (with_reducible repeat (first | apply Kd.R_alloc | apply Kd.R_drewN | apply Kd.R_drew)); exact Kd.R_mono HO395.out (fun _ hk => hk.2)⟩, ⟨by (with_reducible repeat (first | refine blk_drewN ?_ _ | refine blk_drew ?_ | refine blk_alloc ?_ _)); exact BK384.out⟩, ⟨by repeat (first | (with_reducible first | exact HB.out | apply below_alloc | apply pw_below_drewN | apply below_drew1 | refine below_set ?_ GE384.out) | exact HB.out)⟩⟩
        case round =>
          clear H'
          try clear c1
          try clear c2
          try clear p2
          try clear p3
          try clear q3
          try clear hx3
          try clear c4
          try clear c10
          try clear c10b0
          try clear c10b1
          try clear c10b2
          try clear c13
          try clear c14
          try clear c14b0
          try clear c15
          try clear c15b0
          try clear c22
          try clear hcz17_0
          try clear hcz17_1
          try clear hcz17_2
          try clear hcz20_0
          try clear hcz20_1
          try clear hcz20_2
          try clear hcz8_0
          try clear hcz8_1
          try clear hcz8_2
          try clear hfz17_0
          try clear hfz17_1
          try clear hfz17_2
          try clear hfz20_0
          try clear hfz20_1
          try clear hfz20_2
          try clear hfz8_0
          try clear hfz8_1
          try clear hfz8_2
          try clear hx389_0
          try clear p2
          try clear p3
          try clear p389
          try clear q3
          try clear q389
          obtain ⟨x10_2, x11_2, rfl, HA, HK2, HO_9, HO_10, BK384, HB⟩ := hrel
          cases gk with
          | zero => exact absurd HA.out (by simp [spec_Way.l0])
          | succ k2 =>
            have H := HA.out
            clear HA
            simp only [spec_Way.l0] at H
            by_cases c27 : x11_2 = a2
            · rw [if_pos c27] at H
              have c27b0 : (x11_2 == a2) = true := beq_iff_eq.mpr c27
              have c27b1 : (x11_2 != a2) = false := bne_eq_false_iff_eq.mpr c27
              clear c27
              obtain rfl := Option.some.inj H
              simp only [Option.some.injEq, Prod.mk.injEq] at H
              obtain ⟨rfl⟩ := H
              go_wp2
              repeat (go_quiet (fail); try go_wp2)
              go_ret
              exact ⟨_, by first | rfl | (simp [errW_none, errW_some] <;> rfl) | (simp [*, errW_none, errW_some] <;> rfl), by (with_reducible repeat (first | apply Kd.R_alloc | apply Kd.R_drewN | apply Kd.R_drew)); exact Kd.R_mono HO_10.out (fun _ hk => trivial), by repeat (first | (with_reducible first | exact HB.out | apply below_alloc | apply pw_below_drewN | apply below_drew1 | refine below_set ?_ GE384.out) | exact HB.out)⟩
            · rw [if_neg c27] at H
              have c27b0 : (x11_2 == a2) = false := beq_eq_false_iff_ne.mpr c27
              have c27b1 : (x11_2 != a2) = true := bne_iff_ne.mpr c27
              replace H := Option.bind_eq_some_iff.mp H
              obtain ⟨t396, A280, H⟩ := H
              replace H : (spec_Way.l1 k2 a2 a3 t385 x10_2 x11_2 t396 0 a0_0 a0_1 l0_2) = some r := H
              have A28 := Aside0.mk A280
              clear A280
              have H' := Aside0.mk H
              clear H
              have hcz29_0 : wr.cell? ⟨gb384, 0, none⟩ = some (.int .i64 a0_0) := (blk_cell BK384.out 0).trans rfl
              have hcz29_1 : wr.cell? ⟨gb384, 1, none⟩ = some (.int .i64 a0_1) := (blk_cell BK384.out 1).trans rfl
              have hcz29_2 : wr.cell? ⟨gb384, 2, none⟩ = some (.slice A0_2 l0_2.length c0_2) := (blk_cell BK384.out 2).trans rfl
              have hfz29_0 := blk_frozen BK384.out 0
              have hfz29_1 := blk_frozen BK384.out 1
              have hfz29_2 := blk_frozen BK384.out 2
              go_wp2_with (first | (go_at_call 72; (with_reducible refine (spec_l1Near.calls k2 a0_0 a0_1 _ _ l0_2 x11_2 false t396 _ ?side1 ?side2 A28.out).mono ?_); (case side1 => repeat (first | exact (Kd.C_below HR0_2.out HB.out) | (with_reducible refine Kd.C_alloc ?_ _) | (with_reducible refine Kd.C_drewN ?_ _) | (with_reducible refine Kd.C_drew ?_))); (case side2 => exact HC0_2.out); rintro e w30 ⟨v397, rfl, ho0, hb⟩; have n0_ := Aside0.mk (Kd.R_elder' qz7 (Kd.R_base ho0) hb); have n1_ := Aside0.mk (Kd.R_elder' qz11 (Kd.R_base ho0) hb); have n2_ := Aside0.mk (Kd.R_lower (Kd.R_new' (Kd.R_new' ho0 (Kd.R_lt qz7)) (Kd.R_lt qz11)) (below_size qz4)); have n3_ := Aside0.mk (blk_below (g := gb384) (o := .cells #[.int .i64 a0_0, .int .i64 a0_1, .slice A0_2 l0_2.length c0_2] 27 (0, 0)) qz12 hb); have n4_ := Aside0.mk (below_step qz4 hb); clear HO_9; clear HO_10; clear BK384; clear HB; have HO_9 := n0_; have HO_10 := n1_; have HO398 := n2_; have BK384 := n3_; have HB := n4_; clear n0_ n1_ n2_ n3_ n4_; (try clear hb); (try clear hb2); (try clear hk); (try clear hi); (try clear ho0)))
              repeat (go_quiet (first | (go_at_call 72; (with_reducible refine (spec_l1Near.calls k2 a0_0 a0_1 _ _ l0_2 x11_2 false t396 _ ?side1 ?side2 A28.out).mono ?_); (case side1 => repeat (first | exact (Kd.C_below HR0_2.out HB.out) | (with_reducible refine Kd.C_alloc ?_ _) | (with_reducible refine Kd.C_drewN ?_ _) | (with_reducible refine Kd.C_drew ?_))); (case side2 => exact HC0_2.out); rintro e w30 ⟨v397, rfl, ho0, hb⟩; have n0_ := Aside0.mk (Kd.R_elder' qz7 (Kd.R_base ho0) hb); have n1_ := Aside0.mk (Kd.R_elder' qz11 (Kd.R_base ho0) hb); have n2_ := Aside0.mk (Kd.R_lower (Kd.R_new' (Kd.R_new' ho0 (Kd.R_lt qz7)) (Kd.R_lt qz11)) (below_size qz4)); have n3_ := Aside0.mk (blk_below (g := gb384) (o := .cells #[.int .i64 a0_0, .int .i64 a0_1, .slice A0_2 l0_2.length c0_2] 27 (0, 0)) qz12 hb); have n4_ := Aside0.mk (below_step qz4 hb); clear HO_9; clear HO_10; clear BK384; clear HB; have HO_9 := n0_; have HO_10 := n1_; have HO398 := n2_; have BK384 := n3_; have HB := n4_; clear n0_ n1_ n2_ n3_ n4_; (try clear hb); (try clear hb2); (try clear hk); (try clear hi); (try clear ho0))); try go_wp2_with (first | (go_at_call 72; (with_reducible refine (spec_l1Near.calls k2 a0_0 a0_1 _ _ l0_2 x11_2 false t396 _ ?side1 ?side2 A28.out).mono ?_); (case side1 => repeat (first | exact (Kd.C_below HR0_2.out HB.out) | (with_reducible refine Kd.C_alloc ?_ _) | (with_reducible refine Kd.C_drewN ?_ _) | (with_reducible refine Kd.C_drew ?_))); (case side2 => exact HC0_2.out); rintro e w30 ⟨v397, rfl, ho0, hb⟩; have n0_ := Aside0.mk (Kd.R_elder' qz7 (Kd.R_base ho0) hb); have n1_ := Aside0.mk (Kd.R_elder' qz11 (Kd.R_base ho0) hb); have n2_ := Aside0.mk (Kd.R_lower (Kd.R_new' (Kd.R_new' ho0 (Kd.R_lt qz7)) (Kd.R_lt qz11)) (below_size qz4)); have n3_ := Aside0.mk (blk_below (g := gb384) (o := .cells #[.int .i64 a0_0, .int .i64 a0_1, .slice A0_2 l0_2.length c0_2] 27 (0, 0)) qz12 hb); have n4_ := Aside0.mk (below_step qz4 hb); clear HO_9; clear HO_10; clear BK384; clear HB; have HO_9 := n0_; have HO_10 := n1_; have HO398 := n2_; have BK384 := n3_; have HB := n4_; clear n0_ n1_ n2_ n3_ n4_; (try clear hb); (try clear hb2); (try clear hk); (try clear hi); (try clear ho0))))
              go_loopg [11, 13] k2 (fun kq v11 v13 w' => ∃ (x11_3 : Int) (x13_3 : Int), v11 = .int .i64 x11_3 ∧ v13 = .int .i64 x13_3 ∧ Aside0 (spec_Way.l1 kq a2 a3 t385 x10_2 x11_3 t396 x13_3 a0_0 a0_1 l0_2 = some r) ∧ Aside0 (kq ≤ k2) ∧ Aside0 (Kd.R (Kd.int .i64) 3 w' w.heap.size (fun k_ => some k_ ≠ (u10 : Value).ownBlock ∧ some k_ ≠ (v397 : Value).ownBlock) v386 t385) ∧ Aside0 (Kd.R (Kd.int .i64) 3 w' w.heap.size (fun k_ => some k_ ≠ (v386 : Value).ownBlock ∧ some k_ ≠ (v397 : Value).ownBlock) u10 x10_2) ∧ Aside0 (Kd.R (Kd.int .i64) 3 w' w.heap.size (fun k_ => some k_ ≠ (v386 : Value).ownBlock ∧ some k_ ≠ (u10 : Value).ownBlock) v397 t396) ∧ Aside0 (w'.heap[gb384]? = some (.cells #[.int .i64 a0_0, .int .i64 a0_1, (.slice A0_2 l0_2.length c0_2)] 27 (0, 0))) ∧ Aside0 (Below w.heap.size w w'))
              case atStart => exact ⟨(x11_2), (0), qz8, qz8, H', ⟨Nat.le_refl _⟩, ⟨by (with_reducible repeat (first | apply Kd.R_alloc | apply Kd.R_drewN | apply Kd.R_drew)); exact HO_9.out⟩, ⟨by (with_reducible repeat (first | apply Kd.R_alloc | apply Kd.R_drewN | apply Kd.R_drew)); exact HO_10.out⟩, ⟨by (with_reducible repeat (first | apply Kd.R_alloc | apply Kd.R_drewN | apply Kd.R_drew)); exact Kd.R_mono HO398.out (fun _ hk => ⟨hk.1.2, hk.2⟩)⟩, ⟨by (with_reducible repeat (first | refine blk_drewN ?_ _ | refine blk_drew ?_ | refine blk_alloc ?_ _)); exact BK384.out⟩, ⟨by repeat (first | (with_reducible first | exact HB.out | apply below_alloc | apply pw_below_drewN | apply below_drew1 | refine below_set ?_ GE384.out) | exact HB.out)⟩⟩
              case round =>
                clear H'
                try clear c1
                try clear c2
                try clear p2
                try clear p3
                try clear q3
                try clear hx3
                try clear c4
                try clear c10
                try clear c10b0
                try clear c10b1
                try clear c10b2
                try clear c13
                try clear c14
                try clear c14b0
                try clear c15
                try clear c15b0
                try clear c22
                try clear c27
                try clear c27b0
                try clear c27b1
                try clear hcz17_0
                try clear hcz17_1
                try clear hcz17_2
                try clear hcz20_0
                try clear hcz20_1
                try clear hcz20_2
                try clear hcz29_0
                try clear hcz29_1
                try clear hcz29_2
                try clear hcz8_0
                try clear hcz8_1
                try clear hcz8_2
                try clear hfz17_0
                try clear hfz17_1
                try clear hfz17_2
                try clear hfz20_0
                try clear hfz20_1
                try clear hfz20_2
                try clear hfz29_0
                try clear hfz29_1
                try clear hfz29_2
                try clear hfz8_0
                try clear hfz8_1
                try clear hfz8_2
                try clear hx389_0
                try clear p2
                try clear p3
                try clear p389
                try clear q3
                try clear q389
                obtain ⟨x11_3, x13_3, rfl, rfl, HA, HK3, HO_9, HO_10, HO_12, BK384, HB⟩ := hrel
                cases gk with
                | zero => exact absurd HA.out (by simp [spec_Way.l1])
                | succ k3 =>
                  have H := HA.out
                  clear HA
                  simp only [spec_Way.l1] at H
                  by_cases c31 : x13_3 < (t396.length : Int)
                  · rw [if_pos c31] at H
                    have c31b0 : decide (x13_3 < (t396.length : Int)) = true := decide_eq_true c31
                    clear c31
                    by_cases c32 : 0 ≤ x13_3
                    · rw [if_pos c32] at H
                      have c32b0 : decide (0 ≤ x13_3) = true := decide_eq_true c32
                      clear c32
                      by_cases c33 : 0 ≤ (rd t396 x13_3)
                      · rw [if_pos c33] at H
                        have c33b0 : decide (0 ≤ (rd t396 x13_3)) = true := decide_eq_true c33
                        clear c33
                        by_cases c34 : (rd t396 x13_3) < (t385.length : Int)
                        · rw [if_pos c34] at H
                          have c34b0 : decide ((rd t396 x13_3) < (t385.length : Int)) = true := decide_eq_true c34
                          clear c34
                          by_cases c35 : 0 ≤ x11_3
                          · rw [if_pos c35] at H
                            have c35b0 : decide (0 ≤ x11_3) = true := decide_eq_true c35
                            clear c35
                            by_cases c36 : x11_3 < (t385.length : Int)
                            · rw [if_pos c36] at H
                              have c36b0 : decide (x11_3 < (t385.length : Int)) = true := decide_eq_true c36
                              clear c36
                              by_cases c37 : (rd t385 (rd t396 x13_3)) = (wrap64 ((rd t385 x11_3) - 1))
                              · rw [if_pos c37] at H
                                have c37b0 : ((rd t385 (rd t396 x13_3)) == (wrap64 ((rd t385 x11_3) - 1))) = true := beq_iff_eq.mpr c37
                                have c37b1 : ((rd t385 (rd t396 x13_3)) != (wrap64 ((rd t385 x11_3) - 1))) = false := bne_eq_false_iff_eq.mpr c37
                                clear c37
                                by_cases c38 : (rd t396 x13_3) = a2
                                · rw [if_pos c38] at H
                                  have c38b0 : ((rd t396 x13_3) == a2) = true := beq_iff_eq.mpr c38
                                  have c38b1 : ((rd t396 x13_3) != a2) = false := bne_eq_false_iff_eq.mpr c38
                                  clear c38
                                  by_cases c39 : x10_2.length < 17592186044416
                                  · rw [if_pos c39] at H
                                    have LMc39 := Aside0.mk c39
                                    clear c39
                                    obtain ⟨y404, hy404⟩ : ∃ y_ : List Int, y_ = (x10_2 ++ [rd t396 x13_3]) := ⟨_, rfl⟩
                                    replace H : (spec_Way.l0 k3 a2 a3 t385 y404 (rd t396 x13_3) a0_0 a0_1 l0_2) = some r := by first | (rw [hy404]; with_reducible exact H) | (have H2_ := (Option.bind_some _ _).symm.trans H; rw [hy404]; with_reducible exact H2_) | (have H2_ := (Option.bind_some _ _).symm.trans H; with_reducible exact H2_) | with_reducible exact H | (rw [hy404]; exact H) | exact H
                                    have Ny404 := Aside0.mk hy404
                                    clear hy404
                                    have H' := Aside0.mk H
                                    clear H
                                    obtain ⟨Ao40, co40, eo40⟩ := Kd.R_slice HO_12.out
                                    subst eo40
                                    have p399 : 0 ≤ (x13_3 : Int) := of_decide_eq_true qz2
                                    have q399 : x13_3 < (t396.length : Int) := of_decide_eq_true qz2
                                    obtain ⟨ad399, e399, hx399_0⟩ := Kd.at_int (Kd.R_reads' HO_12.out).2.2 x13_3 p399 q399
                                    cases e399
                                    replace p399 := eq_true p399
                                    replace q399 := eq_true q399
                                    obtain ⟨Ao41, co41, eo41⟩ := Kd.R_slice HO_9.out
                                    subst eo41
                                    have p400 : 0 ≤ ((rd t396 x13_3) : Int) := of_decide_eq_true qz2
                                    have q400 : (rd t396 x13_3) < (t385.length : Int) := of_decide_eq_true qz2
                                    obtain ⟨ad400, e400, hx400_0⟩ := Kd.at_int (Kd.R_reads' HO_9.out).2.2 (rd t396 x13_3) p400 q400
                                    cases e400
                                    replace p400 := eq_true p400
                                    replace q400 := eq_true q400
                                    have p401 : 0 ≤ (x11_3 : Int) := of_decide_eq_true qz2
                                    have q401 : x11_3 < (t385.length : Int) := of_decide_eq_true qz2
                                    obtain ⟨ad401, e401, hx401_0⟩ := Kd.at_int (Kd.R_reads' HO_9.out).2.2 x11_3 p401 q401
                                    obtain rfl : ad400 = ad401 := (by injection e401)
                                    replace p401 := eq_true p401
                                    replace q401 := eq_true q401
                                    have p402 : 0 ≤ (x13_3 : Int) := of_decide_eq_true qz2
                                    have q402 : x13_3 < (t396.length : Int) := of_decide_eq_true qz2
                                    obtain ⟨ad402, e402, hx402_0⟩ := Kd.at_int (Kd.R_reads' HO_12.out).2.2 x13_3 p402 q402
                                    obtain rfl : ad399 = ad402 := (by injection e402)
                                    replace p402 := eq_true p402
                                    replace q402 := eq_true q402
                                    have p403 : 0 ≤ (x13_3 : Int) := of_decide_eq_true qz2
                                    have q403 : x13_3 < (t396.length : Int) := of_decide_eq_true qz2
                                    obtain ⟨ad403, e403, hx403_0⟩ := Kd.at_int (Kd.R_reads' HO_12.out).2.2 x13_3 p403 q403
                                    obtain rfl : ad399 = ad403 := (by injection e403)
                                    replace p403 := eq_true p403
                                    replace q403 := eq_true q403
                                    go_wp2_with (first | ((with_reducible refine gate_builtin (b := .append) (xs := #[.tmp 90, .tmp 92]) rfl ?_); at_builtin; refine Kd.R_append (Kd.int .i64) (w0 := w) w.heap.size rfl (.tmp 90) (.tmp 92) 22 3 (.int .i64 0) 8 rfl Try.underlying22 info3 rfl (by decide) (by omega) u10 x10_2 (rd t396 x13_3) [.int .i64 (rd t396 x13_3)] (fun k_ => some k_ ≠ (.slice (some ad400) t385.length co41 : Value).ownBlock ∧ some k_ ≠ (.slice (some ad399) t396.length co40 : Value).ownBlock) (fun _ => False) rfl rfl ?aP (fun _ hk => hk.elim) ?aF ?aO ?aB ?aS ?aL ?_; (case aP => exact rfl); (case aB => exact qz4); (case aF => exact (fun k_ hk => ⟨Kd.fresh' (Kd.R_lt qz7) k_ hk, Kd.fresh' (Kd.R_lt qz17) k_ hk⟩)); (case aO => exact qz11); (case aS => exact (below_size qz4)); (case aL => have := LMc39.out; omega); intro v405 w42 ho hb hg hat; rw [← Ny404.out] at ho; have n0_ := Aside0.mk (Kd.R_after (ok := (fun k_ => some k_ ≠ (.slice (some ad399) t396.length co40 : Value).ownBlock)) qz13 hg hat); have n1_ := Aside0.mk (Kd.R_after (ok := (fun k_ => some k_ ≠ (.slice (some ad400) t385.length co41 : Value).ownBlock)) qz17 hg hat); have n2_ := Aside0.mk (blk_grown (g := gb384) (o := .cells #[.int .i64 a0_0, .int .i64 a0_1, .slice A0_2 l0_2.length c0_2] 27 (0, 0)) qz12 hg (Kd.R_ne HO_10.out BK384.out (by decide))); have n3_ := Aside0.mk (hb); have n4_ := Aside0.mk (ho); clear HO_9; clear HO_12; clear BK384; clear HB; clear HO_10; have HO_9 := n0_; have HO_12 := n1_; have BK384 := n2_; have HB := n3_; have HO406 := n4_; clear n0_ n1_ n2_ n3_ n4_; clear ho hb hg hat))
                                    repeat (go_quiet (first | ((with_reducible refine gate_builtin (b := .append) (xs := #[.tmp 90, .tmp 92]) rfl ?_); at_builtin; refine Kd.R_append (Kd.int .i64) (w0 := w) w.heap.size rfl (.tmp 90) (.tmp 92) 22 3 (.int .i64 0) 8 rfl Try.underlying22 info3 rfl (by decide) (by omega) u10 x10_2 (rd t396 x13_3) [.int .i64 (rd t396 x13_3)] (fun k_ => some k_ ≠ (.slice (some ad400) t385.length co41 : Value).ownBlock ∧ some k_ ≠ (.slice (some ad399) t396.length co40 : Value).ownBlock) (fun _ => False) rfl rfl ?aP (fun _ hk => hk.elim) ?aF ?aO ?aB ?aS ?aL ?_; (case aP => exact rfl); (case aB => exact qz4); (case aF => exact (fun k_ hk => ⟨Kd.fresh' (Kd.R_lt qz7) k_ hk, Kd.fresh' (Kd.R_lt qz17) k_ hk⟩)); (case aO => exact qz11); (case aS => exact (below_size qz4)); (case aL => have := LMc39.out; omega); intro v405 w42 ho hb hg hat; rw [← Ny404.out] at ho; have n0_ := Aside0.mk (Kd.R_after (ok := (fun k_ => some k_ ≠ (.slice (some ad399) t396.length co40 : Value).ownBlock)) qz13 hg hat); have n1_ := Aside0.mk (Kd.R_after (ok := (fun k_ => some k_ ≠ (.slice (some ad400) t385.length co41 : Value).ownBlock)) qz17 hg hat); have n2_ := Aside0.mk (blk_grown (g := gb384) (o := .cells #[.int .i64 a0_0, .int .i64 a0_1, .slice A0_2 l0_2.length c0_2] 27 (0, 0)) qz12 hg (Kd.R_ne HO_10.out BK384.out (by decide))); have n3_ := Aside0.mk (hb); have n4_ := Aside0.mk (ho); clear HO_9; clear HO_12; clear BK384; clear HB; clear HO_10; have HO_9 := n0_; have HO_12 := n1_; have BK384 := n2_; have HB := n3_; have HO406 := n4_; clear n0_ n1_ n2_ n3_ n4_; clear ho hb hg hat)); try go_wp2_with (first | ((with_reducible refine gate_builtin (b := .append) (xs := #[.tmp 90, .tmp 92]) rfl ?_); at_builtin; refine Kd.R_append (Kd.int .i64) (w0 := w) w.heap.size rfl (.tmp 90) (.tmp 92) 22 3 (.int .i64 0) 8 rfl Try.underlying22 info3 rfl (by decide) (by omega) u10 x10_2 (rd t396 x13_3) [.int .i64 (rd t396 x13_3)] (fun k_ => some k_ ≠ (.slice (some ad400) t385.length co41 : Value).ownBlock ∧ some k_ ≠ (.slice (some ad399) t396.length co40 : Value).ownBlock) (fun _ => False) rfl rfl ?aP (fun _ hk => hk.elim) ?aF ?aO ?aB ?aS ?aL ?_; (case aP => exact rfl); (case aB => exact qz4); (case aF => exact (fun k_ hk => ⟨Kd.fresh' (Kd.R_lt qz7) k_ hk, Kd.fresh' (Kd.R_lt qz17) k_ hk⟩)); (case aO => exact qz11); (case aS => exact (below_size qz4)); (case aL => have := LMc39.out; omega); intro v405 w42 ho hb hg hat; rw [← Ny404.out] at ho; have n0_ := Aside0.mk (Kd.R_after (ok := (fun k_ => some k_ ≠ (.slice (some ad399) t396.length co40 : Value).ownBlock)) qz13 hg hat); have n1_ := Aside0.mk (Kd.R_after (ok := (fun k_ => some k_ ≠ (.slice (some ad400) t385.length co41 : Value).ownBlock)) qz17 hg hat); have n2_ := Aside0.mk (blk_grown (g := gb384) (o := .cells #[.int .i64 a0_0, .int .i64 a0_1, .slice A0_2 l0_2.length c0_2] 27 (0, 0)) qz12 hg (Kd.R_ne HO_10.out BK384.out (by decide))); have n3_ := Aside0.mk (hb); have n4_ := Aside0.mk (ho); clear HO_9; clear HO_12; clear BK384; clear HB; clear HO_10; have HO_9 := n0_; have HO_12 := n1_; have BK384 := n2_; have HB := n3_; have HO406 := n4_; clear n0_ n1_ n2_ n3_ n4_; clear ho hb hg hat)))
                                    go_roundg k3
                                    case measure => have := HJ5.out; have := HK2.out; have := HK3.out; omega
                                    case rel => exact ⟨(y404), (rd t396 x13_3), qz8, H', ⟨by have := HJ5.out; have := HK2.out; have := HK3.out; omega⟩, ⟨by (with_reducible repeat (first | apply Kd.R_alloc | apply Kd.R_drewN | apply Kd.R_drew)); exact Kd.R_mono HO_9.out (fun _ hk => hk.2)⟩, ⟨by (with_reducible repeat (first | apply Kd.R_alloc | apply Kd.R_drewN | apply Kd.R_drew)); exact Kd.R_mono HO406.out (fun _ hk => hk.1)⟩, ⟨by (with_reducible repeat (first | refine blk_drewN ?_ _ | refine blk_drew ?_ | refine blk_alloc ?_ _)); exact BK384.out⟩, ⟨by repeat (first | (with_reducible first | exact HB.out | apply below_alloc | apply pw_below_drewN | apply below_drew1 | refine below_set ?_ GE384.out) | exact HB.out)⟩⟩
                                  · rw [if_neg c39] at H
                                    exact absurd H (by simp)
                                · rw [if_neg c38] at H
                                  have c38b0 : ((rd t396 x13_3) == a2) = false := beq_eq_false_iff_ne.mpr c38
                                  have c38b1 : ((rd t396 x13_3) != a2) = true := bne_iff_ne.mpr c38
                                  by_cases c43 : a3 = true
                                  · subst c43
                                    have H1 : (if (rd t396 x13_3) < (l0_2.length : Int) then (if (rd l0_2 (rd t396 x13_3)) = 2 then (spec_Way.l1 k3 a2 true t385 x10_2 x11_3 t396 (wrap64 (x13_3 + 1)) a0_0 a0_1 l0_2) else (if x10_2.length < 17592186044416 then (spec_Way.l0 k3 a2 true t385 (x10_2 ++ [rd t396 x13_3]) (rd t396 x13_3) a0_0 a0_1 l0_2) else (none))) else (none)) = some r := by rw [if_pos rfl] at H; exact H
                                    clear H
                                    have H := H1
                                    clear H1
                                    by_cases c44 : (rd t396 x13_3) < (l0_2.length : Int)
                                    · rw [if_pos c44] at H
                                      have c44b0 : decide ((rd t396 x13_3) < (l0_2.length : Int)) = true := decide_eq_true c44
                                      clear c44
                                      by_cases c45 : (rd l0_2 (rd t396 x13_3)) = 2
                                      · rw [if_pos c45] at H
                                        have c45b0 : ((rd l0_2 (rd t396 x13_3)) == 2) = true := beq_iff_eq.mpr c45
                                        have c45b1 : ((rd l0_2 (rd t396 x13_3)) != 2) = false := bne_eq_false_iff_eq.mpr c45
                                        clear c45
                                        have H' := Aside0.mk H
                                        clear H
                                        obtain ⟨Ao46, co46, eo46⟩ := Kd.R_slice HO_12.out
                                        subst eo46
                                        have p399 : 0 ≤ (x13_3 : Int) := of_decide_eq_true qz2
                                        have q399 : x13_3 < (t396.length : Int) := of_decide_eq_true qz2
                                        obtain ⟨ad399, e399, hx399_0⟩ := Kd.at_int (Kd.R_reads' HO_12.out).2.2 x13_3 p399 q399
                                        cases e399
                                        replace p399 := eq_true p399
                                        replace q399 := eq_true q399
                                        obtain ⟨Ao47, co47, eo47⟩ := Kd.R_slice HO_9.out
                                        subst eo47
                                        have p400 : 0 ≤ ((rd t396 x13_3) : Int) := of_decide_eq_true qz2
                                        have q400 : (rd t396 x13_3) < (t385.length : Int) := of_decide_eq_true qz2
                                        obtain ⟨ad400, e400, hx400_0⟩ := Kd.at_int (Kd.R_reads' HO_9.out).2.2 (rd t396 x13_3) p400 q400
                                        cases e400
                                        replace p400 := eq_true p400
                                        replace q400 := eq_true q400
                                        have p401 : 0 ≤ (x11_3 : Int) := of_decide_eq_true qz2
                                        have q401 : x11_3 < (t385.length : Int) := of_decide_eq_true qz2
                                        obtain ⟨ad401, e401, hx401_0⟩ := Kd.at_int (Kd.R_reads' HO_9.out).2.2 x11_3 p401 q401
                                        obtain rfl : ad400 = ad401 := (by injection e401)
                                        replace p401 := eq_true p401
                                        replace q401 := eq_true q401
                                        have p402 : 0 ≤ (x13_3 : Int) := of_decide_eq_true qz2
                                        have q402 : x13_3 < (t396.length : Int) := of_decide_eq_true qz2
                                        obtain ⟨ad402, e402, hx402_0⟩ := Kd.at_int (Kd.R_reads' HO_12.out).2.2 x13_3 p402 q402
                                        obtain rfl : ad399 = ad402 := (by injection e402)
                                        replace p402 := eq_true p402
                                        replace q402 := eq_true q402
                                        have hcz48_0 : wr.cell? ⟨gb384, 0, none⟩ = some (.int .i64 a0_0) := (blk_cell BK384.out 0).trans rfl
                                        have hcz48_1 : wr.cell? ⟨gb384, 1, none⟩ = some (.int .i64 a0_1) := (blk_cell BK384.out 1).trans rfl
                                        have hcz48_2 : wr.cell? ⟨gb384, 2, none⟩ = some (.slice A0_2 l0_2.length c0_2) := (blk_cell BK384.out 2).trans rfl
                                        have hfz48_0 := blk_frozen BK384.out 0
                                        have hfz48_1 := blk_frozen BK384.out 1
                                        have hfz48_2 := blk_frozen BK384.out 2
                                        have p407 : 0 ≤ (x13_3 : Int) := of_decide_eq_true qz2
                                        have q407 : x13_3 < (t396.length : Int) := of_decide_eq_true qz2
                                        obtain ⟨ad407, e407, hx407_0⟩ := Kd.at_int (Kd.R_reads' HO_12.out).2.2 x13_3 p407 q407
                                        obtain rfl : ad399 = ad407 := (by injection e407)
                                        replace p407 := eq_true p407
                                        replace q407 := eq_true q407
                                        have p408 : 0 ≤ ((rd t396 x13_3) : Int) := of_decide_eq_true qz2
                                        have q408 : (rd t396 x13_3) < (l0_2.length : Int) := of_decide_eq_true qz2
                                        obtain ⟨ad408, e408, hx408_0⟩ := Kd.at_int HR0_2.out (rd t396 x13_3) p408 q408
                                        cases e408
                                        replace hx408_0 := (HB.out.cell (World.block_lt_of_cell? w _ hx408_0)).trans hx408_0
                                        replace p408 := eq_true p408
                                        replace q408 := eq_true q408
                                        go_wp2
                                        repeat (go_quiet (fail); try go_wp2)
                                        go_roundg k3
                                        case measure => have := HJ5.out; have := HK2.out; have := HK3.out; omega
                                        case rel => exact ⟨(x11_3), (wrap64 (x13_3 + 1)), qz8, qz8, H', ⟨by have := HJ5.out; have := HK2.out; have := HK3.out; omega⟩, ⟨by (with_reducible repeat (first | apply Kd.R_alloc | apply Kd.R_drewN | apply Kd.R_drew)); exact HO_9.out⟩, ⟨by (with_reducible repeat (first | apply Kd.R_alloc | apply Kd.R_drewN | apply Kd.R_drew)); exact HO_10.out⟩, ⟨by (with_reducible repeat (first | apply Kd.R_alloc | apply Kd.R_drewN | apply Kd.R_drew)); exact HO_12.out⟩, ⟨by (with_reducible repeat (first | refine blk_drewN ?_ _ | refine blk_drew ?_ | refine blk_alloc ?_ _)); exact BK384.out⟩, ⟨by repeat (first | (with_reducible first | exact HB.out | apply below_alloc | apply pw_below_drewN | apply below_drew1 | refine below_set ?_ GE384.out) | exact HB.out)⟩⟩
                                      · rw [if_neg c45] at H
                                        have c45b0 : ((rd l0_2 (rd t396 x13_3)) == 2) = false := beq_eq_false_iff_ne.mpr c45
                                        have c45b1 : ((rd l0_2 (rd t396 x13_3)) != 2) = true := bne_iff_ne.mpr c45
                                        by_cases c49 : x10_2.length < 17592186044416
                                        · rw [if_pos c49] at H
                                          have LMc49 := Aside0.mk c49
                                          clear c49
                                          obtain ⟨y410, hy410⟩ : ∃ y_ : List Int, y_ = (x10_2 ++ [rd t396 x13_3]) := ⟨_, rfl⟩
                                          replace H : (spec_Way.l0 k3 a2 true t385 y410 (rd t396 x13_3) a0_0 a0_1 l0_2) = some r := by first | (rw [hy410]; with_reducible exact H) | (have H2_ := (Option.bind_some _ _).symm.trans H; rw [hy410]; with_reducible exact H2_) | (have H2_ := (Option.bind_some _ _).symm.trans H; with_reducible exact H2_) | with_reducible exact H | (rw [hy410]; exact H) | exact H
                                          have Ny410 := Aside0.mk hy410
                                          clear hy410
                                          have H' := Aside0.mk H
                                          clear H
                                          obtain ⟨Ao50, co50, eo50⟩ := Kd.R_slice HO_12.out
                                          subst eo50
                                          have p399 : 0 ≤ (x13_3 : Int) := of_decide_eq_true qz2
                                          have q399 : x13_3 < (t396.length : Int) := of_decide_eq_true qz2
                                          obtain ⟨ad399, e399, hx399_0⟩ := Kd.at_int (Kd.R_reads' HO_12.out).2.2 x13_3 p399 q399
                                          cases e399
                                          replace p399 := eq_true p399
                                          replace q399 := eq_true q399
                                          obtain ⟨Ao51, co51, eo51⟩ := Kd.R_slice HO_9.out
                                          subst eo51
                                          have p400 : 0 ≤ ((rd t396 x13_3) : Int) := of_decide_eq_true qz2
                                          have q400 : (rd t396 x13_3) < (t385.length : Int) := of_decide_eq_true qz2
                                          obtain ⟨ad400, e400, hx400_0⟩ := Kd.at_int (Kd.R_reads' HO_9.out).2.2 (rd t396 x13_3) p400 q400
                                          cases e400
                                          replace p400 := eq_true p400
                                          replace q400 := eq_true q400
                                          have p401 : 0 ≤ (x11_3 : Int) := of_decide_eq_true qz2
                                          have q401 : x11_3 < (t385.length : Int) := of_decide_eq_true qz2
                                          obtain ⟨ad401, e401, hx401_0⟩ := Kd.at_int (Kd.R_reads' HO_9.out).2.2 x11_3 p401 q401
                                          obtain rfl : ad400 = ad401 := (by injection e401)
                                          replace p401 := eq_true p401
                                          replace q401 := eq_true q401
                                          have p402 : 0 ≤ (x13_3 : Int) := of_decide_eq_true qz2
                                          have q402 : x13_3 < (t396.length : Int) := of_decide_eq_true qz2
                                          obtain ⟨ad402, e402, hx402_0⟩ := Kd.at_int (Kd.R_reads' HO_12.out).2.2 x13_3 p402 q402
                                          obtain rfl : ad399 = ad402 := (by injection e402)
                                          replace p402 := eq_true p402
                                          replace q402 := eq_true q402
                                          have hcz52_0 : wr.cell? ⟨gb384, 0, none⟩ = some (.int .i64 a0_0) := (blk_cell BK384.out 0).trans rfl
                                          have hcz52_1 : wr.cell? ⟨gb384, 1, none⟩ = some (.int .i64 a0_1) := (blk_cell BK384.out 1).trans rfl
                                          have hcz52_2 : wr.cell? ⟨gb384, 2, none⟩ = some (.slice A0_2 l0_2.length c0_2) := (blk_cell BK384.out 2).trans rfl
                                          have hfz52_0 := blk_frozen BK384.out 0
                                          have hfz52_1 := blk_frozen BK384.out 1
                                          have hfz52_2 := blk_frozen BK384.out 2
                                          have p407 : 0 ≤ (x13_3 : Int) := of_decide_eq_true qz2
                                          have q407 : x13_3 < (t396.length : Int) := of_decide_eq_true qz2
                                          obtain ⟨ad407, e407, hx407_0⟩ := Kd.at_int (Kd.R_reads' HO_12.out).2.2 x13_3 p407 q407
                                          obtain rfl : ad399 = ad407 := (by injection e407)
                                          replace p407 := eq_true p407
                                          replace q407 := eq_true q407
                                          have p408 : 0 ≤ ((rd t396 x13_3) : Int) := of_decide_eq_true qz2
                                          have q408 : (rd t396 x13_3) < (l0_2.length : Int) := of_decide_eq_true qz2
                                          obtain ⟨ad408, e408, hx408_0⟩ := Kd.at_int HR0_2.out (rd t396 x13_3) p408 q408
                                          cases e408
                                          replace hx408_0 := (HB.out.cell (World.block_lt_of_cell? w _ hx408_0)).trans hx408_0
                                          replace p408 := eq_true p408
                                          replace q408 := eq_true q408
                                          have p409 : 0 ≤ (x13_3 : Int) := of_decide_eq_true qz2
                                          have q409 : x13_3 < (t396.length : Int) := of_decide_eq_true qz2
                                          obtain ⟨ad409, e409, hx409_0⟩ := Kd.at_int (Kd.R_reads' HO_12.out).2.2 x13_3 p409 q409
                                          obtain rfl : ad399 = ad409 := (by injection e409)
                                          replace p409 := eq_true p409
                                          replace q409 := eq_true q409
                                          go_wp2_with (first | ((with_reducible refine gate_builtin (b := .append) (xs := #[.tmp 90, .tmp 92]) rfl ?_); at_builtin; refine Kd.R_append (Kd.int .i64) (w0 := w) w.heap.size rfl (.tmp 90) (.tmp 92) 22 3 (.int .i64 0) 8 rfl Try.underlying22 info3 rfl (by decide) (by omega) u10 x10_2 (rd t396 x13_3) [.int .i64 (rd t396 x13_3)] (fun k_ => some k_ ≠ (.slice (some ad400) t385.length co51 : Value).ownBlock ∧ some k_ ≠ (.slice (some ad399) t396.length co50 : Value).ownBlock) (fun _ => False) rfl rfl ?aP (fun _ hk => hk.elim) ?aF ?aO ?aB ?aS ?aL ?_; (case aP => exact rfl); (case aB => exact qz4); (case aF => exact (fun k_ hk => ⟨Kd.fresh' (Kd.R_lt qz7) k_ hk, Kd.fresh' (Kd.R_lt qz17) k_ hk⟩)); (case aO => exact qz11); (case aS => exact (below_size qz4)); (case aL => have := LMc49.out; omega); intro v411 w53 ho hb hg hat; rw [← Ny410.out] at ho; have n0_ := Aside0.mk (Kd.R_after (ok := (fun k_ => some k_ ≠ (.slice (some ad399) t396.length co50 : Value).ownBlock)) qz13 hg hat); have n1_ := Aside0.mk (Kd.R_after (ok := (fun k_ => some k_ ≠ (.slice (some ad400) t385.length co51 : Value).ownBlock)) qz17 hg hat); have n2_ := Aside0.mk (blk_grown (g := gb384) (o := .cells #[.int .i64 a0_0, .int .i64 a0_1, .slice (some ad408) l0_2.length c0_2] 27 (0, 0)) qz12 hg (Kd.R_ne HO_10.out BK384.out (by decide))); have n3_ := Aside0.mk (hb); have n4_ := Aside0.mk (ho); clear HO_9; clear HO_12; clear BK384; clear HB; clear HO_10; have HO_9 := n0_; have HO_12 := n1_; have BK384 := n2_; have HB := n3_; have HO412 := n4_; clear n0_ n1_ n2_ n3_ n4_; clear ho hb hg hat))
                                          repeat (go_quiet (first | ((with_reducible refine gate_builtin (b := .append) (xs := #[.tmp 90, .tmp 92]) rfl ?_); at_builtin; refine Kd.R_append (Kd.int .i64) (w0 := w) w.heap.size rfl (.tmp 90) (.tmp 92) 22 3 (.int .i64 0) 8 rfl Try.underlying22 info3 rfl (by decide) (by omega) u10 x10_2 (rd t396 x13_3) [.int .i64 (rd t396 x13_3)] (fun k_ => some k_ ≠ (.slice (some ad400) t385.length co51 : Value).ownBlock ∧ some k_ ≠ (.slice (some ad399) t396.length co50 : Value).ownBlock) (fun _ => False) rfl rfl ?aP (fun _ hk => hk.elim) ?aF ?aO ?aB ?aS ?aL ?_; (case aP => exact rfl); (case aB => exact qz4); (case aF => exact (fun k_ hk => ⟨Kd.fresh' (Kd.R_lt qz7) k_ hk, Kd.fresh' (Kd.R_lt qz17) k_ hk⟩)); (case aO => exact qz11); (case aS => exact (below_size qz4)); (case aL => have := LMc49.out; omega); intro v411 w53 ho hb hg hat; rw [← Ny410.out] at ho; have n0_ := Aside0.mk (Kd.R_after (ok := (fun k_ => some k_ ≠ (.slice (some ad399) t396.length co50 : Value).ownBlock)) qz13 hg hat); have n1_ := Aside0.mk (Kd.R_after (ok := (fun k_ => some k_ ≠ (.slice (some ad400) t385.length co51 : Value).ownBlock)) qz17 hg hat); have n2_ := Aside0.mk (blk_grown (g := gb384) (o := .cells #[.int .i64 a0_0, .int .i64 a0_1, .slice (some ad408) l0_2.length c0_2] 27 (0, 0)) qz12 hg (Kd.R_ne HO_10.out BK384.out (by decide))); have n3_ := Aside0.mk (hb); have n4_ := Aside0.mk (ho); clear HO_9; clear HO_12; clear BK384; clear HB; clear HO_10; have HO_9 := n0_; have HO_12 := n1_; have BK384 := n2_; have HB := n3_; have HO412 := n4_; clear n0_ n1_ n2_ n3_ n4_; clear ho hb hg hat)); try go_wp2_with (first | ((with_reducible refine gate_builtin (b := .append) (xs := #[.tmp 90, .tmp 92]) rfl ?_); at_builtin; refine Kd.R_append (Kd.int .i64) (w0 := w) w.heap.size rfl (.tmp 90) (.tmp 92) 22 3 (.int .i64 0) 8 rfl Try.underlying22 info3 rfl (by decide) (by omega) u10 x10_2 (rd t396 x13_3) [.int .i64 (rd t396 x13_3)] (fun k_ => some k_ ≠ (.slice (some ad400) t385.length co51 : Value).ownBlock ∧ some k_ ≠ (.slice (some ad399) t396.length co50 : Value).ownBlock) (fun _ => False) rfl rfl ?aP (fun _ hk => hk.elim) ?aF ?aO ?aB ?aS ?aL ?_; (case aP => exact rfl); (case aB => exact qz4); (case aF => exact (fun k_ hk => ⟨Kd.fresh' (Kd.R_lt qz7) k_ hk, Kd.fresh' (Kd.R_lt qz17) k_ hk⟩)); (case aO => exact qz11); (case aS => exact (below_size qz4)); (case aL => have := LMc49.out; omega); intro v411 w53 ho hb hg hat; rw [← Ny410.out] at ho; have n0_ := Aside0.mk (Kd.R_after (ok := (fun k_ => some k_ ≠ (.slice (some ad399) t396.length co50 : Value).ownBlock)) qz13 hg hat); have n1_ := Aside0.mk (Kd.R_after (ok := (fun k_ => some k_ ≠ (.slice (some ad400) t385.length co51 : Value).ownBlock)) qz17 hg hat); have n2_ := Aside0.mk (blk_grown (g := gb384) (o := .cells #[.int .i64 a0_0, .int .i64 a0_1, .slice (some ad408) l0_2.length c0_2] 27 (0, 0)) qz12 hg (Kd.R_ne HO_10.out BK384.out (by decide))); have n3_ := Aside0.mk (hb); have n4_ := Aside0.mk (ho); clear HO_9; clear HO_12; clear BK384; clear HB; clear HO_10; have HO_9 := n0_; have HO_12 := n1_; have BK384 := n2_; have HB := n3_; have HO412 := n4_; clear n0_ n1_ n2_ n3_ n4_; clear ho hb hg hat)))
                                          go_roundg k3
                                          case measure => have := HJ5.out; have := HK2.out; have := HK3.out; omega
                                          case rel => exact ⟨(y410), (rd t396 x13_3), qz8, H', ⟨by have := HJ5.out; have := HK2.out; have := HK3.out; omega⟩, ⟨by (with_reducible repeat (first | apply Kd.R_alloc | apply Kd.R_drewN | apply Kd.R_drew)); exact Kd.R_mono HO_9.out (fun _ hk => hk.2)⟩, ⟨by (with_reducible repeat (first | apply Kd.R_alloc | apply Kd.R_drewN | apply Kd.R_drew)); exact Kd.R_mono HO412.out (fun _ hk => hk.1)⟩, ⟨by (with_reducible repeat (first | refine blk_drewN ?_ _ | refine blk_drew ?_ | refine blk_alloc ?_ _)); exact BK384.out⟩, ⟨by repeat (first | (with_reducible first | exact HB.out | apply below_alloc | apply pw_below_drewN | apply below_drew1 | refine below_set ?_ GE384.out) | exact HB.out)⟩⟩
                                        · rw [if_neg c49] at H
                                          exact absurd H (by simp)
                                    · rw [if_neg c44] at H
                                      exact absurd H (by simp)
                                  · replace c43 := Bool.eq_false_iff.mpr c43
                                    subst c43
                                    have H1 : (if x10_2.length < 17592186044416 then (spec_Way.l0 k3 a2 false t385 (x10_2 ++ [rd t396 x13_3]) (rd t396 x13_3) a0_0 a0_1 l0_2) else (none)) = some r := by rw [if_neg (show ¬ (false = true) by decide)] at H; exact H
                                    clear H
                                    have H := H1
                                    clear H1
                                    by_cases c54 : x10_2.length < 17592186044416
                                    · rw [if_pos c54] at H
                                      have LMc54 := Aside0.mk c54
                                      clear c54
                                      obtain ⟨y414, hy414⟩ : ∃ y_ : List Int, y_ = (x10_2 ++ [rd t396 x13_3]) := ⟨_, rfl⟩
                                      replace H : (spec_Way.l0 k3 a2 false t385 y414 (rd t396 x13_3) a0_0 a0_1 l0_2) = some r := by first | (rw [hy414]; with_reducible exact H) | (have H2_ := (Option.bind_some _ _).symm.trans H; rw [hy414]; with_reducible exact H2_) | (have H2_ := (Option.bind_some _ _).symm.trans H; with_reducible exact H2_) | with_reducible exact H | (rw [hy414]; exact H) | exact H
                                      have Ny414 := Aside0.mk hy414
                                      clear hy414
                                      have H' := Aside0.mk H
                                      clear H
                                      obtain ⟨Ao55, co55, eo55⟩ := Kd.R_slice HO_12.out
                                      subst eo55
                                      have p399 : 0 ≤ (x13_3 : Int) := of_decide_eq_true qz2
                                      have q399 : x13_3 < (t396.length : Int) := of_decide_eq_true qz2
                                      obtain ⟨ad399, e399, hx399_0⟩ := Kd.at_int (Kd.R_reads' HO_12.out).2.2 x13_3 p399 q399
                                      cases e399
                                      replace p399 := eq_true p399
                                      replace q399 := eq_true q399
                                      obtain ⟨Ao56, co56, eo56⟩ := Kd.R_slice HO_9.out
                                      subst eo56
                                      have p400 : 0 ≤ ((rd t396 x13_3) : Int) := of_decide_eq_true qz2
                                      have q400 : (rd t396 x13_3) < (t385.length : Int) := of_decide_eq_true qz2
                                      obtain ⟨ad400, e400, hx400_0⟩ := Kd.at_int (Kd.R_reads' HO_9.out).2.2 (rd t396 x13_3) p400 q400
                                      cases e400
                                      replace p400 := eq_true p400
                                      replace q400 := eq_true q400
                                      have p401 : 0 ≤ (x11_3 : Int) := of_decide_eq_true qz2
                                      have q401 : x11_3 < (t385.length : Int) := of_decide_eq_true qz2
                                      obtain ⟨ad401, e401, hx401_0⟩ := Kd.at_int (Kd.R_reads' HO_9.out).2.2 x11_3 p401 q401
                                      obtain rfl : ad400 = ad401 := (by injection e401)
                                      replace p401 := eq_true p401
                                      replace q401 := eq_true q401
                                      have p402 : 0 ≤ (x13_3 : Int) := of_decide_eq_true qz2
                                      have q402 : x13_3 < (t396.length : Int) := of_decide_eq_true qz2
                                      obtain ⟨ad402, e402, hx402_0⟩ := Kd.at_int (Kd.R_reads' HO_12.out).2.2 x13_3 p402 q402
                                      obtain rfl : ad399 = ad402 := (by injection e402)
                                      replace p402 := eq_true p402
                                      replace q402 := eq_true q402
                                      have p413 : 0 ≤ (x13_3 : Int) := of_decide_eq_true qz2
                                      have q413 : x13_3 < (t396.length : Int) := of_decide_eq_true qz2
                                      obtain ⟨ad413, e413, hx413_0⟩ := Kd.at_int (Kd.R_reads' HO_12.out).2.2 x13_3 p413 q413
                                      obtain rfl : ad399 = ad413 := (by injection e413)
                                      replace p413 := eq_true p413
                                      replace q413 := eq_true q413
                                      go_wp2_with (first | ((with_reducible refine gate_builtin (b := .append) (xs := #[.tmp 90, .tmp 92]) rfl ?_); at_builtin; refine Kd.R_append (Kd.int .i64) (w0 := w) w.heap.size rfl (.tmp 90) (.tmp 92) 22 3 (.int .i64 0) 8 rfl Try.underlying22 info3 rfl (by decide) (by omega) u10 x10_2 (rd t396 x13_3) [.int .i64 (rd t396 x13_3)] (fun k_ => some k_ ≠ (.slice (some ad400) t385.length co56 : Value).ownBlock ∧ some k_ ≠ (.slice (some ad399) t396.length co55 : Value).ownBlock) (fun _ => False) rfl rfl ?aP (fun _ hk => hk.elim) ?aF ?aO ?aB ?aS ?aL ?_; (case aP => exact rfl); (case aB => exact qz4); (case aF => exact (fun k_ hk => ⟨Kd.fresh' (Kd.R_lt qz7) k_ hk, Kd.fresh' (Kd.R_lt qz17) k_ hk⟩)); (case aO => exact qz11); (case aS => exact (below_size qz4)); (case aL => have := LMc54.out; omega); intro v415 w57 ho hb hg hat; rw [← Ny414.out] at ho; have n0_ := Aside0.mk (Kd.R_after (ok := (fun k_ => some k_ ≠ (.slice (some ad399) t396.length co55 : Value).ownBlock)) qz13 hg hat); have n1_ := Aside0.mk (Kd.R_after (ok := (fun k_ => some k_ ≠ (.slice (some ad400) t385.length co56 : Value).ownBlock)) qz17 hg hat); have n2_ := Aside0.mk (blk_grown (g := gb384) (o := .cells #[.int .i64 a0_0, .int .i64 a0_1, .slice A0_2 l0_2.length c0_2] 27 (0, 0)) qz12 hg (Kd.R_ne HO_10.out BK384.out (by decide))); have n3_ := Aside0.mk (hb); have n4_ := Aside0.mk (ho); clear HO_9; clear HO_12; clear BK384; clear HB; clear HO_10; have HO_9 := n0_; have HO_12 := n1_; have BK384 := n2_; have HB := n3_; have HO416 := n4_; clear n0_ n1_ n2_ n3_ n4_; clear ho hb hg hat))
                                      repeat (go_quiet (first | ((with_reducible refine gate_builtin (b := .append) (xs := #[.tmp 90, .tmp 92]) rfl ?_); at_builtin; refine Kd.R_append (Kd.int .i64) (w0 := w) w.heap.size rfl (.tmp 90) (.tmp 92) 22 3 (.int .i64 0) 8 rfl Try.underlying22 info3 rfl (by decide) (by omega) u10 x10_2 (rd t396 x13_3) [.int .i64 (rd t396 x13_3)] (fun k_ => some k_ ≠ (.slice (some ad400) t385.length co56 : Value).ownBlock ∧ some k_ ≠ (.slice (some ad399) t396.length co55 : Value).ownBlock) (fun _ => False) rfl rfl ?aP (fun _ hk => hk.elim) ?aF ?aO ?aB ?aS ?aL ?_; (case aP => exact rfl); (case aB => exact qz4); (case aF => exact (fun k_ hk => ⟨Kd.fresh' (Kd.R_lt qz7) k_ hk, Kd.fresh' (Kd.R_lt qz17) k_ hk⟩)); (case aO => exact qz11); (case aS => exact (below_size qz4)); (case aL => have := LMc54.out; omega); intro v415 w57 ho hb hg hat; rw [← Ny414.out] at ho; have n0_ := Aside0.mk (Kd.R_after (ok := (fun k_ => some k_ ≠ (.slice (some ad399) t396.length co55 : Value).ownBlock)) qz13 hg hat); have n1_ := Aside0.mk (Kd.R_after (ok := (fun k_ => some k_ ≠ (.slice (some ad400) t385.length co56 : Value).ownBlock)) qz17 hg hat); have n2_ := Aside0.mk (blk_grown (g := gb384) (o := .cells #[.int .i64 a0_0, .int .i64 a0_1, .slice A0_2 l0_2.length c0_2] 27 (0, 0)) qz12 hg (Kd.R_ne HO_10.out BK384.out (by decide))); have n3_ := Aside0.mk (hb); have n4_ := Aside0.mk (ho); clear HO_9; clear HO_12; clear BK384; clear HB; clear HO_10; have HO_9 := n0_; have HO_12 := n1_; have BK384 := n2_; have HB := n3_; have HO416 := n4_; clear n0_ n1_ n2_ n3_ n4_; clear ho hb hg hat)); try go_wp2_with (first | ((with_reducible refine gate_builtin (b := .append) (xs := #[.tmp 90, .tmp 92]) rfl ?_); at_builtin; refine Kd.R_append (Kd.int .i64) (w0 := w) w.heap.size rfl (.tmp 90) (.tmp 92) 22 3 (.int .i64 0) 8 rfl Try.underlying22 info3 rfl (by decide) (by omega) u10 x10_2 (rd t396 x13_3) [.int .i64 (rd t396 x13_3)] (fun k_ => some k_ ≠ (.slice (some ad400) t385.length co56 : Value).ownBlock ∧ some k_ ≠ (.slice (some ad399) t396.length co55 : Value).ownBlock) (fun _ => False) rfl rfl ?aP (fun _ hk => hk.elim) ?aF ?aO ?aB ?aS ?aL ?_; (case aP => exact rfl); (case aB => exact qz4); (case aF => exact (fun k_ hk => ⟨Kd.fresh' (Kd.R_lt qz7) k_ hk, Kd.fresh' (Kd.R_lt qz17) k_ hk⟩)); (case aO => exact qz11); (case aS => exact (below_size qz4)); (case aL => have := LMc54.out; omega); intro v415 w57 ho hb hg hat; rw [← Ny414.out] at ho; have n0_ := Aside0.mk (Kd.R_after (ok := (fun k_ => some k_ ≠ (.slice (some ad399) t396.length co55 : Value).ownBlock)) qz13 hg hat); have n1_ := Aside0.mk (Kd.R_after (ok := (fun k_ => some k_ ≠ (.slice (some ad400) t385.length co56 : Value).ownBlock)) qz17 hg hat); have n2_ := Aside0.mk (blk_grown (g := gb384) (o := .cells #[.int .i64 a0_0, .int .i64 a0_1, .slice A0_2 l0_2.length c0_2] 27 (0, 0)) qz12 hg (Kd.R_ne HO_10.out BK384.out (by decide))); have n3_ := Aside0.mk (hb); have n4_ := Aside0.mk (ho); clear HO_9; clear HO_12; clear BK384; clear HB; clear HO_10; have HO_9 := n0_; have HO_12 := n1_; have BK384 := n2_; have HB := n3_; have HO416 := n4_; clear n0_ n1_ n2_ n3_ n4_; clear ho hb hg hat)))
                                      go_roundg k3
                                      case measure => have := HJ5.out; have := HK2.out; have := HK3.out; omega
                                      case rel => exact ⟨(y414), (rd t396 x13_3), qz8, H', ⟨by have := HJ5.out; have := HK2.out; have := HK3.out; omega⟩, ⟨by (with_reducible repeat (first | apply Kd.R_alloc | apply Kd.R_drewN | apply Kd.R_drew)); exact Kd.R_mono HO_9.out (fun _ hk => hk.2)⟩, ⟨by (with_reducible repeat (first | apply Kd.R_alloc | apply Kd.R_drewN | apply Kd.R_drew)); exact Kd.R_mono HO416.out (fun _ hk => hk.1)⟩, ⟨by (with_reducible repeat (first | refine blk_drewN ?_ _ | refine blk_drew ?_ | refine blk_alloc ?_ _)); exact BK384.out⟩, ⟨by repeat (first | (with_reducible first | exact HB.out | apply below_alloc | apply pw_below_drewN | apply below_drew1 | refine below_set ?_ GE384.out) | exact HB.out)⟩⟩
                                    · rw [if_neg c54] at H
                                      exact absurd H (by simp)
                              · rw [if_neg c37] at H
                                have c37b0 : ((rd t385 (rd t396 x13_3)) == (wrap64 ((rd t385 x11_3) - 1))) = false := beq_eq_false_iff_ne.mpr c37
                                have c37b1 : ((rd t385 (rd t396 x13_3)) != (wrap64 ((rd t385 x11_3) - 1))) = true := bne_iff_ne.mpr c37
                                have H' := Aside0.mk H
                                clear H
                                obtain ⟨Ao58, co58, eo58⟩ := Kd.R_slice HO_12.out
                                subst eo58
                                have p399 : 0 ≤ (x13_3 : Int) := of_decide_eq_true qz2
                                have q399 : x13_3 < (t396.length : Int) := of_decide_eq_true qz2
                                obtain ⟨ad399, e399, hx399_0⟩ := Kd.at_int (Kd.R_reads' HO_12.out).2.2 x13_3 p399 q399
                                cases e399
                                replace p399 := eq_true p399
                                replace q399 := eq_true q399
                                obtain ⟨Ao59, co59, eo59⟩ := Kd.R_slice HO_9.out
                                subst eo59
                                have p400 : 0 ≤ ((rd t396 x13_3) : Int) := of_decide_eq_true qz2
                                have q400 : (rd t396 x13_3) < (t385.length : Int) := of_decide_eq_true qz2
                                obtain ⟨ad400, e400, hx400_0⟩ := Kd.at_int (Kd.R_reads' HO_9.out).2.2 (rd t396 x13_3) p400 q400
                                cases e400
                                replace p400 := eq_true p400
                                replace q400 := eq_true q400
                                have p401 : 0 ≤ (x11_3 : Int) := of_decide_eq_true qz2
                                have q401 : x11_3 < (t385.length : Int) := of_decide_eq_true qz2
                                obtain ⟨ad401, e401, hx401_0⟩ := Kd.at_int (Kd.R_reads' HO_9.out).2.2 x11_3 p401 q401
                                obtain rfl : ad400 = ad401 := (by injection e401)
                                replace p401 := eq_true p401
                                replace q401 := eq_true q401
                                go_wp2
                                repeat (go_quiet (fail); try go_wp2)
                                go_roundg k3
                                case measure => have := HJ5.out; have := HK2.out; have := HK3.out; omega
                                case rel => exact ⟨(x11_3), (wrap64 (x13_3 + 1)), qz8, qz8, H', ⟨by have := HJ5.out; have := HK2.out; have := HK3.out; omega⟩, ⟨by (with_reducible repeat (first | apply Kd.R_alloc | apply Kd.R_drewN | apply Kd.R_drew)); exact HO_9.out⟩, ⟨by (with_reducible repeat (first | apply Kd.R_alloc | apply Kd.R_drewN | apply Kd.R_drew)); exact HO_10.out⟩, ⟨by (with_reducible repeat (first | apply Kd.R_alloc | apply Kd.R_drewN | apply Kd.R_drew)); exact HO_12.out⟩, ⟨by (with_reducible repeat (first | refine blk_drewN ?_ _ | refine blk_drew ?_ | refine blk_alloc ?_ _)); exact BK384.out⟩, ⟨by repeat (first | (with_reducible first | exact HB.out | apply below_alloc | apply pw_below_drewN | apply below_drew1 | refine below_set ?_ GE384.out) | exact HB.out)⟩⟩
                            · rw [if_neg c36] at H
                              exact absurd H (by simp)
                          · rw [if_neg c35] at H
                            exact absurd H (by simp)
                        · rw [if_neg c34] at H
                          exact absurd H (by simp)
                      · rw [if_neg c33] at H
                        exact absurd H (by simp)
                    · rw [if_neg c32] at H
                      exact absurd H (by simp)
                  · rw [if_neg c31] at H
                    have c31b0 : decide (x13_3 < (t396.length : Int)) = false := decide_eq_false c31
                    clear c31
                    by_cases c60 : x10_2.length < 17592186044416
                    · rw [if_pos c60] at H
                      have LMc60 := Aside0.mk c60
                      clear c60
                      obtain ⟨y417, hy417⟩ : ∃ y_ : List Int, y_ = (x10_2 ++ [x11_3]) := ⟨_, rfl⟩
                      replace H : (spec_Way.l0 k3 a2 a3 t385 y417 x11_3 a0_0 a0_1 l0_2) = some r := by first | (rw [hy417]; with_reducible exact H) | (have H2_ := (Option.bind_some _ _).symm.trans H; rw [hy417]; with_reducible exact H2_) | (have H2_ := (Option.bind_some _ _).symm.trans H; with_reducible exact H2_) | with_reducible exact H | (rw [hy417]; exact H) | exact H
                      have Ny417 := Aside0.mk hy417
                      clear hy417
                      have H' := Aside0.mk H
                      clear H
                      obtain ⟨Ao61, co61, eo61⟩ := Kd.R_slice HO_12.out
                      subst eo61
                      go_wp2_with (first | ((with_reducible refine gate_builtin (b := .append) (xs := #[.tmp 90, .tmp 92]) rfl ?_); at_builtin; refine Kd.R_append (Kd.int .i64) (w0 := w) w.heap.size rfl (.tmp 90) (.tmp 92) 22 3 (.int .i64 0) 8 rfl Try.underlying22 info3 rfl (by decide) (by omega) u10 x10_2 x11_3 [.int .i64 x11_3] (fun k_ => some k_ ≠ (v386 : Value).ownBlock ∧ some k_ ≠ (.slice Ao61 t396.length co61 : Value).ownBlock) (fun _ => False) rfl rfl ?aP (fun _ hk => hk.elim) ?aF ?aO ?aB ?aS ?aL ?_; (case aP => exact rfl); (case aB => exact qz4); (case aF => exact (fun k_ hk => ⟨Kd.fresh' (Kd.R_lt qz7) k_ hk, Kd.fresh' (Kd.R_lt qz17) k_ hk⟩)); (case aO => exact qz11); (case aS => exact (below_size qz4)); (case aL => have := LMc60.out; omega); intro v418 w62 ho hb hg hat; rw [← Ny417.out] at ho; have n0_ := Aside0.mk (Kd.R_after (ok := (fun k_ => some k_ ≠ (.slice Ao61 t396.length co61 : Value).ownBlock)) qz13 hg hat); have n1_ := Aside0.mk (Kd.R_after (ok := (fun k_ => some k_ ≠ (v386 : Value).ownBlock)) qz17 hg hat); have n2_ := Aside0.mk (blk_grown (g := gb384) (o := .cells #[.int .i64 a0_0, .int .i64 a0_1, .slice A0_2 l0_2.length c0_2] 27 (0, 0)) qz12 hg (Kd.R_ne HO_10.out BK384.out (by decide))); have n3_ := Aside0.mk (hb); have n4_ := Aside0.mk (ho); clear HO_9; clear HO_12; clear BK384; clear HB; clear HO_10; have HO_9 := n0_; have HO_12 := n1_; have BK384 := n2_; have HB := n3_; have HO419 := n4_; clear n0_ n1_ n2_ n3_ n4_; clear ho hb hg hat))
                      repeat (go_quiet (first | ((with_reducible refine gate_builtin (b := .append) (xs := #[.tmp 90, .tmp 92]) rfl ?_); at_builtin; refine Kd.R_append (Kd.int .i64) (w0 := w) w.heap.size rfl (.tmp 90) (.tmp 92) 22 3 (.int .i64 0) 8 rfl Try.underlying22 info3 rfl (by decide) (by omega) u10 x10_2 x11_3 [.int .i64 x11_3] (fun k_ => some k_ ≠ (v386 : Value).ownBlock ∧ some k_ ≠ (.slice Ao61 t396.length co61 : Value).ownBlock) (fun _ => False) rfl rfl ?aP (fun _ hk => hk.elim) ?aF ?aO ?aB ?aS ?aL ?_; (case aP => exact rfl); (case aB => exact qz4); (case aF => exact (fun k_ hk => ⟨Kd.fresh' (Kd.R_lt qz7) k_ hk, Kd.fresh' (Kd.R_lt qz17) k_ hk⟩)); (case aO => exact qz11); (case aS => exact (below_size qz4)); (case aL => have := LMc60.out; omega); intro v418 w62 ho hb hg hat; rw [← Ny417.out] at ho; have n0_ := Aside0.mk (Kd.R_after (ok := (fun k_ => some k_ ≠ (.slice Ao61 t396.length co61 : Value).ownBlock)) qz13 hg hat); have n1_ := Aside0.mk (Kd.R_after (ok := (fun k_ => some k_ ≠ (v386 : Value).ownBlock)) qz17 hg hat); have n2_ := Aside0.mk (blk_grown (g := gb384) (o := .cells #[.int .i64 a0_0, .int .i64 a0_1, .slice A0_2 l0_2.length c0_2] 27 (0, 0)) qz12 hg (Kd.R_ne HO_10.out BK384.out (by decide))); have n3_ := Aside0.mk (hb); have n4_ := Aside0.mk (ho); clear HO_9; clear HO_12; clear BK384; clear HB; clear HO_10; have HO_9 := n0_; have HO_12 := n1_; have BK384 := n2_; have HB := n3_; have HO419 := n4_; clear n0_ n1_ n2_ n3_ n4_; clear ho hb hg hat)); try go_wp2_with (first | ((with_reducible refine gate_builtin (b := .append) (xs := #[.tmp 90, .tmp 92]) rfl ?_); at_builtin; refine Kd.R_append (Kd.int .i64) (w0 := w) w.heap.size rfl (.tmp 90) (.tmp 92) 22 3 (.int .i64 0) 8 rfl Try.underlying22 info3 rfl (by decide) (by omega) u10 x10_2 x11_3 [.int .i64 x11_3] (fun k_ => some k_ ≠ (v386 : Value).ownBlock ∧ some k_ ≠ (.slice Ao61 t396.length co61 : Value).ownBlock) (fun _ => False) rfl rfl ?aP (fun _ hk => hk.elim) ?aF ?aO ?aB ?aS ?aL ?_; (case aP => exact rfl); (case aB => exact qz4); (case aF => exact (fun k_ hk => ⟨Kd.fresh' (Kd.R_lt qz7) k_ hk, Kd.fresh' (Kd.R_lt qz17) k_ hk⟩)); (case aO => exact qz11); (case aS => exact (below_size qz4)); (case aL => have := LMc60.out; omega); intro v418 w62 ho hb hg hat; rw [← Ny417.out] at ho; have n0_ := Aside0.mk (Kd.R_after (ok := (fun k_ => some k_ ≠ (.slice Ao61 t396.length co61 : Value).ownBlock)) qz13 hg hat); have n1_ := Aside0.mk (Kd.R_after (ok := (fun k_ => some k_ ≠ (v386 : Value).ownBlock)) qz17 hg hat); have n2_ := Aside0.mk (blk_grown (g := gb384) (o := .cells #[.int .i64 a0_0, .int .i64 a0_1, .slice A0_2 l0_2.length c0_2] 27 (0, 0)) qz12 hg (Kd.R_ne HO_10.out BK384.out (by decide))); have n3_ := Aside0.mk (hb); have n4_ := Aside0.mk (ho); clear HO_9; clear HO_12; clear BK384; clear HB; clear HO_10; have HO_9 := n0_; have HO_12 := n1_; have BK384 := n2_; have HB := n3_; have HO419 := n4_; clear n0_ n1_ n2_ n3_ n4_; clear ho hb hg hat)))
                      go_roundg k3
                      case measure => have := HJ5.out; have := HK2.out; have := HK3.out; omega
                      case rel => exact ⟨(y417), (x11_3), qz8, H', ⟨by have := HJ5.out; have := HK2.out; have := HK3.out; omega⟩, ⟨by (with_reducible repeat (first | apply Kd.R_alloc | apply Kd.R_drewN | apply Kd.R_drew)); exact Kd.R_mono HO_9.out (fun _ hk => hk.2)⟩, ⟨by (with_reducible repeat (first | apply Kd.R_alloc | apply Kd.R_drewN | apply Kd.R_drew)); exact Kd.R_mono HO419.out (fun _ hk => hk.1)⟩, ⟨by (with_reducible repeat (first | refine blk_drewN ?_ _ | refine blk_drew ?_ | refine blk_alloc ?_ _)); exact BK384.out⟩, ⟨by repeat (first | (with_reducible first | exact HB.out | apply below_alloc | apply pw_below_drewN | apply below_drew1 | refine below_set ?_ GE384.out) | exact HB.out)⟩⟩
                    · rw [if_neg c60] at H
                      exact absurd H (by simp)

end Go.Proofs.Ytdlkmjilakaklaa.PFnWays
