-- Made by a program of this session out of the translation. Lean checks it.
import Derived.Test.YteajnkondkfmgaaPFnExactPutInx0
import Derived.Test.YteajnkondkfmgaaPFnExactPutInx1
import Derived.Test.YteajnkondkfmgaaPFnExactPutInx3
namespace Go.Proofs.Yteajnkondkfmgaa.PFnExactPutIn
open Go.RowKit Go.Proofs.YteajnkondkfmgaaW.PrintWords Go.Proofs.YteajnkondkfmgaaW.PrintLast Go.Proofs.YteajnkondkfmgaaW.PrintMore
attribute [local go_sem] max2_int min2_int max_two min_two max_three min_three max_four min_four   -- for this text's walks alone
set_option linter.unusedVariables false
set_option linter.unusedSimpArgs false

/-! ### impl_podAt: function 69 -/
def impl_podAt.l0 : Nat → Int → List (S79) → Int → Int → Option (Int)
  | 0, _, _, _, _ => none
  | k + 1, x1, x8, x9, x10 => if x10 < x9 then (if 0 ≤ x10 then (if x10 < (x8.length : Int) then (if ((rd_T79 x8 x10).f0) = x1 then (some x10) else (impl_podAt.l0 k x1 x8 x9 (wrap64 (x10 + 1)))) else (none)) else (none)) else (some (-1))
def impl_podAt.f (k : Nat) (l0_0 : List (S79)) (a1 : Int) : Option (Int) := impl_podAt.l0 k a1 l0_0 (l0_0.length : Int) 0
theorem impl_podAt.mono_l : ∀ k, (∀ y0 y1 y2 y3, LeO (impl_podAt.l0 k y0 y1 y2 y3) (impl_podAt.l0 (k + 1) y0 y1 y2 y3))
  | 0 => fun _ _ _ _ r h => by simp [impl_podAt.l0] at h
  | k + 1 => by
    have ih0 := impl_podAt.mono_l k
    {
    intro y0 y1 y2 y3
    unfold impl_podAt.l0
    repeat' first
    | (with_reducible exact ih0 _ _ _ _)
    | (with_reducible exact LeO.refl _)
    | (with_reducible exact LeO.none _)
    | (with_reducible refine LeO.ite ?_ ?_)
    | (with_reducible refine LeO.bind ?_ (fun _ => ?_))
    | exact ih0 _ _ _ _
    | exact LeO.none _
    | refine LeO.ite ?_ ?_
    | refine LeO.bind ?_ (fun _ => ?_)
    }
theorem impl_podAt.mono : ∀ a0 a1 k, LeO (impl_podAt.f k a0 a1) (impl_podAt.f (k + 1) a0 a1) := by
  intro a0 a1 k
  have ih0 := impl_podAt.mono_l k
  unfold impl_podAt.f
  repeat' first
      | (with_reducible exact ih0 _ _ _ _)
      | (with_reducible exact LeO.refl _)
      | (with_reducible exact LeO.none _)
      | (with_reducible refine LeO.ite ?_ ?_)
      | (with_reducible refine LeO.bind ?_ (fun _ => ?_))
      | exact ih0 _ _ _ _
      | exact LeO.none _
      | refine LeO.ite ?_ ?_
      | refine LeO.bind ?_ (fun _ => ?_)
set_option maxHeartbeats 8000000 in
set_option maxRecDepth 100000 in
theorem impl_podAt.calls (k : Nat) (A0_0 : Option Addr) (c0_0 : Nat) (l0_0 : List (S79)) (a1 : Int) (r : Int) (w : World) (hr0_0 : Kd.C k79 w A0_0 l0_0.length l0_0) (hc0_0 : l0_0.length ≤ c0_0) (h : impl_podAt.f k l0_0 a1 = some r) :
    Calls Try.prog 69 #[.agg #[.slice A0_0 l0_0.length c0_0], .int .i64 a1] w fun e w' => e = .returned (.int .i64 r) ∧ Below w.heap.size w w' := by
  have hu26 := Try.underlying26
  have hu79 := Try.underlying79
  have HR0_0 := Aside0.mk hr0_0
  have HC0_0 := Aside0.mk hc0_0
  clear hr0_0 hc0_0
  have HB := Aside0.mk (Below.refl w.heap.size w)
  have H : (impl_podAt.l0 k a1 l0_0 (l0_0.length : Int) 0) = some r := h
  clear h
  have H' := Aside0.mk H
  clear H
  go_enter Try.func69, Try.ntmps69
  go_wp2_with (first | ((with_reducible refine gate_dst (N := 2) rfl ?_); refine box_event ?hg (N := 2) ?hd (cs := #[.slice A0_0 l0_0.length c0_0]) (t := 26) ?hr ?_; (case hd => rfl); (case hg => rfl); (case hr => first | (go_simp; done) | (go_simp; rfl)); intro gb135 hg w3 hbox hb; have n0_ := Aside0.mk (below_step qz1 hb); have n1_ := Aside0.mk (hbox); have n2_ := Aside0.mk ((by rw [hg]; exact (below_size qz1) : w.heap.size ≤ gb135)); have n3_ := Aside0.mk ((by rw [hg]; exact (below_size qz1) : w.heap.size ≤ gb135)); clear HB; have HB := n0_; have BK135 := n1_; have GW135 := n2_; have GE135 := n3_; clear n0_ n1_ n2_ n3_; clear hb hbox hg; have hcz4_0 : w3.cell? ⟨gb135, 0, none⟩ = some (.slice A0_0 l0_0.length c0_0) := (blk_cell BK135.out 0).trans rfl; have hfz4_0 := blk_frozen BK135.out 0))
  go_loopg [10] k (fun kq v10 w' => ∃ (x10_1 : Int), v10 = .int .i64 x10_1 ∧ Aside0 (impl_podAt.l0 kq a1 l0_0 (l0_0.length : Int) x10_1 = some r) ∧ Aside0 (kq ≤ k) ∧ Aside0 (w'.heap[gb135]? = some (.cells #[(.slice A0_0 l0_0.length c0_0)] 26 (0, 0))) ∧ Aside0 (Below w.heap.size w w'))
  case atStart => exact ⟨(0), qz6, H', ⟨Nat.le_refl _⟩, ⟨by (with_reducible repeat (first | refine blk_drewN ?_ _ | refine blk_drew ?_ | refine blk_alloc ?_ _)); exact BK135.out⟩, ⟨by repeat (first | (with_reducible first | exact HB.out | apply below_alloc | apply pw_below_drewN | apply below_drew1 | refine below_set ?_ GE135.out) | exact HB.out)⟩⟩
  case round =>
    clear H'
    try clear p2
    try clear hcz4_0
    try clear hfz4_0
    obtain ⟨x10_1, rfl, HA, HK1, BK135, HB⟩ := hrel
    cases gk with
    | zero => exact absurd HA.out (by simp [impl_podAt.l0])
    | succ k1 =>
      have H := HA.out
      clear HA
      simp only [impl_podAt.l0] at H
      by_cases c5 : x10_1 < (l0_0.length : Int)
      {
      rw [if_pos c5] at H
      have c5b0 : decide (x10_1 < (l0_0.length : Int)) = true := decide_eq_true c5
      clear c5
      by_cases c6 : 0 ≤ x10_1
      {
      rw [if_pos c6] at H
      have c6b0 : decide (0 ≤ x10_1) = true := decide_eq_true c6
      clear c6
      by_cases c7 : x10_1 < (l0_0.length : Int)
      {
      rw [if_pos c7] at H
      have c7b0 : decide (x10_1 < (l0_0.length : Int)) = true := decide_eq_true c7
      clear c7
      by_cases c8 : ((rd_T79 l0_0 x10_1).f0) = a1
      {
      rw [if_pos c8] at H
      have c8b0 : (((rd_T79 l0_0 x10_1).f0) == a1) = true := beq_iff_eq.mpr c8
      have c8b1 : (((rd_T79 l0_0 x10_1).f0) != a1) = false := bne_eq_false_iff_eq.mpr c8
      clear c8
      obtain rfl := Option.some.inj H
      simp only [Option.some.injEq, Prod.mk.injEq] at H
      obtain ⟨rfl⟩ := H
      have p136 : 0 ≤ (x10_1 : Int) := of_decide_eq_true qz3
      have q136 : x10_1 < (l0_0.length : Int) := of_decide_eq_true qz3
      obtain ⟨ad136, A136_2, c136_2, e136, hx136_0, hx136_1, hx136_2, hl136_2, hi136_2⟩ := at_T79 HR0_0.out x10_1 p136 q136
      cases e136
      replace hx136_0 := (HB.out.cell (World.block_lt_of_cell? w _ hx136_0)).trans hx136_0
      replace hx136_1 := (HB.out.cell (World.block_lt_of_cell? w _ hx136_1)).trans hx136_1
      replace hx136_2 := (HB.out.cell (World.block_lt_of_cell? w _ hx136_2)).trans hx136_2
      have HR136_2 := Aside0.mk hi136_2
      have HC136_2 := Aside0.mk hl136_2
      clear hi136_2 hl136_2
      replace p136 := eq_true p136
      replace q136 := eq_true q136
      go_wp2_with (first | ((with_reducible refine gate_dst (N := 6) rfl ?_); refine box_event ?hg (N := 6) ?hd (cs := #[.int .i64 0, .int .i64 0, .slice none 0 0]) (t := 79) ?hr ?_; (case hd => rfl); (case hg => rfl); (case hr => first | (go_simp; done) | (go_simp; rfl)); intro gb137 hg w9 hbox hb; have n0_ := Aside0.mk (blk_below (g := gb135) (o := .cells #[.slice (some ad136) l0_0.length c0_0] 26 (0, 0)) (by (with_reducible repeat (first | refine blk_drewN ?_ _ | refine blk_drew ?_ | refine blk_alloc ?_ _)); exact BK135.out) hb); have n1_ := Aside0.mk (below_step (by repeat (first | (with_reducible first | exact HB.out | apply below_alloc | apply pw_below_drewN | apply below_drew1 | refine below_set ?_ GE135.out) | exact HB.out)) hb); have n2_ := Aside0.mk (hbox); have n3_ := Aside0.mk ((by rw [hg]; exact (below_size (by repeat (first | (with_reducible first | exact HB.out | apply below_alloc | apply pw_below_drewN | apply below_drew1 | refine below_set ?_ GE135.out) | exact HB.out))) : w.heap.size ≤ gb137)); have n4_ := Aside0.mk ((by rw [hg]; exact (below_size (by repeat (first | (with_reducible first | exact HB.out | apply below_alloc | apply pw_below_drewN | apply below_drew1 | refine below_set ?_ GE135.out) | exact HB.out))) : w.heap.size ≤ gb137)); have n5_ := Aside0.mk ((by rw [hg]; exact Nat.ne_of_lt (blk_lt (g := gb135) (o := .cells #[.slice (some ad136) l0_0.length c0_0] 26 (0, 0)) (by (with_reducible repeat (first | refine blk_drewN ?_ _ | refine blk_drew ?_ | refine blk_alloc ?_ _)); exact BK135.out)) : gb135 ≠ gb137)); have n6_ := Aside0.mk ((by rw [hg]; exact Nat.ne_of_gt (blk_lt (g := gb135) (o := .cells #[.slice (some ad136) l0_0.length c0_0] 26 (0, 0)) (by (with_reducible repeat (first | refine blk_drewN ?_ _ | refine blk_drew ?_ | refine blk_alloc ?_ _)); exact BK135.out)) : gb137 ≠ gb135)); clear BK135; clear HB; have BK135 := n0_; have HB := n1_; have BK137 := n2_; have GW137 := n3_; have GE137 := n4_; have NB135_137 := n5_; have NB137_135 := n6_; clear n0_ n1_ n2_ n3_ n4_ n5_ n6_; clear hb hbox hg; have hnb10 := NB137_135.out; have hnc10 := NB135_137.out; have hcz11_0 : w9.cell? ⟨gb137, 0, none⟩ = some (.int .i64 0) := (blk_cell BK137.out 0).trans rfl; have hcz11_1 : w9.cell? ⟨gb137, 1, none⟩ = some (.int .i64 0) := (blk_cell BK137.out 1).trans rfl; have hcz11_2 : w9.cell? ⟨gb137, 2, none⟩ = some (.slice none 0 0) := (blk_cell BK137.out 2).trans rfl; have hfz11_0 := blk_frozen BK137.out 0; have hfz11_1 := blk_frozen BK137.out 1; have hfz11_2 := blk_frozen BK137.out 2))
      go_ret
      exact ⟨by first | rfl | (simp [errW_none, errW_some] <;> rfl) | (simp [*, errW_none, errW_some] <;> rfl), by repeat (first | (with_reducible first | exact HB.out | apply below_alloc | apply pw_below_drewN | apply below_drew1 | refine below_set ?_ GE135.out | refine below_set ?_ GE137.out) | exact HB.out)⟩
      }
      {
      rw [if_neg c8] at H
      have c8b0 : (((rd_T79 l0_0 x10_1).f0) == a1) = false := beq_eq_false_iff_ne.mpr c8
      have c8b1 : (((rd_T79 l0_0 x10_1).f0) != a1) = true := bne_iff_ne.mpr c8
      have H' := Aside0.mk H
      clear H
      have p136 : 0 ≤ (x10_1 : Int) := of_decide_eq_true qz3
      have q136 : x10_1 < (l0_0.length : Int) := of_decide_eq_true qz3
      obtain ⟨ad136, A136_2, c136_2, e136, hx136_0, hx136_1, hx136_2, hl136_2, hi136_2⟩ := at_T79 HR0_0.out x10_1 p136 q136
      cases e136
      replace hx136_0 := (HB.out.cell (World.block_lt_of_cell? w _ hx136_0)).trans hx136_0
      replace hx136_1 := (HB.out.cell (World.block_lt_of_cell? w _ hx136_1)).trans hx136_1
      replace hx136_2 := (HB.out.cell (World.block_lt_of_cell? w _ hx136_2)).trans hx136_2
      have HR136_2 := Aside0.mk hi136_2
      have HC136_2 := Aside0.mk hl136_2
      clear hi136_2 hl136_2
      replace p136 := eq_true p136
      replace q136 := eq_true q136
      go_wp2_with (first | ((with_reducible refine gate_dst (N := 6) rfl ?_); refine box_event ?hg (N := 6) ?hd (cs := #[.int .i64 0, .int .i64 0, .slice none 0 0]) (t := 79) ?hr ?_; (case hd => rfl); (case hg => rfl); (case hr => first | (go_simp; done) | (go_simp; rfl)); intro gb137 hg w12 hbox hb; have n0_ := Aside0.mk (blk_below (g := gb135) (o := .cells #[.slice (some ad136) l0_0.length c0_0] 26 (0, 0)) (by (with_reducible repeat (first | refine blk_drewN ?_ _ | refine blk_drew ?_ | refine blk_alloc ?_ _)); exact BK135.out) hb); have n1_ := Aside0.mk (below_step (by repeat (first | (with_reducible first | exact HB.out | apply below_alloc | apply pw_below_drewN | apply below_drew1 | refine below_set ?_ GE135.out) | exact HB.out)) hb); have n2_ := Aside0.mk (hbox); have n3_ := Aside0.mk ((by rw [hg]; exact (below_size (by repeat (first | (with_reducible first | exact HB.out | apply below_alloc | apply pw_below_drewN | apply below_drew1 | refine below_set ?_ GE135.out) | exact HB.out))) : w.heap.size ≤ gb137)); have n4_ := Aside0.mk ((by rw [hg]; exact (below_size (by repeat (first | (with_reducible first | exact HB.out | apply below_alloc | apply pw_below_drewN | apply below_drew1 | refine below_set ?_ GE135.out) | exact HB.out))) : w.heap.size ≤ gb137)); have n5_ := Aside0.mk ((by rw [hg]; exact Nat.ne_of_lt (blk_lt (g := gb135) (o := .cells #[.slice (some ad136) l0_0.length c0_0] 26 (0, 0)) (by (with_reducible repeat (first | refine blk_drewN ?_ _ | refine blk_drew ?_ | refine blk_alloc ?_ _)); exact BK135.out)) : gb135 ≠ gb137)); have n6_ := Aside0.mk ((by rw [hg]; exact Nat.ne_of_gt (blk_lt (g := gb135) (o := .cells #[.slice (some ad136) l0_0.length c0_0] 26 (0, 0)) (by (with_reducible repeat (first | refine blk_drewN ?_ _ | refine blk_drew ?_ | refine blk_alloc ?_ _)); exact BK135.out)) : gb137 ≠ gb135)); clear BK135; clear HB; have BK135 := n0_; have HB := n1_; have BK137 := n2_; have GW137 := n3_; have GE137 := n4_; have NB135_137 := n5_; have NB137_135 := n6_; clear n0_ n1_ n2_ n3_ n4_ n5_ n6_; clear hb hbox hg; have hnb13 := NB137_135.out; have hnc13 := NB135_137.out; have hcz14_0 : w12.cell? ⟨gb137, 0, none⟩ = some (.int .i64 0) := (blk_cell BK137.out 0).trans rfl; have hcz14_1 : w12.cell? ⟨gb137, 1, none⟩ = some (.int .i64 0) := (blk_cell BK137.out 1).trans rfl; have hcz14_2 : w12.cell? ⟨gb137, 2, none⟩ = some (.slice none 0 0) := (blk_cell BK137.out 2).trans rfl; have hfz14_0 := blk_frozen BK137.out 0; have hfz14_1 := blk_frozen BK137.out 1; have hfz14_2 := blk_frozen BK137.out 2))
      go_roundg k1
      case measure => have := HK1.out; omega
      case rel => exact ⟨(wrap64 (x10_1 + 1)), qz6, H', ⟨by have := HK1.out; omega⟩, ⟨by (with_reducible repeat (first | refine blk_drewN ?_ _ | refine blk_drew ?_ | refine blk_alloc ?_ _)); refine blk_far ?_ NB135_137.out _; (with_reducible repeat (first | refine blk_drewN ?_ _ | refine blk_drew ?_ | refine blk_alloc ?_ _)); refine blk_far ?_ NB135_137.out _; (with_reducible repeat (first | refine blk_drewN ?_ _ | refine blk_drew ?_ | refine blk_alloc ?_ _)); refine blk_far ?_ NB135_137.out _; (with_reducible repeat (first | refine blk_drewN ?_ _ | refine blk_drew ?_ | refine blk_alloc ?_ _)); exact BK135.out⟩, ⟨by repeat (first | (with_reducible first | exact HB.out | apply below_alloc | apply pw_below_drewN | apply below_drew1 | refine below_set ?_ GE135.out | refine below_set ?_ GE137.out) | exact HB.out)⟩⟩
      }
      }
      {
      rw [if_neg c7] at H
      exact absurd H (by simp)
      }
      }
      {
      rw [if_neg c6] at H
      exact absurd H (by simp)
      }
      }
      {
      rw [if_neg c5] at H
      have c5b0 : decide (x10_1 < (l0_0.length : Int)) = false := decide_eq_false c5
      clear c5
      obtain rfl := Option.some.inj H
      simp only [Option.some.injEq, Prod.mk.injEq] at H
      obtain ⟨rfl⟩ := H
      go_wp2
      go_ret
      exact ⟨by first | rfl | (simp [errW_none, errW_some] <;> rfl) | (simp [*, errW_none, errW_some] <;> rfl), by repeat (first | (with_reducible first | exact HB.out | apply below_alloc | apply pw_below_drewN | apply below_drew1 | refine below_set ?_ GE135.out) | exact HB.out)⟩

      }
/-! ### impl_place: function 68 -/
def impl_place.j0 : Nat → Int → Bool → List (S79) → Option (Int × Int)
  | 0, _, _, _ => none
  | k + 1, x1, x23, x139000 => if x23 = true then (some ((-1), 1)) else ((impl_podAt.f k x139000 x1).bind fun t142 => (if t142 ≥ 0 then (some (t142, 0)) else (some ((-1), 2))))
def impl_place.f (k : Nat) (l0_0 : List (S79)) (a1 : Int) (a2 : Int) (a3 : Int) : Option (Int × Int) := (impl_StockOk.f k l0_0).bind fun t139 => (if t139 = true then ((impl_in.f a2 1 50).bind fun t140 => (if t140 = true then ((impl_in.f a3 1 1000).bind fun t141 => (impl_place.j0 k a1 (!t141) l0_0)) else (impl_place.j0 k a1 true l0_0))) else (impl_place.j0 k a1 true l0_0))
theorem impl_place.mono_l : ∀ k, (∀ y0 y1 y2, LeO (impl_place.j0 k y0 y1 y2) (impl_place.j0 (k + 1) y0 y1 y2))
  | 0 => fun _ _ _ r h => by simp [impl_place.j0] at h
  | k + 1 => by
    have ih0 := impl_place.mono_l k
    {
    intro y0 y1 y2
    unfold impl_place.j0
    repeat' first
    | (with_reducible exact ih0 _ _ _)
    | (with_reducible exact impl_StockOk.mono _ _)
    | (with_reducible exact impl_podAt.mono _ _ _)
    | (with_reducible exact LeO.refl _)
    | (with_reducible exact LeO.none _)
    | (with_reducible refine LeO.ite ?_ ?_)
    | (with_reducible refine LeO.bind ?_ (fun _ => ?_))
    | exact ih0 _ _ _
    | exact impl_StockOk.mono _ _
    | exact impl_podAt.mono _ _ _
    | exact LeO.none _
    | refine LeO.ite ?_ ?_
    | refine LeO.bind ?_ (fun _ => ?_)
    }
theorem impl_place.mono : ∀ a0 a1 a2 a3 k, LeO (impl_place.f k a0 a1 a2 a3) (impl_place.f (k + 1) a0 a1 a2 a3) := by
  intro a0 a1 a2 a3 k
  have ih0 := impl_place.mono_l k
  unfold impl_place.f
  repeat' first
      | (with_reducible exact ih0 _ _ _)
      | (with_reducible exact impl_StockOk.mono _ _)
      | (with_reducible exact impl_podAt.mono _ _ _)
      | (with_reducible exact LeO.refl _)
      | (with_reducible exact LeO.none _)
      | (with_reducible refine LeO.ite ?_ ?_)
      | (with_reducible refine LeO.bind ?_ (fun _ => ?_))
      | exact ih0 _ _ _
      | exact impl_StockOk.mono _ _
      | exact impl_podAt.mono _ _ _
      | exact LeO.none _
      | refine LeO.ite ?_ ?_
      | refine LeO.bind ?_ (fun _ => ?_)
set_option maxHeartbeats 8000000 in
set_option maxRecDepth 100000 in
theorem impl_place.calls (k : Nat) (A0_0 : Option Addr) (c0_0 : Nat) (l0_0 : List (S79)) (a1 : Int) (a2 : Int) (a3 : Int) (r1 : Int) (r2 : Int) (w : World) (hr0_0 : Kd.C k79 w A0_0 l0_0.length l0_0) (hc0_0 : l0_0.length ≤ c0_0) (h : impl_place.f k l0_0 a1 a2 a3 = some (r1, r2)) :
    Calls Try.prog 68 #[.agg #[.slice A0_0 l0_0.length c0_0], .int .i64 a1, .int .i64 a2, .int .i64 a3] w fun e w' => e = .returned (.tuple #[.int .i64 r1, .int .i64 r2]) ∧ Below w.heap.size w w' := by
  have hu26 := Try.underlying26
  have HR0_0 := Aside0.mk hr0_0
  have HC0_0 := Aside0.mk hc0_0
  clear hr0_0 hc0_0
  have HB := Aside0.mk (Below.refl w.heap.size w)
  have H : ((impl_StockOk.f k l0_0).bind fun t139 => (if t139 = true then ((impl_in.f a2 1 50).bind fun t140 => (if t140 = true then ((impl_in.f a3 1 1000).bind fun t141 => (impl_place.j0 k a1 (!t141) l0_0)) else (impl_place.j0 k a1 true l0_0))) else (impl_place.j0 k a1 true l0_0))) = some (r1, r2) := h
  clear h
  have HC5 := Aside0.mk H
  clear H
  go_enter Try.func68, Try.ntmps68
  go_upto_region 1 with (first | ((with_reducible refine gate_dst (N := 4) rfl ?_); refine box_event ?hg (N := 4) ?hd (cs := #[.slice A0_0 l0_0.length c0_0]) (t := 26) ?hr ?_; (case hd => rfl); (case hg => rfl); (case hr => first | (go_simp; done) | (go_simp; rfl)); intro gb138 hg w6 hbox hb; have n0_ := Aside0.mk (below_step qz1 hb); have n1_ := Aside0.mk (hbox); have n2_ := Aside0.mk ((by rw [hg]; exact (below_size qz1) : w.heap.size ≤ gb138)); have n3_ := Aside0.mk ((by rw [hg]; exact (below_size qz1) : w.heap.size ≤ gb138)); clear HB; have HB := n0_; have BK138 := n1_; have GW138 := n2_; have GE138 := n3_; clear n0_ n1_ n2_ n3_; clear hb hbox hg))
  (try simp only [Act.put, List.setIfInBounds_toArray, List.set_cons_zero, List.set_cons_succ])
  go_cut [23] (fun v23 wc => ∃ (kq : Nat) (x23_4 : Bool), v23 = .bool x23_4 ∧ Aside0 (impl_place.j0 kq a1 x23_4 l0_0 = some (r1, r2)) ∧ Aside0 (kq ≤ k) ∧ Aside0 (wc.heap[gb138]? = some (.cells #[(.slice A0_0 l0_0.length c0_0)] 26 (0, 0))) ∧ Aside0 (Below w.heap.size w wc))
  case first =>
    have H := HC5.out
    clear HC5
    replace H := Option.bind_eq_some_iff.mp H
    obtain ⟨t139, A70, H⟩ := H
    replace H : (if t139 = true then ((impl_in.f a2 1 50).bind fun t140 => (if t140 = true then ((impl_in.f a3 1 1000).bind fun t141 => (impl_place.j0 k a1 (!t141) l0_0)) else (impl_place.j0 k a1 true l0_0))) else (impl_place.j0 k a1 true l0_0)) = some (r1, r2) := H
    have A7 := Aside0.mk A70
    clear A70
    by_cases c8 : t139 = true
    {
    subst c8
    have H1 : ((impl_in.f a2 1 50).bind fun t140 => (if t140 = true then ((impl_in.f a3 1 1000).bind fun t141 => (impl_place.j0 k a1 (!t141) l0_0)) else (impl_place.j0 k a1 true l0_0))) = some (r1, r2) := by rw [if_pos rfl] at H; exact H
    clear H
    have H := H1
    clear H1
    replace H := Option.bind_eq_some_iff.mp H
    obtain ⟨t140, A90, H⟩ := H
    replace H : (if t140 = true then ((impl_in.f a3 1 1000).bind fun t141 => (impl_place.j0 k a1 (!t141) l0_0)) else (impl_place.j0 k a1 true l0_0)) = some (r1, r2) := H
    have A9 := Aside0.mk A90
    clear A90
    by_cases c10 : t140 = true
    {
    subst c10
    have H1 : ((impl_in.f a3 1 1000).bind fun t141 => (impl_place.j0 k a1 (!t141) l0_0)) = some (r1, r2) := by rw [if_pos rfl] at H; exact H
    clear H
    have H := H1
    clear H1
    replace H := Option.bind_eq_some_iff.mp H
    obtain ⟨t141, A110, H⟩ := H
    replace H : (impl_place.j0 k a1 (!t141) l0_0) = some (r1, r2) := H
    have A11 := Aside0.mk A110
    clear A110
    have H' := Aside0.mk H
    clear H
    have hcz12_0 : w6.cell? ⟨gb138, 0, none⟩ = some (.slice A0_0 l0_0.length c0_0) := (blk_cell BK138.out 0).trans rfl
    have hfz12_0 := blk_frozen BK138.out 0
    go_wp2_with (first | ((with_reducible refine gate_callee (f := 21) rfl ?_); refine goesL_ (some 12) rfl rfl Try.func21 (by kernel_rfl) rfl #[.agg #[.slice A0_0 l0_0.length c0_0]] rfl qz2 ?_; (with_reducible refine (impl_StockOk.calls k _ _ l0_0 true _ ?side1 ?side2 A7.out).mono ?_); (case side1 => repeat (first | exact (Kd.C_below HR0_0.out HB.out) | (with_reducible refine Kd.C_alloc ?_ _) | (with_reducible refine Kd.C_drewN ?_ _) | (with_reducible refine Kd.C_drew ?_))); (case side2 => exact HC0_0.out); rintro e w13 ⟨rfl, hb⟩; refine ⟨_, rfl, ?_⟩; have n0_ := Aside0.mk (blk_below (g := gb138) (o := .cells #[.slice A0_0 l0_0.length c0_0] 26 (0, 0)) (by (with_reducible repeat (first | refine blk_drewN ?_ _ | refine blk_drew ?_ | refine blk_alloc ?_ _)); exact BK138.out) hb); have n1_ := Aside0.mk (below_step (by repeat (first | (with_reducible first | exact HB.out | apply below_alloc | apply pw_below_drewN | apply below_drew1 | refine below_set ?_ GE138.out) | exact HB.out)) hb); clear BK138; clear HB; have BK138 := n0_; have HB := n1_; clear n0_ n1_; (try clear hb); (try clear hb2); (try clear hk); (try clear hi)) | (go_at_call 64; (with_reducible refine (impl_in.calls a2 1 50 true _ A9.out).mono ?_); rintro e w' ⟨rfl, ⟨nd, rfl⟩⟩) | (go_at_call 64; (with_reducible refine (impl_in.calls a3 1 1000 t141 _ A11.out).mono ?_); rintro e w' ⟨rfl, ⟨nd, rfl⟩⟩))
    go_meet
    case rel => exact ⟨_, (!t141), qz6, H', ⟨by first | omega | exact Nat.le_refl _⟩, ⟨by (with_reducible repeat (first | refine blk_drewN ?_ _ | refine blk_drew ?_ | refine blk_alloc ?_ _)); exact BK138.out⟩, ⟨by repeat (first | (with_reducible first | exact HB.out | apply below_alloc | apply pw_below_drewN | apply below_drew1 | refine below_set ?_ GE138.out) | exact HB.out)⟩⟩
    }
    {
    replace c10 := Bool.eq_false_iff.mpr c10
    subst c10
    have H1 : (impl_place.j0 k a1 true l0_0) = some (r1, r2) := by rw [if_neg (show ¬ (false = true) by decide)] at H; exact H
    clear H
    have H := H1
    clear H1
    have H' := Aside0.mk H
    clear H
    have hcz14_0 : w6.cell? ⟨gb138, 0, none⟩ = some (.slice A0_0 l0_0.length c0_0) := (blk_cell BK138.out 0).trans rfl
    have hfz14_0 := blk_frozen BK138.out 0
    go_wp2_with (first | ((with_reducible refine gate_callee (f := 21) rfl ?_); refine goesL_ (some 12) rfl rfl Try.func21 (by kernel_rfl) rfl #[.agg #[.slice A0_0 l0_0.length c0_0]] rfl qz2 ?_; (with_reducible refine (impl_StockOk.calls k _ _ l0_0 true _ ?side1 ?side2 A7.out).mono ?_); (case side1 => repeat (first | exact (Kd.C_below HR0_0.out HB.out) | (with_reducible refine Kd.C_alloc ?_ _) | (with_reducible refine Kd.C_drewN ?_ _) | (with_reducible refine Kd.C_drew ?_))); (case side2 => exact HC0_0.out); rintro e w15 ⟨rfl, hb⟩; refine ⟨_, rfl, ?_⟩; have n0_ := Aside0.mk (blk_below (g := gb138) (o := .cells #[.slice A0_0 l0_0.length c0_0] 26 (0, 0)) (by (with_reducible repeat (first | refine blk_drewN ?_ _ | refine blk_drew ?_ | refine blk_alloc ?_ _)); exact BK138.out) hb); have n1_ := Aside0.mk (below_step (by repeat (first | (with_reducible first | exact HB.out | apply below_alloc | apply pw_below_drewN | apply below_drew1 | refine below_set ?_ GE138.out) | exact HB.out)) hb); clear BK138; clear HB; have BK138 := n0_; have HB := n1_; clear n0_ n1_; (try clear hb); (try clear hb2); (try clear hk); (try clear hi)) | (go_at_call 64; (with_reducible refine (impl_in.calls a2 1 50 false _ A9.out).mono ?_); rintro e w' ⟨rfl, ⟨nd, rfl⟩⟩))
    go_meet
    case rel => exact ⟨_, (true), qz6, H', ⟨by first | omega | exact Nat.le_refl _⟩, ⟨by (with_reducible repeat (first | refine blk_drewN ?_ _ | refine blk_drew ?_ | refine blk_alloc ?_ _)); exact BK138.out⟩, ⟨by repeat (first | (with_reducible first | exact HB.out | apply below_alloc | apply pw_below_drewN | apply below_drew1 | refine below_set ?_ GE138.out) | exact HB.out)⟩⟩
    }
    }
    {
    replace c8 := Bool.eq_false_iff.mpr c8
    subst c8
    have H1 : (impl_place.j0 k a1 true l0_0) = some (r1, r2) := by rw [if_neg (show ¬ (false = true) by decide)] at H; exact H
    clear H
    have H := H1
    clear H1
    have H' := Aside0.mk H
    clear H
    have hcz16_0 : w6.cell? ⟨gb138, 0, none⟩ = some (.slice A0_0 l0_0.length c0_0) := (blk_cell BK138.out 0).trans rfl
    have hfz16_0 := blk_frozen BK138.out 0
    go_wp2_with (first | ((with_reducible refine gate_callee (f := 21) rfl ?_); refine goesL_ (some 12) rfl rfl Try.func21 (by kernel_rfl) rfl #[.agg #[.slice A0_0 l0_0.length c0_0]] rfl qz2 ?_; (with_reducible refine (impl_StockOk.calls k _ _ l0_0 false _ ?side1 ?side2 A7.out).mono ?_); (case side1 => repeat (first | exact (Kd.C_below HR0_0.out HB.out) | (with_reducible refine Kd.C_alloc ?_ _) | (with_reducible refine Kd.C_drewN ?_ _) | (with_reducible refine Kd.C_drew ?_))); (case side2 => exact HC0_0.out); rintro e w17 ⟨rfl, hb⟩; refine ⟨_, rfl, ?_⟩; have n0_ := Aside0.mk (blk_below (g := gb138) (o := .cells #[.slice A0_0 l0_0.length c0_0] 26 (0, 0)) (by (with_reducible repeat (first | refine blk_drewN ?_ _ | refine blk_drew ?_ | refine blk_alloc ?_ _)); exact BK138.out) hb); have n1_ := Aside0.mk (below_step (by repeat (first | (with_reducible first | exact HB.out | apply below_alloc | apply pw_below_drewN | apply below_drew1 | refine below_set ?_ GE138.out) | exact HB.out)) hb); clear BK138; clear HB; have BK138 := n0_; have HB := n1_; clear n0_ n1_; (try clear hb); (try clear hb2); (try clear hk); (try clear hi)))
    go_meet
    case rel => exact ⟨_, (true), qz6, H', ⟨by first | omega | exact Nat.le_refl _⟩, ⟨by (with_reducible repeat (first | refine blk_drewN ?_ _ | refine blk_drew ?_ | refine blk_alloc ?_ _)); exact BK138.out⟩, ⟨by repeat (first | (with_reducible first | exact HB.out | apply below_alloc | apply pw_below_drewN | apply below_drew1 | refine below_set ?_ GE138.out) | exact HB.out)⟩⟩
    }
  case rest =>
    clear HC5
    try clear c1
    try clear c2
    try clear p2
    try clear c6
    try clear c8
    try clear c10
    try clear hcz12_0
    try clear hcz14_0
    try clear hcz16_0
    try clear hfz12_0
    try clear hfz14_0
    try clear hfz16_0
    obtain ⟨kq, x23_4, rfl, HA, HJ4, BK138, HB⟩ := hcut
    cases kq with
    | zero => exact absurd HA.out (by simp [impl_place.j0])
    | succ kj4 =>
      have H := HA.out
      clear HA
      simp only [impl_place.j0] at H
      by_cases c18 : x23_4 = true
      {
      subst c18
      have H1 : (some ((-1), 1)) = some (r1, r2) := by rw [if_pos rfl] at H; exact H
      clear H
      have H := H1
      clear H1
      simp only [Option.some.injEq, Prod.mk.injEq] at H
      obtain ⟨rfl, rfl⟩ := H
      go_wp2
      go_ret2
      exact ⟨by first | rfl | (simp [errW_none, errW_some] <;> rfl) | (simp [*, errW_none, errW_some] <;> rfl), by repeat (first | (with_reducible first | exact HB.out | apply below_alloc | apply pw_below_drewN | apply below_drew1 | refine below_set ?_ GE138.out) | exact HB.out)⟩
      }
      {
      replace c18 := Bool.eq_false_iff.mpr c18
      subst c18
      have H1 : ((impl_podAt.f kj4 l0_0 a1).bind fun t142 => (if t142 ≥ 0 then (some (t142, 0)) else (some ((-1), 2)))) = some (r1, r2) := by rw [if_neg (show ¬ (false = true) by decide)] at H; exact H
      clear H
      have H := H1
      clear H1
      replace H := Option.bind_eq_some_iff.mp H
      obtain ⟨t142, A190, H⟩ := H
      replace H : (if t142 ≥ 0 then (some (t142, 0)) else (some ((-1), 2))) = some (r1, r2) := H
      have A19 := Aside0.mk A190
      clear A190
      by_cases c20 : t142 ≥ 0
      {
      rw [if_pos c20] at H
      have c20b0 : decide (0 ≤ t142) = true := decide_eq_true c20
      clear c20
      simp only [Option.some.injEq, Prod.mk.injEq] at H
      obtain ⟨rfl, rfl⟩ := H
      have hcz21_0 : wc.cell? ⟨gb138, 0, none⟩ = some (.slice A0_0 l0_0.length c0_0) := (blk_cell BK138.out 0).trans rfl
      have hfz21_0 := blk_frozen BK138.out 0
      go_wp2_with (first | ((with_reducible refine gate_callee (f := 69) rfl ?_); refine goesL_ (some 26) rfl rfl Try.func69 (by kernel_rfl) rfl #[.agg #[.slice A0_0 l0_0.length c0_0], .int .i64 a1] rfl qz2 ?_; (with_reducible refine (impl_podAt.calls kj4 _ _ l0_0 a1 t142 _ ?side1 ?side2 A19.out).mono ?_); (case side1 => repeat (first | exact (Kd.C_below HR0_0.out HB.out) | (with_reducible refine Kd.C_alloc ?_ _) | (with_reducible refine Kd.C_drewN ?_ _) | (with_reducible refine Kd.C_drew ?_))); (case side2 => exact HC0_0.out); rintro e w22 ⟨rfl, hb⟩; refine ⟨_, rfl, ?_⟩; have n0_ := Aside0.mk (blk_below (g := gb138) (o := .cells #[.slice A0_0 l0_0.length c0_0] 26 (0, 0)) (by (with_reducible repeat (first | refine blk_drewN ?_ _ | refine blk_drew ?_ | refine blk_alloc ?_ _)); exact BK138.out) hb); have n1_ := Aside0.mk (below_step (by repeat (first | (with_reducible first | exact HB.out | apply below_alloc | apply pw_below_drewN | apply below_drew1 | refine below_set ?_ GE138.out) | exact HB.out)) hb); clear BK138; clear HB; have BK138 := n0_; have HB := n1_; clear n0_ n1_; (try clear hb); (try clear hb2); (try clear hk); (try clear hi)))
      go_ret2
      exact ⟨by first | rfl | (simp [errW_none, errW_some] <;> rfl) | (simp [*, errW_none, errW_some] <;> rfl), by repeat (first | (with_reducible first | exact HB.out | apply below_alloc | apply pw_below_drewN | apply below_drew1 | refine below_set ?_ GE138.out) | exact HB.out)⟩
      }
      {
      rw [if_neg c20] at H
      have c20b0 : decide (0 ≤ t142) = false := decide_eq_false c20
      clear c20
      simp only [Option.some.injEq, Prod.mk.injEq] at H
      obtain ⟨rfl, rfl⟩ := H
      have hcz23_0 : wc.cell? ⟨gb138, 0, none⟩ = some (.slice A0_0 l0_0.length c0_0) := (blk_cell BK138.out 0).trans rfl
      have hfz23_0 := blk_frozen BK138.out 0
      go_wp2_with (first | ((with_reducible refine gate_callee (f := 69) rfl ?_); refine goesL_ (some 26) rfl rfl Try.func69 (by kernel_rfl) rfl #[.agg #[.slice A0_0 l0_0.length c0_0], .int .i64 a1] rfl qz2 ?_; (with_reducible refine (impl_podAt.calls kj4 _ _ l0_0 a1 t142 _ ?side1 ?side2 A19.out).mono ?_); (case side1 => repeat (first | exact (Kd.C_below HR0_0.out HB.out) | (with_reducible refine Kd.C_alloc ?_ _) | (with_reducible refine Kd.C_drewN ?_ _) | (with_reducible refine Kd.C_drew ?_))); (case side2 => exact HC0_0.out); rintro e w24 ⟨rfl, hb⟩; refine ⟨_, rfl, ?_⟩; have n0_ := Aside0.mk (blk_below (g := gb138) (o := .cells #[.slice A0_0 l0_0.length c0_0] 26 (0, 0)) (by (with_reducible repeat (first | refine blk_drewN ?_ _ | refine blk_drew ?_ | refine blk_alloc ?_ _)); exact BK138.out) hb); have n1_ := Aside0.mk (below_step (by repeat (first | (with_reducible first | exact HB.out | apply below_alloc | apply pw_below_drewN | apply below_drew1 | refine below_set ?_ GE138.out) | exact HB.out)) hb); clear BK138; clear HB; have BK138 := n0_; have HB := n1_; clear n0_ n1_; (try clear hb); (try clear hb2); (try clear hk); (try clear hi)))
      go_ret2
      exact ⟨by first | rfl | (simp [errW_none, errW_some] <;> rfl) | (simp [*, errW_none, errW_some] <;> rfl), by repeat (first | (with_reducible first | exact HB.out | apply below_alloc | apply pw_below_drewN | apply below_drew1 | refine below_set ?_ GE138.out) | exact HB.out)⟩

      }
      }
/-! ### impl_PutIn: function 25 -/
def impl_PutIn.f (k : Nat) (l : List S79) (a1 a2 a3 : Int) : Option (List S79 × Int) :=
  (impl_copyStock.f k l).bind fun o => (impl_place.f k l a1 a2 a3).bind fun q =>
    if q.2 = 0 then (if 0 ≤ q.1 then (if q.1 < (o.length : Int) then
      (impl_stackAt.f k (rd_T79 o q.1).f0 (rd_T79 o q.1).f1 (rd_T79 o q.1).f2 a2).bind fun s =>
        if s.2 = true then (if 0 ≤ s.1 then (if s.1 < ((rd_T79 o q.1).f2.length : Int) then
            if wrap64 ((rd_T72 (rd_T79 o q.1).f2 s.1).f1 + a3) > 1000 then some (o, 4) else some (o.set q.1.toNat ⟨(rd_T79 o q.1).f0, (rd_T79 o q.1).f1, (rd_T79 o q.1).f2.set s.1.toNat ⟨(rd_T72 (rd_T79 o q.1).f2 s.1).f0, wrap64 ((rd_T72 (rd_T79 o q.1).f2 s.1).f1 + a3), (rd_T72 (rd_T79 o q.1).f2 s.1).f2⟩⟩, 0)
          else none) else none) else (if ((rd_T79 o q.1).f2.length : Int) ≥ 8 then some (o, 4) else (if 0 ≤ s.1 then (if s.1 ≤ ((rd_T79 o q.1).f2.length : Int) then
            some (o.set q.1.toNat ⟨(rd_T79 o q.1).f0, (rd_T79 o q.1).f1, (([] ++ (rd_T79 o q.1).f2.take s.1.toNat) ++ [⟨a2, a3, 0⟩]) ++ (rd_T79 o q.1).f2.drop s.1.toNat⟩, 0) else none) else none))
      else none) else none) else some (o, q.2)
theorem impl_PutIn.mono : ∀ l a1 a2 a3 k, LeO (impl_PutIn.f k l a1 a2 a3) (impl_PutIn.f (k + 1) l a1 a2 a3) := by
  intro l a1 a2 a3 k
  unfold impl_PutIn.f
  repeat' first
      | (with_reducible exact impl_copyStock.mono _ _)
      | (with_reducible exact impl_place.mono _ _ _ _ _)
      | (with_reducible exact impl_stackAt.mono _ _ _ _ _)
      | (with_reducible exact LeO.refl _)
      | (with_reducible exact LeO.none _)
      | (with_reducible refine LeO.ite ?_ ?_)
      | (with_reducible refine LeO.bind ?_ (fun _ => ?_))
def impl_PutIn.T7 : Bool × List (List Nat × List Nat) := (true, [([], []), ([], []), ([1], [1]), ([2], [2]), ([3], [3]), ([], []), ([4, 5], [4, 5]), ([6], [6]), ([], []), ([], []), ([8, 9], [8, 9]), ([10], [10]), ([7, 11, 7], [7, 11]), ([], []), ([13], [13]), ([14], [14]), ([15], [15]), ([], []), ([16, 17], [16, 17]), ([12, 18, 12], [12, 18]), ([0, 0, 1, 2, 3, 4, 5, 6, 7, 8, 9, 10, 11, 12, 13, 14, 15, 16, 17, 18, 19], [0]), ([20, 0, 1, 2, 3, 4, 5, 6, 7, 8, 9, 10, 11, 12, 13, 14, 15, 16, 17, 18, 19], [20]), ([21, 19, 19, 0, 1, 2, 3, 4, 5, 6, 7, 8, 9, 10, 11, 12, 13, 14, 15, 16, 17, 18, 19], [19, 21])])
def impl_PutIn.B7 : List Nat := [0, 0, 2, 6, 14, 0, 62, 126, 0, 0, 768, 1792, 4094, 0, 8192, 24576, 57344, 0, 253952, 524286, 1048575, 2097151, 4194303]
theorem impl_PutIn.tab7 : rtab .any (opsOf Try.f25 7) = impl_PutIn.T7 := by kernel_rfl
theorem impl_PutIn.bits7 : waitsOk impl_PutIn.T7.2 impl_PutIn.B7 = true := by kernel_rfl
set_option maxHeartbeats 8000000 in
set_option maxRecDepth 100000 in
theorem impl_PutIn.calls (k : Nat) (A0 : Option Addr) (c0 : Nat) (l : List S79) (a1 a2 a3 : Int) (r1 : List S79) (r2 : Int) (w : World) (hr0 : Kd.C k79 w A0 l.length l) (hc0 : l.length ≤ c0) (h : impl_PutIn.f k l a1 a2 a3 = some (r1, r2)) :
    Calls Try.prog 25 #[.agg #[.slice A0 l.length c0], .int .i64 a1, .int .i64 a2, .int .i64 a3] w fun e w' => ∃ v0_ : Value, e = .returned (.tuple #[.agg #[v0_], .int .i64 r2]) ∧ Kd.S k79 79 w' w.heap.size (fun _ => True) v0_ r1 ∧ Below w.heap.size w w' := by
  have hu26 := Try.underlying26
  have hu79 := Try.underlying79
  have hu72 := Try.underlying72
  have hu24 := Try.underlying24
  have hu77 := Try.underlying77
  unfold impl_PutIn.f at h
  obtain ⟨o, ho, h⟩ := Option.bind_eq_some_iff.mp h
  obtain ⟨⟨i, code⟩, hp, h⟩ := Option.bind_eq_some_iff.mp h
  have Ho := Aside0.mk ho
  have Hp := Aside0.mk hp
  have HR := Aside0.mk hr0
  have HC := Aside0.mk hc0
  clear ho hp hr0 hc0
  dsimp only at h
  by_cases c1 : code = 0
  {
  subst c1
  rw [if_pos rfl] at h
  by_cases ci0 : 0 ≤ i
  {
  rw [if_pos ci0] at h
  by_cases ci1 : i < (o.length : Int)
  {
  rw [if_pos ci1] at h
  obtain ⟨⟨j, ok⟩, hs, h⟩ := Option.bind_eq_some_iff.mp h
  have Hs := Aside0.mk hs
  clear hs
  dsimp only at h
  cases ok with
  | true =>
    rw [if_pos rfl] at h
    by_cases cj0 : 0 ≤ j
    {
    rw [if_pos cj0] at h
    by_cases cj1 : j < ((rd_T79 o i).f2.length : Int)
    {
    rw [if_pos cj1] at h
    by_cases c3 : wrap64 ((rd_T72 (rd_T79 o i).f2 j).f1 + a3) > 1000
    {
    rw [if_pos c3] at h
    obtain ⟨rfl, rfl⟩ : o = r1 ∧ 4 = r2 := by simpa using h
    clear h
    have c3b := decide_eq_true c3
    go_enter Try.func25, Try.ntmps25
    go_wp2_with (first
      | (go_at_call 65; refine (impl_copyStock.calls k A0 c0 l o _ (Kd.C_alloc (Kd.C_alloc HR.out _) _) HC.out Ho.out).mono ?_; rintro e w1 ⟨v0, rfl, hS, hb⟩; obtain ⟨Ao, co, rfl⟩ := Kd.S_slice hS; have B5 := Aside0.mk (blk_below (blk_alloc (blk_new w (.cells #[.slice A0 l.length c0] 26)) (.cells #[.slice none 0 0] 26)) hb); have B10 := Aside0.mk (blk_below (blk_new1 w (.cells #[.slice A0 l.length c0] 26) (.cells #[.slice none 0 0] 26)) hb); have HB1 := Aside0.mk (below_step (below_alloc (below_alloc (Below.refl w.heap.size w) _) _) hb); have HS := Aside0.mk (show Kd.S k79 79 w1 (w.heap.size + 2) (fun _ => True) (.slice Ao o.length co) o by rw [show w.heap.size + 2 = ((w.alloc (.cells #[.slice A0 l.length c0] 26)).alloc (.cells #[.slice none 0 0] 26)).heap.size by simp]; exact hS); have HGW := Aside0.mk (Kd.S_lt hS); have C5 : w1.cell? ⟨w.heap.size, 0, none⟩ = some (.slice A0 l.length c0) := (blk_cell B5.out 0).trans rfl; have C10 : w1.cell? ⟨w.heap.size + 1, 0, none⟩ = some (.slice none 0 0) := (blk_cell B10.out 0).trans rfl; have F10 := blk_frozen B10.out 0; have L5 := blk_lt B5.out; have L10 := blk_lt B10.out; clear hb hS)
      | (go_at_call 68; refine (impl_place.calls k A0 c0 l a1 a2 a3 i 0 _ (Kd.C_below HR.out (below_alloc HB1.out _)) HC.out Hp.out).mono ?_; rintro e w2 ⟨rfl, hb⟩; have B12 := Aside0.mk (blk_below (blk_new w1 (.cells #[.slice Ao o.length co] 26)) hb); replace B10 := Aside0.mk (blk_below (blk_alloc B10.out _) hb); have HB2 := Aside0.mk (below_step (below_alloc HB1.out _) hb); replace HS := Aside0.mk (Kd.S_below (Kd.S_alloc HS.out _) hb); have N10 := Nat.ne_of_lt L10; clear C5 C10 F10 HB1 B5; have C12 : w2.cell? ⟨w1.heap.size, 0, none⟩ = some (.slice Ao o.length co) := (blk_cell B12.out 0).trans rfl; have F12 := blk_frozen B12.out 0; have C10 : w2.cell? ⟨w.heap.size + 1, 0, none⟩ = some (.slice none 0 0) := (blk_cell B10.out 0).trans rfl; have F10 := blk_frozen B10.out 0; have L10 := blk_lt B10.out; have L12 := blk_lt B12.out; clear hb; have HS' := HS.out; obtain ⟨g, oki, A2, c2, e, hgb, hgl, x0, x1, x2, f0, f1, f2, hR2, hoki, hn, hH⟩ := S79_at HS' i ci0 ci1; cases e; have HR2 := Aside0.mk (Kd.R_reads' hR2); have HRs := Aside0.mk hR2; have HGB := Aside0.mk hgb; clear hR2 hoki hH hgb HS')
      | (go_at_call 67; refine (impl_stackAt.calls k (rd_T79 o i).f0 (rd_T79 o i).f1 A2 c2 (rd_T79 o i).f2 a2 j true _ HR2.out.2.2 HR2.out.2.1 Hs.out).mono ?_; rintro e w3 ⟨rfl, hb⟩; replace B12 := Aside0.mk (blk_below B12.out hb); replace B10 := Aside0.mk (blk_below B10.out hb); have HB3 := Aside0.mk (below_step HB2.out hb); replace HS := Aside0.mk (Kd.S_below HS.out hb); replace HRs := Aside0.mk (Kd.R_below HRs.out hb); replace x0 := pw_cell_below hb x0; replace x1 := pw_cell_below hb x1; replace x2 := pw_cell_below hb x2; have HGL := Aside0.mk (Nat.lt_of_lt_of_le hgl (below_size hb)); clear C12 F12 C10 F10 f0 f1 f2; have C12 : w3.cell? ⟨w1.heap.size, 0, none⟩ = some (.slice (some ⟨g, 0, none⟩) o.length co) := (blk_cell B12.out 0).trans rfl; have C10 : w3.cell? ⟨w.heap.size + 1, 0, none⟩ = some (.slice none 0 0) := (blk_cell B10.out 0).trans rfl; have F10 := blk_frozen B10.out 0; replace L10 := blk_lt B10.out; replace L12 := blk_lt B12.out; clear hb HB2; have HRs' := HRs.out; obtain ⟨g2, e, hgb2, hgl2, hok2, hn2, y0, y1, y2, z0, z1, z2, hput1, hput2⟩ := R72_at HRs' j cj0 cj1; cases e; clear hput1 hput2 HRs'; have HG2 := Aside0.mk hgb2; clear hok2 hgb2))
    refine bodyPost_ret (results_ct rfl _ _ (w.heap.size + 1) 26 #[.slice (some ⟨g, 0, none⟩) o.length co] (0, 0) _ rfl (blk_put (cs := #[.slice none 0 0]) B10.out 0 _ rfl) Try.underlying26 rfl (by kernel_rfl)) rfl ?_
    exact ⟨_, rfl, Kd.S_lower (S_box HS.out (by omega) _) (by omega), below_set HB3.out (by omega)⟩
    }
    {
    rw [if_neg c3] at h
    have H := Aside0.mk h
    clear h
    have c3b := decide_eq_false c3
    go_enter Try.func25, Try.ntmps25
    go_wp2_with (first
      | (go_at_call 65; refine (impl_copyStock.calls k A0 c0 l o _ (Kd.C_alloc (Kd.C_alloc HR.out _) _) HC.out Ho.out).mono ?_; rintro e w1 ⟨v0, rfl, hS, hb⟩; obtain ⟨Ao, co, rfl⟩ := Kd.S_slice hS; have B5 := Aside0.mk (blk_below (blk_alloc (blk_new w (.cells #[.slice A0 l.length c0] 26)) (.cells #[.slice none 0 0] 26)) hb); have B10 := Aside0.mk (blk_below (blk_new1 w (.cells #[.slice A0 l.length c0] 26) (.cells #[.slice none 0 0] 26)) hb); have HB1 := Aside0.mk (below_step (below_alloc (below_alloc (Below.refl w.heap.size w) _) _) hb); have HS := Aside0.mk (show Kd.S k79 79 w1 (w.heap.size + 2) (fun _ => True) (.slice Ao o.length co) o by rw [show w.heap.size + 2 = ((w.alloc (.cells #[.slice A0 l.length c0] 26)).alloc (.cells #[.slice none 0 0] 26)).heap.size by simp]; exact hS); have HGW := Aside0.mk (Kd.S_lt hS); have C5 : w1.cell? ⟨w.heap.size, 0, none⟩ = some (.slice A0 l.length c0) := (blk_cell B5.out 0).trans rfl; have C10 : w1.cell? ⟨w.heap.size + 1, 0, none⟩ = some (.slice none 0 0) := (blk_cell B10.out 0).trans rfl; have F10 := blk_frozen B10.out 0; have L5 := blk_lt B5.out; have L10 := blk_lt B10.out; clear hb hS)
      | (go_at_call 68; refine (impl_place.calls k A0 c0 l a1 a2 a3 i 0 _ (Kd.C_below HR.out (below_alloc HB1.out _)) HC.out Hp.out).mono ?_; rintro e w2 ⟨rfl, hb⟩; have B12 := Aside0.mk (blk_below (blk_new w1 (.cells #[.slice Ao o.length co] 26)) hb); replace B10 := Aside0.mk (blk_below (blk_alloc B10.out _) hb); have HB2 := Aside0.mk (below_step (below_alloc HB1.out _) hb); replace HS := Aside0.mk (Kd.S_below (Kd.S_alloc HS.out _) hb); have N10 := Nat.ne_of_lt L10; clear C5 C10 F10 HB1 B5; have C12 : w2.cell? ⟨w1.heap.size, 0, none⟩ = some (.slice Ao o.length co) := (blk_cell B12.out 0).trans rfl; have F12 := blk_frozen B12.out 0; have C10 : w2.cell? ⟨w.heap.size + 1, 0, none⟩ = some (.slice none 0 0) := (blk_cell B10.out 0).trans rfl; have F10 := blk_frozen B10.out 0; have L10 := blk_lt B10.out; have L12 := blk_lt B12.out; clear hb; have HS' := HS.out; obtain ⟨g, oki, A2, c2, e, hgb, hgl, x0, x1, x2, f0, f1, f2, hR2, hoki, hn, hH⟩ := S79_at HS' i ci0 ci1; cases e; have HR2 := Aside0.mk (Kd.R_reads' hR2); have HRs := Aside0.mk hR2; have HGB := Aside0.mk hgb; clear hR2 hoki hH hgb HS')
      | (go_at_call 67; refine (impl_stackAt.calls k (rd_T79 o i).f0 (rd_T79 o i).f1 A2 c2 (rd_T79 o i).f2 a2 j true _ HR2.out.2.2 HR2.out.2.1 Hs.out).mono ?_; rintro e w3 ⟨rfl, hb⟩; replace B12 := Aside0.mk (blk_below B12.out hb); replace B10 := Aside0.mk (blk_below B10.out hb); have HB3 := Aside0.mk (below_step HB2.out hb); replace HS := Aside0.mk (Kd.S_below HS.out hb); replace HRs := Aside0.mk (Kd.R_below HRs.out hb); replace x0 := pw_cell_below hb x0; replace x1 := pw_cell_below hb x1; replace x2 := pw_cell_below hb x2; have HGL := Aside0.mk (Nat.lt_of_lt_of_le hgl (below_size hb)); clear C12 F12 C10 F10 f0 f1 f2; have C12 : w3.cell? ⟨w1.heap.size, 0, none⟩ = some (.slice (some ⟨g, 0, none⟩) o.length co) := (blk_cell B12.out 0).trans rfl; have C10 : w3.cell? ⟨w.heap.size + 1, 0, none⟩ = some (.slice none 0 0) := (blk_cell B10.out 0).trans rfl; have F10 := blk_frozen B10.out 0; replace L10 := blk_lt B10.out; replace L12 := blk_lt B12.out; clear hb HB2; have HRs' := HRs.out; obtain ⟨g2, e, hgb2, hgl2, hok2, hn2, y0, y1, y2, z0, z1, z2, hput1, hput2⟩ := R72_at HRs' j cj0 cj1; cases e; clear hput1 hput2 HRs'; have HG2 := Aside0.mk hgb2; clear hok2 hgb2))
    have hP := (S79_put HS.out i j ci0 ci1 cj0 cj1 (c2 := c2) (g2 := g2) x2 (wrap64 ((rd_T72 (rd_T79 o i).f2 j).f1 + a3)))
    have hG := HG2.out
    obtain ⟨rfl, rfl⟩ : _ = r1 ∧ _ = r2 := by simpa using H.out
    refine bodyPost_ret (results_ct rfl _ _ (w.heap.size + 1) 26 #[.slice (some ⟨g, 0, none⟩) o.length co] (0, 0) _ rfl (blk_put (cs := #[.slice none 0 0]) (blk_far B10.out (by show w.heap.size + 1 ≠ g2; omega) _) 0 _ rfl) Try.underlying26 rfl (by kernel_rfl)) rfl ?_
    exact ⟨_, rfl, Kd.S_lower (S_box hP.1.1 (by omega) _) (by omega), below_set (below_set HB3.out (by omega)) (by omega)⟩
    }
    }
    {
    rw [if_neg cj1] at h; cases h
    }
    }
    {
    rw [if_neg cj0] at h; cases h
    }
  | false =>
    rw [if_neg (by decide)] at h
    by_cases c3 : ((rd_T79 o i).f2.length : Int) ≥ 8
    {
    rw [if_pos c3] at h
    obtain ⟨rfl, rfl⟩ : o = r1 ∧ 4 = r2 := by simpa using h
    clear h
    have c3b := decide_eq_true c3
    go_enter Try.func25, Try.ntmps25
    go_wp2_with (first
      | (go_at_call 65; refine (impl_copyStock.calls k A0 c0 l o _ (Kd.C_alloc (Kd.C_alloc HR.out _) _) HC.out Ho.out).mono ?_; rintro e w1 ⟨v0, rfl, hS, hb⟩; obtain ⟨Ao, co, rfl⟩ := Kd.S_slice hS; have B5 := Aside0.mk (blk_below (blk_alloc (blk_new w (.cells #[.slice A0 l.length c0] 26)) (.cells #[.slice none 0 0] 26)) hb); have B10 := Aside0.mk (blk_below (blk_new1 w (.cells #[.slice A0 l.length c0] 26) (.cells #[.slice none 0 0] 26)) hb); have HB1 := Aside0.mk (below_step (below_alloc (below_alloc (Below.refl w.heap.size w) _) _) hb); have HS := Aside0.mk (show Kd.S k79 79 w1 (w.heap.size + 2) (fun _ => True) (.slice Ao o.length co) o by rw [show w.heap.size + 2 = ((w.alloc (.cells #[.slice A0 l.length c0] 26)).alloc (.cells #[.slice none 0 0] 26)).heap.size by simp]; exact hS); have HGW := Aside0.mk (Kd.S_lt hS); have C5 : w1.cell? ⟨w.heap.size, 0, none⟩ = some (.slice A0 l.length c0) := (blk_cell B5.out 0).trans rfl; have C10 : w1.cell? ⟨w.heap.size + 1, 0, none⟩ = some (.slice none 0 0) := (blk_cell B10.out 0).trans rfl; have F10 := blk_frozen B10.out 0; have L5 := blk_lt B5.out; have L10 := blk_lt B10.out; clear hb hS)
      | (go_at_call 68; refine (impl_place.calls k A0 c0 l a1 a2 a3 i 0 _ (Kd.C_below HR.out (below_alloc HB1.out _)) HC.out Hp.out).mono ?_; rintro e w2 ⟨rfl, hb⟩; have B12 := Aside0.mk (blk_below (blk_new w1 (.cells #[.slice Ao o.length co] 26)) hb); replace B10 := Aside0.mk (blk_below (blk_alloc B10.out _) hb); have HB2 := Aside0.mk (below_step (below_alloc HB1.out _) hb); replace HS := Aside0.mk (Kd.S_below (Kd.S_alloc HS.out _) hb); have N10 := Nat.ne_of_lt L10; clear C5 C10 F10 HB1 B5; have C12 : w2.cell? ⟨w1.heap.size, 0, none⟩ = some (.slice Ao o.length co) := (blk_cell B12.out 0).trans rfl; have F12 := blk_frozen B12.out 0; have C10 : w2.cell? ⟨w.heap.size + 1, 0, none⟩ = some (.slice none 0 0) := (blk_cell B10.out 0).trans rfl; have F10 := blk_frozen B10.out 0; have L10 := blk_lt B10.out; have L12 := blk_lt B12.out; clear hb; have HS' := HS.out; obtain ⟨g, oki, A2, c2, e, hgb, hgl, x0, x1, x2, f0, f1, f2, hR2, hoki, hn, hH⟩ := S79_at HS' i ci0 ci1; cases e; have HR2 := Aside0.mk (Kd.R_reads' hR2); have HRs := Aside0.mk hR2; have HGB := Aside0.mk hgb; clear hR2 hoki hH hgb HS')
      | (go_at_call 67; refine (impl_stackAt.calls k (rd_T79 o i).f0 (rd_T79 o i).f1 A2 c2 (rd_T79 o i).f2 a2 j false _ HR2.out.2.2 HR2.out.2.1 Hs.out).mono ?_; rintro e w3 ⟨rfl, hb⟩; replace B12 := Aside0.mk (blk_below B12.out hb); replace B10 := Aside0.mk (blk_below B10.out hb); have HB3 := Aside0.mk (below_step HB2.out hb); replace HS := Aside0.mk (Kd.S_below HS.out hb); replace HRs := Aside0.mk (Kd.R_below HRs.out hb); replace x0 := pw_cell_below hb x0; replace x1 := pw_cell_below hb x1; replace x2 := pw_cell_below hb x2; have HGL := Aside0.mk (Nat.lt_of_lt_of_le hgl (below_size hb)); clear C12 F12 C10 F10 f0 f1 f2; have C12 : w3.cell? ⟨w1.heap.size, 0, none⟩ = some (.slice (some ⟨g, 0, none⟩) o.length co) := (blk_cell B12.out 0).trans rfl; have C10 : w3.cell? ⟨w.heap.size + 1, 0, none⟩ = some (.slice none 0 0) := (blk_cell B10.out 0).trans rfl; have F10 := blk_frozen B10.out 0; replace L10 := blk_lt B10.out; replace L12 := blk_lt B12.out; clear hb HB2))
    refine bodyPost_ret (results_ct rfl _ _ (w.heap.size + 1) 26 #[.slice (some ⟨g, 0, none⟩) o.length co] (0, 0) _ rfl (blk_put (cs := #[.slice none 0 0]) B10.out 0 _ rfl) Try.underlying26 rfl (by kernel_rfl)) rfl ?_
    exact ⟨_, rfl, Kd.S_lower (S_box HS.out (by omega) _) (by omega), below_set HB3.out (by omega)⟩
    }
    {
    rw [if_neg c3] at h
    have c3b := decide_eq_false c3
    by_cases cj0 : 0 ≤ j
    {
    rw [if_pos cj0] at h
    by_cases cj1 : j ≤ ((rd_T79 o i).f2.length : Int)
    {
    rw [if_pos cj1] at h
    have H := Aside0.mk h
    clear h
    go_enter Try.func25, Try.ntmps25
    go_wp2_with (first
      | (go_at_call 65; refine (impl_copyStock.calls k A0 c0 l o _ (Kd.C_alloc (Kd.C_alloc HR.out _) _) HC.out Ho.out).mono ?_; rintro e w1 ⟨v0, rfl, hS, hb⟩; obtain ⟨Ao, co, rfl⟩ := Kd.S_slice hS; have B5 := Aside0.mk (blk_below (blk_alloc (blk_new w (.cells #[.slice A0 l.length c0] 26)) (.cells #[.slice none 0 0] 26)) hb); have B10 := Aside0.mk (blk_below (blk_new1 w (.cells #[.slice A0 l.length c0] 26) (.cells #[.slice none 0 0] 26)) hb); have HB1 := Aside0.mk (below_step (below_alloc (below_alloc (Below.refl w.heap.size w) _) _) hb); have HS := Aside0.mk (show Kd.S k79 79 w1 (w.heap.size + 2) (fun _ => True) (.slice Ao o.length co) o by rw [show w.heap.size + 2 = ((w.alloc (.cells #[.slice A0 l.length c0] 26)).alloc (.cells #[.slice none 0 0] 26)).heap.size by simp]; exact hS); have HGW := Aside0.mk (Kd.S_lt hS); have C5 : w1.cell? ⟨w.heap.size, 0, none⟩ = some (.slice A0 l.length c0) := (blk_cell B5.out 0).trans rfl; have C10 : w1.cell? ⟨w.heap.size + 1, 0, none⟩ = some (.slice none 0 0) := (blk_cell B10.out 0).trans rfl; have F10 := blk_frozen B10.out 0; have L5 := blk_lt B5.out; have L10 := blk_lt B10.out; clear hb hS)
      | (go_at_call 68; refine (impl_place.calls k A0 c0 l a1 a2 a3 i 0 _ (Kd.C_below HR.out (below_alloc HB1.out _)) HC.out Hp.out).mono ?_; rintro e w2 ⟨rfl, hb⟩; have B12 := Aside0.mk (blk_below (blk_new w1 (.cells #[.slice Ao o.length co] 26)) hb); replace B10 := Aside0.mk (blk_below (blk_alloc B10.out _) hb); have HB2 := Aside0.mk (below_step (below_alloc HB1.out _) hb); replace HS := Aside0.mk (Kd.S_below (Kd.S_alloc HS.out _) hb); have N10 := Nat.ne_of_lt L10; clear C5 C10 F10 HB1 B5; have C12 : w2.cell? ⟨w1.heap.size, 0, none⟩ = some (.slice Ao o.length co) := (blk_cell B12.out 0).trans rfl; have F12 := blk_frozen B12.out 0; have C10 : w2.cell? ⟨w.heap.size + 1, 0, none⟩ = some (.slice none 0 0) := (blk_cell B10.out 0).trans rfl; have F10 := blk_frozen B10.out 0; have L10 := blk_lt B10.out; have L12 := blk_lt B12.out; clear hb; have HS' := HS.out; obtain ⟨g, oki, A2, c2, e, hgb, hgl, x0, x1, x2, f0, f1, f2, hR2, hoki, hn, hH⟩ := S79_at HS' i ci0 ci1; cases e; have HR2 := Aside0.mk (Kd.R_reads' hR2); have HRs := Aside0.mk hR2; have HGB := Aside0.mk hgb; clear hR2 hoki hH hgb HS')
      | (go_at_call 67; refine (impl_stackAt.calls k (rd_T79 o i).f0 (rd_T79 o i).f1 A2 c2 (rd_T79 o i).f2 a2 j false _ HR2.out.2.2 HR2.out.2.1 Hs.out).mono ?_; rintro e w3 ⟨rfl, hb⟩; replace B12 := Aside0.mk (blk_below B12.out hb); replace B10 := Aside0.mk (blk_below B10.out hb); have HB3 := Aside0.mk (below_step HB2.out hb); replace HS := Aside0.mk (Kd.S_below HS.out hb); replace HRs := Aside0.mk (Kd.R_below HRs.out hb); replace x0 := pw_cell_below hb x0; replace x1 := pw_cell_below hb x1; replace x2 := pw_cell_below hb x2; have HGL := Aside0.mk (Nat.lt_of_lt_of_le hgl (below_size hb)); clear C12 F12 C10 F10 f0 f1 f2; have C12 : w3.cell? ⟨w1.heap.size, 0, none⟩ = some (.slice (some ⟨g, 0, none⟩) o.length co) := (blk_cell B12.out 0).trans rfl; have C10 : w3.cell? ⟨w.heap.size + 1, 0, none⟩ = some (.slice none 0 0) := (blk_cell B10.out 0).trans rfl; have F10 := blk_frozen B10.out 0; replace L10 := blk_lt B10.out; replace L12 := blk_lt B12.out; clear hb HB2))
    have hC := Kd.R_reads' HRs.out
    have hCA := Kd.C_drew (Kd.C_take hC.2.2 (m := j.toNat) (by omega))
    have hCB := Kd.C_drew (Kd.C_drop hC.2.2 (m := j.toNat) (by omega) hC.2.1)
    have e1 : ((rd_T79 o i).f2.take j.toNat).length = j.toNat := by rw [List.length_take]; omega
    rw [e1] at hCA
    rw [List.length_drop] at hCB
    obtain ⟨ti, hti, htz⟩ := Option.map_eq_some_iff.1 info72
    simp only [Prod.mk.injEq] at htz
    have hcut1 := cut_to (P := Try.prog) 77 72 .i64 Try.underlying77 hti A2 (rd_T79 o i).f2.length c2 j cj0 cj1 hC.2.1
    have hcut2 := cut_from (P := Try.prog) 77 72 .i64 Try.underlying77 hti 3 htz.2.1 A2 (rd_T79 o i).f2.length c2 j cj0 cj1
    have HX := x2
    have HSB := Aside0.mk (Kd.S_drew (Kd.S_mono (Kd.S_bound HS.out) (ok' := fun k => k < w3.heap.size) (fun k hk => hk.2.2.1)))
    have LM : ((rd_T79 o i).f2.length : Int) < 8 := by omega
    refine start_ (n := 23) (S := fun w' => w'.cell? ⟨g, i.toNat * 3 + 2, none⟩ = some (.slice A2 (rd_T79 o i).f2.length c2)) (ds := [22]) #[false, false, false, false, false, false, false, false, false, false, false, false, false, false, false, false, false, false, false, false, false, false, false] (by kernel_rfl) rfl rfl x2 (fun hHeld => ?_); refine with_tabW impl_PutIn.tab7 impl_PutIn.bits7 (fun HT_ HW_ => ?_)
    refine pure_ (i := 0) (N := some 42) (v := ?_) (a' := ?_) (bqz 23 1) rfl rfl qza qzd (Or.inl ⟨by rfl, ?_⟩) ?_ ?_
    rotate_left
    {
    intro w'
    go_simp
    with_reducible rfl
    }
    rotate_left
    {
    simp only [qzs]
    rfl
    }
    refine pure_ (i := 1) (N := some 43) (v := ?_) (a' := ?_) (bqz 23 3) rfl rfl qza qzd (Or.inl ⟨by rfl, ?_⟩) ?_ ?_
    rotate_left
    {
    intro w'
    go_simp
    with_reducible rfl
    }
    rotate_left
    {
    simp only [qzs]
    rfl
    }
    refine pure_ (i := 2) (N := some 44) (v := ?_) (a' := ?_) (bqz 23 7) rfl rfl qza qzd (Or.inl ⟨by rfl, ?_⟩) ?_ ?_
    rotate_left
    {
    intro w'
    go_simp
    with_reducible rfl
    }
    rotate_left
    {
    simp only [qzs]
    rfl
    }
    refine pure_ (i := 3) (N := some 45) (v := ?_) (a' := ?_) (bqz 23 15) rfl rfl qza qzd (Or.inl ⟨by rfl, ?_⟩) ?_ ?_
    rotate_left
    {
    intro w'
    go_simp
    with_reducible rfl
    }
    rotate_left
    {
    simp only [qzs]
    rfl
    }
    refine pure_ (i := 5) (N := some 47) (v := ?_) (a' := ?_) (bqz 23 47) rfl rfl qza qzd (Or.inl ⟨by rfl, ?_⟩) ?_ ?_
    rotate_left
    {
    intro w'
    go_simp
    with_reducible rfl
    }
    rotate_left
    {
    simp only [qzs]
    rfl
    }
    refine pure_ (i := 8) (N := some 50) (v := ?_) (a' := ?_) (bqz 23 303) rfl rfl qza qzd (Or.inl ⟨by rfl, ?_⟩) ?_ ?_
    rotate_left
    {
    intro w'
    go_simp
    with_reducible rfl
    }
    rotate_left
    {
    simp only [qzs]
    rfl
    }
    refine pure_ (i := 9) (N := some 51) (v := ?_) (a' := ?_) (bqz 23 815) rfl rfl qza qzd (Or.inl ⟨by rfl, ?_⟩) ?_ ?_
    rotate_left
    {
    intro w'
    go_simp
    with_reducible rfl
    }
    rotate_left
    {
    simp only [qzs]
    rfl
    }
    refine pure_ (i := 10) (N := some 52) (v := ?_) (a' := ?_) (bqz 23 1839) rfl rfl qza qzd (Or.inl ⟨by rfl, ?_⟩) ?_ ?_
    rotate_left
    {
    intro w'
    go_simp
    with_reducible rfl
    }
    rotate_left
    {
    simp only [qzs]
    rfl
    }
    refine pure_ (i := 13) (N := some 55) (v := ?_) (a' := ?_) (bqz 23 10031) rfl rfl qza qzd (Or.inl ⟨by rfl, ?_⟩) ?_ ?_
    rotate_left
    {
    intro w'
    go_simp
    with_reducible rfl
    }
    rotate_left
    {
    simp only [qzs]
    rfl
    }
    refine pure_ (i := 14) (N := some 56) (v := ?_) (a' := ?_) (bqz 23 26415) rfl rfl qza qzd (Or.inl ⟨by rfl, ?_⟩) ?_ ?_
    rotate_left
    {
    intro w'
    go_simp
    with_reducible rfl
    }
    rotate_left
    {
    simp only [qzs]
    rfl
    }
    refine pure_ (i := 15) (N := some 57) (v := ?_) (a' := ?_) (bqz 23 59183) rfl rfl qza qzd (Or.inl ⟨by rfl, ?_⟩) ?_ ?_
    rotate_left
    {
    intro w'
    go_simp
    with_reducible rfl
    }
    rotate_left
    {
    simp only [qzs]
    rfl
    }
    refine pure_ (i := 17) (N := some 59) (v := ?_) (a' := ?_) (bqz 23 190255) rfl rfl qza qzd (Or.inl ⟨by rfl, ?_⟩) ?_ ?_
    rotate_left
    {
    intro w'
    go_simp
    with_reducible rfl
    }
    rotate_left
    {
    simp only [qzs]
    rfl
    }
    refine take_ (i := 4) (N := some 46) (v := ?_) (a' := ?_) (bqz 23 190271) rfl rfl qzb qzd (Or.inl ⟨by rfl, ?_⟩) hHeld ?_ ?_
    rotate_left
    {
    rintro w' s0
    go_simp
    with_reducible rfl
    }
    rotate_left
    {
    simp only [qzs]
    rfl
    }
    refine pure_ (i := 6) (N := some 48) (v := ?_) (a' := ?_) (bqz 23 190335) rfl rfl qza qzd (Or.inl ⟨by rfl, ?_⟩) ?_ ?_
    rotate_left
    {
    intro w'
    go_simp
    with_reducible rfl
    }
    rotate_left
    {
    simp only [qzs]
    rfl
    }
    refine take_ (i := 16) (N := some 58) (v := ?_) (a' := ?_) (bqz 23 255871) rfl rfl qzb qzd (Or.inl ⟨by rfl, ?_⟩) hHeld ?_ ?_
    rotate_left
    {
    rintro w' s0
    go_simp
    with_reducible rfl
    }
    rotate_left
    {
    simp only [qzs]
    rfl
    }
    refine pure_ (i := 18) (N := some 60) (v := ?_) (a' := ?_) (bqz 23 518015) rfl rfl qza qzd (Or.inl ⟨by rfl, ?_⟩) ?_ ?_
    rotate_left
    {
    intro w'
    go_simp
    with_reducible rfl
    }
    rotate_left
    {
    simp only [qzs]
    rfl
    }
    have hH0 := hHeld
    refine two_ (i := 7) (j := 11) (Ni := some 49) (Nj := some 53) (bqz 23 518143) (bqz 23 520063) rfl rfl rfl rfl (two_of HT_.out (by kernel_rfl)) (by decide) (by decide) (fun K hK => ?_) (fun K hK => ?_)
    {
    refine Kd.R_append_rows_step k72 (w0 := w3.drew) w3.drew.heap.size rfl (.const (.slice none 0 0)) (.tmp 48) 77 72 (.agg #[(.int .i64 0), (.int .i64 0), (.int .i64 0)]) 24 rfl Try.underlying77 info72 rfl (by decide) (by omega) (.slice none 0 0) ([] : List S72) ((rd_T79 o i).f2.take j.toNat) A2 j.toNat c2 (fun _ => True) (fun _ => False) (by rfl) (by rfl) (Kd.R_nil _ _ _ _ _) hCA (fun _ _ h => h) (fun _ h => h.elim) (fun _ _ => trivial) (Below.refl _ _) (Nat.le_refl _) (by simp only [List.length_nil]; omega) ?_
    intro v5 w5 ho5 hb5 hg5 hat5
    refine hK.out _ _ (pw_cell_below hb5 hH0) (fun hHeld => ?_)
    clear hK K
    refine norm_ (a' := ?_) ?_ ?_
    rotate_left
    {
    show Act.put _ (some 49) _ = _
    simp only [qzs]
    rfl
    }
    refine one_ (i := 11) (N := some 53) (bqz 23 520191) rfl rfl qzc (by decide) (fun K hK => ?_)
    refine Kd.R_lit_step k72 (w0 := w5) w5.heap.size 72 rfl (N := 53) rfl (xs := ([⟨a2, a3, 0⟩] : List S72)) (inner := [.int .i64 a2, .int .i64 a3, .int .i64 0]) (ok := fun _ => True) (okp := fun _ => True) ?hr ?hp (fun _ hk => hk) trivial (Below.refl _ _) (Nat.le_refl _) (by simp) ?_; (case hr => first | (go_simp; done) | (go_simp; rfl)); (case hp => exact Reps.c3 (k72_mkM _ _ _ (⟨a2, a3, 0⟩ : S72)) (Reps.none _ _))
    intro v6 w6 ho6 hb6 hg6 hat6
    obtain ⟨A6, c6, rfl⟩ := Kd.R_slice ho6
    refine hK.out _ _ (pw_cell_below (below_step hb5 hb6) hH0) (fun hHeld => ?_)
    clear hK K
    refine norm_ (a' := ?_) ?_ ?_
    rotate_left
    {
    show Act.put _ (some 53) _ = _
    simp only [qzs]
    rfl
    }
    replace ho5 := Kd.R_below ho5 hb6
    have hL := (Kd.R_reads' ho6).2.2
    have hbq := below_step hb5 hb6
    refine one_ (i := 12) (N := some 54) (bqz 23 524287) rfl rfl qzc (by decide) (fun K hK => ?_)
    refine Kd.R_append_rows_step k72 (w0 := w3.drew) w3.drew.heap.size rfl (.tmp 49) (.tmp 53) 77 72 (.agg #[(.int .i64 0), (.int .i64 0), (.int .i64 0)]) 24 rfl Try.underlying77 info72 rfl (by decide) (by omega) v5 ([] ++ ((rd_T79 o i).f2.take j.toNat)) [⟨a2, a3, 0⟩] A6 1 c6 (fun _ => True) (fun _ => False) (by rfl) (by rfl) ho5 hL (fun _ _ h => h) (fun _ h => h.elim) (fun _ _ => trivial) hbq (below_size hbq) (by simp only [List.nil_append, e1]; omega) ?_
    intro v7 w7 ho7 hb7 hg7 hat7
    refine hK.out _ _ (pw_cell_below hb7 hH0) (fun hHeld => ?_)
    clear hK K
    refine norm_ (a' := ?_) ?_ ?_
    rotate_left
    {
    show Act.put _ (some 54) _ = _
    simp only [qzs]
    rfl
    }
    refine one_ (i := 19) (N := some 61) (bqz 23 1048575) rfl rfl qzc (by decide) (fun K hK => ?_)
    refine Kd.R_append_rows_step k72 (w0 := w3.drew) w3.drew.heap.size rfl (.tmp 54) (.tmp 60) 77 72 (.agg #[(.int .i64 0), (.int .i64 0), (.int .i64 0)]) 24 rfl Try.underlying77 info72 rfl (by decide) (by omega) v7 (([] ++ ((rd_T79 o i).f2.take j.toNat)) ++ [⟨a2, a3, 0⟩]) ((rd_T79 o i).f2.drop j.toNat) (if c2 = j.toNat then A2 else A2.map (·.add (j.toNat * 3))) ((rd_T79 o i).f2.length - j.toNat) (c2 - j.toNat) (fun _ => True) (fun _ => False) (by rfl) (by rfl) ho7 (Kd.C_below hCB hb7) (fun _ _ h => h) (fun _ h => h.elim) (fun _ _ => trivial) hb7 (below_size hb7) (by simp only [List.nil_append, List.length_append, e1, List.length_singleton]; omega) ?_
    intro v8 w8 ho8 hb8 hg8 hat8
    obtain ⟨A8, c8, rfl⟩ := Kd.R_slice ho8
    refine hK.out _ _ (pw_cell_below hb8 hH0) (fun hHeld => ?_)
    clear hK K
    refine norm_ (a' := ?_) ?_ ?_
    rotate_left
    {
    show Act.put _ (some 61) _ = _
    simp only [qzs]
    rfl
    }
    refine pure_ (i := 20) (N := some 62) (v := ?_) (a' := ?_) (bqz 23 2097151) rfl rfl qza qzd (Or.inl ⟨by rfl, ?_⟩) ?_ ?_
    rotate_left
    {
    intro w'
    go_simp
    with_reducible rfl
    }
    rotate_left
    {
    simp only [qzs]
    rfl
    }
    refine pure_ (i := 21) (N := some 63) (v := ?_) (a' := ?_) (bqz 23 4194303) rfl rfl qza qzd (Or.inl ⟨by rfl, ?_⟩) ?_ ?_
    rotate_left
    {
    intro w'
    go_simp
    with_reducible rfl
    }
    rotate_left
    {
    simp only [qzs]
    rfl
    }
    have hS8 := Kd.S_below HSB.out hb8
    obtain ⟨g', oki', A2', c2', e', hgb', hgl', q0, q1, q2, f0, f1, f2, _, _, _, _⟩ := S79_at hS8 i ci0 ci1
    injection e' with e'; injection e' with e'; subst e'
    clear q0 q1 f0 f1
    refine last_ (i := 22) (N := none) (bqz 23 8388607) rfl rfl qzc (by decide) (fun K hK => ?_)
    refine skip_ (w1 := ?_) (by rfl) rfl ?_ ?_
    rotate_left
    {
    go_simp
    rfl
    }
    refine hK.out _ _ ?_
    clear hK K
    refine done_ (done_of HT_.out (by kernel_rfl)) ?_
    clear hcut1 hcut2 hCA hCB e1
    have hP := S79_row hS8 (fun k hk hlt => Nat.lt_irrefl _ (Nat.lt_of_lt_of_le hlt hk)) ho8 (by show w.heap.size + 2 ≤ w3.heap.size; omega) i ci0 ci1 HGL.out
    have hlen : ((([] ++ ((rd_T79 o i).f2.take j.toNat)) ++ [(⟨a2, a3, 0⟩ : S72)]) ++ ((rd_T79 o i).f2.drop j.toNat)).length = j.toNat + ((rd_T79 o i).f2.length - j.toNat + 1) := by simp only [List.nil_append, List.length_append, List.length_take, List.length_drop, List.length_singleton]; omega
    rw [hlen] at hP
    have hbz : Below w3.heap.size w3 w8 := below_then (below_drew (Below.refl _ _)) (Nat.le_refl _) hb8
    replace HB3 := Aside0.mk (below_step HB3.out hbz)
    have HGW := HGW.out g rfl
    have B10' := blk_below B10.out hbz
    replace C12 := pw_cell_below hbz C12
    replace C10 := pw_cell_below hbz C10
    have F10' := blk_frozen B10' 0
    clear F10
    have HGB := HGB.out
    have NG := Nat.ne_of_lt HGW
    have NG' := Nat.ne_of_gt HGW
    have NR : g ≠ w.heap.size + 1 := by omega
    have NR' : w.heap.size + 1 ≠ g := by omega
    clear q2 x2 hH0 HX hHeld
    have h := H.out
    obtain ⟨rfl, rfl⟩ : _ = r1 ∧ _ = r2 := by simpa using h
    clear h H
    generalize (if c2 = j.toNat then A2 else Option.map (fun x => x.add (j.toNat * 3)) A2) = AQ
    go_wp2
    refine bodyPost_ret (results_ct rfl _ _ (w.heap.size + 1) 26 #[.slice (some ⟨g, 0, none⟩) o.length co] (0, 0) _ rfl (blk_put (cs := #[.slice none 0 0]) (blk_far B10' NR' _) 0 _ rfl) Try.underlying26 rfl (by kernel_rfl)) rfl ?_
    exact ⟨_, rfl, by have h9 := Kd.S_mono (ok' := fun _ => True) (Kd.S_lower (S_box hP.1 (show w.heap.size + 1 < w.heap.size + 2 by omega) (.slice (some ⟨g, 0, none⟩) o.length co)) (show w.heap.size ≤ w.heap.size + 2 by omega)) (fun _ _ => trivial); simpa using h9, below_set (below_set HB3.out (by omega)) (by omega)⟩
    }
    {
    refine Kd.R_lit_step k72 (w0 := w3.drew) w3.drew.heap.size 72 rfl (N := 53) rfl (xs := ([⟨a2, a3, 0⟩] : List S72)) (inner := [.int .i64 a2, .int .i64 a3, .int .i64 0]) (ok := fun _ => True) (okp := fun _ => True) ?hr ?hp (fun _ hk => hk) trivial (Below.refl _ _) (Nat.le_refl _) (by simp) ?_; (case hr => first | (go_simp; done) | (go_simp; rfl)); (case hp => exact Reps.c3 (k72_mkM _ _ _ (⟨a2, a3, 0⟩ : S72)) (Reps.none _ _))
    intro v6 w6 ho6 hb6 hg6 hat6
    obtain ⟨A6, c6, rfl⟩ := Kd.R_slice ho6
    refine hK.out _ _ (pw_cell_below hb6 hH0) (fun hHeld => ?_)
    clear hK K
    refine norm_ (a' := ?_) ?_ ?_
    rotate_left
    {
    show Act.put _ (some 53) _ = _
    simp only [qzs]
    rfl
    }
    refine one_ (i := 7) (N := some 49) (bqz 23 520191) rfl rfl qzc (by decide) (fun K hK => ?_)
    refine Kd.R_append_rows_step k72 (w0 := w3.drew) w3.drew.heap.size rfl (.const (.slice none 0 0)) (.tmp 48) 77 72 (.agg #[(.int .i64 0), (.int .i64 0), (.int .i64 0)]) 24 rfl Try.underlying77 info72 rfl (by decide) (by omega) (.slice none 0 0) ([] : List S72) ((rd_T79 o i).f2.take j.toNat) A2 j.toNat c2 (fun _ => True) (fun _ => False) (by rfl) (by rfl) (Kd.R_nil _ _ _ _ _) (Kd.C_below hCA hb6) (fun _ _ h => h) (fun _ h => h.elim) (fun _ _ => trivial) hb6 (below_size hb6) (by simp only [List.length_nil]; omega) ?_
    intro v5 w5 ho5 hb5 hg5 hat5
    refine hK.out _ _ (pw_cell_below hb5 hH0) (fun hHeld => ?_)
    clear hK K
    refine norm_ (a' := ?_) ?_ ?_
    rotate_left
    {
    show Act.put _ (some 49) _ = _
    simp only [qzs]
    rfl
    }
    have hL := (Kd.R_reads' (Kd.R_grown ho6 hg5 (fun k _ => by simp [Value.ownBlock]))).2.2
    have hbq := hb5
    refine one_ (i := 12) (N := some 54) (bqz 23 524287) rfl rfl qzc (by decide) (fun K hK => ?_)
    refine Kd.R_append_rows_step k72 (w0 := w3.drew) w3.drew.heap.size rfl (.tmp 49) (.tmp 53) 77 72 (.agg #[(.int .i64 0), (.int .i64 0), (.int .i64 0)]) 24 rfl Try.underlying77 info72 rfl (by decide) (by omega) v5 ([] ++ ((rd_T79 o i).f2.take j.toNat)) [⟨a2, a3, 0⟩] A6 1 c6 (fun _ => True) (fun _ => False) (by rfl) (by rfl) ho5 hL (fun _ _ h => h) (fun _ h => h.elim) (fun _ _ => trivial) hbq (below_size hbq) (by simp only [List.nil_append, e1]; omega) ?_
    intro v7 w7 ho7 hb7 hg7 hat7
    refine hK.out _ _ (pw_cell_below hb7 hH0) (fun hHeld => ?_)
    clear hK K
    refine norm_ (a' := ?_) ?_ ?_
    rotate_left
    {
    show Act.put _ (some 54) _ = _
    simp only [qzs]
    rfl
    }
    refine one_ (i := 19) (N := some 61) (bqz 23 1048575) rfl rfl qzc (by decide) (fun K hK => ?_)
    refine Kd.R_append_rows_step k72 (w0 := w3.drew) w3.drew.heap.size rfl (.tmp 54) (.tmp 60) 77 72 (.agg #[(.int .i64 0), (.int .i64 0), (.int .i64 0)]) 24 rfl Try.underlying77 info72 rfl (by decide) (by omega) v7 (([] ++ ((rd_T79 o i).f2.take j.toNat)) ++ [⟨a2, a3, 0⟩]) ((rd_T79 o i).f2.drop j.toNat) (if c2 = j.toNat then A2 else A2.map (·.add (j.toNat * 3))) ((rd_T79 o i).f2.length - j.toNat) (c2 - j.toNat) (fun _ => True) (fun _ => False) (by rfl) (by rfl) ho7 (Kd.C_below hCB hb7) (fun _ _ h => h) (fun _ h => h.elim) (fun _ _ => trivial) hb7 (below_size hb7) (by simp only [List.nil_append, List.length_append, e1, List.length_singleton]; omega) ?_
    intro v8 w8 ho8 hb8 hg8 hat8
    obtain ⟨A8, c8, rfl⟩ := Kd.R_slice ho8
    refine hK.out _ _ (pw_cell_below hb8 hH0) (fun hHeld => ?_)
    clear hK K
    refine norm_ (a' := ?_) ?_ ?_
    rotate_left
    {
    show Act.put _ (some 61) _ = _
    simp only [qzs]
    rfl
    }
    refine pure_ (i := 20) (N := some 62) (v := ?_) (a' := ?_) (bqz 23 2097151) rfl rfl qza qzd (Or.inl ⟨by rfl, ?_⟩) ?_ ?_
    rotate_left
    {
    intro w'
    go_simp
    with_reducible rfl
    }
    rotate_left
    {
    simp only [qzs]
    rfl
    }
    refine pure_ (i := 21) (N := some 63) (v := ?_) (a' := ?_) (bqz 23 4194303) rfl rfl qza qzd (Or.inl ⟨by rfl, ?_⟩) ?_ ?_
    rotate_left
    {
    intro w'
    go_simp
    with_reducible rfl
    }
    rotate_left
    {
    simp only [qzs]
    rfl
    }
    have hS8 := Kd.S_below HSB.out hb8
    obtain ⟨g', oki', A2', c2', e', hgb', hgl', q0, q1, q2, f0, f1, f2, _, _, _, _⟩ := S79_at hS8 i ci0 ci1
    injection e' with e'; injection e' with e'; subst e'
    clear q0 q1 f0 f1
    refine last_ (i := 22) (N := none) (bqz 23 8388607) rfl rfl qzc (by decide) (fun K hK => ?_)
    refine skip_ (w1 := ?_) (by rfl) rfl ?_ ?_
    rotate_left
    {
    go_simp
    rfl
    }
    refine hK.out _ _ ?_
    clear hK K
    refine done_ (done_of HT_.out (by kernel_rfl)) ?_
    clear hcut1 hcut2 hCA hCB e1
    have hP := S79_row hS8 (fun k hk hlt => Nat.lt_irrefl _ (Nat.lt_of_lt_of_le hlt hk)) ho8 (by show w.heap.size + 2 ≤ w3.heap.size; omega) i ci0 ci1 HGL.out
    have hlen : ((([] ++ ((rd_T79 o i).f2.take j.toNat)) ++ [(⟨a2, a3, 0⟩ : S72)]) ++ ((rd_T79 o i).f2.drop j.toNat)).length = j.toNat + ((rd_T79 o i).f2.length - j.toNat + 1) := by simp only [List.nil_append, List.length_append, List.length_take, List.length_drop, List.length_singleton]; omega
    rw [hlen] at hP
    have hbz : Below w3.heap.size w3 w8 := below_then (below_drew (Below.refl _ _)) (Nat.le_refl _) hb8
    replace HB3 := Aside0.mk (below_step HB3.out hbz)
    have HGW := HGW.out g rfl
    have B10' := blk_below B10.out hbz
    replace C12 := pw_cell_below hbz C12
    replace C10 := pw_cell_below hbz C10
    have F10' := blk_frozen B10' 0
    clear F10
    have HGB := HGB.out
    have NG := Nat.ne_of_lt HGW
    have NG' := Nat.ne_of_gt HGW
    have NR : g ≠ w.heap.size + 1 := by omega
    have NR' : w.heap.size + 1 ≠ g := by omega
    clear q2 x2 hH0 HX hHeld
    have h := H.out
    obtain ⟨rfl, rfl⟩ : _ = r1 ∧ _ = r2 := by simpa using h
    clear h H
    generalize (if c2 = j.toNat then A2 else Option.map (fun x => x.add (j.toNat * 3)) A2) = AQ
    go_wp2
    refine bodyPost_ret (results_ct rfl _ _ (w.heap.size + 1) 26 #[.slice (some ⟨g, 0, none⟩) o.length co] (0, 0) _ rfl (blk_put (cs := #[.slice none 0 0]) (blk_far B10' NR' _) 0 _ rfl) Try.underlying26 rfl (by kernel_rfl)) rfl ?_
    exact ⟨_, rfl, by have h9 := Kd.S_mono (ok' := fun _ => True) (Kd.S_lower (S_box hP.1 (show w.heap.size + 1 < w.heap.size + 2 by omega) (.slice (some ⟨g, 0, none⟩) o.length co)) (show w.heap.size ≤ w.heap.size + 2 by omega)) (fun _ _ => trivial); simpa using h9, below_set (below_set HB3.out (by omega)) (by omega)⟩
    }
    }
    {
    rw [if_neg cj1] at h; cases h
    }
    }
    {
    rw [if_neg cj0] at h; cases h
    }
    }
  }
  {
  rw [if_neg ci1] at h; cases h
  }
  }
  {
  rw [if_neg ci0] at h; cases h
  }
  }
  {
  rw [if_neg c1] at h
  obtain ⟨rfl, rfl⟩ : o = r1 ∧ code = r2 := by simpa using h
  have c1b : (code != 0) = true := by simpa using c1
  clear h c1
  go_enter Try.func25, Try.ntmps25
  go_wp2_with (first
    | (go_at_call 65; refine (impl_copyStock.calls k A0 c0 l o _ (Kd.C_alloc (Kd.C_alloc HR.out _) _) HC.out Ho.out).mono ?_; rintro e w1 ⟨v0, rfl, hS, hb⟩; obtain ⟨Ao, co, rfl⟩ := Kd.S_slice hS; have B5 := Aside0.mk (blk_below (blk_alloc (blk_new w (.cells #[.slice A0 l.length c0] 26)) (.cells #[.slice none 0 0] 26)) hb); have B10 := Aside0.mk (blk_below (blk_new1 w (.cells #[.slice A0 l.length c0] 26) (.cells #[.slice none 0 0] 26)) hb); have HB1 := Aside0.mk (below_step (below_alloc (below_alloc (Below.refl w.heap.size w) _) _) hb); have HS := Aside0.mk (show Kd.S k79 79 w1 (w.heap.size + 2) (fun _ => True) (.slice Ao o.length co) o by rw [show w.heap.size + 2 = ((w.alloc (.cells #[.slice A0 l.length c0] 26)).alloc (.cells #[.slice none 0 0] 26)).heap.size by simp]; exact hS); have HGW := Aside0.mk (Kd.S_lt hS); have C5 : w1.cell? ⟨w.heap.size, 0, none⟩ = some (.slice A0 l.length c0) := (blk_cell B5.out 0).trans rfl; have C10 : w1.cell? ⟨w.heap.size + 1, 0, none⟩ = some (.slice none 0 0) := (blk_cell B10.out 0).trans rfl; have F10 := blk_frozen B10.out 0; have L5 := blk_lt B5.out; have L10 := blk_lt B10.out; clear hb hS)
    | (go_at_call 68; refine (impl_place.calls k A0 c0 l a1 a2 a3 i code _ (Kd.C_below HR.out (below_alloc HB1.out _)) HC.out Hp.out).mono ?_; rintro e w2 ⟨rfl, hb⟩; have B12 := Aside0.mk (blk_below (blk_new w1 (.cells #[.slice Ao o.length co] 26)) hb); replace B10 := Aside0.mk (blk_below (blk_alloc B10.out _) hb); have HB2 := Aside0.mk (below_step (below_alloc HB1.out _) hb); replace HS := Aside0.mk (Kd.S_below (Kd.S_alloc HS.out _) hb); have N10 := Nat.ne_of_lt L10; clear C5 C10 F10 HB1 B5; have C12 : w2.cell? ⟨w1.heap.size, 0, none⟩ = some (.slice Ao o.length co) := (blk_cell B12.out 0).trans rfl; have F12 := blk_frozen B12.out 0; have C10 : w2.cell? ⟨w.heap.size + 1, 0, none⟩ = some (.slice none 0 0) := (blk_cell B10.out 0).trans rfl; have F10 := blk_frozen B10.out 0; have L10 := blk_lt B10.out; have L12 := blk_lt B12.out; clear hb))
  refine bodyPost_ret (results_ct rfl _ _ (w.heap.size + 1) 26 #[.slice Ao o.length co] (0, 0) _ rfl (blk_put (cs := #[.slice none 0 0]) B10.out 0 _ rfl) Try.underlying26 rfl (by kernel_rfl)) rfl ?_
  exact ⟨_, rfl, Kd.S_lower (S_box HS.out (by omega) _) (by omega), below_set HB2.out (by omega)⟩

  }
/-! ### spec_l1In: function 81 -/
def spec_l1In.f (a0 : Int) (a1 : Int) (a2 : Int) : Option (Bool) := if a0 ≥ a1 then (some (decide (a0 ≤ a2))) else (some false)
set_option maxHeartbeats 8000000 in
set_option maxRecDepth 100000 in
theorem spec_l1In.calls (a0 : Int) (a1 : Int) (a2 : Int) (r : Bool) (w : World) (h : spec_l1In.f a0 a1 a2 = some r) :
    Calls Try.prog 81 #[.int .i64 a0, .int .i64 a1, .int .i64 a2] w fun e w' => e = .returned (.bool r) ∧ Drawn0 w w' := by
  have H : (if a0 ≥ a1 then (some (decide (a0 ≤ a2))) else (some false)) = some r := h
  clear h
  by_cases c4 : a0 ≥ a1
  {
  rw [if_pos c4] at H
  have c4b0 : decide (a1 ≤ a0) = true := decide_eq_true c4
  clear c4
  obtain rfl := Option.some.inj H
  simp only [Option.some.injEq, Prod.mk.injEq] at H
  obtain ⟨rfl⟩ := H
  go_enter Try.func81, Try.ntmps81
  go_wp2
  go_ret
  exact ⟨by first | rfl | (simp; done) | (simp [*]; done), by repeat (first | exact Drawn0.refl _ | apply Drawn0.step)⟩
  }
  {
  rw [if_neg c4] at H
  have c4b0 : decide (a1 ≤ a0) = false := decide_eq_false c4
  clear c4
  obtain rfl := Option.some.inj H
  simp only [Option.some.injEq, Prod.mk.injEq] at H
  obtain ⟨rfl⟩ := H
  go_enter Try.func81, Try.ntmps81
  go_wp2
  go_ret
  exact ⟨by first | rfl | (simp; done) | (simp [*]; done), by repeat (first | exact Drawn0.refl _ | apply Drawn0.step)⟩

  }
end Go.Proofs.Yteajnkondkfmgaa.PFnExactPutIn
