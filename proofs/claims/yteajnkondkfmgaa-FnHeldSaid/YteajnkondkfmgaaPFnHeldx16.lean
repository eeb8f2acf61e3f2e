-- Made by a program of this session out of the translation. Lean checks it.
import Derived.Test.YteajnkondkfmgaaPFnHeldx0
import Derived.Test.YteajnkondkfmgaaPFnHeldx7
import Derived.Test.YteajnkondkfmgaaPFnHeldx9
namespace Go.Proofs.Yteajnkondkfmgaa.PFnHeld
open Go.RowKit Go.Proofs.YteajnkondkfmgaaW.PrintWords Go.Proofs.YteajnkondkfmgaaW.PrintLast Go.Proofs.YteajnkondkfmgaaW.PrintMore
attribute [local go_sem] max2_int min2_int max_two min_two max_three min_three max_four min_four   -- for this text's walks alone
set_option linter.unusedVariables false
set_option linter.unusedSimpArgs false

/-! ### impl_Free: function 22 -/
def impl_Free.l0 : Nat → Int → Int → List (S79) → Int → Int → Option (Int)
 | 0, _, _, _, _, _ => none
 | k + 1, x1, x5, x15, x16, x17 => if x17 < x16 then (if 0 ≤ x17 then (if x17 < (x15.length : Int) then ((impl_stackAt.f k ((rd_T79 x15 x17).f0) ((rd_T79 x15 x17).f1) ((rd_T79 x15 x17).f2) x1).bind fun bt380 => (if bt380.2 = true then (if 0 ≤ bt380.1 then (if bt380.1 < (((rd_T79 x15 x17).f2).length : Int) then (impl_Free.l0 k x1 (wrap64 (x5 + (wrap64 (((rd_T72 ((rd_T79 x15 x17).f2) bt380.1).f1) - ((rd_T72 ((rd_T79 x15 x17).f2) bt380.1).f2))))) x15 x16 (wrap64 (x17 + 1))) else (none)) else (none)) else (impl_Free.l0 k x1 x5 x15 x16 (wrap64 (x17 + 1))))) else (none)) else (none)) else (some x5)
def impl_Free.f (k : Nat) (l0_0 : List (S79)) (a1 : Int) : Option (Int) := (impl_StockOk.f k l0_0).bind fun t377 => (if t377 = true then (impl_Free.l0 k a1 0 l0_0 (l0_0.length : Int) 0) else (some 0))
theorem impl_Free.mono_l : ∀ k, (∀ y0 y1 y2 y3 y4, LeO (impl_Free.l0 k y0 y1 y2 y3 y4) (impl_Free.l0 (k + 1) y0 y1 y2 y3 y4))
 | 0 => fun _ _ _ _ _ r h => by simp [impl_Free.l0] at h
 | k + 1 => by
  have ih0 := impl_Free.mono_l k
  {
  intro y0 y1 y2 y3 y4
  unfold impl_Free.l0
  repeat' first
  | (with_reducible first | exact ih0 _ _ _ _ _ | exact impl_StockOk.mono _ _ | exact impl_stackAt.mono _ _ _ _ _ | exact LeO.refl _ | exact LeO.none _ | refine LeO.ite ?_ ?_ | refine LeO.bind ?_ (fun _ => ?_))
  | exact ih0 _ _ _ _ _
  | exact impl_StockOk.mono _ _
  | exact impl_stackAt.mono _ _ _ _ _
  | exact LeO.none _
  | refine LeO.ite ?_ ?_
  | refine LeO.bind ?_ (fun _ => ?_)
  }
theorem impl_Free.mono : ∀ a0 a1 k, LeO (impl_Free.f k a0 a1) (impl_Free.f (k + 1) a0 a1) := by
 intro a0 a1 k
 have ih0 := impl_Free.mono_l k
 unfold impl_Free.f
 repeat' first
  | (with_reducible first | exact ih0 _ _ _ _ _ | exact impl_StockOk.mono _ _ | exact impl_stackAt.mono _ _ _ _ _ | exact LeO.refl _ | exact LeO.none _ | refine LeO.ite ?_ ?_ | refine LeO.bind ?_ (fun _ => ?_))
  | exact ih0 _ _ _ _ _
  | exact impl_StockOk.mono _ _
  | exact impl_stackAt.mono _ _ _ _ _
  | exact LeO.none _
  | refine LeO.ite ?_ ?_
  | refine LeO.bind ?_ (fun _ => ?_)
set_option maxHeartbeats 8000000 in
set_option maxRecDepth 100000 in
theorem impl_Free.calls (k : Nat) (A0_0 : Option Addr) (c0_0 : Nat) (l0_0 : List (S79)) (a1 : Int) (r : Int) (w : World) (hr0_0 : Kd.C k79 w A0_0 l0_0.length l0_0) (hc0_0 : l0_0.length ≤ c0_0) (h : impl_Free.f k l0_0 a1 = some r) :
  Calls Try.prog 22 #[.agg #[.slice A0_0 l0_0.length c0_0], .int .i64 a1] w fun e w' => e = .returned (.int .i64 r) ∧ Below w.heap.size w w' := by
 have hu26 := Try.underlying26
 have hu79 := Try.underlying79
 have HR0_0 := aM hr0_0
 have HC0_0 := aM hc0_0
 clear hr0_0 hc0_0
 have HB := aM (Below.refl w.heap.size w)
 have H : ((impl_StockOk.f k l0_0).bind fun t377 => (if t377 = true then (impl_Free.l0 k a1 0 l0_0 (l0_0.length : Int) 0) else (some 0))) = some r := h
 clear h
 replace H := Option.bind_eq_some_iff.mp H
 obtain ⟨t377, A30, H⟩ := H
 replace H : (if t377 = true then (impl_Free.l0 k a1 0 l0_0 (l0_0.length : Int) 0) else (some 0)) = some r := H
 have A3 := aM A30
 clear A30
 by_cases c4 : t377 = true
 {
 subst c4
 rw [if_pos rfl] at H
 have H' := aM H
 clear H
 go_enter Try.func22, Try.ntmps22
 go_wp2_with (first | ((with_reducible refine gate_dst (N := 2) rfl ?_); refine bx_ 2 #[.slice A0_0 l0_0.length c0_0] 26 ?_; intro gb376 hg w5 hbox hb; have n0_ := aM (below_step qz2 hb); have n1_ := aM (hbox); have n2_ := aM ((by rw [hg]; exact (below_size qz2) : w.heap.size ≤ gb376)); have n3_ := aM ((by rw [hg]; exact (below_size qz2) : w.heap.size ≤ gb376)); clear HB; have HB := n0_; have BK376 := n1_; have GW376 := n2_; have GE376 := n3_; clear n0_ n1_ n2_ n3_; clear hb hbox hg; have hcz6_0 := bc0_ BK376.out; have hfz6_0 := blk_frozen BK376.out 0) | (go_at_call 21; (with_reducible refine (impl_StockOk.calls k _ _ l0_0 true _ ?side1 ?side2 A3.out).mono ?_); (case side1 => exact qz17); (case side2 => exact HC0_0.out); rintro e w7 ⟨rfl, hb⟩; have n0_ := aM (blk_below (bk_ BK376.out) hb); have n1_ := aM (below_step qz12 hb); clear BK376 HB; have BK376 := n0_; have HB := n1_; clear n0_ n1_; (try clear hb); (try clear hb2); (try clear hk); (try clear hi); have hcz8_0 := bc0_ BK376.out; have hfz8_0 := blk_frozen BK376.out 0))
 repeat (go_quiet (first | ((with_reducible refine gate_dst (N := 2) rfl ?_); refine bx_ 2 #[.slice A0_0 l0_0.length c0_0] 26 ?_; intro gb376 hg w5 hbox hb; have n0_ := aM (below_step qz2 hb); have n1_ := aM (hbox); have n2_ := aM ((by rw [hg]; exact (below_size qz2) : w.heap.size ≤ gb376)); have n3_ := aM ((by rw [hg]; exact (below_size qz2) : w.heap.size ≤ gb376)); clear HB; have HB := n0_; have BK376 := n1_; have GW376 := n2_; have GE376 := n3_; clear n0_ n1_ n2_ n3_; clear hb hbox hg; have hcz6_0 := bc0_ BK376.out; have hfz6_0 := blk_frozen BK376.out 0) | (go_at_call 21; (with_reducible refine (impl_StockOk.calls k _ _ l0_0 true _ ?side1 ?side2 A3.out).mono ?_); (case side1 => exact qz17); (case side2 => exact HC0_0.out); rintro e w7 ⟨rfl, hb⟩; have n0_ := aM (blk_below (bk_ BK376.out) hb); have n1_ := aM (below_step qz12 hb); clear BK376 HB; have BK376 := n0_; have HB := n1_; clear n0_ n1_; (try clear hb); (try clear hb2); (try clear hk); (try clear hi); have hcz8_0 := bc0_ BK376.out; have hfz8_0 := blk_frozen BK376.out 0)); try go_wp2_with (first | ((with_reducible refine gate_dst (N := 2) rfl ?_); refine bx_ 2 #[.slice A0_0 l0_0.length c0_0] 26 ?_; intro gb376 hg w5 hbox hb; have n0_ := aM (below_step qz2 hb); have n1_ := aM (hbox); have n2_ := aM ((by rw [hg]; exact (below_size qz2) : w.heap.size ≤ gb376)); have n3_ := aM ((by rw [hg]; exact (below_size qz2) : w.heap.size ≤ gb376)); clear HB; have HB := n0_; have BK376 := n1_; have GW376 := n2_; have GE376 := n3_; clear n0_ n1_ n2_ n3_; clear hb hbox hg; have hcz6_0 := bc0_ BK376.out; have hfz6_0 := blk_frozen BK376.out 0) | (go_at_call 21; (with_reducible refine (impl_StockOk.calls k _ _ l0_0 true _ ?side1 ?side2 A3.out).mono ?_); (case side1 => exact qz17); (case side2 => exact HC0_0.out); rintro e w7 ⟨rfl, hb⟩; have n0_ := aM (blk_below (bk_ BK376.out) hb); have n1_ := aM (below_step qz12 hb); clear BK376 HB; have BK376 := n0_; have HB := n1_; clear n0_ n1_; (try clear hb); (try clear hb2); (try clear hk); (try clear hi); have hcz8_0 := bc0_ BK376.out; have hfz8_0 := blk_frozen BK376.out 0)))
 go_loopg [5, 17] k (fun kq v5 v17 w' => ∃ (x5_1 : Int) (x17_1 : Int), v5 = .int .i64 x5_1 ∧ v17 = .int .i64 x17_1 ∧ Aside0 (impl_Free.l0 kq a1 x5_1 l0_0 (l0_0.length : Int) x17_1 = some r) ∧ Aside0 (kq ≤ k) ∧ Aside0 (w'.heap[gb376]? = some (.cells #[(.slice A0_0 l0_0.length c0_0)] 26 (0, 0))) ∧ Aside0 (Below w.heap.size w w'))
 case atStart => exact ⟨(0), (0), qz13, qz13, H', ⟨Nat.le_refl _⟩, ⟨bk_ BK376.out⟩, ⟨by repeat (first | (with_reducible first | exact HB.out | apply below_alloc | apply pw_below_drewN | apply below_drew1 | refine below_set ?_ GE376.out) | exact HB.out)⟩⟩
 case round =>
  clear H'
  try clear c2
  try clear p2
  try clear c4
  try clear hcz6_0
  try clear hcz8_0
  try clear hfz6_0
  try clear hfz8_0
  obtain ⟨x5_1, x17_1, rfl, rfl, HA, HK1, BK376, HB⟩ := hrel
  cases gk with
  | zero => exact absurd HA.out (by simp [impl_Free.l0])
  | succ k1 =>
   have H := HA.out
   clear HA
   simp only [impl_Free.l0] at H
   by_cases c9 : x17_1 < (l0_0.length : Int)
   {
   rw [if_pos c9] at H
   have c9b0 := decide_eq_true c9
   clear c9
   by_cases c10 : 0 ≤ x17_1
   {
   rw [if_pos c10] at H
   have c10b0 := decide_eq_true c10
   clear c10
   by_cases c11 : x17_1 < (l0_0.length : Int)
   {
   rw [if_pos c11] at H
   have c11b0 := decide_eq_true c11
   clear c11
   replace H := Option.bind_eq_some_iff.mp H
   obtain ⟨⟨t380, t381⟩, A120, H⟩ := H
   replace H : (if t381 = true then (if 0 ≤ t380 then (if t380 < (((rd_T79 l0_0 x17_1).f2).length : Int) then (impl_Free.l0 k1 a1 (wrap64 (x5_1 + (wrap64 (((rd_T72 ((rd_T79 l0_0 x17_1).f2) t380).f1) - ((rd_T72 ((rd_T79 l0_0 x17_1).f2) t380).f2))))) l0_0 (l0_0.length : Int) (wrap64 (x17_1 + 1))) else (none)) else (none)) else (impl_Free.l0 k1 a1 x5_1 l0_0 (l0_0.length : Int) (wrap64 (x17_1 + 1)))) = some r := H
   have A12 := aM A120
   clear A120
   by_cases c13 : t381 = true
   {
   subst c13
   rw [if_pos rfl] at H
   by_cases c14 : 0 ≤ t380
   {
   rw [if_pos c14] at H
   have c14b0 := decide_eq_true c14
   clear c14
   by_cases c15 : t380 < (((rd_T79 l0_0 x17_1).f2).length : Int)
   {
   rw [if_pos c15] at H
   have c15b0 := decide_eq_true c15
   clear c15
   have H' := aM H
   clear H
   have p378 : 0 ≤ (x17_1 : Int) := of_decide_eq_true qz4
   have q378 : x17_1 < (l0_0.length : Int) := of_decide_eq_true qz4
   obtain ⟨ad378, A378_2, c378_2, e378, hx378_0, hx378_1, hx378_2, hl378_2, hi378_2⟩ := at_T79 HR0_0.out x17_1 p378 q378
   cases e378
   replace hx378_0 := pw_cell_below HB.out hx378_0
   replace hx378_1 := pw_cell_below HB.out hx378_1
   replace hx378_2 := pw_cell_below HB.out hx378_2
   have HR378_2 := aM hi378_2
   have HC378_2 := aM hl378_2
   clear hi378_2 hl378_2
   replace p378 := eq_true p378
   replace q378 := eq_true q378
   go_wp2_with (first | ((with_reducible refine gate_dst (N := 7) rfl ?_); refine bx_ 7 #[.int .i64 0, .int .i64 0, .slice none 0 0] 79 ?_; intro gb379 hg w16 hbox hb; have n0_ := aM (blk_below (bk_ BK376.out) hb); have n1_ := aM (below_step qz12 hb); have n2_ := aM (hbox); have n3_ := aM ((by rw [hg]; exact (below_size qz12) : w.heap.size ≤ gb379)); have n4_ := aM ((by rw [hg]; exact (below_size qz12) : w.heap.size ≤ gb379)); have n5_ := aM ((by rw [hg]; exact Nat.ne_of_lt (blk_lt (bk_ BK376.out)) : gb376 ≠ gb379)); have n6_ := aM ((by rw [hg]; exact Nat.ne_of_gt (blk_lt (bk_ BK376.out)) : gb379 ≠ gb376)); clear BK376 HB; have BK376 := n0_; have HB := n1_; have BK379 := n2_; have GW379 := n3_; have GE379 := n4_; have NB376_379 := n5_; have NB379_376 := n6_; clear n0_ n1_ n2_ n3_ n4_ n5_ n6_; clear hb hbox hg; have hnb17 := NB379_376.out; have hnc17 := NB376_379.out; obtain ⟨hcz18_0, hcz18_1, hcz18_2, hfz18_0, hfz18_1, hfz18_2⟩ := b6_ BK379.out) | (go_at_call 67; (with_reducible refine (impl_stackAt.calls k1 ((rd_T79 l0_0 x17_1).f0) ((rd_T79 l0_0 x17_1).f1) _ _ ((rd_T79 l0_0 x17_1).f2) a1 t380 true _ ?side1 ?side2 A12.out).mono ?_); (case side1 => exact Kd.C_below HR378_2.out qz22); (case side2 => exact HC378_2.out); rintro e w19 ⟨rfl, hb⟩; have n0_ := aM (blk_below (g := gb376) (o := .cells #[.slice (some ad378) l0_0.length c0_0] 26 (0, 0)) qz23 hb); have n1_ := aM (blk_below (g := gb379) (o := .cells #[.int .i64 ((rd_T79 l0_0 x17_1).f0), .int .i64 ((rd_T79 l0_0 x17_1).f1), .slice A378_2 ((rd_T79 l0_0 x17_1).f2).length c378_2] 79 (0, 0)) (by (with_reducible repeat (first | refine blk_drewN ?_ _ | refine blk_drew ?_ | refine blk_alloc ?_ _)); refine blk_put (cs := #[.int .i64 ((rd_T79 l0_0 x17_1).f0), .int .i64 ((rd_T79 l0_0 x17_1).f1), .slice none 0 0]) ?_ 2 _ rfl; (with_reducible repeat (first | refine blk_drewN ?_ _ | refine blk_drew ?_ | refine blk_alloc ?_ _)); refine blk_put (cs := #[.int .i64 ((rd_T79 l0_0 x17_1).f0), .int .i64 0, .slice none 0 0]) ?_ 1 _ rfl; (with_reducible repeat (first | refine blk_drewN ?_ _ | refine blk_drew ?_ | refine blk_alloc ?_ _)); refine blk_put (cs := #[.int .i64 0, .int .i64 0, .slice none 0 0]) ?_ 0 _ rfl; exact bk_ BK379.out) hb); have n2_ := aM (below_step qz22 hb); clear BK376 BK379 HB; have BK376 := n0_; have BK379 := n1_; have HB := n2_; clear n0_ n1_ n2_; (try clear hb); (try clear hb2); (try clear hk); (try clear hi); obtain ⟨hcz20_0, hcz20_1, hcz20_2, hfz20_0, hfz20_1, hfz20_2⟩ := b6_ BK379.out; have p382 : 0 ≤ (t380 : Int) := of_decide_eq_true qz4; have q382 : t380 < (((rd_T79 l0_0 x17_1).f2).length : Int) := of_decide_eq_true qz4; obtain ⟨ad382, e382, hx382_0, hx382_1, hx382_2⟩ := at_T72 HR378_2.out t380 p382 q382; cases e382; replace hx382_0 := pw_cell_below HB.out hx382_0; replace hx382_1 := pw_cell_below HB.out hx382_1; replace hx382_2 := pw_cell_below HB.out hx382_2; replace p382 := eq_true p382; replace q382 := eq_true q382; have p383 : 0 ≤ (t380 : Int) := of_decide_eq_true qz4; have q383 : t380 < (((rd_T79 l0_0 x17_1).f2).length : Int) := of_decide_eq_true qz4; obtain ⟨ad383, e383, hx383_0, hx383_1, hx383_2⟩ := at_T72 HR378_2.out t380 p383 q383; obtain rfl : ad382 = ad383 := (by injection e383); replace hx383_0 := pw_cell_below HB.out hx383_0; replace hx383_1 := pw_cell_below HB.out hx383_1; replace hx383_2 := pw_cell_below HB.out hx383_2; replace p383 := eq_true p383; replace q383 := eq_true q383))
   repeat (go_quiet (first | ((with_reducible refine gate_dst (N := 7) rfl ?_); refine bx_ 7 #[.int .i64 0, .int .i64 0, .slice none 0 0] 79 ?_; intro gb379 hg w16 hbox hb; have n0_ := aM (blk_below (bk_ BK376.out) hb); have n1_ := aM (below_step qz12 hb); have n2_ := aM (hbox); have n3_ := aM ((by rw [hg]; exact (below_size qz12) : w.heap.size ≤ gb379)); have n4_ := aM ((by rw [hg]; exact (below_size qz12) : w.heap.size ≤ gb379)); have n5_ := aM ((by rw [hg]; exact Nat.ne_of_lt (blk_lt (bk_ BK376.out)) : gb376 ≠ gb379)); have n6_ := aM ((by rw [hg]; exact Nat.ne_of_gt (blk_lt (bk_ BK376.out)) : gb379 ≠ gb376)); clear BK376 HB; have BK376 := n0_; have HB := n1_; have BK379 := n2_; have GW379 := n3_; have GE379 := n4_; have NB376_379 := n5_; have NB379_376 := n6_; clear n0_ n1_ n2_ n3_ n4_ n5_ n6_; clear hb hbox hg; have hnb17 := NB379_376.out; have hnc17 := NB376_379.out; obtain ⟨hcz18_0, hcz18_1, hcz18_2, hfz18_0, hfz18_1, hfz18_2⟩ := b6_ BK379.out) | (go_at_call 67; (with_reducible refine (impl_stackAt.calls k1 ((rd_T79 l0_0 x17_1).f0) ((rd_T79 l0_0 x17_1).f1) _ _ ((rd_T79 l0_0 x17_1).f2) a1 t380 true _ ?side1 ?side2 A12.out).mono ?_); (case side1 => exact Kd.C_below HR378_2.out qz22); (case side2 => exact HC378_2.out); rintro e w19 ⟨rfl, hb⟩; have n0_ := aM (blk_below (g := gb376) (o := .cells #[.slice (some ad378) l0_0.length c0_0] 26 (0, 0)) qz23 hb); have n1_ := aM (blk_below (g := gb379) (o := .cells #[.int .i64 ((rd_T79 l0_0 x17_1).f0), .int .i64 ((rd_T79 l0_0 x17_1).f1), .slice A378_2 ((rd_T79 l0_0 x17_1).f2).length c378_2] 79 (0, 0)) (by (with_reducible repeat (first | refine blk_drewN ?_ _ | refine blk_drew ?_ | refine blk_alloc ?_ _)); refine blk_put (cs := #[.int .i64 ((rd_T79 l0_0 x17_1).f0), .int .i64 ((rd_T79 l0_0 x17_1).f1), .slice none 0 0]) ?_ 2 _ rfl; (with_reducible repeat (first | refine blk_drewN ?_ _ | refine blk_drew ?_ | refine blk_alloc ?_ _)); refine blk_put (cs := #[.int .i64 ((rd_T79 l0_0 x17_1).f0), .int .i64 0, .slice none 0 0]) ?_ 1 _ rfl; (with_reducible repeat (first | refine blk_drewN ?_ _ | refine blk_drew ?_ | refine blk_alloc ?_ _)); refine blk_put (cs := #[.int .i64 0, .int .i64 0, .slice none 0 0]) ?_ 0 _ rfl; exact bk_ BK379.out) hb); have n2_ := aM (below_step qz22 hb); clear BK376 BK379 HB; have BK376 := n0_; have BK379 := n1_; have HB := n2_; clear n0_ n1_ n2_; (try clear hb); (try clear hb2); (try clear hk); (try clear hi); obtain ⟨hcz20_0, hcz20_1, hcz20_2, hfz20_0, hfz20_1, hfz20_2⟩ := b6_ BK379.out; have p382 : 0 ≤ (t380 : Int) := of_decide_eq_true qz4; have q382 : t380 < (((rd_T79 l0_0 x17_1).f2).length : Int) := of_decide_eq_true qz4; obtain ⟨ad382, e382, hx382_0, hx382_1, hx382_2⟩ := at_T72 HR378_2.out t380 p382 q382; cases e382; replace hx382_0 := pw_cell_below HB.out hx382_0; replace hx382_1 := pw_cell_below HB.out hx382_1; replace hx382_2 := pw_cell_below HB.out hx382_2; replace p382 := eq_true p382; replace q382 := eq_true q382; have p383 : 0 ≤ (t380 : Int) := of_decide_eq_true qz4; have q383 : t380 < (((rd_T79 l0_0 x17_1).f2).length : Int) := of_decide_eq_true qz4; obtain ⟨ad383, e383, hx383_0, hx383_1, hx383_2⟩ := at_T72 HR378_2.out t380 p383 q383; obtain rfl : ad382 = ad383 := (by injection e383); replace hx383_0 := pw_cell_below HB.out hx383_0; replace hx383_1 := pw_cell_below HB.out hx383_1; replace hx383_2 := pw_cell_below HB.out hx383_2; replace p383 := eq_true p383; replace q383 := eq_true q383)); try go_wp2_with (first | ((with_reducible refine gate_dst (N := 7) rfl ?_); refine bx_ 7 #[.int .i64 0, .int .i64 0, .slice none 0 0] 79 ?_; intro gb379 hg w16 hbox hb; have n0_ := aM (blk_below (bk_ BK376.out) hb); have n1_ := aM (below_step qz12 hb); have n2_ := aM (hbox); have n3_ := aM ((by rw [hg]; exact (below_size qz12) : w.heap.size ≤ gb379)); have n4_ := aM ((by rw [hg]; exact (below_size qz12) : w.heap.size ≤ gb379)); have n5_ := aM ((by rw [hg]; exact Nat.ne_of_lt (blk_lt (bk_ BK376.out)) : gb376 ≠ gb379)); have n6_ := aM ((by rw [hg]; exact Nat.ne_of_gt (blk_lt (bk_ BK376.out)) : gb379 ≠ gb376)); clear BK376 HB; have BK376 := n0_; have HB := n1_; have BK379 := n2_; have GW379 := n3_; have GE379 := n4_; have NB376_379 := n5_; have NB379_376 := n6_; clear n0_ n1_ n2_ n3_ n4_ n5_ n6_; clear hb hbox hg; have hnb17 := NB379_376.out; have hnc17 := NB376_379.out; obtain ⟨hcz18_0, hcz18_1, hcz18_2, hfz18_0, hfz18_1, hfz18_2⟩ := b6_ BK379.out) | (go_at_call 67; (with_reducible refine (impl_stackAt.calls k1 ((rd_T79 l0_0 x17_1).f0) ((rd_T79 l0_0 x17_1).f1) _ _ ((rd_T79 l0_0 x17_1).f2) a1 t380 true _ ?side1 ?side2 A12.out).mono ?_); (case side1 => exact Kd.C_below HR378_2.out qz22); (case side2 => exact HC378_2.out); rintro e w19 ⟨rfl, hb⟩; have n0_ := aM (blk_below (g := gb376) (o := .cells #[.slice (some ad378) l0_0.length c0_0] 26 (0, 0)) qz23 hb); have n1_ := aM (blk_below (g := gb379) (o := .cells #[.int .i64 ((rd_T79 l0_0 x17_1).f0), .int .i64 ((rd_T79 l0_0 x17_1).f1), .slice A378_2 ((rd_T79 l0_0 x17_1).f2).length c378_2] 79 (0, 0)) (by (with_reducible repeat (first | refine blk_drewN ?_ _ | refine blk_drew ?_ | refine blk_alloc ?_ _)); refine blk_put (cs := #[.int .i64 ((rd_T79 l0_0 x17_1).f0), .int .i64 ((rd_T79 l0_0 x17_1).f1), .slice none 0 0]) ?_ 2 _ rfl; (with_reducible repeat (first | refine blk_drewN ?_ _ | refine blk_drew ?_ | refine blk_alloc ?_ _)); refine blk_put (cs := #[.int .i64 ((rd_T79 l0_0 x17_1).f0), .int .i64 0, .slice none 0 0]) ?_ 1 _ rfl; (with_reducible repeat (first | refine blk_drewN ?_ _ | refine blk_drew ?_ | refine blk_alloc ?_ _)); refine blk_put (cs := #[.int .i64 0, .int .i64 0, .slice none 0 0]) ?_ 0 _ rfl; exact bk_ BK379.out) hb); have n2_ := aM (below_step qz22 hb); clear BK376 BK379 HB; have BK376 := n0_; have BK379 := n1_; have HB := n2_; clear n0_ n1_ n2_; (try clear hb); (try clear hb2); (try clear hk); (try clear hi); obtain ⟨hcz20_0, hcz20_1, hcz20_2, hfz20_0, hfz20_1, hfz20_2⟩ := b6_ BK379.out; have p382 : 0 ≤ (t380 : Int) := of_decide_eq_true qz4; have q382 : t380 < (((rd_T79 l0_0 x17_1).f2).length : Int) := of_decide_eq_true qz4; obtain ⟨ad382, e382, hx382_0, hx382_1, hx382_2⟩ := at_T72 HR378_2.out t380 p382 q382; cases e382; replace hx382_0 := pw_cell_below HB.out hx382_0; replace hx382_1 := pw_cell_below HB.out hx382_1; replace hx382_2 := pw_cell_below HB.out hx382_2; replace p382 := eq_true p382; replace q382 := eq_true q382; have p383 : 0 ≤ (t380 : Int) := of_decide_eq_true qz4; have q383 : t380 < (((rd_T79 l0_0 x17_1).f2).length : Int) := of_decide_eq_true qz4; obtain ⟨ad383, e383, hx383_0, hx383_1, hx383_2⟩ := at_T72 HR378_2.out t380 p383 q383; obtain rfl : ad382 = ad383 := (by injection e383); replace hx383_0 := pw_cell_below HB.out hx383_0; replace hx383_1 := pw_cell_below HB.out hx383_1; replace hx383_2 := pw_cell_below HB.out hx383_2; replace p383 := eq_true p383; replace q383 := eq_true q383)))
   go_roundg k1
   case measure => have := HK1.out; omega
   case rel => exact ⟨(wrap64 (x5_1 + (wrap64 (((rd_T72 ((rd_T79 l0_0 x17_1).f2) t380).f1) - ((rd_T72 ((rd_T79 l0_0 x17_1).f2) t380).f2))))), (wrap64 (x17_1 + 1)), qz13, qz13, H', ⟨by have := HK1.out; omega⟩, ⟨bk_ BK376.out⟩, ⟨by repeat (first | (with_reducible first | exact HB.out | apply below_alloc | apply pw_below_drewN | apply below_drew1 | refine below_set ?_ GE376.out | refine below_set ?_ GE379.out) | exact HB.out)⟩⟩
   }
   {
   rw [if_neg c15] at H
   exact absurd H (by simp)
   }
   }
   {
   rw [if_neg c14] at H
   exact absurd H (by simp)
   }
   }
   {
   replace c13 := Bool.eq_false_iff.mpr c13
   subst c13
   rw [if_neg (show ¬ (false = true) by decide)] at H
   have H' := aM H
   clear H
   have p378 : 0 ≤ (x17_1 : Int) := of_decide_eq_true qz4
   have q378 : x17_1 < (l0_0.length : Int) := of_decide_eq_true qz4
   obtain ⟨ad378, A378_2, c378_2, e378, hx378_0, hx378_1, hx378_2, hl378_2, hi378_2⟩ := at_T79 HR0_0.out x17_1 p378 q378
   cases e378
   replace hx378_0 := pw_cell_below HB.out hx378_0
   replace hx378_1 := pw_cell_below HB.out hx378_1
   replace hx378_2 := pw_cell_below HB.out hx378_2
   have HR378_2 := aM hi378_2
   have HC378_2 := aM hl378_2
   clear hi378_2 hl378_2
   replace p378 := eq_true p378
   replace q378 := eq_true q378
   go_wp2_with (first | ((with_reducible refine gate_dst (N := 7) rfl ?_); refine bx_ 7 #[.int .i64 0, .int .i64 0, .slice none 0 0] 79 ?_; intro gb379 hg w21 hbox hb; have n0_ := aM (blk_below (bk_ BK376.out) hb); have n1_ := aM (below_step qz12 hb); have n2_ := aM (hbox); have n3_ := aM ((by rw [hg]; exact (below_size qz12) : w.heap.size ≤ gb379)); have n4_ := aM ((by rw [hg]; exact (below_size qz12) : w.heap.size ≤ gb379)); have n5_ := aM ((by rw [hg]; exact Nat.ne_of_lt (blk_lt (bk_ BK376.out)) : gb376 ≠ gb379)); have n6_ := aM ((by rw [hg]; exact Nat.ne_of_gt (blk_lt (bk_ BK376.out)) : gb379 ≠ gb376)); clear BK376 HB; have BK376 := n0_; have HB := n1_; have BK379 := n2_; have GW379 := n3_; have GE379 := n4_; have NB376_379 := n5_; have NB379_376 := n6_; clear n0_ n1_ n2_ n3_ n4_ n5_ n6_; clear hb hbox hg; have hnb22 := NB379_376.out; have hnc22 := NB376_379.out; obtain ⟨hcz23_0, hcz23_1, hcz23_2, hfz23_0, hfz23_1, hfz23_2⟩ := b6_ BK379.out) | (go_at_call 67; (with_reducible refine (impl_stackAt.calls k1 ((rd_T79 l0_0 x17_1).f0) ((rd_T79 l0_0 x17_1).f1) _ _ ((rd_T79 l0_0 x17_1).f2) a1 t380 false _ ?side1 ?side2 A12.out).mono ?_); (case side1 => exact Kd.C_below HR378_2.out qz22); (case side2 => exact HC378_2.out); rintro e w24 ⟨rfl, hb⟩; have n0_ := aM (blk_below (g := gb376) (o := .cells #[.slice (some ad378) l0_0.length c0_0] 26 (0, 0)) qz23 hb); have n1_ := aM (blk_below (g := gb379) (o := .cells #[.int .i64 ((rd_T79 l0_0 x17_1).f0), .int .i64 ((rd_T79 l0_0 x17_1).f1), .slice A378_2 ((rd_T79 l0_0 x17_1).f2).length c378_2] 79 (0, 0)) (by (with_reducible repeat (first | refine blk_drewN ?_ _ | refine blk_drew ?_ | refine blk_alloc ?_ _)); refine blk_put (cs := #[.int .i64 ((rd_T79 l0_0 x17_1).f0), .int .i64 ((rd_T79 l0_0 x17_1).f1), .slice none 0 0]) ?_ 2 _ rfl; (with_reducible repeat (first | refine blk_drewN ?_ _ | refine blk_drew ?_ | refine blk_alloc ?_ _)); refine blk_put (cs := #[.int .i64 ((rd_T79 l0_0 x17_1).f0), .int .i64 0, .slice none 0 0]) ?_ 1 _ rfl; (with_reducible repeat (first | refine blk_drewN ?_ _ | refine blk_drew ?_ | refine blk_alloc ?_ _)); refine blk_put (cs := #[.int .i64 0, .int .i64 0, .slice none 0 0]) ?_ 0 _ rfl; exact bk_ BK379.out) hb); have n2_ := aM (below_step qz22 hb); clear BK376 BK379 HB; have BK376 := n0_; have BK379 := n1_; have HB := n2_; clear n0_ n1_ n2_; (try clear hb); (try clear hb2); (try clear hk); (try clear hi)))
   repeat (go_quiet (first | ((with_reducible refine gate_dst (N := 7) rfl ?_); refine bx_ 7 #[.int .i64 0, .int .i64 0, .slice none 0 0] 79 ?_; intro gb379 hg w21 hbox hb; have n0_ := aM (blk_below (bk_ BK376.out) hb); have n1_ := aM (below_step qz12 hb); have n2_ := aM (hbox); have n3_ := aM ((by rw [hg]; exact (below_size qz12) : w.heap.size ≤ gb379)); have n4_ := aM ((by rw [hg]; exact (below_size qz12) : w.heap.size ≤ gb379)); have n5_ := aM ((by rw [hg]; exact Nat.ne_of_lt (blk_lt (bk_ BK376.out)) : gb376 ≠ gb379)); have n6_ := aM ((by rw [hg]; exact Nat.ne_of_gt (blk_lt (bk_ BK376.out)) : gb379 ≠ gb376)); clear BK376 HB; have BK376 := n0_; have HB := n1_; have BK379 := n2_; have GW379 := n3_; have GE379 := n4_; have NB376_379 := n5_; have NB379_376 := n6_; clear n0_ n1_ n2_ n3_ n4_ n5_ n6_; clear hb hbox hg; have hnb22 := NB379_376.out; have hnc22 := NB376_379.out; obtain ⟨hcz23_0, hcz23_1, hcz23_2, hfz23_0, hfz23_1, hfz23_2⟩ := b6_ BK379.out) | (go_at_call 67; (with_reducible refine (impl_stackAt.calls k1 ((rd_T79 l0_0 x17_1).f0) ((rd_T79 l0_0 x17_1).f1) _ _ ((rd_T79 l0_0 x17_1).f2) a1 t380 false _ ?side1 ?side2 A12.out).mono ?_); (case side1 => exact Kd.C_below HR378_2.out qz22); (case side2 => exact HC378_2.out); rintro e w24 ⟨rfl, hb⟩; have n0_ := aM (blk_below (g := gb376) (o := .cells #[.slice (some ad378) l0_0.length c0_0] 26 (0, 0)) qz23 hb); have n1_ := aM (blk_below (g := gb379) (o := .cells #[.int .i64 ((rd_T79 l0_0 x17_1).f0), .int .i64 ((rd_T79 l0_0 x17_1).f1), .slice A378_2 ((rd_T79 l0_0 x17_1).f2).length c378_2] 79 (0, 0)) (by (with_reducible repeat (first | refine blk_drewN ?_ _ | refine blk_drew ?_ | refine blk_alloc ?_ _)); refine blk_put (cs := #[.int .i64 ((rd_T79 l0_0 x17_1).f0), .int .i64 ((rd_T79 l0_0 x17_1).f1), .slice none 0 0]) ?_ 2 _ rfl; (with_reducible repeat (first | refine blk_drewN ?_ _ | refine blk_drew ?_ | refine blk_alloc ?_ _)); refine blk_put (cs := #[.int .i64 ((rd_T79 l0_0 x17_1).f0), .int .i64 0, .slice none 0 0]) ?_ 1 _ rfl; (with_reducible repeat (first | refine blk_drewN ?_ _ | refine blk_drew ?_ | refine blk_alloc ?_ _)); refine blk_put (cs := #[.int .i64 0, .int .i64 0, .slice none 0 0]) ?_ 0 _ rfl; exact bk_ BK379.out) hb); have n2_ := aM (below_step qz22 hb); clear BK376 BK379 HB; have BK376 := n0_; have BK379 := n1_; have HB := n2_; clear n0_ n1_ n2_; (try clear hb); (try clear hb2); (try clear hk); (try clear hi))); try go_wp2_with (first | ((with_reducible refine gate_dst (N := 7) rfl ?_); refine bx_ 7 #[.int .i64 0, .int .i64 0, .slice none 0 0] 79 ?_; intro gb379 hg w21 hbox hb; have n0_ := aM (blk_below (bk_ BK376.out) hb); have n1_ := aM (below_step qz12 hb); have n2_ := aM (hbox); have n3_ := aM ((by rw [hg]; exact (below_size qz12) : w.heap.size ≤ gb379)); have n4_ := aM ((by rw [hg]; exact (below_size qz12) : w.heap.size ≤ gb379)); have n5_ := aM ((by rw [hg]; exact Nat.ne_of_lt (blk_lt (bk_ BK376.out)) : gb376 ≠ gb379)); have n6_ := aM ((by rw [hg]; exact Nat.ne_of_gt (blk_lt (bk_ BK376.out)) : gb379 ≠ gb376)); clear BK376 HB; have BK376 := n0_; have HB := n1_; have BK379 := n2_; have GW379 := n3_; have GE379 := n4_; have NB376_379 := n5_; have NB379_376 := n6_; clear n0_ n1_ n2_ n3_ n4_ n5_ n6_; clear hb hbox hg; have hnb22 := NB379_376.out; have hnc22 := NB376_379.out; obtain ⟨hcz23_0, hcz23_1, hcz23_2, hfz23_0, hfz23_1, hfz23_2⟩ := b6_ BK379.out) | (go_at_call 67; (with_reducible refine (impl_stackAt.calls k1 ((rd_T79 l0_0 x17_1).f0) ((rd_T79 l0_0 x17_1).f1) _ _ ((rd_T79 l0_0 x17_1).f2) a1 t380 false _ ?side1 ?side2 A12.out).mono ?_); (case side1 => exact Kd.C_below HR378_2.out qz22); (case side2 => exact HC378_2.out); rintro e w24 ⟨rfl, hb⟩; have n0_ := aM (blk_below (g := gb376) (o := .cells #[.slice (some ad378) l0_0.length c0_0] 26 (0, 0)) qz23 hb); have n1_ := aM (blk_below (g := gb379) (o := .cells #[.int .i64 ((rd_T79 l0_0 x17_1).f0), .int .i64 ((rd_T79 l0_0 x17_1).f1), .slice A378_2 ((rd_T79 l0_0 x17_1).f2).length c378_2] 79 (0, 0)) (by (with_reducible repeat (first | refine blk_drewN ?_ _ | refine blk_drew ?_ | refine blk_alloc ?_ _)); refine blk_put (cs := #[.int .i64 ((rd_T79 l0_0 x17_1).f0), .int .i64 ((rd_T79 l0_0 x17_1).f1), .slice none 0 0]) ?_ 2 _ rfl; (with_reducible repeat (first | refine blk_drewN ?_ _ | refine blk_drew ?_ | refine blk_alloc ?_ _)); refine blk_put (cs := #[.int .i64 ((rd_T79 l0_0 x17_1).f0), .int .i64 0, .slice none 0 0]) ?_ 1 _ rfl; (with_reducible repeat (first | refine blk_drewN ?_ _ | refine blk_drew ?_ | refine blk_alloc ?_ _)); refine blk_put (cs := #[.int .i64 0, .int .i64 0, .slice none 0 0]) ?_ 0 _ rfl; exact bk_ BK379.out) hb); have n2_ := aM (below_step qz22 hb); clear BK376 BK379 HB; have BK376 := n0_; have BK379 := n1_; have HB := n2_; clear n0_ n1_ n2_; (try clear hb); (try clear hb2); (try clear hk); (try clear hi))))
   go_roundg k1
   case measure => have := HK1.out; omega
   case rel => exact ⟨(x5_1), (wrap64 (x17_1 + 1)), qz13, qz13, H', ⟨by have := HK1.out; omega⟩, ⟨bk_ BK376.out⟩, ⟨by repeat (first | (with_reducible first | exact HB.out | apply below_alloc | apply pw_below_drewN | apply below_drew1 | refine below_set ?_ GE376.out | refine below_set ?_ GE379.out) | exact HB.out)⟩⟩
   }
   }
   {
   rw [if_neg c11] at H
   exact absurd H (by simp)
   }
   }
   {
   rw [if_neg c10] at H
   exact absurd H (by simp)
   }
   }
   {
   rw [if_neg c9] at H
   have c9b0 := decide_eq_false c9
   clear c9
   obtain rfl := Option.some.inj H
   simp only [Option.some.injEq, Prod.mk.injEq] at H
   obtain ⟨rfl⟩ := H
   go_wp2
   repeat (go_quiet (fail); try go_wp2)
   go_ret
   exact ⟨by first | rfl | (simp [errW_none, errW_some] <;> rfl) | (simp [*, errW_none, errW_some] <;> rfl), by repeat (first | (with_reducible first | exact HB.out | apply below_alloc | apply pw_below_drewN | apply below_drew1 | refine below_set ?_ GE376.out) | exact HB.out)⟩
   }
 }
 {
 replace c4 := Bool.eq_false_iff.mpr c4
 subst c4
 rw [if_neg (show ¬ (false = true) by decide)] at H
 obtain rfl := Option.some.inj H
 simp only [Option.some.injEq, Prod.mk.injEq] at H
 obtain ⟨rfl⟩ := H
 go_enter Try.func22, Try.ntmps22
 go_wp2_with (first | ((with_reducible refine gate_dst (N := 2) rfl ?_); refine bx_ 2 #[.slice A0_0 l0_0.length c0_0] 26 ?_; intro gb376 hg w25 hbox hb; have n0_ := aM (below_step qz2 hb); have n1_ := aM (hbox); have n2_ := aM ((by rw [hg]; exact (below_size qz2) : w.heap.size ≤ gb376)); have n3_ := aM ((by rw [hg]; exact (below_size qz2) : w.heap.size ≤ gb376)); clear HB; have HB := n0_; have BK376 := n1_; have GW376 := n2_; have GE376 := n3_; clear n0_ n1_ n2_ n3_; clear hb hbox hg; have hcz26_0 := bc0_ BK376.out; have hfz26_0 := blk_frozen BK376.out 0) | (go_at_call 21; (with_reducible refine (impl_StockOk.calls k _ _ l0_0 false _ ?side1 ?side2 A3.out).mono ?_); (case side1 => exact qz17); (case side2 => exact HC0_0.out); rintro e w27 ⟨rfl, hb⟩; have n0_ := aM (blk_below (bk_ BK376.out) hb); have n1_ := aM (below_step qz12 hb); clear BK376 HB; have BK376 := n0_; have HB := n1_; clear n0_ n1_; (try clear hb); (try clear hb2); (try clear hk); (try clear hi)))
 repeat (go_quiet (first | ((with_reducible refine gate_dst (N := 2) rfl ?_); refine bx_ 2 #[.slice A0_0 l0_0.length c0_0] 26 ?_; intro gb376 hg w25 hbox hb; have n0_ := aM (below_step qz2 hb); have n1_ := aM (hbox); have n2_ := aM ((by rw [hg]; exact (below_size qz2) : w.heap.size ≤ gb376)); have n3_ := aM ((by rw [hg]; exact (below_size qz2) : w.heap.size ≤ gb376)); clear HB; have HB := n0_; have BK376 := n1_; have GW376 := n2_; have GE376 := n3_; clear n0_ n1_ n2_ n3_; clear hb hbox hg; have hcz26_0 := bc0_ BK376.out; have hfz26_0 := blk_frozen BK376.out 0) | (go_at_call 21; (with_reducible refine (impl_StockOk.calls k _ _ l0_0 false _ ?side1 ?side2 A3.out).mono ?_); (case side1 => exact qz17); (case side2 => exact HC0_0.out); rintro e w27 ⟨rfl, hb⟩; have n0_ := aM (blk_below (bk_ BK376.out) hb); have n1_ := aM (below_step qz12 hb); clear BK376 HB; have BK376 := n0_; have HB := n1_; clear n0_ n1_; (try clear hb); (try clear hb2); (try clear hk); (try clear hi))); try go_wp2_with (first | ((with_reducible refine gate_dst (N := 2) rfl ?_); refine bx_ 2 #[.slice A0_0 l0_0.length c0_0] 26 ?_; intro gb376 hg w25 hbox hb; have n0_ := aM (below_step qz2 hb); have n1_ := aM (hbox); have n2_ := aM ((by rw [hg]; exact (below_size qz2) : w.heap.size ≤ gb376)); have n3_ := aM ((by rw [hg]; exact (below_size qz2) : w.heap.size ≤ gb376)); clear HB; have HB := n0_; have BK376 := n1_; have GW376 := n2_; have GE376 := n3_; clear n0_ n1_ n2_ n3_; clear hb hbox hg; have hcz26_0 := bc0_ BK376.out; have hfz26_0 := blk_frozen BK376.out 0) | (go_at_call 21; (with_reducible refine (impl_StockOk.calls k _ _ l0_0 false _ ?side1 ?side2 A3.out).mono ?_); (case side1 => exact qz17); (case side2 => exact HC0_0.out); rintro e w27 ⟨rfl, hb⟩; have n0_ := aM (blk_below (bk_ BK376.out) hb); have n1_ := aM (below_step qz12 hb); clear BK376 HB; have BK376 := n0_; have HB := n1_; clear n0_ n1_; (try clear hb); (try clear hb2); (try clear hk); (try clear hi))))
 go_ret
 exact ⟨by first | rfl | (simp [errW_none, errW_some] <;> rfl) | (simp [*, errW_none, errW_some] <;> rfl), by repeat (first | (with_reducible first | exact HB.out | apply below_alloc | apply pw_below_drewN | apply below_drew1 | refine below_set ?_ GE376.out) | exact HB.out)⟩

 }
/-! ### impl_Count: function 23 -/
def impl_Count.l0 : Nat → Int → Int → List (S79) → Int → Int → Option (Int)
 | 0, _, _, _, _, _ => none
 | k + 1, x1, x5, x15, x16, x17 => if x17 < x16 then (if 0 ≤ x17 then (if x17 < (x15.length : Int) then ((impl_stackAt.f k ((rd_T79 x15 x17).f0) ((rd_T79 x15 x17).f1) ((rd_T79 x15 x17).f2) x1).bind fun bt388 => (if bt388.2 = true then (if 0 ≤ bt388.1 then (if bt388.1 < (((rd_T79 x15 x17).f2).length : Int) then (impl_Count.l0 k x1 (wrap64 (x5 + ((rd_T72 ((rd_T79 x15 x17).f2) bt388.1).f1))) x15 x16 (wrap64 (x17 + 1))) else (none)) else (none)) else (impl_Count.l0 k x1 x5 x15 x16 (wrap64 (x17 + 1))))) else (none)) else (none)) else (some x5)
def impl_Count.f (k : Nat) (l0_0 : List (S79)) (a1 : Int) : Option (Int) := (impl_StockOk.f k l0_0).bind fun t385 => (if t385 = true then (impl_Count.l0 k a1 0 l0_0 (l0_0.length : Int) 0) else (some 0))
theorem impl_Count.mono_l : ∀ k, (∀ y0 y1 y2 y3 y4, LeO (impl_Count.l0 k y0 y1 y2 y3 y4) (impl_Count.l0 (k + 1) y0 y1 y2 y3 y4))
 | 0 => fun _ _ _ _ _ r h => by simp [impl_Count.l0] at h
 | k + 1 => by
  have ih0 := impl_Count.mono_l k
  {
  intro y0 y1 y2 y3 y4
  unfold impl_Count.l0
  repeat' first
  | (with_reducible first | exact ih0 _ _ _ _ _ | exact impl_StockOk.mono _ _ | exact impl_stackAt.mono _ _ _ _ _ | exact LeO.refl _ | exact LeO.none _ | refine LeO.ite ?_ ?_ | refine LeO.bind ?_ (fun _ => ?_))
  | exact ih0 _ _ _ _ _
  | exact impl_StockOk.mono _ _
  | exact impl_stackAt.mono _ _ _ _ _
  | exact LeO.none _
  | refine LeO.ite ?_ ?_
  | refine LeO.bind ?_ (fun _ => ?_)
  }
theorem impl_Count.mono : ∀ a0 a1 k, LeO (impl_Count.f k a0 a1) (impl_Count.f (k + 1) a0 a1) := by
 intro a0 a1 k
 have ih0 := impl_Count.mono_l k
 unfold impl_Count.f
 repeat' first
  | (with_reducible first | exact ih0 _ _ _ _ _ | exact impl_StockOk.mono _ _ | exact impl_stackAt.mono _ _ _ _ _ | exact LeO.refl _ | exact LeO.none _ | refine LeO.ite ?_ ?_ | refine LeO.bind ?_ (fun _ => ?_))
  | exact ih0 _ _ _ _ _
  | exact impl_StockOk.mono _ _
  | exact impl_stackAt.mono _ _ _ _ _
  | exact LeO.none _
  | refine LeO.ite ?_ ?_
  | refine LeO.bind ?_ (fun _ => ?_)
set_option maxHeartbeats 8000000 in
set_option maxRecDepth 100000 in
theorem impl_Count.calls (k : Nat) (A0_0 : Option Addr) (c0_0 : Nat) (l0_0 : List (S79)) (a1 : Int) (r : Int) (w : World) (hr0_0 : Kd.C k79 w A0_0 l0_0.length l0_0) (hc0_0 : l0_0.length ≤ c0_0) (h : impl_Count.f k l0_0 a1 = some r) :
  Calls Try.prog 23 #[.agg #[.slice A0_0 l0_0.length c0_0], .int .i64 a1] w fun e w' => e = .returned (.int .i64 r) ∧ Below w.heap.size w w' := by
 have hu26 := Try.underlying26
 have hu79 := Try.underlying79
 have HR0_0 := aM hr0_0
 have HC0_0 := aM hc0_0
 clear hr0_0 hc0_0
 have HB := aM (Below.refl w.heap.size w)
 have H : ((impl_StockOk.f k l0_0).bind fun t385 => (if t385 = true then (impl_Count.l0 k a1 0 l0_0 (l0_0.length : Int) 0) else (some 0))) = some r := h
 clear h
 replace H := Option.bind_eq_some_iff.mp H
 obtain ⟨t385, A30, H⟩ := H
 replace H : (if t385 = true then (impl_Count.l0 k a1 0 l0_0 (l0_0.length : Int) 0) else (some 0)) = some r := H
 have A3 := aM A30
 clear A30
 by_cases c4 : t385 = true
 {
 subst c4
 rw [if_pos rfl] at H
 have H' := aM H
 clear H
 go_enter Try.func23, Try.ntmps23
 go_wp2_with (first | ((with_reducible refine gate_dst (N := 2) rfl ?_); refine bx_ 2 #[.slice A0_0 l0_0.length c0_0] 26 ?_; intro gb384 hg w5 hbox hb; have n0_ := aM (below_step qz2 hb); have n1_ := aM (hbox); have n2_ := aM ((by rw [hg]; exact (below_size qz2) : w.heap.size ≤ gb384)); have n3_ := aM ((by rw [hg]; exact (below_size qz2) : w.heap.size ≤ gb384)); clear HB; have HB := n0_; have BK384 := n1_; have GW384 := n2_; have GE384 := n3_; clear n0_ n1_ n2_ n3_; clear hb hbox hg; have hcz6_0 := bc0_ BK384.out; have hfz6_0 := blk_frozen BK384.out 0) | ((with_reducible refine gate_callee (f := 21) rfl ?_); refine goesL_ (some 11) rfl rfl Try.func21 (by kernel_rfl) rfl #[.agg #[.slice A0_0 l0_0.length c0_0]] rfl qz1 ?_; (with_reducible refine (impl_StockOk.calls k _ _ l0_0 true _ ?side1 ?side2 A3.out).mono ?_); (case side1 => exact qz17); (case side2 => exact HC0_0.out); rintro e w7 ⟨rfl, hb⟩; refine ⟨_, rfl, ?_⟩; have n0_ := aM (blk_below (bk_ BK384.out) hb); have n1_ := aM (below_step qz47 hb); clear BK384 HB; have BK384 := n0_; have HB := n1_; clear n0_ n1_; (try clear hb); (try clear hb2); (try clear hk); (try clear hi); have hcz8_0 := bc0_ BK384.out; have hfz8_0 := blk_frozen BK384.out 0))
 go_loopg [5, 17] k (fun kq v5 v17 w' => ∃ (x5_1 : Int) (x17_1 : Int), v5 = .int .i64 x5_1 ∧ v17 = .int .i64 x17_1 ∧ Aside0 (impl_Count.l0 kq a1 x5_1 l0_0 (l0_0.length : Int) x17_1 = some r) ∧ Aside0 (kq ≤ k) ∧ Aside0 (w'.heap[gb384]? = some (.cells #[(.slice A0_0 l0_0.length c0_0)] 26 (0, 0))) ∧ Aside0 (Below w.heap.size w w'))
 case atStart => exact ⟨(0), (0), qz13, qz13, H', ⟨Nat.le_refl _⟩, ⟨bk_ BK384.out⟩, ⟨by repeat (first | (with_reducible first | exact HB.out | apply below_alloc | apply pw_below_drewN | apply below_drew1 | refine below_set ?_ GE384.out) | exact HB.out)⟩⟩
 case round =>
  clear H'
  try clear c2
  try clear p2
  try clear c4
  try clear hcz6_0
  try clear hcz8_0
  try clear hfz6_0
  try clear hfz8_0
  obtain ⟨x5_1, x17_1, rfl, rfl, HA, HK1, BK384, HB⟩ := hrel
  cases gk with
  | zero => exact absurd HA.out (by simp [impl_Count.l0])
  | succ k1 =>
   have H := HA.out
   clear HA
   simp only [impl_Count.l0] at H
   by_cases c9 : x17_1 < (l0_0.length : Int)
   {
   rw [if_pos c9] at H
   have c9b0 := decide_eq_true c9
   clear c9
   by_cases c10 : 0 ≤ x17_1
   {
   rw [if_pos c10] at H
   have c10b0 := decide_eq_true c10
   clear c10
   by_cases c11 : x17_1 < (l0_0.length : Int)
   {
   rw [if_pos c11] at H
   have c11b0 := decide_eq_true c11
   clear c11
   replace H := Option.bind_eq_some_iff.mp H
   obtain ⟨⟨t388, t389⟩, A120, H⟩ := H
   replace H : (if t389 = true then (if 0 ≤ t388 then (if t388 < (((rd_T79 l0_0 x17_1).f2).length : Int) then (impl_Count.l0 k1 a1 (wrap64 (x5_1 + ((rd_T72 ((rd_T79 l0_0 x17_1).f2) t388).f1))) l0_0 (l0_0.length : Int) (wrap64 (x17_1 + 1))) else (none)) else (none)) else (impl_Count.l0 k1 a1 x5_1 l0_0 (l0_0.length : Int) (wrap64 (x17_1 + 1)))) = some r := H
   have A12 := aM A120
   clear A120
   by_cases c13 : t389 = true
   {
   subst c13
   rw [if_pos rfl] at H
   by_cases c14 : 0 ≤ t388
   {
   rw [if_pos c14] at H
   have c14b0 := decide_eq_true c14
   clear c14
   by_cases c15 : t388 < (((rd_T79 l0_0 x17_1).f2).length : Int)
   {
   rw [if_pos c15] at H
   have c15b0 := decide_eq_true c15
   clear c15
   have H' := aM H
   clear H
   have p386 : 0 ≤ (x17_1 : Int) := of_decide_eq_true qz4
   have q386 : x17_1 < (l0_0.length : Int) := of_decide_eq_true qz4
   obtain ⟨ad386, A386_2, c386_2, e386, hx386_0, hx386_1, hx386_2, hl386_2, hi386_2⟩ := at_T79 HR0_0.out x17_1 p386 q386
   cases e386
   replace hx386_0 := pw_cell_below HB.out hx386_0
   replace hx386_1 := pw_cell_below HB.out hx386_1
   replace hx386_2 := pw_cell_below HB.out hx386_2
   have HR386_2 := aM hi386_2
   have HC386_2 := aM hl386_2
   clear hi386_2 hl386_2
   replace p386 := eq_true p386
   replace q386 := eq_true q386
   go_wp2_with (first | ((with_reducible refine gate_dst (N := 7) rfl ?_); refine bx_ 7 #[.int .i64 0, .int .i64 0, .slice none 0 0] 79 ?_; intro gb387 hg w16 hbox hb; have n0_ := aM (blk_below (bk_ BK384.out) hb); have n1_ := aM (below_step qz47 hb); have n2_ := aM (hbox); have n3_ := aM ((by rw [hg]; exact (below_size qz47) : w.heap.size ≤ gb387)); have n4_ := aM ((by rw [hg]; exact (below_size qz47) : w.heap.size ≤ gb387)); have n5_ := aM ((by rw [hg]; exact Nat.ne_of_lt (blk_lt (bk_ BK384.out)) : gb384 ≠ gb387)); have n6_ := aM ((by rw [hg]; exact Nat.ne_of_gt (blk_lt (bk_ BK384.out)) : gb387 ≠ gb384)); clear BK384 HB; have BK384 := n0_; have HB := n1_; have BK387 := n2_; have GW387 := n3_; have GE387 := n4_; have NB384_387 := n5_; have NB387_384 := n6_; clear n0_ n1_ n2_ n3_ n4_ n5_ n6_; clear hb hbox hg; have hnb17 := NB387_384.out; have hnc17 := NB384_387.out; obtain ⟨hcz18_0, hcz18_1, hcz18_2, hfz18_0, hfz18_1, hfz18_2⟩ := b6_ BK387.out) | ((with_reducible refine gate_callee (f := 67) rfl ?_); refine goesL_ (some 24) rfl rfl Try.func67 (by kernel_rfl) rfl #[.agg #[.int .i64 ((rd_T79 l0_0 x17_1).f0), .int .i64 ((rd_T79 l0_0 x17_1).f1), .slice A386_2 ((rd_T79 l0_0 x17_1).f2).length c386_2], .int .i64 a1] rfl qz1 ?_; (with_reducible refine (impl_stackAt.calls k1 ((rd_T79 l0_0 x17_1).f0) ((rd_T79 l0_0 x17_1).f1) _ _ ((rd_T79 l0_0 x17_1).f2) a1 t388 true _ ?side1 ?side2 A12.out).mono ?_); (case side1 => exact Kd.C_below HR386_2.out qz71); (case side2 => exact HC386_2.out); rintro e w19 ⟨rfl, hb⟩; refine ⟨_, rfl, ?_⟩; have n0_ := aM (blk_below (g := gb384) (o := .cells #[.slice (some ad386) l0_0.length c0_0] 26 (0, 0)) qz80 hb); have n1_ := aM (blk_below (g := gb387) (o := .cells #[.int .i64 ((rd_T79 l0_0 x17_1).f0), .int .i64 ((rd_T79 l0_0 x17_1).f1), .slice A386_2 ((rd_T79 l0_0 x17_1).f2).length c386_2] 79 (0, 0)) (by (with_reducible repeat (first | refine blk_drewN ?_ _ | refine blk_drew ?_ | refine blk_alloc ?_ _)); refine blk_put (cs := #[.int .i64 ((rd_T79 l0_0 x17_1).f0), .int .i64 ((rd_T79 l0_0 x17_1).f1), .slice none 0 0]) ?_ 2 _ rfl; (with_reducible repeat (first | refine blk_drewN ?_ _ | refine blk_drew ?_ | refine blk_alloc ?_ _)); refine blk_put (cs := #[.int .i64 ((rd_T79 l0_0 x17_1).f0), .int .i64 0, .slice none 0 0]) ?_ 1 _ rfl; (with_reducible repeat (first | refine blk_drewN ?_ _ | refine blk_drew ?_ | refine blk_alloc ?_ _)); refine blk_put (cs := #[.int .i64 0, .int .i64 0, .slice none 0 0]) ?_ 0 _ rfl; exact bk_ BK387.out) hb); have n2_ := aM (below_step qz71 hb); clear BK384 BK387 HB; have BK384 := n0_; have BK387 := n1_; have HB := n2_; clear n0_ n1_ n2_; (try clear hb); (try clear hb2); (try clear hk); (try clear hi); obtain ⟨hcz20_0, hcz20_1, hcz20_2, hfz20_0, hfz20_1, hfz20_2⟩ := b6_ BK387.out; have p390 : 0 ≤ (t388 : Int) := of_decide_eq_true qz4; have q390 : t388 < (((rd_T79 l0_0 x17_1).f2).length : Int) := of_decide_eq_true qz4; obtain ⟨ad390, e390, hx390_0, hx390_1, hx390_2⟩ := at_T72 HR386_2.out t388 p390 q390; cases e390; replace hx390_0 := pw_cell_below HB.out hx390_0; replace hx390_1 := pw_cell_below HB.out hx390_1; replace hx390_2 := pw_cell_below HB.out hx390_2; replace p390 := eq_true p390; replace q390 := eq_true q390))
   go_roundg k1
   case measure => have := HK1.out; omega
   case rel => exact ⟨(wrap64 (x5_1 + ((rd_T72 ((rd_T79 l0_0 x17_1).f2) t388).f1))), (wrap64 (x17_1 + 1)), qz13, qz13, H', ⟨by have := HK1.out; omega⟩, ⟨bk_ BK384.out⟩, ⟨by repeat (first | (with_reducible first | exact HB.out | apply below_alloc | apply pw_below_drewN | apply below_drew1 | refine below_set ?_ GE384.out | refine below_set ?_ GE387.out) | exact HB.out)⟩⟩
   }
   {
   rw [if_neg c15] at H
   exact absurd H (by simp)
   }
   }
   {
   rw [if_neg c14] at H
   exact absurd H (by simp)
   }
   }
   {
   replace c13 := Bool.eq_false_iff.mpr c13
   subst c13
   rw [if_neg (show ¬ (false = true) by decide)] at H
   have H' := aM H
   clear H
   have p386 : 0 ≤ (x17_1 : Int) := of_decide_eq_true qz4
   have q386 : x17_1 < (l0_0.length : Int) := of_decide_eq_true qz4
   obtain ⟨ad386, A386_2, c386_2, e386, hx386_0, hx386_1, hx386_2, hl386_2, hi386_2⟩ := at_T79 HR0_0.out x17_1 p386 q386
   cases e386
   replace hx386_0 := pw_cell_below HB.out hx386_0
   replace hx386_1 := pw_cell_below HB.out hx386_1
   replace hx386_2 := pw_cell_below HB.out hx386_2
   have HR386_2 := aM hi386_2
   have HC386_2 := aM hl386_2
   clear hi386_2 hl386_2
   replace p386 := eq_true p386
   replace q386 := eq_true q386
   go_wp2_with (first | ((with_reducible refine gate_dst (N := 7) rfl ?_); refine bx_ 7 #[.int .i64 0, .int .i64 0, .slice none 0 0] 79 ?_; intro gb387 hg w21 hbox hb; have n0_ := aM (blk_below (bk_ BK384.out) hb); have n1_ := aM (below_step qz47 hb); have n2_ := aM (hbox); have n3_ := aM ((by rw [hg]; exact (below_size qz47) : w.heap.size ≤ gb387)); have n4_ := aM ((by rw [hg]; exact (below_size qz47) : w.heap.size ≤ gb387)); have n5_ := aM ((by rw [hg]; exact Nat.ne_of_lt (blk_lt (bk_ BK384.out)) : gb384 ≠ gb387)); have n6_ := aM ((by rw [hg]; exact Nat.ne_of_gt (blk_lt (bk_ BK384.out)) : gb387 ≠ gb384)); clear BK384 HB; have BK384 := n0_; have HB := n1_; have BK387 := n2_; have GW387 := n3_; have GE387 := n4_; have NB384_387 := n5_; have NB387_384 := n6_; clear n0_ n1_ n2_ n3_ n4_ n5_ n6_; clear hb hbox hg; have hnb22 := NB387_384.out; have hnc22 := NB384_387.out; obtain ⟨hcz23_0, hcz23_1, hcz23_2, hfz23_0, hfz23_1, hfz23_2⟩ := b6_ BK387.out) | ((with_reducible refine gate_callee (f := 67) rfl ?_); refine goesL_ (some 24) rfl rfl Try.func67 (by kernel_rfl) rfl #[.agg #[.int .i64 ((rd_T79 l0_0 x17_1).f0), .int .i64 ((rd_T79 l0_0 x17_1).f1), .slice A386_2 ((rd_T79 l0_0 x17_1).f2).length c386_2], .int .i64 a1] rfl qz1 ?_; (with_reducible refine (impl_stackAt.calls k1 ((rd_T79 l0_0 x17_1).f0) ((rd_T79 l0_0 x17_1).f1) _ _ ((rd_T79 l0_0 x17_1).f2) a1 t388 false _ ?side1 ?side2 A12.out).mono ?_); (case side1 => exact Kd.C_below HR386_2.out qz71); (case side2 => exact HC386_2.out); rintro e w24 ⟨rfl, hb⟩; refine ⟨_, rfl, ?_⟩; have n0_ := aM (blk_below (g := gb384) (o := .cells #[.slice (some ad386) l0_0.length c0_0] 26 (0, 0)) qz80 hb); have n1_ := aM (blk_below (g := gb387) (o := .cells #[.int .i64 ((rd_T79 l0_0 x17_1).f0), .int .i64 ((rd_T79 l0_0 x17_1).f1), .slice A386_2 ((rd_T79 l0_0 x17_1).f2).length c386_2] 79 (0, 0)) (by (with_reducible repeat (first | refine blk_drewN ?_ _ | refine blk_drew ?_ | refine blk_alloc ?_ _)); refine blk_put (cs := #[.int .i64 ((rd_T79 l0_0 x17_1).f0), .int .i64 ((rd_T79 l0_0 x17_1).f1), .slice none 0 0]) ?_ 2 _ rfl; (with_reducible repeat (first | refine blk_drewN ?_ _ | refine blk_drew ?_ | refine blk_alloc ?_ _)); refine blk_put (cs := #[.int .i64 ((rd_T79 l0_0 x17_1).f0), .int .i64 0, .slice none 0 0]) ?_ 1 _ rfl; (with_reducible repeat (first | refine blk_drewN ?_ _ | refine blk_drew ?_ | refine blk_alloc ?_ _)); refine blk_put (cs := #[.int .i64 0, .int .i64 0, .slice none 0 0]) ?_ 0 _ rfl; exact bk_ BK387.out) hb); have n2_ := aM (below_step qz71 hb); clear BK384 BK387 HB; have BK384 := n0_; have BK387 := n1_; have HB := n2_; clear n0_ n1_ n2_; (try clear hb); (try clear hb2); (try clear hk); (try clear hi)))
   go_roundg k1
   case measure => have := HK1.out; omega
   case rel => exact ⟨(x5_1), (wrap64 (x17_1 + 1)), qz13, qz13, H', ⟨by have := HK1.out; omega⟩, ⟨bk_ BK384.out⟩, ⟨by repeat (first | (with_reducible first | exact HB.out | apply below_alloc | apply pw_below_drewN | apply below_drew1 | refine below_set ?_ GE384.out | refine below_set ?_ GE387.out) | exact HB.out)⟩⟩
   }
   }
   {
   rw [if_neg c11] at H
   exact absurd H (by simp)
   }
   }
   {
   rw [if_neg c10] at H
   exact absurd H (by simp)
   }
   }
   {
   rw [if_neg c9] at H
   have c9b0 := decide_eq_false c9
   clear c9
   obtain rfl := Option.some.inj H
   simp only [Option.some.injEq, Prod.mk.injEq] at H
   obtain ⟨rfl⟩ := H
   go_wp2
   go_ret
   exact ⟨by first | rfl | (simp [errW_none, errW_some] <;> rfl) | (simp [*, errW_none, errW_some] <;> rfl), by repeat (first | (with_reducible first | exact HB.out | apply below_alloc | apply pw_below_drewN | apply below_drew1 | refine below_set ?_ GE384.out) | exact HB.out)⟩
   }
 }
 {
 replace c4 := Bool.eq_false_iff.mpr c4
 subst c4
 rw [if_neg (show ¬ (false = true) by decide)] at H
 obtain rfl := Option.some.inj H
 simp only [Option.some.injEq, Prod.mk.injEq] at H
 obtain ⟨rfl⟩ := H
 go_enter Try.func23, Try.ntmps23
 go_wp2_with (first | ((with_reducible refine gate_dst (N := 2) rfl ?_); refine bx_ 2 #[.slice A0_0 l0_0.length c0_0] 26 ?_; intro gb384 hg w25 hbox hb; have n0_ := aM (below_step qz2 hb); have n1_ := aM (hbox); have n2_ := aM ((by rw [hg]; exact (below_size qz2) : w.heap.size ≤ gb384)); have n3_ := aM ((by rw [hg]; exact (below_size qz2) : w.heap.size ≤ gb384)); clear HB; have HB := n0_; have BK384 := n1_; have GW384 := n2_; have GE384 := n3_; clear n0_ n1_ n2_ n3_; clear hb hbox hg; have hcz26_0 := bc0_ BK384.out; have hfz26_0 := blk_frozen BK384.out 0) | ((with_reducible refine gate_callee (f := 21) rfl ?_); refine goesL_ (some 11) rfl rfl Try.func21 (by kernel_rfl) rfl #[.agg #[.slice A0_0 l0_0.length c0_0]] rfl qz1 ?_; (with_reducible refine (impl_StockOk.calls k _ _ l0_0 false _ ?side1 ?side2 A3.out).mono ?_); (case side1 => exact qz17); (case side2 => exact HC0_0.out); rintro e w27 ⟨rfl, hb⟩; refine ⟨_, rfl, ?_⟩; have n0_ := aM (blk_below (bk_ BK384.out) hb); have n1_ := aM (below_step qz47 hb); clear BK384 HB; have BK384 := n0_; have HB := n1_; clear n0_ n1_; (try clear hb); (try clear hb2); (try clear hk); (try clear hi)))
 go_ret
 exact ⟨by first | rfl | (simp [errW_none, errW_some] <;> rfl) | (simp [*, errW_none, errW_some] <;> rfl), by repeat (first | (with_reducible first | exact HB.out | apply below_alloc | apply pw_below_drewN | apply below_drew1 | refine below_set ?_ GE384.out) | exact HB.out)⟩

 }
end Go.Proofs.Yteajnkondkfmgaa.PFnHeld
