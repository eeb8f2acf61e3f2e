-- Made by a program of this session out of the translation. Lean checks it.
import Derived.Test.YtbebfhlejnidkaaPFnSoundx0
import Derived.Test.YtbebfhlejnidkaaPFnSoundx1
import Derived.Test.YtbebfhlejnidkaaPFnSoundx5
import Derived.Test.YtbebfhlejnidkaaPFnSoundx10
import Derived.Test.YtbebfhlejnidkaaPFnSoundx11
import Derived.Test.YtbebfhlejnidkaaPFnSoundx14
import Derived.Test.YtbebfhlejnidkaaPFnSoundx15
import Derived.Test.YtbebfhlejnidkaaPFnSoundx16
import Derived.Test.YtbebfhlejnidkaaPFnSoundx18
namespace Go.Proofs.Ytbebfhlejnidkaa.PFnSound
open Go.RowKit Go.Proofs.YtbebfhlejnidkaaW.PrintWords Go.Proofs.YtbebfhlejnidkaaW.PrintLast Go.Proofs.YtbebfhlejnidkaaW.PrintMore
attribute [local go_sem] max2_int min2_int max_two min_two max_three min_three max_four min_four   -- for this text's walks alone
set_option linter.unusedVariables false
set_option linter.unusedSimpArgs false

/-! ### impl_KindAt: function 64 -/
def impl_KindAt.f (k : Nat) (a0_0 : Int) (a0_1 : Int) (l0_2 : List Int) (a1 : Int) : Option (Int) := (impl_FloorOk.f k a0_0 a0_1 l0_2).bind fun t622 => (if t622 = true then ((impl_isCell.f a0_0 a0_1 l0_2 a1).bind fun t623 => (if t623 = true then (if 0 ≤ a1 then (if a1 < (l0_2.length : Int) then (some (rd l0_2 a1)) else (none)) else (none)) else (some 0))) else (some 0))
theorem impl_KindAt.mono : ∀ a0 a1 a2 a3 k, LeO (impl_KindAt.f k a0 a1 a2 a3) (impl_KindAt.f (k + 1) a0 a1 a2 a3) := by
 intro a0 a1 a2 a3 k
 unfold impl_KindAt.f
 repeat' first
  | (with_reducible first | exact impl_FloorOk.mono _ _ _ _ | exact LeO.refl _ | exact LeO.none _ | refine LeO.ite ?_ ?_ | refine LeO.bind ?_ (fun _ => ?_))
  | exact impl_FloorOk.mono _ _ _ _
  | exact LeO.none _
  | refine LeO.ite ?_ ?_
  | refine LeO.bind ?_ (fun _ => ?_)
set_option maxHeartbeats 8000000 in
set_option maxRecDepth 100000 in
theorem impl_KindAt.calls (k : Nat) (a0_0 : Int) (a0_1 : Int) (A0_2 : Option Addr) (c0_2 : Nat) (l0_2 : List Int) (a1 : Int) (r : Int) (w : World) (hr0_2 : Kd.C (Kd.int .i64) w A0_2 l0_2.length l0_2) (hc0_2 : l0_2.length ≤ c0_2) (h : impl_KindAt.f k a0_0 a0_1 l0_2 a1 = some r) :
  Calls Try.prog 64 #[.agg #[.int .i64 a0_0, .int .i64 a0_1, .slice A0_2 l0_2.length c0_2], .int .i64 a1] w fun e w' => e = .returned (.int .i64 r) ∧ Below w.heap.size w w' := by
 have hu43 := Try.underlying43
 have HR0_2 := aM hr0_2
 have HC0_2 := aM hc0_2
 clear hr0_2 hc0_2
 have HB := aM (Below.refl w.heap.size w)
 have H : ((impl_FloorOk.f k a0_0 a0_1 l0_2).bind fun t622 => (if t622 = true then ((impl_isCell.f a0_0 a0_1 l0_2 a1).bind fun t623 => (if t623 = true then (if 0 ≤ a1 then (if a1 < (l0_2.length : Int) then (some (rd l0_2 a1)) else (none)) else (none)) else (some 0))) else (some 0))) = some r := h
 clear h
 replace H := Option.bind_eq_some_iff.mp H
 obtain ⟨t622, A30, H⟩ := H
 replace H : (if t622 = true then ((impl_isCell.f a0_0 a0_1 l0_2 a1).bind fun t623 => (if t623 = true then (if 0 ≤ a1 then (if a1 < (l0_2.length : Int) then (some (rd l0_2 a1)) else (none)) else (none)) else (some 0))) else (some 0)) = some r := H
 have A3 := aM A30
 clear A30
 by_cases c4 : t622 = true
 {
 subst c4
 rw [if_pos rfl] at H
 replace H := Option.bind_eq_some_iff.mp H
 obtain ⟨t623, A50, H⟩ := H
 replace H : (if t623 = true then (if 0 ≤ a1 then (if a1 < (l0_2.length : Int) then (some (rd l0_2 a1)) else (none)) else (none)) else (some 0)) = some r := H
 have A5 := aM A50
 clear A50
 by_cases c6 : t623 = true
 {
 subst c6
 rw [if_pos rfl] at H
 by_cases c7 : 0 ≤ a1
 {
 rw [if_pos c7] at H
 have c7b0 := decide_eq_true c7
 clear c7
 by_cases c8 : a1 < (l0_2.length : Int)
 {
 rw [if_pos c8] at H
 have c8b0 := decide_eq_true c8
 clear c8
 obtain rfl := Option.some.inj H
 simp only [Option.some.injEq, Prod.mk.injEq] at H
 obtain ⟨rfl⟩ := H
 go_enter Try.func64, Try.ntmps64
 go_wp2_with (first | ((with_reducible refine gate_dst (N := 2) rfl ?_); refine bx_ 2 #[.int .i64 a0_0, .int .i64 a0_1, .slice A0_2 l0_2.length c0_2] 43 ?_; intro gb621 hg w9 hbox hb; have n0_ := aM (below_step qz1 hb); have n1_ := aM (hbox); have n2_ := aM ((by rw [hg]; exact (below_size qz1) : w.heap.size ≤ gb621)); have n3_ := aM ((by rw [hg]; exact (below_size qz1) : w.heap.size ≤ gb621)); clear HB; have HB := n0_; have BK621 := n1_; have GW621 := n2_; have GE621 := n3_; clear n0_ n1_ n2_ n3_; clear hb hbox hg; obtain ⟨hcz10_0, hcz10_1, hcz10_2, hfz10_0, hfz10_1, hfz10_2⟩ := b6_ BK621.out) | ((with_reducible refine gate_callee (f := 57) rfl ?_); refine goesL_ (some 6) rfl rfl Try.func57 (by kernel_rfl) rfl #[.agg #[.int .i64 a0_0, .int .i64 a0_1, .slice A0_2 l0_2.length c0_2]] rfl qz3 ?_; (with_reducible refine (impl_FloorOk.calls k a0_0 a0_1 _ _ l0_2 true _ ?side1 ?side2 A3.out).mono ?_); (case side1 => exact qz4); (case side2 => exact qz69); rintro e w11 ⟨rfl, hb⟩; refine ⟨_, rfl, ?_⟩; have n0_ := aM (blk_below (bk_ BK621.out) hb); have n1_ := aM (below_step qz51 hb); clear BK621 HB; have BK621 := n0_; have HB := n1_; clear n0_ n1_; (try clear hb); (try clear hb2); (try clear hk); (try clear hi); obtain ⟨hcz12_0, hcz12_1, hcz12_2, hfz12_0, hfz12_1, hfz12_2⟩ := b6_ BK621.out) | (go_at_call 75; (with_reducible refine (impl_isCell.calls a0_0 a0_1 _ _ l0_2 a1 true _ ?side1 ?side2 A5.out).mono ?_); (case side1 => exact qz4); (case side2 => exact qz69); rintro e w13 ⟨rfl, hb⟩; have n0_ := aM (blk_below (bk_ BK621.out) hb); have n1_ := aM (below_step qz51 hb); clear BK621 HB; have BK621 := n0_; have HB := n1_; clear n0_ n1_; (try clear hb); (try clear hb2); (try clear hk); (try clear hi); obtain ⟨hcz14_0, hcz14_1, hcz14_2, hfz14_0, hfz14_1, hfz14_2⟩ := b6_ BK621.out; have p624 : 0 ≤ (a1 : Int) := of_decide_eq_true qz2; have q624 : a1 < (l0_2.length : Int) := of_decide_eq_true qz2; obtain ⟨ad624, e624, hx624_0⟩ := Kd.at_int HR0_2.out a1 p624 q624; cases e624; replace hx624_0 := pw_cell_below HB.out hx624_0; replace p624 := eq_true p624; replace q624 := eq_true q624))
 go_ret
 exact ⟨by first | rfl | (simp [errW_none, errW_some] <;> rfl) | (simp [*, errW_none, errW_some] <;> rfl), by repeat (first | (with_reducible first | exact HB.out | apply below_alloc | apply pw_below_drewN | apply below_drew1 | refine below_set ?_ GE621.out) | exact HB.out)⟩
 }
 {
 rw [if_neg c8] at H
 exact absurd H (by simp)
 }
 }
 {
 rw [if_neg c7] at H
 exact absurd H (by simp)
 }
 }
 {
 replace c6 := Bool.eq_false_iff.mpr c6
 subst c6
 rw [if_neg (show ¬ (false = true) by decide)] at H
 obtain rfl := Option.some.inj H
 simp only [Option.some.injEq, Prod.mk.injEq] at H
 obtain ⟨rfl⟩ := H
 go_enter Try.func64, Try.ntmps64
 go_wp2_with (first | ((with_reducible refine gate_dst (N := 2) rfl ?_); refine bx_ 2 #[.int .i64 a0_0, .int .i64 a0_1, .slice A0_2 l0_2.length c0_2] 43 ?_; intro gb621 hg w15 hbox hb; have n0_ := aM (below_step qz1 hb); have n1_ := aM (hbox); have n2_ := aM ((by rw [hg]; exact (below_size qz1) : w.heap.size ≤ gb621)); have n3_ := aM ((by rw [hg]; exact (below_size qz1) : w.heap.size ≤ gb621)); clear HB; have HB := n0_; have BK621 := n1_; have GW621 := n2_; have GE621 := n3_; clear n0_ n1_ n2_ n3_; clear hb hbox hg; obtain ⟨hcz16_0, hcz16_1, hcz16_2, hfz16_0, hfz16_1, hfz16_2⟩ := b6_ BK621.out) | ((with_reducible refine gate_callee (f := 57) rfl ?_); refine goesL_ (some 6) rfl rfl Try.func57 (by kernel_rfl) rfl #[.agg #[.int .i64 a0_0, .int .i64 a0_1, .slice A0_2 l0_2.length c0_2]] rfl qz3 ?_; (with_reducible refine (impl_FloorOk.calls k a0_0 a0_1 _ _ l0_2 true _ ?side1 ?side2 A3.out).mono ?_); (case side1 => exact qz4); (case side2 => exact qz69); rintro e w17 ⟨rfl, hb⟩; refine ⟨_, rfl, ?_⟩; have n0_ := aM (blk_below (bk_ BK621.out) hb); have n1_ := aM (below_step qz51 hb); clear BK621 HB; have BK621 := n0_; have HB := n1_; clear n0_ n1_; (try clear hb); (try clear hb2); (try clear hk); (try clear hi); obtain ⟨hcz18_0, hcz18_1, hcz18_2, hfz18_0, hfz18_1, hfz18_2⟩ := b6_ BK621.out) | (go_at_call 75; (with_reducible refine (impl_isCell.calls a0_0 a0_1 _ _ l0_2 a1 false _ ?side1 ?side2 A5.out).mono ?_); (case side1 => exact qz4); (case side2 => exact qz69); rintro e w19 ⟨rfl, hb⟩; have n0_ := aM (blk_below (bk_ BK621.out) hb); have n1_ := aM (below_step qz51 hb); clear BK621 HB; have BK621 := n0_; have HB := n1_; clear n0_ n1_; (try clear hb); (try clear hb2); (try clear hk); (try clear hi)))
 go_ret
 exact ⟨by first | rfl | (simp [errW_none, errW_some] <;> rfl) | (simp [*, errW_none, errW_some] <;> rfl), by repeat (first | (with_reducible first | exact HB.out | apply below_alloc | apply pw_below_drewN | apply below_drew1 | refine below_set ?_ GE621.out) | exact HB.out)⟩
 }
 }
 {
 replace c4 := Bool.eq_false_iff.mpr c4
 subst c4
 rw [if_neg (show ¬ (false = true) by decide)] at H
 obtain rfl := Option.some.inj H
 simp only [Option.some.injEq, Prod.mk.injEq] at H
 obtain ⟨rfl⟩ := H
 go_enter Try.func64, Try.ntmps64
 go_wp2_with (first | ((with_reducible refine gate_dst (N := 2) rfl ?_); refine bx_ 2 #[.int .i64 a0_0, .int .i64 a0_1, .slice A0_2 l0_2.length c0_2] 43 ?_; intro gb621 hg w20 hbox hb; have n0_ := aM (below_step qz1 hb); have n1_ := aM (hbox); have n2_ := aM ((by rw [hg]; exact (below_size qz1) : w.heap.size ≤ gb621)); have n3_ := aM ((by rw [hg]; exact (below_size qz1) : w.heap.size ≤ gb621)); clear HB; have HB := n0_; have BK621 := n1_; have GW621 := n2_; have GE621 := n3_; clear n0_ n1_ n2_ n3_; clear hb hbox hg; obtain ⟨hcz21_0, hcz21_1, hcz21_2, hfz21_0, hfz21_1, hfz21_2⟩ := b6_ BK621.out) | ((with_reducible refine gate_callee (f := 57) rfl ?_); refine goesL_ (some 6) rfl rfl Try.func57 (by kernel_rfl) rfl #[.agg #[.int .i64 a0_0, .int .i64 a0_1, .slice A0_2 l0_2.length c0_2]] rfl qz3 ?_; (with_reducible refine (impl_FloorOk.calls k a0_0 a0_1 _ _ l0_2 false _ ?side1 ?side2 A3.out).mono ?_); (case side1 => exact qz4); (case side2 => exact qz69); rintro e w22 ⟨rfl, hb⟩; refine ⟨_, rfl, ?_⟩; have n0_ := aM (blk_below (bk_ BK621.out) hb); have n1_ := aM (below_step qz51 hb); clear BK621 HB; have BK621 := n0_; have HB := n1_; clear n0_ n1_; (try clear hb); (try clear hb2); (try clear hk); (try clear hi)))
 go_ret
 exact ⟨by first | rfl | (simp [errW_none, errW_some] <;> rfl) | (simp [*, errW_none, errW_some] <;> rfl), by repeat (first | (with_reducible first | exact HB.out | apply below_alloc | apply pw_below_drewN | apply below_drew1 | refine below_set ?_ GE621.out) | exact HB.out)⟩

 }
/-! ### impl_Block: function 31 -/
def impl_Block.f (k : Nat) (a0_0 : Int) (a0_1 : Int) (l0_2 : List Int) (a1 : Int) : Option (Int × Int × List Int × Bool) := (impl_copyFloor.f a0_0 a0_1 l0_2).bind fun bt627 => ((impl_KindAt.f k a0_0 a0_1 l0_2 a1).bind fun t633 => (if t633 = 0 then (some (bt627.1, bt627.2.1, bt627.2.2, false)) else (if 0 ≤ a1 then (if a1 < (bt627.2.2.length : Int) then (some (bt627.1, bt627.2.1, (bt627.2.2.set (a1 : Int).toNat 0), true)) else (none)) else (none))))
theorem impl_Block.mono : ∀ a0 a1 a2 a3 k, LeO (impl_Block.f k a0 a1 a2 a3) (impl_Block.f (k + 1) a0 a1 a2 a3) := by
 intro a0 a1 a2 a3 k
 unfold impl_Block.f
 repeat' first
  | (with_reducible first | exact impl_KindAt.mono _ _ _ _ _ | exact LeO.refl _ | exact LeO.none _ | refine LeO.ite ?_ ?_ | refine LeO.bind ?_ (fun _ => ?_))
  | exact impl_KindAt.mono _ _ _ _ _
  | exact LeO.none _
  | refine LeO.ite ?_ ?_
  | refine LeO.bind ?_ (fun _ => ?_)
set_option maxHeartbeats 8000000 in
set_option maxRecDepth 100000 in
theorem impl_Block.calls (k : Nat) (a0_0 : Int) (a0_1 : Int) (A0_2 : Option Addr) (c0_2 : Nat) (l0_2 : List Int) (a1 : Int) (r1 : Int) (r2 : Int) (r3 : List Int) (r4 : Bool) (w : World) (hr0_2 : Kd.C (Kd.int .i64) w A0_2 l0_2.length l0_2) (hc0_2 : l0_2.length ≤ c0_2) (h : impl_Block.f k a0_0 a0_1 l0_2 a1 = some (r1, r2, r3, r4)) :
  Calls Try.prog 31 #[.agg #[.int .i64 a0_0, .int .i64 a0_1, .slice A0_2 l0_2.length c0_2], .int .i64 a1] w fun e w' => ∃ v2_ : Value, e = .returned (.tuple #[.agg #[.int .i64 r1, .int .i64 r2, v2_], .bool r4]) ∧ Kd.R (Kd.int .i64) 3 w' w.heap.size (fun _ => True) v2_ r3 ∧ Below w.heap.size w w' := by
 have hu43 := Try.underlying43
 have HR0_2 := aM hr0_2
 have HC0_2 := aM hc0_2
 clear hr0_2 hc0_2
 have HB := aM (Below.refl w.heap.size w)
 have H : ((impl_copyFloor.f a0_0 a0_1 l0_2).bind fun bt627 => ((impl_KindAt.f k a0_0 a0_1 l0_2 a1).bind fun t633 => (if t633 = 0 then (some (bt627.1, bt627.2.1, bt627.2.2, false)) else (if 0 ≤ a1 then (if a1 < (bt627.2.2.length : Int) then (some (bt627.1, bt627.2.1, (bt627.2.2.set (a1 : Int).toNat 0), true)) else (none)) else (none))))) = some (r1, r2, r3, r4) := h
 clear h
 replace H := Option.bind_eq_some_iff.mp H
 obtain ⟨⟨t627, t628, t629⟩, A30, H⟩ := H
 replace H : ((impl_KindAt.f k a0_0 a0_1 l0_2 a1).bind fun t633 => (if t633 = 0 then (some (t627, t628, t629, false)) else (if 0 ≤ a1 then (if a1 < (t629.length : Int) then (some (t627, t628, (t629.set (a1 : Int).toNat 0), true)) else (none)) else (none)))) = some (r1, r2, r3, r4) := H
 have A3 := aM A30
 clear A30
 replace H := Option.bind_eq_some_iff.mp H
 obtain ⟨t633, A40, H⟩ := H
 replace H : (if t633 = 0 then (some (t627, t628, t629, false)) else (if 0 ≤ a1 then (if a1 < (t629.length : Int) then (some (t627, t628, (t629.set (a1 : Int).toNat 0), true)) else (none)) else (none))) = some (r1, r2, r3, r4) := H
 have A4 := aM A40
 clear A40
 by_cases c5 : t633 = 0
 {
 rw [if_pos c5] at H
 have c5b0 := beq_iff_eq.mpr c5
 have c5b1 := bne_eq_false_iff_eq.mpr c5
 clear c5
 simp only [Option.some.injEq, Prod.mk.injEq] at H
 obtain ⟨rfl, rfl, rfl, rfl⟩ := H
 go_enter Try.func31, Try.ntmps31
 go_wp2_with (first | ((with_reducible refine gate_dst (N := 2) rfl ?_); refine bx_ 2 #[.int .i64 a0_0, .int .i64 a0_1, .slice A0_2 l0_2.length c0_2] 43 ?_; intro gb625 hg w6 hbox hb; have n0_ := aM (below_step qz1 hb); have n1_ := aM (hbox); have n2_ := aM ((by rw [hg]; exact (below_size qz1) : w.heap.size ≤ gb625)); have n3_ := aM ((by rw [hg]; exact (below_size qz1) : w.heap.size ≤ gb625)); clear HB; have HB := n0_; have BK625 := n1_; have GW625 := n2_; have GE625 := n3_; clear n0_ n1_ n2_ n3_; clear hb hbox hg) | ((with_reducible refine gate_dst (N := 4) rfl ?_); refine bx_ 4 #[.int .i64 0, .int .i64 0, .slice none 0 0] 43 ?_; intro gb626 hg w7 hbox hb; have n0_ := aM (blk_below (bk_ BK625.out) hb); have n1_ := aM (below_step qz41 hb); have n2_ := aM (hbox); have n3_ := aM ((by rw [hg]; exact (below_size qz41) : w.heap.size ≤ gb626)); have n4_ := aM ((by rw [hg]; exact (below_size qz41) : w.heap.size ≤ gb626)); have n5_ := aM ((by rw [hg]; exact Nat.ne_of_lt (blk_lt (bk_ BK625.out)) : gb625 ≠ gb626)); have n6_ := aM ((by rw [hg]; exact Nat.ne_of_gt (blk_lt (bk_ BK625.out)) : gb626 ≠ gb625)); clear BK625 HB; have BK625 := n0_; have HB := n1_; have BK626 := n2_; have GW626 := n3_; have GE626 := n4_; have NB625_626 := n5_; have NB626_625 := n6_; clear n0_ n1_ n2_ n3_ n4_ n5_ n6_; clear hb hbox hg; have hnb8 := NB625_626.out; have hnc8 := NB626_625.out; obtain ⟨hcz9_0, hcz9_1, hcz9_2, hfz9_0, hfz9_1, hfz9_2⟩ := b6_ BK625.out) | ((with_reducible refine gate_callee (f := 63) rfl ?_); refine goesL_ (some 8) rfl rfl Try.func63 (by kernel_rfl) rfl #[.agg #[.int .i64 a0_0, .int .i64 a0_1, .slice A0_2 l0_2.length c0_2]] rfl qz3 ?_; (with_reducible refine (impl_copyFloor.calls a0_0 a0_1 _ _ l0_2 t627 t628 t629 _ ?side1 ?side2 A3.out).mono ?_); (case side1 => exact qz4); (case side2 => exact qz69); rintro e w10 ⟨v630, rfl, ho0, hb⟩; refine ⟨_, rfl, ?_⟩; have n0_ := aM (Kd.R_lower ho0 (below_size qz20)); have n1_ := aM (blk_below (bk_ BK625.out) hb); have n2_ := aM (blk_below (bk_ BK626.out) hb); have n3_ := aM (below_step qz20 hb); clear BK625 BK626 HB; have HO631 := n0_; have BK625 := n1_; have BK626 := n2_; have HB := n3_; clear n0_ n1_ n2_ n3_; (try clear hb); (try clear hb2); (try clear hk); (try clear hi); (try clear ho0)) | ((with_reducible refine gate_dst (N := 6) rfl ?_); refine bx_ 6 #[.int .i64 0, .int .i64 0, .slice none 0 0] 43 ?_; intro gb632 hg w11 hbox hb; have n0_ := aM (Kd.R_below (rr_ HO631.out) hb); have n1_ := aM (blk_below (bk_ BK625.out) hb); have n2_ := aM (blk_below (bk_ BK626.out) hb); have n3_ := aM (below_step qz20 hb); have n4_ := aM (hbox); have n5_ := aM ((by rw [hg]; exact (below_size qz20) : w.heap.size ≤ gb632)); have n6_ := aM ((by rw [hg]; exact (below_size qz20) : w.heap.size ≤ gb632)); have n7_ := aM ((by rw [hg]; exact Nat.ne_of_lt (blk_lt (bk_ BK625.out)) : gb625 ≠ gb632)); have n8_ := aM ((by rw [hg]; exact Nat.ne_of_gt (blk_lt (bk_ BK625.out)) : gb632 ≠ gb625)); have n9_ := aM ((by rw [hg]; exact Nat.ne_of_lt (blk_lt (bk_ BK626.out)) : gb626 ≠ gb632)); have n10_ := aM ((by rw [hg]; exact Nat.ne_of_gt (blk_lt (bk_ BK626.out)) : gb632 ≠ gb626)); clear HO631 BK625 BK626 HB; have HO631 := n0_; have BK625 := n1_; have BK626 := n2_; have HB := n3_; have BK632 := n4_; have GW632 := n5_; have GE632 := n6_; have NB625_632 := n7_; have NB632_625 := n8_; have NB626_632 := n9_; have NB632_626 := n10_; clear n0_ n1_ n2_ n3_ n4_ n5_ n6_ n7_ n8_ n9_ n10_; clear hb hbox hg; have hnb12 := NB632_625.out; have hnc12 := NB625_632.out; have hnb13 := NB632_626.out; have hnc13 := NB626_632.out; obtain ⟨hcz14_0, hcz14_1, hcz14_2, hfz14_0, hfz14_1, hfz14_2⟩ := b6_ BK632.out; obtain ⟨Ao15, co15, eo15⟩ := Kd.R_slice HO631.out; subst eo15; obtain ⟨hcz16_0, hcz16_1, hcz16_2, hfz16_0, hfz16_1, hfz16_2⟩ := b6_ BK625.out) | ((with_reducible refine gate_callee (f := 64) rfl ?_); refine goesL_ (some 11) rfl rfl Try.func64 (by kernel_rfl) rfl #[.agg #[.int .i64 a0_0, .int .i64 a0_1, .slice A0_2 l0_2.length c0_2], .int .i64 a1] rfl qz3 ?_; (with_reducible refine (impl_KindAt.calls k a0_0 a0_1 _ _ l0_2 a1 t633 _ ?side1 ?side2 A4.out).mono ?_); (case side1 => exact Kd.C_below HR0_2.out qz48); (case side2 => exact qz69); rintro e w17 ⟨rfl, hb⟩; refine ⟨_, rfl, ?_⟩; have n0_ := aM (Kd.R_below (by (with_reducible repeat (first | apply Kd.R_alloc | apply Kd.R_drewN | apply Kd.R_drew)); exact (Kd.R_mono (Kd.R_far (p := ⟨gb632, 2, none⟩) (Kd.R_far (p := ⟨gb632, 1, none⟩) (Kd.R_far (p := ⟨gb632, 0, none⟩) (Kd.R_types HO631.out BK632.out (by decide)) (fun _ hk => hk.2) (.int .i64 t627)) (fun _ hk => hk.2) (.int .i64 t628)) (fun _ hk => hk.2) (.slice Ao15 t629.length co15)) (fun _ h_ => h_.1))) hb); have n1_ := aM (blk_below (g := gb625) (o := .cells #[.int .i64 a0_0, .int .i64 a0_1, .slice A0_2 l0_2.length c0_2] 43 (0, 0)) qz61 hb); have n2_ := aM (blk_below (g := gb626) (o := .cells #[.int .i64 0, .int .i64 0, .slice none 0 0] 43 (0, 0)) qz62 hb); have n3_ := aM (blk_below (g := gb632) (o := .cells #[.int .i64 t627, .int .i64 t628, .slice Ao15 t629.length co15] 43 (0, 0)) (by (with_reducible repeat (first | refine blk_drewN ?_ _ | refine blk_drew ?_ | refine blk_alloc ?_ _)); refine blk_put (cs := #[.int .i64 t627, .int .i64 t628, .slice none 0 0]) ?_ 2 _ rfl; (with_reducible repeat (first | refine blk_drewN ?_ _ | refine blk_drew ?_ | refine blk_alloc ?_ _)); refine blk_put (cs := #[.int .i64 t627, .int .i64 0, .slice none 0 0]) ?_ 1 _ rfl; (with_reducible repeat (first | refine blk_drewN ?_ _ | refine blk_drew ?_ | refine blk_alloc ?_ _)); refine blk_put (cs := #[.int .i64 0, .int .i64 0, .slice none 0 0]) ?_ 0 _ rfl; exact bk_ BK632.out) hb); have n4_ := aM (below_step qz48 hb); clear HO631 BK625 BK626 BK632 HB; have HO631 := n0_; have BK625 := n1_; have BK626 := n2_; have BK632 := n3_; have HB := n4_; clear n0_ n1_ n2_ n3_ n4_; (try clear hb); (try clear hb2); (try clear hk); (try clear hi); obtain ⟨hcz18_0, hcz18_1, hcz18_2, hfz18_0, hfz18_1, hfz18_2⟩ := b6_ BK632.out; obtain ⟨hcz19_0, hcz19_1, hcz19_2, hfz19_0, hfz19_1, hfz19_2⟩ := b6_ BK626.out))
 refine bodyPost_ret (results_ct rfl _ _ gb626 43 #[.int .i64 t627, .int .i64 t628, .slice Ao15 t629.length co15] (0, 0) _ rfl (by (with_reducible repeat (first | refine blk_drewN ?_ _ | refine blk_drew ?_ | refine blk_alloc ?_ _)); refine blk_put (cs := #[.int .i64 t627, .int .i64 t628, .slice none 0 0]) ?_ 2 _ rfl; (with_reducible repeat (first | refine blk_drewN ?_ _ | refine blk_drew ?_ | refine blk_alloc ?_ _)); refine blk_put (cs := #[.int .i64 t627, .int .i64 0, .slice none 0 0]) ?_ 1 _ rfl; (with_reducible repeat (first | refine blk_drewN ?_ _ | refine blk_drew ?_ | refine blk_alloc ?_ _)); refine blk_put (cs := #[.int .i64 0, .int .i64 0, .slice none 0 0]) ?_ 0 _ rfl; exact bk_ BK626.out) Try.underlying43 rfl (by kernel_rfl)) rfl ?_
 exact ⟨_, by first | rfl | (simp [errW_none, errW_some] <;> rfl) | (simp [*, errW_none, errW_some] <;> rfl), by (with_reducible repeat (first | apply Kd.R_alloc | apply Kd.R_drewN | apply Kd.R_drew)); exact Kd.R_mono (Kd.R_far (p := ⟨gb626, 2, none⟩) (Kd.R_far (p := ⟨gb626, 1, none⟩) (Kd.R_far (p := ⟨gb626, 0, none⟩) (Kd.R_types HO631.out BK626.out (by decide)) (fun _ hk => hk.2) (.int .i64 t627)) (fun _ hk => hk.2) (.int .i64 t628)) (fun _ hk => hk.2) (.slice Ao15 t629.length co15)) (fun _ hk => trivial), by repeat (first | (with_reducible first | exact HB.out | apply below_alloc | apply pw_below_drewN | apply below_drew1 | refine below_set ?_ GE625.out | refine below_set ?_ GE626.out | refine below_set ?_ GE632.out) | exact HB.out)⟩
 }
 {
 rw [if_neg c5] at H
 have c5b0 := beq_eq_false_iff_ne.mpr c5
 have c5b1 := bne_iff_ne.mpr c5
 by_cases c20 : 0 ≤ a1
 {
 rw [if_pos c20] at H
 have c20b0 := decide_eq_true c20
 clear c20
 by_cases c21 : a1 < (t629.length : Int)
 {
 rw [if_pos c21] at H
 have c21b0 := decide_eq_true c21
 clear c21
 obtain ⟨y634, hy634⟩ : ∃ y_ : List Int, y_ = (t629.set (a1 : Int).toNat 0) := ⟨_, rfl⟩
 replace H : (some (t627, t628, y634, true)) = some (r1, r2, r3, r4) := by first | (rw [hy634]; with_reducible exact H) | (have H2_ := (Option.bind_some _ _).symm.trans H; rw [hy634]; with_reducible exact H2_) | (have H2_ := (Option.bind_some _ _).symm.trans H; with_reducible exact H2_) | with_reducible exact H | (rw [hy634]; exact H) | exact H
 have Ny634 := aM hy634
 clear hy634
 simp only [Option.some.injEq, Prod.mk.injEq] at H
 obtain ⟨rfl, rfl, rfl, rfl⟩ := H
 go_enter Try.func31, Try.ntmps31
 go_wp2_with (first | ((with_reducible refine gate_dst (N := 2) rfl ?_); refine bx_ 2 #[.int .i64 a0_0, .int .i64 a0_1, .slice A0_2 l0_2.length c0_2] 43 ?_; intro gb625 hg w23 hbox hb; have n0_ := aM (below_step qz1 hb); have n1_ := aM (hbox); have n2_ := aM ((by rw [hg]; exact (below_size qz1) : w.heap.size ≤ gb625)); have n3_ := aM ((by rw [hg]; exact (below_size qz1) : w.heap.size ≤ gb625)); clear HB; have HB := n0_; have BK625 := n1_; have GW625 := n2_; have GE625 := n3_; clear n0_ n1_ n2_ n3_; clear hb hbox hg) | ((with_reducible refine gate_dst (N := 4) rfl ?_); refine bx_ 4 #[.int .i64 0, .int .i64 0, .slice none 0 0] 43 ?_; intro gb626 hg w24 hbox hb; have n0_ := aM (blk_below (bk_ BK625.out) hb); have n1_ := aM (below_step qz41 hb); have n2_ := aM (hbox); have n3_ := aM ((by rw [hg]; exact (below_size qz41) : w.heap.size ≤ gb626)); have n4_ := aM ((by rw [hg]; exact (below_size qz41) : w.heap.size ≤ gb626)); have n5_ := aM ((by rw [hg]; exact Nat.ne_of_lt (blk_lt (bk_ BK625.out)) : gb625 ≠ gb626)); have n6_ := aM ((by rw [hg]; exact Nat.ne_of_gt (blk_lt (bk_ BK625.out)) : gb626 ≠ gb625)); clear BK625 HB; have BK625 := n0_; have HB := n1_; have BK626 := n2_; have GW626 := n3_; have GE626 := n4_; have NB625_626 := n5_; have NB626_625 := n6_; clear n0_ n1_ n2_ n3_ n4_ n5_ n6_; clear hb hbox hg; have hnb25 := NB625_626.out; have hnc25 := NB626_625.out; obtain ⟨hcz26_0, hcz26_1, hcz26_2, hfz26_0, hfz26_1, hfz26_2⟩ := b6_ BK625.out) | ((with_reducible refine gate_callee (f := 63) rfl ?_); refine goesL_ (some 8) rfl rfl Try.func63 (by kernel_rfl) rfl #[.agg #[.int .i64 a0_0, .int .i64 a0_1, .slice A0_2 l0_2.length c0_2]] rfl qz3 ?_; (with_reducible refine (impl_copyFloor.calls a0_0 a0_1 _ _ l0_2 t627 t628 t629 _ ?side1 ?side2 A3.out).mono ?_); (case side1 => exact qz4); (case side2 => exact qz69); rintro e w27 ⟨v630, rfl, ho0, hb⟩; refine ⟨_, rfl, ?_⟩; have n0_ := aM (Kd.R_lower ho0 (below_size qz20)); have n1_ := aM (blk_below (bk_ BK625.out) hb); have n2_ := aM (blk_below (bk_ BK626.out) hb); have n3_ := aM (below_step qz20 hb); clear BK625 BK626 HB; have HO631 := n0_; have BK625 := n1_; have BK626 := n2_; have HB := n3_; clear n0_ n1_ n2_ n3_; (try clear hb); (try clear hb2); (try clear hk); (try clear hi); (try clear ho0)) | ((with_reducible refine gate_dst (N := 6) rfl ?_); refine bx_ 6 #[.int .i64 0, .int .i64 0, .slice none 0 0] 43 ?_; intro gb632 hg w28 hbox hb; have n0_ := aM (Kd.R_below (rr_ HO631.out) hb); have n1_ := aM (blk_below (bk_ BK625.out) hb); have n2_ := aM (blk_below (bk_ BK626.out) hb); have n3_ := aM (below_step qz20 hb); have n4_ := aM (hbox); have n5_ := aM ((by rw [hg]; exact (below_size qz20) : w.heap.size ≤ gb632)); have n6_ := aM ((by rw [hg]; exact (below_size qz20) : w.heap.size ≤ gb632)); have n7_ := aM ((by rw [hg]; exact Nat.ne_of_lt (blk_lt (bk_ BK625.out)) : gb625 ≠ gb632)); have n8_ := aM ((by rw [hg]; exact Nat.ne_of_gt (blk_lt (bk_ BK625.out)) : gb632 ≠ gb625)); have n9_ := aM ((by rw [hg]; exact Nat.ne_of_lt (blk_lt (bk_ BK626.out)) : gb626 ≠ gb632)); have n10_ := aM ((by rw [hg]; exact Nat.ne_of_gt (blk_lt (bk_ BK626.out)) : gb632 ≠ gb626)); clear HO631 BK625 BK626 HB; have HO631 := n0_; have BK625 := n1_; have BK626 := n2_; have HB := n3_; have BK632 := n4_; have GW632 := n5_; have GE632 := n6_; have NB625_632 := n7_; have NB632_625 := n8_; have NB626_632 := n9_; have NB632_626 := n10_; clear n0_ n1_ n2_ n3_ n4_ n5_ n6_ n7_ n8_ n9_ n10_; clear hb hbox hg; have hnb29 := NB632_625.out; have hnc29 := NB625_632.out; have hnb30 := NB632_626.out; have hnc30 := NB626_632.out; obtain ⟨hcz31_0, hcz31_1, hcz31_2, hfz31_0, hfz31_1, hfz31_2⟩ := b6_ BK632.out; obtain ⟨Ao32, co32, eo32⟩ := Kd.R_slice HO631.out; subst eo32; obtain ⟨hcz33_0, hcz33_1, hcz33_2, hfz33_0, hfz33_1, hfz33_2⟩ := b6_ BK625.out) | ((with_reducible refine gate_callee (f := 64) rfl ?_); refine goesL_ (some 11) rfl rfl Try.func64 (by kernel_rfl) rfl #[.agg #[.int .i64 a0_0, .int .i64 a0_1, .slice A0_2 l0_2.length c0_2], .int .i64 a1] rfl qz3 ?_; (with_reducible refine (impl_KindAt.calls k a0_0 a0_1 _ _ l0_2 a1 t633 _ ?side1 ?side2 A4.out).mono ?_); (case side1 => exact Kd.C_below HR0_2.out qz48); (case side2 => exact qz69); rintro e w34 ⟨rfl, hb⟩; refine ⟨_, rfl, ?_⟩; have n0_ := aM (Kd.R_below (by (with_reducible repeat (first | apply Kd.R_alloc | apply Kd.R_drewN | apply Kd.R_drew)); exact (Kd.R_mono (Kd.R_far (p := ⟨gb632, 2, none⟩) (Kd.R_far (p := ⟨gb632, 1, none⟩) (Kd.R_far (p := ⟨gb632, 0, none⟩) (Kd.R_types HO631.out BK632.out (by decide)) (fun _ hk => hk.2) (.int .i64 t627)) (fun _ hk => hk.2) (.int .i64 t628)) (fun _ hk => hk.2) (.slice Ao32 t629.length co32)) (fun _ h_ => h_.1))) hb); have n1_ := aM (blk_below (g := gb625) (o := .cells #[.int .i64 a0_0, .int .i64 a0_1, .slice A0_2 l0_2.length c0_2] 43 (0, 0)) qz61 hb); have n2_ := aM (blk_below (g := gb626) (o := .cells #[.int .i64 0, .int .i64 0, .slice none 0 0] 43 (0, 0)) qz62 hb); have n3_ := aM (blk_below (g := gb632) (o := .cells #[.int .i64 t627, .int .i64 t628, .slice Ao32 t629.length co32] 43 (0, 0)) (by (with_reducible repeat (first | refine blk_drewN ?_ _ | refine blk_drew ?_ | refine blk_alloc ?_ _)); refine blk_put (cs := #[.int .i64 t627, .int .i64 t628, .slice none 0 0]) ?_ 2 _ rfl; (with_reducible repeat (first | refine blk_drewN ?_ _ | refine blk_drew ?_ | refine blk_alloc ?_ _)); refine blk_put (cs := #[.int .i64 t627, .int .i64 0, .slice none 0 0]) ?_ 1 _ rfl; (with_reducible repeat (first | refine blk_drewN ?_ _ | refine blk_drew ?_ | refine blk_alloc ?_ _)); refine blk_put (cs := #[.int .i64 0, .int .i64 0, .slice none 0 0]) ?_ 0 _ rfl; exact bk_ BK632.out) hb); have n4_ := aM (below_step qz48 hb); clear HO631 BK625 BK626 BK632 HB; have HO631 := n0_; have BK625 := n1_; have BK626 := n2_; have BK632 := n3_; have HB := n4_; clear n0_ n1_ n2_ n3_ n4_; (try clear hb); (try clear hb2); (try clear hk); (try clear hi); obtain ⟨hcz35_0, hcz35_1, hcz35_2, hfz35_0, hfz35_1, hfz35_2⟩ := b6_ BK632.out; have p22 : 0 ≤ (a1 : Int) := of_decide_eq_true qz2; have q22 : (a1 : Int) < ((t629.length : Int) : Int) := of_decide_eq_true qz2; obtain ⟨go22, co22, eo22, gb22, gl22, cl22, HG22⟩ := Kd.R_form HO631.out (by omega); (first | cases eo22 | (injection eo22 with ea_ en_ ec_; (first | subst ea_ | (injection ea_ with ea_; subst ea_)); subst ec_; clear en_)); have GB22 := aM gb22; have GG22 := aM HG22; clear gb22 gl22 HG22; obtain ⟨hx22_0, hf22_0⟩ := Kd.R_celln 0 HO631.out (a1 : Int) p22 q22; replace p22 := eq_true p22; replace q22 := eq_true q22; obtain ⟨hy36_, hz36_⟩ := Kd.R_celln 0 HO631.out (a1 : Int) (of_decide_eq_true qz2) (of_decide_eq_true qz2); have HP36 := Kd.R_putg HO631.out (a1 : Int) 0) | ((with_reducible refine gate_store (t := 3) (p := 17) rfl ?_); refine store_event (t := 3) (p := 17) (v := ?vo_w37) (w1 := (w34.setCell ⟨go22, (a1 : Int).toNat, none⟩ (.int .i64 0))) ?hg ?ho ?hn ?hr ?_; (case ho => rfl); (case hg => rfl); (case hn => rfl); (case hr => exact qz28); intro w37 hw; have hg : w34.grownBy w37 (some go22) := (by rw [hw]; exact HP36.2); have hp_ : Kd.R (Kd.int .i64) 3 w37 w.heap.size (fun _ => True) (.slice (some ⟨go22, 0, none⟩) t629.length co32) y634 := (by rw [hw, Ny634.out]; exact HP36.1); clear HP36; have n0_ := aM (blk_grown (bk_ BK625.out) hg (Kd.R_ne HO631.out BK625.out (by decide))); have n1_ := aM (blk_grown (bk_ BK626.out) hg (Kd.R_ne HO631.out BK626.out (by decide))); have n2_ := aM (hp_); have n3_ := aM (blk_grown (bk_ BK632.out) hg (Kd.R_ne HO631.out BK632.out (by decide))); have n4_ := aM ((by rw [hw]; exact below_set (HB.out) GB22.out : Below w.heap.size w w37)); clear BK625 BK626 HO631 BK632 HB; have BK625 := n0_; have BK626 := n1_; have HO631 := n2_; have BK632 := n3_; have HB := n4_; clear n0_ n1_ n2_ n3_ n4_; clear hg hw hp_; obtain ⟨hcz38_0, hcz38_1, hcz38_2, hfz38_0, hfz38_1, hfz38_2⟩ := b6_ BK632.out; obtain ⟨hcz39_0, hcz39_1, hcz39_2, hfz39_0, hfz39_1, hfz39_2⟩ := b6_ BK626.out))
 refine bodyPost_ret (results_ct rfl _ _ gb626 43 #[.int .i64 t627, .int .i64 t628, .slice (some ⟨go22, 0, none⟩) t629.length co32] (0, 0) _ rfl (by (with_reducible repeat (first | refine blk_drewN ?_ _ | refine blk_drew ?_ | refine blk_alloc ?_ _)); refine blk_put (cs := #[.int .i64 t627, .int .i64 t628, .slice none 0 0]) ?_ 2 _ rfl; (with_reducible repeat (first | refine blk_drewN ?_ _ | refine blk_drew ?_ | refine blk_alloc ?_ _)); refine blk_put (cs := #[.int .i64 t627, .int .i64 0, .slice none 0 0]) ?_ 1 _ rfl; (with_reducible repeat (first | refine blk_drewN ?_ _ | refine blk_drew ?_ | refine blk_alloc ?_ _)); refine blk_put (cs := #[.int .i64 0, .int .i64 0, .slice none 0 0]) ?_ 0 _ rfl; exact bk_ BK626.out) Try.underlying43 rfl (by kernel_rfl)) rfl ?_
 exact ⟨_, by first | rfl | (simp [errW_none, errW_some] <;> rfl) | (simp [*, errW_none, errW_some] <;> rfl), by (with_reducible repeat (first | apply Kd.R_alloc | apply Kd.R_drewN | apply Kd.R_drew)); exact Kd.R_mono (Kd.R_far (p := ⟨gb626, 2, none⟩) (Kd.R_far (p := ⟨gb626, 1, none⟩) (Kd.R_far (p := ⟨gb626, 0, none⟩) (Kd.R_types HO631.out BK626.out (by decide)) (fun _ hk => hk.2) (.int .i64 t627)) (fun _ hk => hk.2) (.int .i64 t628)) (fun _ hk => hk.2) (.slice (some ⟨go22, 0, none⟩) t629.length co32)) (fun _ hk => trivial), by repeat (first | (with_reducible first | exact HB.out | apply below_alloc | apply pw_below_drewN | apply below_drew1 | refine below_set ?_ GE625.out | refine below_set ?_ GE626.out | refine below_set ?_ GE632.out) | exact HB.out)⟩
 }
 {
 rw [if_neg c21] at H
 exact absurd H (by simp)
 }
 }
 {
 rw [if_neg c20] at H
 exact absurd H (by simp)

 }
 }
/-! ### laws_FnSound: function 6 -/
def laws_FnSound.l0 : Nat → Int → Int → Int → List Int → Option (Bool)
 | 0, _, _, _, _ => none
 | k + 1, x5, x642000, x642001, x642002 => if x5 < (x642002.length : Int) then ((impl_Block.f k x642000 x642001 x642002 x5).bind fun bt657 => (if bt657.2.2.2 = true then ((impl_Together.f k bt657.1 bt657.2.1 bt657.2.2.1).bind fun t664 => (if t664 = true then (laws_FnSound.l0 k (wrap64 (x5 + 1)) x642000 x642001 x642002) else (some false))) else (laws_FnSound.l0 k (wrap64 (x5 + 1)) x642000 x642001 x642002))) else ((impl_Bridges.f k x642000 x642001 x642002).bind fun t650 => (if (t650.length : Int) = 0 then ((impl_Cuts.f k x642000 x642001 x642002).bind fun t653 => (if (t653.length : Int) = 0 then ((impl_Together.f k x642000 x642001 x642002).bind fun t656 => (some t656)) else (some false))) else (some false)))
def laws_FnSound.f (k : Nat) (l0 : List Int) : Option (Bool) := (laws_big.f l0).bind fun t635 => (if t635 = true then (some true) else ((spec_DrawSound.f k l0).bind fun bt636 => ((impl_Sound.f k bt636.1 bt636.2.1 bt636.2.2).bind fun t642 => ((spec_Sound.f k bt636.1 bt636.2.1 bt636.2.2).bind fun t643 => (if (t642 != t643) = true then (some false) else (if t642 = true then (laws_FnSound.l0 k 0 bt636.1 bt636.2.1 bt636.2.2) else ((impl_Bridges.f k bt636.1 bt636.2.1 bt636.2.2).bind fun t644 => ((spec_Bridges.f k bt636.1 bt636.2.1 bt636.2.2).bind fun t647 => (some ((t644.length : Int) == (t647.length : Int)))))))))))
theorem laws_FnSound.mono_l : ∀ k, (∀ y0 y1 y2 y3, LeO (laws_FnSound.l0 k y0 y1 y2 y3) (laws_FnSound.l0 (k + 1) y0 y1 y2 y3))
 | 0 => fun _ _ _ _ r h => by simp [laws_FnSound.l0] at h
 | k + 1 => by
  have ih0 := laws_FnSound.mono_l k
  {
  intro y0 y1 y2 y3
  unfold laws_FnSound.l0
  repeat' first
  | (with_reducible first | exact ih0 _ _ _ _ | exact impl_Block.mono _ _ _ _ _ | exact impl_Bridges.mono _ _ _ _ | exact impl_Cuts.mono _ _ _ _ | exact impl_Sound.mono _ _ _ _ | exact impl_Together.mono _ _ _ _ | exact spec_Bridges.mono _ _ _ _ | exact spec_DrawSound.mono _ _ | exact spec_Sound.mono _ _ _ _ | exact LeO.refl _ | exact LeO.none _ | refine LeO.ite ?_ ?_ | refine LeO.bind ?_ (fun _ => ?_))
  | exact ih0 _ _ _ _
  | exact impl_Block.mono _ _ _ _ _
  | exact impl_Bridges.mono _ _ _ _
  | exact impl_Cuts.mono _ _ _ _
  | exact impl_Sound.mono _ _ _ _
  | exact impl_Together.mono _ _ _ _
  | exact spec_Bridges.mono _ _ _ _
  | exact spec_DrawSound.mono _ _
  | exact spec_Sound.mono _ _ _ _
  | exact LeO.none _
  | refine LeO.ite ?_ ?_
  | refine LeO.bind ?_ (fun _ => ?_)
  }
theorem laws_FnSound.mono : ∀ a0 k, LeO (laws_FnSound.f k a0) (laws_FnSound.f (k + 1) a0) := by
 intro a0 k
 have ih0 := laws_FnSound.mono_l k
 unfold laws_FnSound.f
 repeat' first
  | (with_reducible first | exact ih0 _ _ _ _ | exact impl_Block.mono _ _ _ _ _ | exact impl_Bridges.mono _ _ _ _ | exact impl_Cuts.mono _ _ _ _ | exact impl_Sound.mono _ _ _ _ | exact impl_Together.mono _ _ _ _ | exact spec_Bridges.mono _ _ _ _ | exact spec_DrawSound.mono _ _ | exact spec_Sound.mono _ _ _ _ | exact LeO.refl _ | exact LeO.none _ | refine LeO.ite ?_ ?_ | refine LeO.bind ?_ (fun _ => ?_))
  | exact ih0 _ _ _ _
  | exact impl_Block.mono _ _ _ _ _
  | exact impl_Bridges.mono _ _ _ _
  | exact impl_Cuts.mono _ _ _ _
  | exact impl_Sound.mono _ _ _ _
  | exact impl_Together.mono _ _ _ _
  | exact spec_Bridges.mono _ _ _ _
  | exact spec_DrawSound.mono _ _
  | exact spec_Sound.mono _ _ _ _
  | exact LeO.none _
  | refine LeO.ite ?_ ?_
  | refine LeO.bind ?_ (fun _ => ?_)
def laws_FnSound.T8 : Bool × List (List Nat × List Nat) := (true, [([], []), ([0], [0]), ([1], [1]), ([], []), ([3, 1], [3]), ([4], [4]), ([2, 5], [2, 5]), ([6, 4, 0, 1, 2, 3, 4, 5, 6], [6])])
def laws_FnSound.B8 : List Nat := [0, 1, 3, 0, 11, 27, 63, 127]
theorem laws_FnSound.tab8 : rtab .any (opsOf Try.f6 8) = laws_FnSound.T8 := by kernel_rfl
theorem laws_FnSound.bits8 : waitsOk laws_FnSound.T8.2 laws_FnSound.B8 = true := by kernel_rfl
set_option maxHeartbeats 8000000 in
set_option maxRecDepth 100000 in
theorem laws_FnSound.calls (k : Nat) (A0 : Option Addr) (c0 : Nat) (l0 : List Int) (r : Bool) (w : World) (hr0 : Kd.C (Kd.int .u8) w A0 l0.length l0) (hc0 : l0.length ≤ c0) (hT : r = true) (h : laws_FnSound.f k l0 = some r) :
  Calls Try.prog 6 #[.slice A0 l0.length c0] w fun e w' => e = .returned (.bool r) ∧ Below w.heap.size w w' := by
 have HTR_ := aM hT
 clear hT
 have hu43 := Try.underlying43
 have HR0 := aM hr0
 have HC0 := aM hc0
 clear hr0 hc0
 have HB := aM (Below.refl w.heap.size w)
 have H : ((laws_big.f l0).bind fun t635 => (if t635 = true then (some true) else ((spec_DrawSound.f k l0).bind fun bt636 => ((impl_Sound.f k bt636.1 bt636.2.1 bt636.2.2).bind fun t642 => ((spec_Sound.f k bt636.1 bt636.2.1 bt636.2.2).bind fun t643 => (if (t642 != t643) = true then (some false) else (if t642 = true then (laws_FnSound.l0 k 0 bt636.1 bt636.2.1 bt636.2.2) else ((impl_Bridges.f k bt636.1 bt636.2.1 bt636.2.2).bind fun t644 => ((spec_Bridges.f k bt636.1 bt636.2.1 bt636.2.2).bind fun t647 => (some ((t644.length : Int) == (t647.length : Int)))))))))))) = some r := h
 clear h
 replace H := Option.bind_eq_some_iff.mp H
 obtain ⟨t635, A20, H⟩ := H
 replace H : (if t635 = true then (some true) else ((spec_DrawSound.f k l0).bind fun bt636 => ((impl_Sound.f k bt636.1 bt636.2.1 bt636.2.2).bind fun t642 => ((spec_Sound.f k bt636.1 bt636.2.1 bt636.2.2).bind fun t643 => (if (t642 != t643) = true then (some false) else (if t642 = true then (laws_FnSound.l0 k 0 bt636.1 bt636.2.1 bt636.2.2) else ((impl_Bridges.f k bt636.1 bt636.2.1 bt636.2.2).bind fun t644 => ((spec_Bridges.f k bt636.1 bt636.2.1 bt636.2.2).bind fun t647 => (some ((t644.length : Int) == (t647.length : Int))))))))))) = some r := H
 have A2 := aM A20
 clear A20
 by_cases c3 : t635 = true
 {
 subst c3
 rw [if_pos rfl] at H
 obtain rfl := Option.some.inj H
 simp only [Option.some.injEq, Prod.mk.injEq] at H
 obtain ⟨rfl⟩ := H
 go_enter Try.func6, Try.ntmps6
 go_wp2_with (first | ((with_reducible refine gate_callee (f := 16) rfl ?_); refine goesL_ (some 9) rfl rfl Try.func16 (by kernel_rfl) rfl #[.slice A0 l0.length c0] rfl qz3 ?_; (with_reducible refine (laws_big.calls _ _ l0 true _ ?side1 ?side2 A2.out).mono ?_); (case side1 => exact qz46); (case side2 => exact HC0.out); rintro e w' ⟨rfl, ⟨nd, rfl⟩⟩; refine ⟨_, rfl, ?_⟩))
 go_ret
 exact ⟨by first | rfl | (simp [errW_none, errW_some] <;> rfl) | (simp [*, errW_none, errW_some] <;> rfl), by repeat (first | (with_reducible first | exact HB.out | apply below_alloc | apply pw_below_drewN | apply below_drew1) | exact HB.out)⟩
 }
 {
 replace c3 := Bool.eq_false_iff.mpr c3
 subst c3
 rw [if_neg (show ¬ (false = true) by decide)] at H
 replace H := Option.bind_eq_some_iff.mp H
 obtain ⟨⟨t636, t637, t638⟩, A40, H⟩ := H
 replace H : ((impl_Sound.f k t636 t637 t638).bind fun t642 => ((spec_Sound.f k t636 t637 t638).bind fun t643 => (if (t642 != t643) = true then (some false) else (if t642 = true then (laws_FnSound.l0 k 0 t636 t637 t638) else ((impl_Bridges.f k t636 t637 t638).bind fun t644 => ((spec_Bridges.f k t636 t637 t638).bind fun t647 => (some ((t644.length : Int) == (t647.length : Int))))))))) = some r := H
 have A4 := aM A40
 clear A40
 replace H := Option.bind_eq_some_iff.mp H
 obtain ⟨t642, A50, H⟩ := H
 replace H : ((spec_Sound.f k t636 t637 t638).bind fun t643 => (if (t642 != t643) = true then (some false) else (if t642 = true then (laws_FnSound.l0 k 0 t636 t637 t638) else ((impl_Bridges.f k t636 t637 t638).bind fun t644 => ((spec_Bridges.f k t636 t637 t638).bind fun t647 => (some ((t644.length : Int) == (t647.length : Int)))))))) = some r := H
 have A5 := aM A50
 clear A50
 replace H := Option.bind_eq_some_iff.mp H
 obtain ⟨t643, A60, H⟩ := H
 replace H : (if (t642 != t643) = true then (some false) else (if t642 = true then (laws_FnSound.l0 k 0 t636 t637 t638) else ((impl_Bridges.f k t636 t637 t638).bind fun t644 => ((spec_Bridges.f k t636 t637 t638).bind fun t647 => (some ((t644.length : Int) == (t647.length : Int))))))) = some r := H
 have A6 := aM A60
 clear A60
 by_cases c7 : (t642 != t643) = true
 {
 rw [if_pos c7] at H
 have c7b0 : (t642 != t643) = true := c7
 (try (have c7b1 : decide (t642 = t643) = false := by simpa using c7))
 (try (have c7b2 : (t642 == t643) = false := by simpa using c7))
 (try (have c7b3 : ¬ (t642 = t643) := by simpa using c7))
 clear c7
 obtain rfl := Option.some.inj H
 exact absurd HTR_.out (by decide)
 }
 {
 rw [if_neg c7] at H
 have c7b0 : (t642 != t643) = false := by simpa using c7
 (try (have c7b1 : decide (t642 = t643) = true := by simpa using c7))
 (try (have c7b2 : (t642 == t643) = true := by simpa using c7))
 clear c7
 by_cases c8 : t642 = true
 {
 subst c8
 rw [if_pos rfl] at H
 have H' := aM H
 clear H
 go_enter Try.func6, Try.ntmps6
 go_wp2_with (first | ((with_reducible refine gate_callee (f := 16) rfl ?_); refine goesL_ (some 9) rfl rfl Try.func16 (by kernel_rfl) rfl #[.slice A0 l0.length c0] rfl qz3 ?_; (with_reducible refine (laws_big.calls _ _ l0 false _ ?side1 ?side2 A2.out).mono ?_); (case side1 => exact qz46); (case side2 => exact HC0.out); rintro e w' ⟨rfl, ⟨nd, rfl⟩⟩; refine ⟨_, rfl, ?_⟩) | ((with_reducible refine gate_callee (f := 26) rfl ?_); refine goesL_ (some 11) rfl rfl Try.func26 (by kernel_rfl) rfl #[.slice A0 l0.length c0] rfl qz3 ?_; (with_reducible refine (spec_DrawSound.calls k _ _ l0 t636 t637 t638 _ ?side1 ?side2 A4.out).mono ?_); (case side1 => exact qz46); (case side2 => exact HC0.out); rintro e w9 ⟨v639, rfl, ho0, hb⟩; refine ⟨_, rfl, ?_⟩; have n0_ := aM (Kd.R_lower ho0 (below_size qz1)); have n1_ := aM (below_step qz1 hb); clear HB; have HO640 := n0_; have HB := n1_; clear n0_ n1_; (try clear hb); (try clear hb2); (try clear hk); (try clear hi); (try clear ho0)) | ((with_reducible refine gate_dst (N := 3) rfl ?_); (try (refine gate_guard (by rfl) ?_; dsimp only)); refine bx_ 3 #[.int .i64 0, .int .i64 0, .slice none 0 0] 43 ?_; intro gb641 hg w10 hbox hb; have n0_ := aM (Kd.R_below (rr_ HO640.out) hb); have n1_ := aM (below_step qz1 hb); have n2_ := aM (hbox); have n3_ := aM ((by rw [hg]; exact (below_size qz1) : w.heap.size ≤ gb641)); have n4_ := aM ((by rw [hg]; exact (below_size qz1) : w.heap.size ≤ gb641)); clear HO640 HB; have HO640 := n0_; have HB := n1_; have BK641 := n2_; have GW641 := n3_; have GE641 := n4_; clear n0_ n1_ n2_ n3_ n4_; clear hb hbox hg; obtain ⟨hcz11_0, hcz11_1, hcz11_2, hfz11_0, hfz11_1, hfz11_2⟩ := b6_ BK641.out; obtain ⟨Ao12, co12, eo12⟩ := Kd.R_slice HO640.out; subst eo12) | ((with_reducible refine gate_callee (f := 27) rfl ?_); refine goesL_ (some 13) rfl rfl Try.func27 (by kernel_rfl) rfl #[.agg #[.int .i64 t636, .int .i64 t637, .slice Ao12 t638.length co12]] rfl qz3 ?_; (with_reducible refine (impl_Sound.calls k t636 t637 _ _ t638 true _ ?side1 ?side2 A5.out).mono ?_); (case side1 => refine (Kd.R_reads' (e := 3) (base := w.heap.size) (ok := fun k_ => True) (n := t638.length) (c := co12) ?_).2.2; exact (by (with_reducible repeat (first | apply Kd.R_alloc | apply Kd.R_drewN | apply Kd.R_drew)); exact (Kd.R_mono (Kd.R_far (p := ⟨gb641, 2, none⟩) (Kd.R_far (p := ⟨gb641, 1, none⟩) (Kd.R_far (p := ⟨gb641, 0, none⟩) (Kd.R_types HO640.out BK641.out (by decide)) (fun _ hk => hk.2) (.int .i64 t636)) (fun _ hk => hk.2) (.int .i64 t637)) (fun _ hk => hk.2) (.slice Ao12 t638.length co12)) (fun _ h_ => h_.1)))); (case side2 => exact (Kd.R_reads' HO640.out).2.1); rintro e w13 ⟨rfl, hb⟩; refine ⟨_, rfl, ?_⟩; have n0_ := aM (Kd.R_below (by (with_reducible repeat (first | apply Kd.R_alloc | apply Kd.R_drewN | apply Kd.R_drew)); exact (Kd.R_mono (Kd.R_far (p := ⟨gb641, 2, none⟩) (Kd.R_far (p := ⟨gb641, 1, none⟩) (Kd.R_far (p := ⟨gb641, 0, none⟩) (Kd.R_types HO640.out BK641.out (by decide)) (fun _ hk => hk.2) (.int .i64 t636)) (fun _ hk => hk.2) (.int .i64 t637)) (fun _ hk => hk.2) (.slice Ao12 t638.length co12)) (fun _ h_ => h_.1))) hb); have n1_ := aM (blk_below (g := gb641) (o := .cells #[.int .i64 t636, .int .i64 t637, .slice Ao12 t638.length co12] 43 (0, 0)) (by (with_reducible repeat (first | refine blk_drewN ?_ _ | refine blk_drew ?_ | refine blk_alloc ?_ _)); refine blk_put (cs := #[.int .i64 t636, .int .i64 t637, .slice none 0 0]) ?_ 2 _ rfl; (with_reducible repeat (first | refine blk_drewN ?_ _ | refine blk_drew ?_ | refine blk_alloc ?_ _)); refine blk_put (cs := #[.int .i64 t636, .int .i64 0, .slice none 0 0]) ?_ 1 _ rfl; (with_reducible repeat (first | refine blk_drewN ?_ _ | refine blk_drew ?_ | refine blk_alloc ?_ _)); refine blk_put (cs := #[.int .i64 0, .int .i64 0, .slice none 0 0]) ?_ 0 _ rfl; exact bk_ BK641.out) hb); have n2_ := aM (below_step qz10 hb); clear HO640 BK641 HB; have HO640 := n0_; have BK641 := n1_; have HB := n2_; clear n0_ n1_ n2_; (try clear hb); (try clear hb2); (try clear hk); (try clear hi); obtain ⟨hcz14_0, hcz14_1, hcz14_2, hfz14_0, hfz14_1, hfz14_2⟩ := b6_ BK641.out) | ((with_reducible refine gate_callee (f := 28) rfl ?_); refine goesL_ (some 16) rfl rfl Try.func28 (by kernel_rfl) rfl #[.agg #[.int .i64 t636, .int .i64 t637, .slice Ao12 t638.length co12]] rfl qz3 ?_; (with_reducible refine (spec_Sound.calls k t636 t637 _ _ t638 t643 _ ?side1 ?side2 A6.out).mono ?_); (case side1 => exact qz59); (case side2 => exact (Kd.R_reads' HO640.out).2.1); rintro e w15 ⟨rfl, hb⟩; refine ⟨_, rfl, ?_⟩; have n0_ := aM (Kd.R_below (rr_ HO640.out) hb); have n1_ := aM (blk_below (bk_ BK641.out) hb); have n2_ := aM (below_step qz10 hb); clear HO640 BK641 HB; have HO640 := n0_; have BK641 := n1_; have HB := n2_; clear n0_ n1_ n2_; (try clear hb); (try clear hb2); (try clear hk); (try clear hi)))
 go_loopg [5] k (fun kq v5 w' => ∃ (x5_1 : Int), v5 = .int .i64 x5_1 ∧ Aside0 (laws_FnSound.l0 kq x5_1 t636 t637 t638 = some r) ∧ Aside0 (kq ≤ k) ∧ Aside0 (Kd.R (Kd.int .i64) 3 w' w.heap.size (fun _ => True) (.slice Ao12 t638.length co12) t638) ∧ Aside0 (w'.heap[gb641]? = some (.cells #[.int .i64 t636, .int .i64 t637, (.slice Ao12 t638.length co12)] 43 (0, 0))) ∧ Aside0 (Below w.heap.size w w'))
 case atStart => exact ⟨(0), qz5, H', ⟨Nat.le_refl _⟩, ⟨rr_ HO640.out⟩, ⟨bk_ BK641.out⟩, ⟨by repeat (first | (with_reducible first | exact HB.out | apply below_alloc | apply pw_below_drewN | apply below_drew1 | refine below_set ?_ GE641.out) | exact HB.out)⟩⟩
 case round =>
  clear H'
  try clear c1
  try clear c2
  try clear p2
  try clear c3
  try clear c6
  try clear c7
  try clear c7b0
  try clear c7b1
  try clear c7b2
  try clear c8
  try clear hcz11_0
  try clear hcz11_1
  try clear hcz11_2
  try clear hcz14_0
  try clear hcz14_1
  try clear hcz14_2
  try clear hfz11_0
  try clear hfz11_1
  try clear hfz11_2
  try clear hfz14_0
  try clear hfz14_1
  try clear hfz14_2
  obtain ⟨x5_1, rfl, HA, HK1, HO_642002, BK641, HB⟩ := hrel
  cases gk with
  | zero => exact absurd HA.out (by simp [laws_FnSound.l0])
  | succ k1 =>
   have H := HA.out
   clear HA
   simp only [laws_FnSound.l0] at H
   by_cases c16 : x5_1 < (t638.length : Int)
   {
   rw [if_pos c16] at H
   have c16b0 := decide_eq_true c16
   clear c16
   replace H := Option.bind_eq_some_iff.mp H
   obtain ⟨⟨t657, t658, t659, t662⟩, A170, H⟩ := H
   replace H : (if t662 = true then ((impl_Together.f k1 t657 t658 t659).bind fun t664 => (if t664 = true then (laws_FnSound.l0 k1 (wrap64 (x5_1 + 1)) t636 t637 t638) else (some false))) else (laws_FnSound.l0 k1 (wrap64 (x5_1 + 1)) t636 t637 t638)) = some r := H
   have A17 := aM A170
   clear A170
   by_cases c18 : t662 = true
   {
   subst c18
   rw [if_pos rfl] at H
   replace H := Option.bind_eq_some_iff.mp H
   obtain ⟨t664, A190, H⟩ := H
   replace H : (if t664 = true then (laws_FnSound.l0 k1 (wrap64 (x5_1 + 1)) t636 t637 t638) else (some false)) = some r := H
   have A19 := aM A190
   clear A190
   by_cases c20 : t664 = true
   {
   subst c20
   rw [if_pos rfl] at H
   have H' := aM H
   clear H
   obtain ⟨hcz21_0, hcz21_1, hcz21_2, hfz21_0, hfz21_1, hfz21_2⟩ := b6_ BK641.out
   go_wp2_with (first | ((with_reducible refine gate_callee (f := 31) rfl ?_); refine goesL_ (some 37) rfl rfl Try.func31 (by kernel_rfl) rfl #[.agg #[.int .i64 t636, .int .i64 t637, .slice Ao12 t638.length co12], .int .i64 x5_1] rfl qz3 ?_; (with_reducible refine (impl_Block.calls k1 t636 t637 _ _ t638 x5_1 t657 t658 t659 true _ ?side1 ?side2 A17.out).mono ?_); (case side1 => exact qz49); (case side2 => exact (Kd.R_reads' HO_642002.out).2.1); rintro e w22 ⟨v660, rfl, ho0, hb⟩; refine ⟨_, rfl, ?_⟩; have n0_ := aM (Kd.R_elder' (rr_ HO_642002.out) (Kd.R_base ho0) hb); have n1_ := aM (Kd.R_lower (Kd.R_new' ho0 (Kd.R_lt (rr_ HO_642002.out))) (below_size qz10)); have n2_ := aM (blk_below (bk_ BK641.out) hb); have n3_ := aM (below_step qz10 hb); clear HO_642002 BK641 HB; have HO_642002 := n0_; have HO661 := n1_; have BK641 := n2_; have HB := n3_; clear n0_ n1_ n2_ n3_; (try clear hb); (try clear hb2); (try clear hk); (try clear hi); (try clear ho0)) | ((with_reducible refine gate_dst (N := 6) rfl ?_); (try (refine gate_guard (by rfl) ?_; dsimp only)); refine bx_ 6 #[.int .i64 0, .int .i64 0, .slice none 0 0] 43 ?_; intro gb663 hg w23 hbox hb; have n0_ := aM (Kd.R_below (rr_ HO_642002.out) hb); have n1_ := aM (Kd.R_below (rr_ HO661.out) hb); have n2_ := aM (blk_below (bk_ BK641.out) hb); have n3_ := aM (below_step qz10 hb); have n4_ := aM (hbox); have n5_ := aM ((by rw [hg]; exact (below_size qz10) : w.heap.size ≤ gb663)); have n6_ := aM ((by rw [hg]; exact (below_size qz10) : w.heap.size ≤ gb663)); have n7_ := aM ((by rw [hg]; exact Nat.ne_of_lt (blk_lt (bk_ BK641.out)) : gb641 ≠ gb663)); have n8_ := aM ((by rw [hg]; exact Nat.ne_of_gt (blk_lt (bk_ BK641.out)) : gb663 ≠ gb641)); clear HO_642002 HO661 BK641 HB; have HO_642002 := n0_; have HO661 := n1_; have BK641 := n2_; have HB := n3_; have BK663 := n4_; have GW663 := n5_; have GE663 := n6_; have NB641_663 := n7_; have NB663_641 := n8_; clear n0_ n1_ n2_ n3_ n4_ n5_ n6_ n7_ n8_; clear hb hbox hg; have hnb24 := NB663_641.out; have hnc24 := NB641_663.out; obtain ⟨hcz25_0, hcz25_1, hcz25_2, hfz25_0, hfz25_1, hfz25_2⟩ := b6_ BK663.out; obtain ⟨Ao26, co26, eo26⟩ := Kd.R_slice HO661.out; subst eo26) | (go_at_call 32; (with_reducible refine (impl_Together.calls k1 t657 t658 _ _ t659 true _ ?side1 ?side2 A19.out).mono ?_); (case side1 => refine (Kd.R_reads' (e := 3) (base := w.heap.size) (ok := fun k_ => (True ∧ some k_ ≠ (.slice Ao12 t638.length co12 : Value).ownBlock)) (n := t659.length) (c := co26) ?_).2.2; exact (by (with_reducible repeat (first | apply Kd.R_alloc | apply Kd.R_drewN | apply Kd.R_drew)); exact (Kd.R_mono (Kd.R_far (p := ⟨gb663, 2, none⟩) (Kd.R_far (p := ⟨gb663, 1, none⟩) (Kd.R_far (p := ⟨gb663, 0, none⟩) (Kd.R_types HO661.out BK663.out (by decide)) (fun _ hk => hk.2) (.int .i64 t657)) (fun _ hk => hk.2) (.int .i64 t658)) (fun _ hk => hk.2) (.slice Ao26 t659.length co26)) (fun _ h_ => h_.1)))); (case side2 => exact (Kd.R_reads' HO661.out).2.1); rintro e w27 ⟨rfl, hb⟩; have n0_ := aM (Kd.R_below (by (with_reducible repeat (first | apply Kd.R_alloc | apply Kd.R_drewN | apply Kd.R_drew)); exact (Kd.R_mono (Kd.R_far (p := ⟨gb663, 2, none⟩) (Kd.R_far (p := ⟨gb663, 1, none⟩) (Kd.R_far (p := ⟨gb663, 0, none⟩) (Kd.R_types HO_642002.out BK663.out (by decide)) (fun _ hk => hk.2) (.int .i64 t657)) (fun _ hk => hk.2) (.int .i64 t658)) (fun _ hk => hk.2) (.slice Ao26 t659.length co26)) (fun _ h_ => h_.1))) hb); have n1_ := aM (Kd.R_below (by (with_reducible repeat (first | apply Kd.R_alloc | apply Kd.R_drewN | apply Kd.R_drew)); exact (Kd.R_mono (Kd.R_far (p := ⟨gb663, 2, none⟩) (Kd.R_far (p := ⟨gb663, 1, none⟩) (Kd.R_far (p := ⟨gb663, 0, none⟩) (Kd.R_types HO661.out BK663.out (by decide)) (fun _ hk => hk.2) (.int .i64 t657)) (fun _ hk => hk.2) (.int .i64 t658)) (fun _ hk => hk.2) (.slice Ao26 t659.length co26)) (fun _ h_ => h_.1))) hb); have n2_ := aM (blk_below (g := gb641) (o := .cells #[.int .i64 t636, .int .i64 t637, .slice Ao12 t638.length co12] 43 (0, 0)) (by (with_reducible repeat (first | refine blk_drewN ?_ _ | refine blk_drew ?_ | refine blk_alloc ?_ _)); refine blk_far ?_ NB641_663.out _; (with_reducible repeat (first | refine blk_drewN ?_ _ | refine blk_drew ?_ | refine blk_alloc ?_ _)); refine blk_far ?_ NB641_663.out _; (with_reducible repeat (first | refine blk_drewN ?_ _ | refine blk_drew ?_ | refine blk_alloc ?_ _)); refine blk_far ?_ NB641_663.out _; exact bk_ BK641.out) hb); have n3_ := aM (blk_below (g := gb663) (o := .cells #[.int .i64 t657, .int .i64 t658, .slice Ao26 t659.length co26] 43 (0, 0)) (by (with_reducible repeat (first | refine blk_drewN ?_ _ | refine blk_drew ?_ | refine blk_alloc ?_ _)); refine blk_put (cs := #[.int .i64 t657, .int .i64 t658, .slice none 0 0]) ?_ 2 _ rfl; (with_reducible repeat (first | refine blk_drewN ?_ _ | refine blk_drew ?_ | refine blk_alloc ?_ _)); refine blk_put (cs := #[.int .i64 t657, .int .i64 0, .slice none 0 0]) ?_ 1 _ rfl; (with_reducible repeat (first | refine blk_drewN ?_ _ | refine blk_drew ?_ | refine blk_alloc ?_ _)); refine blk_put (cs := #[.int .i64 0, .int .i64 0, .slice none 0 0]) ?_ 0 _ rfl; exact bk_ BK663.out) hb); have n4_ := aM (below_step (by repeat (first | (with_reducible first | exact HB.out | apply below_alloc | apply pw_below_drewN | apply below_drew1 | refine below_set ?_ GE641.out | refine below_set ?_ GE663.out) | exact HB.out)) hb); clear HO_642002 HO661 BK641 BK663 HB; have HO_642002 := n0_; have HO661 := n1_; have BK641 := n2_; have BK663 := n3_; have HB := n4_; clear n0_ n1_ n2_ n3_ n4_; (try clear hb); (try clear hb2); (try clear hk); (try clear hi)))
   go_roundg k1
   case measure => have := HK1.out; omega
   case rel => exact ⟨(wrap64 (x5_1 + 1)), qz5, H', ⟨by have := HK1.out; omega⟩, ⟨by (with_reducible repeat (first | apply Kd.R_alloc | apply Kd.R_drewN | apply Kd.R_drew)); exact Kd.R_mono HO_642002.out (fun _ hk => trivial)⟩, ⟨bk_ BK641.out⟩, ⟨by repeat (first | (with_reducible first | exact HB.out | apply below_alloc | apply pw_below_drewN | apply below_drew1 | refine below_set ?_ GE641.out | refine below_set ?_ GE663.out) | exact HB.out)⟩⟩
   }
   {
   replace c20 := Bool.eq_false_iff.mpr c20
   subst c20
   rw [if_neg (show ¬ (false = true) by decide)] at H
   obtain rfl := Option.some.inj H
   exact absurd HTR_.out (by decide)
   }
   }
   {
   replace c18 := Bool.eq_false_iff.mpr c18
   subst c18
   rw [if_neg (show ¬ (false = true) by decide)] at H
   have H' := aM H
   clear H
   obtain ⟨hcz28_0, hcz28_1, hcz28_2, hfz28_0, hfz28_1, hfz28_2⟩ := b6_ BK641.out
   go_wp2_with (first | ((with_reducible refine gate_callee (f := 31) rfl ?_); refine goesL_ (some 37) rfl rfl Try.func31 (by kernel_rfl) rfl #[.agg #[.int .i64 t636, .int .i64 t637, .slice Ao12 t638.length co12], .int .i64 x5_1] rfl qz3 ?_; (with_reducible refine (impl_Block.calls k1 t636 t637 _ _ t638 x5_1 t657 t658 t659 false _ ?side1 ?side2 A17.out).mono ?_); (case side1 => exact qz49); (case side2 => exact (Kd.R_reads' HO_642002.out).2.1); rintro e w29 ⟨v660, rfl, ho0, hb⟩; refine ⟨_, rfl, ?_⟩; have n0_ := aM (Kd.R_elder' (rr_ HO_642002.out) (Kd.R_base ho0) hb); have n1_ := aM (Kd.R_lower (Kd.R_new' ho0 (Kd.R_lt (rr_ HO_642002.out))) (below_size qz10)); have n2_ := aM (blk_below (bk_ BK641.out) hb); have n3_ := aM (below_step qz10 hb); clear HO_642002 BK641 HB; have HO_642002 := n0_; have HO661 := n1_; have BK641 := n2_; have HB := n3_; clear n0_ n1_ n2_ n3_; (try clear hb); (try clear hb2); (try clear hk); (try clear hi); (try clear ho0)) | ((with_reducible refine gate_dst (N := 6) rfl ?_); (try (refine gate_guard (by rfl) ?_; dsimp only)); refine bx_ 6 #[.int .i64 0, .int .i64 0, .slice none 0 0] 43 ?_; intro gb663 hg w30 hbox hb; have n0_ := aM (Kd.R_below (rr_ HO_642002.out) hb); have n1_ := aM (Kd.R_below (rr_ HO661.out) hb); have n2_ := aM (blk_below (bk_ BK641.out) hb); have n3_ := aM (below_step qz10 hb); have n4_ := aM (hbox); have n5_ := aM ((by rw [hg]; exact (below_size qz10) : w.heap.size ≤ gb663)); have n6_ := aM ((by rw [hg]; exact (below_size qz10) : w.heap.size ≤ gb663)); have n7_ := aM ((by rw [hg]; exact Nat.ne_of_lt (blk_lt (bk_ BK641.out)) : gb641 ≠ gb663)); have n8_ := aM ((by rw [hg]; exact Nat.ne_of_gt (blk_lt (bk_ BK641.out)) : gb663 ≠ gb641)); clear HO_642002 HO661 BK641 HB; have HO_642002 := n0_; have HO661 := n1_; have BK641 := n2_; have HB := n3_; have BK663 := n4_; have GW663 := n5_; have GE663 := n6_; have NB641_663 := n7_; have NB663_641 := n8_; clear n0_ n1_ n2_ n3_ n4_ n5_ n6_ n7_ n8_; clear hb hbox hg; have hnb31 := NB663_641.out; have hnc31 := NB641_663.out; obtain ⟨hcz32_0, hcz32_1, hcz32_2, hfz32_0, hfz32_1, hfz32_2⟩ := b6_ BK663.out; obtain ⟨Ao33, co33, eo33⟩ := Kd.R_slice HO661.out; subst eo33))
   go_roundg k1
   case measure => have := HK1.out; omega
   case rel => exact ⟨(wrap64 (x5_1 + 1)), qz5, H', ⟨by have := HK1.out; omega⟩, ⟨by (with_reducible repeat (first | apply Kd.R_alloc | apply Kd.R_drewN | apply Kd.R_drew)); exact Kd.R_mono (Kd.R_far (p := ⟨gb663, 2, none⟩) (Kd.R_far (p := ⟨gb663, 1, none⟩) (Kd.R_far (p := ⟨gb663, 0, none⟩) (Kd.R_types HO_642002.out BK663.out (by decide)) (fun _ hk => hk.2) (.int .i64 t657)) (fun _ hk => hk.2) (.int .i64 t658)) (fun _ hk => hk.2) (.slice Ao33 t659.length co33)) (fun _ hk => trivial)⟩, ⟨by (with_reducible repeat (first | refine blk_drewN ?_ _ | refine blk_drew ?_ | refine blk_alloc ?_ _)); refine blk_far ?_ NB641_663.out _; (with_reducible repeat (first | refine blk_drewN ?_ _ | refine blk_drew ?_ | refine blk_alloc ?_ _)); refine blk_far ?_ NB641_663.out _; (with_reducible repeat (first | refine blk_drewN ?_ _ | refine blk_drew ?_ | refine blk_alloc ?_ _)); refine blk_far ?_ NB641_663.out _; exact bk_ BK641.out⟩, ⟨by repeat (first | (with_reducible first | exact HB.out | apply below_alloc | apply pw_below_drewN | apply below_drew1 | refine below_set ?_ GE641.out | refine below_set ?_ GE663.out) | exact HB.out)⟩⟩
   }
   }
   {
   rw [if_neg c16] at H
   have c16b0 := decide_eq_false c16
   clear c16
   replace H := Option.bind_eq_some_iff.mp H
   obtain ⟨t650, A340, H⟩ := H
   replace H : (if (t650.length : Int) = 0 then ((impl_Cuts.f k1 t636 t637 t638).bind fun t653 => (if (t653.length : Int) = 0 then ((impl_Together.f k1 t636 t637 t638).bind fun t656 => (some t656)) else (some false))) else (some false)) = some r := H
   have A34 := aM A340
   clear A340
   by_cases c35 : (t650.length : Int) = 0
   {
   rw [if_pos c35] at H
   have c35b0 := beq_iff_eq.mpr c35
   have c35b1 := bne_eq_false_iff_eq.mpr c35
   clear c35
   replace H := Option.bind_eq_some_iff.mp H
   obtain ⟨t653, A360, H⟩ := H
   replace H : (if (t653.length : Int) = 0 then ((impl_Together.f k1 t636 t637 t638).bind fun t656 => (some t656)) else (some false)) = some r := H
   have A36 := aM A360
   clear A360
   by_cases c37 : (t653.length : Int) = 0
   {
   rw [if_pos c37] at H
   have c37b0 := beq_iff_eq.mpr c37
   have c37b1 := bne_eq_false_iff_eq.mpr c37
   clear c37
   replace H := Option.bind_eq_some_iff.mp H
   obtain ⟨t656, A380, H⟩ := H
   replace H : (some t656) = some r := H
   have A38 := aM A380
   clear A380
   obtain rfl := Option.some.inj H
   simp only [Option.some.injEq, Prod.mk.injEq] at H
   obtain ⟨rfl⟩ := H
   obtain ⟨hcz39_0, hcz39_1, hcz39_2, hfz39_0, hfz39_1, hfz39_2⟩ := b6_ BK641.out
   go_wp2_with (first | ((with_reducible refine gate_callee (f := 29) rfl ?_); refine goesL_ (some 47) rfl rfl Try.func29 (by kernel_rfl) rfl #[.agg #[.int .i64 t636, .int .i64 t637, .slice Ao12 t638.length co12]] rfl qz3 ?_; (with_reducible refine (impl_Bridges.calls k1 t636 t637 _ _ t638 t650 _ ?side1 ?side2 A34.out).mono ?_); (case side1 => exact qz49); (case side2 => exact (Kd.R_reads' HO_642002.out).2.1); rintro e w40 ⟨v651, rfl, ho0, hb⟩; refine ⟨_, rfl, ?_⟩; have n0_ := aM (Kd.R_below (rr_ HO_642002.out) hb); have n1_ := aM (Kd.R_lower ho0 (below_size qz10)); have n2_ := aM (blk_below (bk_ BK641.out) hb); have n3_ := aM (below_step qz10 hb); clear HO_642002 BK641 HB; have HO_642002 := n0_; have HO652 := n1_; have BK641 := n2_; have HB := n3_; clear n0_ n1_ n2_ n3_; (try clear hb); (try clear hb2); (try clear hk); (try clear hi); (try clear ho0); obtain ⟨Ao41, co41, eo41⟩ := Kd.R_slice HO652.out; subst eo41; obtain ⟨hcz42_0, hcz42_1, hcz42_2, hfz42_0, hfz42_1, hfz42_2⟩ := b6_ BK641.out) | (go_at_call 33; (with_reducible refine (impl_Cuts.calls k1 t636 t637 _ _ t638 t653 _ ?side1 ?side2 A36.out).mono ?_); (case side1 => exact qz49); (case side2 => exact (Kd.R_reads' HO_642002.out).2.1); rintro e w43 ⟨v654, rfl, ho0, hb⟩; have n0_ := aM (Kd.R_elder' (rr_ HO_642002.out) (Kd.R_base ho0) hb); have n1_ := aM (Kd.R_below (rr_ HO652.out) hb); have n2_ := aM (Kd.R_lower (Kd.R_new' ho0 (Kd.R_lt (rr_ HO_642002.out))) (below_size qz10)); have n3_ := aM (blk_below (bk_ BK641.out) hb); have n4_ := aM (below_step qz10 hb); clear HO_642002 HO652 BK641 HB; have HO_642002 := n0_; have HO652 := n1_; have HO655 := n2_; have BK641 := n3_; have HB := n4_; clear n0_ n1_ n2_ n3_ n4_; (try clear hb); (try clear hb2); (try clear hk); (try clear hi); (try clear ho0); obtain ⟨Ao44, co44, eo44⟩ := Kd.R_slice HO655.out; subst eo44; obtain ⟨hcz45_0, hcz45_1, hcz45_2, hfz45_0, hfz45_1, hfz45_2⟩ := b6_ BK641.out) | (go_at_call 32; (with_reducible refine (impl_Together.calls k1 t636 t637 _ _ t638 t656 _ ?side1 ?side2 A38.out).mono ?_); (case side1 => exact qz49); (case side2 => exact (Kd.R_reads' HO_642002.out).2.1); rintro e w46 ⟨rfl, hb⟩; have n0_ := aM (Kd.R_below (rr_ HO_642002.out) hb); have n1_ := aM (Kd.R_below (rr_ HO652.out) hb); have n2_ := aM (Kd.R_below (rr_ HO655.out) hb); have n3_ := aM (blk_below (bk_ BK641.out) hb); have n4_ := aM (below_step qz10 hb); clear HO_642002 HO652 HO655 BK641 HB; have HO_642002 := n0_; have HO652 := n1_; have HO655 := n2_; have BK641 := n3_; have HB := n4_; clear n0_ n1_ n2_ n3_ n4_; (try clear hb); (try clear hb2); (try clear hk); (try clear hi)))
   go_ret
   exact ⟨by first | rfl | (simp [errW_none, errW_some] <;> rfl) | (simp [*, errW_none, errW_some] <;> rfl), by repeat (first | (with_reducible first | exact HB.out | apply below_alloc | apply pw_below_drewN | apply below_drew1 | refine below_set ?_ GE641.out) | exact HB.out)⟩
   }
   {
   rw [if_neg c37] at H
   have c37b0 := beq_eq_false_iff_ne.mpr c37
   have c37b1 := bne_iff_ne.mpr c37
   have c37b2 : ¬ (t653 = []) := fun h_ => c37 (by rw [h_]; rfl)
   obtain rfl := Option.some.inj H
   exact absurd HTR_.out (by decide)
   }
   }
   {
   rw [if_neg c35] at H
   have c35b0 := beq_eq_false_iff_ne.mpr c35
   have c35b1 := bne_iff_ne.mpr c35
   have c35b2 : ¬ (t650 = []) := fun h_ => c35 (by rw [h_]; rfl)
   obtain rfl := Option.some.inj H
   exact absurd HTR_.out (by decide)
   }
   }
 }
 {
 replace c8 := Bool.eq_false_iff.mpr c8
 subst c8
 rw [if_neg (show ¬ (false = true) by decide)] at H
 replace H := Option.bind_eq_some_iff.mp H
 obtain ⟨t644, A470, H⟩ := H
 replace H : ((spec_Bridges.f k t636 t637 t638).bind fun t647 => (some ((t644.length : Int) == (t647.length : Int)))) = some r := H
 have A47 := aM A470
 clear A470
 replace H := Option.bind_eq_some_iff.mp H
 obtain ⟨t647, A480, H⟩ := H
 replace H : (some ((t644.length : Int) == (t647.length : Int))) = some r := H
 have A48 := aM A480
 clear A480
 obtain rfl := Option.some.inj H
 simp only [Option.some.injEq, Prod.mk.injEq] at H
 obtain ⟨rfl⟩ := H
 go_enter Try.func6, Try.ntmps6
 try go_wp2_with (first | ((with_reducible refine gate_callee (f := 16) rfl ?_); refine goesL_ (some 9) rfl rfl Try.func16 (by kernel_rfl) rfl #[.slice A0 l0.length c0] rfl qz3 ?_; (with_reducible refine (laws_big.calls _ _ l0 false _ ?side1 ?side2 A2.out).mono ?_); (case side1 => exact qz46); (case side2 => exact HC0.out); rintro e w' ⟨rfl, ⟨nd, rfl⟩⟩; refine ⟨_, rfl, ?_⟩) | ((with_reducible refine gate_callee (f := 26) rfl ?_); refine goesL_ (some 11) rfl rfl Try.func26 (by kernel_rfl) rfl #[.slice A0 l0.length c0] rfl qz3 ?_; (with_reducible refine (spec_DrawSound.calls k _ _ l0 t636 t637 t638 _ ?side1 ?side2 A4.out).mono ?_); (case side1 => exact qz46); (case side2 => exact HC0.out); rintro e w49 ⟨v639, rfl, ho0, hb⟩; refine ⟨_, rfl, ?_⟩; have n0_ := aM (Kd.R_lower ho0 (below_size qz1)); have n1_ := aM (below_step qz1 hb); clear HB; have HO640 := n0_; have HB := n1_; clear n0_ n1_; (try clear hb); (try clear hb2); (try clear hk); (try clear hi); (try clear ho0)) | ((with_reducible refine gate_dst (N := 3) rfl ?_); (try (refine gate_guard (by rfl) ?_; dsimp only)); refine bx_ 3 #[.int .i64 0, .int .i64 0, .slice none 0 0] 43 ?_; intro gb641 hg w50 hbox hb; have n0_ := aM (Kd.R_below (rr_ HO640.out) hb); have n1_ := aM (below_step qz1 hb); have n2_ := aM (hbox); have n3_ := aM ((by rw [hg]; exact (below_size qz1) : w.heap.size ≤ gb641)); have n4_ := aM ((by rw [hg]; exact (below_size qz1) : w.heap.size ≤ gb641)); clear HO640 HB; have HO640 := n0_; have HB := n1_; have BK641 := n2_; have GW641 := n3_; have GE641 := n4_; clear n0_ n1_ n2_ n3_ n4_; clear hb hbox hg; obtain ⟨hcz51_0, hcz51_1, hcz51_2, hfz51_0, hfz51_1, hfz51_2⟩ := b6_ BK641.out; obtain ⟨Ao52, co52, eo52⟩ := Kd.R_slice HO640.out; subst eo52) | ((with_reducible refine gate_callee (f := 27) rfl ?_); refine goesL_ (some 13) rfl rfl Try.func27 (by kernel_rfl) rfl #[.agg #[.int .i64 t636, .int .i64 t637, .slice Ao52 t638.length co52]] rfl qz3 ?_; (with_reducible refine (impl_Sound.calls k t636 t637 _ _ t638 false _ ?side1 ?side2 A5.out).mono ?_); (case side1 => refine (Kd.R_reads' (e := 3) (base := w.heap.size) (ok := fun k_ => True) (n := t638.length) (c := co52) ?_).2.2; exact (by (with_reducible repeat (first | apply Kd.R_alloc | apply Kd.R_drewN | apply Kd.R_drew)); exact (Kd.R_mono (Kd.R_far (p := ⟨gb641, 2, none⟩) (Kd.R_far (p := ⟨gb641, 1, none⟩) (Kd.R_far (p := ⟨gb641, 0, none⟩) (Kd.R_types HO640.out BK641.out (by decide)) (fun _ hk => hk.2) (.int .i64 t636)) (fun _ hk => hk.2) (.int .i64 t637)) (fun _ hk => hk.2) (.slice Ao52 t638.length co52)) (fun _ h_ => h_.1)))); (case side2 => exact (Kd.R_reads' HO640.out).2.1); rintro e w53 ⟨rfl, hb⟩; refine ⟨_, rfl, ?_⟩; have n0_ := aM (Kd.R_below (by (with_reducible repeat (first | apply Kd.R_alloc | apply Kd.R_drewN | apply Kd.R_drew)); exact (Kd.R_mono (Kd.R_far (p := ⟨gb641, 2, none⟩) (Kd.R_far (p := ⟨gb641, 1, none⟩) (Kd.R_far (p := ⟨gb641, 0, none⟩) (Kd.R_types HO640.out BK641.out (by decide)) (fun _ hk => hk.2) (.int .i64 t636)) (fun _ hk => hk.2) (.int .i64 t637)) (fun _ hk => hk.2) (.slice Ao52 t638.length co52)) (fun _ h_ => h_.1))) hb); have n1_ := aM (blk_below (g := gb641) (o := .cells #[.int .i64 t636, .int .i64 t637, .slice Ao52 t638.length co52] 43 (0, 0)) (by (with_reducible repeat (first | refine blk_drewN ?_ _ | refine blk_drew ?_ | refine blk_alloc ?_ _)); refine blk_put (cs := #[.int .i64 t636, .int .i64 t637, .slice none 0 0]) ?_ 2 _ rfl; (with_reducible repeat (first | refine blk_drewN ?_ _ | refine blk_drew ?_ | refine blk_alloc ?_ _)); refine blk_put (cs := #[.int .i64 t636, .int .i64 0, .slice none 0 0]) ?_ 1 _ rfl; (with_reducible repeat (first | refine blk_drewN ?_ _ | refine blk_drew ?_ | refine blk_alloc ?_ _)); refine blk_put (cs := #[.int .i64 0, .int .i64 0, .slice none 0 0]) ?_ 0 _ rfl; exact bk_ BK641.out) hb); have n2_ := aM (below_step qz10 hb); clear HO640 BK641 HB; have HO640 := n0_; have BK641 := n1_; have HB := n2_; clear n0_ n1_ n2_; (try clear hb); (try clear hb2); (try clear hk); (try clear hi); obtain ⟨hcz54_0, hcz54_1, hcz54_2, hfz54_0, hfz54_1, hfz54_2⟩ := b6_ BK641.out) | ((with_reducible refine gate_callee (f := 28) rfl ?_); refine goesL_ (some 16) rfl rfl Try.func28 (by kernel_rfl) rfl #[.agg #[.int .i64 t636, .int .i64 t637, .slice Ao52 t638.length co52]] rfl qz3 ?_; (with_reducible refine (spec_Sound.calls k t636 t637 _ _ t638 t643 _ ?side1 ?side2 A6.out).mono ?_); (case side1 => exact qz59); (case side2 => exact (Kd.R_reads' HO640.out).2.1); rintro e w55 ⟨rfl, hb⟩; refine ⟨_, rfl, ?_⟩; have n0_ := aM (Kd.R_below (rr_ HO640.out) hb); have n1_ := aM (blk_below (bk_ BK641.out) hb); have n2_ := aM (below_step qz10 hb); clear HO640 BK641 HB; have HO640 := n0_; have BK641 := n1_; have HB := n2_; clear n0_ n1_ n2_; (try clear hb); (try clear hb2); (try clear hk); (try clear hi)))
 have n0_ := aM (Kd.R_drew HO640.out)
 have n1_ := aM (blk_drew BK641.out)
 have n2_ := aM (below_drew1 HB.out)
 clear HO640
 clear BK641
 clear HB
 have HO640 := n0_
 have BK641 := n1_
 have HB := n2_
 clear n0_ n1_ n2_
 refine start_ (n := 8) (S := fun w' => w'.cell? ⟨gb641, 0, none⟩ = some (.int .i64 t636) ∧ w'.cell? ⟨gb641, 1, none⟩ = some (.int .i64 t637) ∧ w'.cell? ⟨gb641, 2, none⟩ = some (.slice Ao52 t638.length co52)) (ds := []) #[false, false, false, false, false, false, false, false] (by kernel_rfl) rfl rfl ⟨(blk_cell BK641.out 0).trans rfl, (blk_cell BK641.out 1).trans rfl, (blk_cell BK641.out 2).trans rfl⟩ (fun hHeld => ?_); refine with_tabW laws_FnSound.tab8 laws_FnSound.bits8 (fun HT_ HW_ => ?_)
 generalize w55.drew = w56 at HO640 BK641 HB hHeld ⊢
 refine tI3_ 0 20 (bqz 8 1) ?_
 refine tI3_ 3 23 (bqz 8 9) ?_
 refine one_ (i := 1) (N := some 21) (bqz 8 11) rfl rfl qzc (by decide) (fun K hK => ?_)
 refine goes_ Try.func29 (by kernel_rfl) rfl #[.agg #[.int .i64 t636, .int .i64 t637, .slice Ao52 t638.length co52]] (by rfl) rfl rfl qz3 ?_
 with_reducible refine (impl_Bridges.calls k t636 t637 _ _ t638 t644 _ ?side1 ?side2 A47.out).mono ?_
 (case side1 => exact qz59)
 (case side2 => exact (Kd.R_reads' HO640.out).2.1)
 rintro e w57 ⟨v645, rfl, ho0, hb⟩
 refine ⟨_, rfl, ?_⟩
 have n0_ := aM (Kd.R_below (rr_ HO640.out) hb)
 have n1_ := aM (Kd.R_lower ho0 (below_size qz10))
 have n2_ := aM (blk_below (bk_ BK641.out) hb)
 have n3_ := aM (below_step qz10 hb)
 clear HO640
 clear BK641
 clear HB
 have HO640 := n0_
 have HO646 := n1_
 have BK641 := n2_
 have HB := n3_
 clear n0_ n1_ n2_ n3_
 (try clear hb)
 (try clear hb2)
 (try clear hk)
 (try clear hi)
 (try clear ho0)
 obtain ⟨Ao58, co58, eo58⟩ := Kd.R_slice HO646.out
 (first | subst eo58 | (injection eo58 with f1_ f2_ f3_; have f4_ := f1_.symm; have f5_ := f3_.symm; clear f1_ f2_ f3_; subst f4_; subst f5_))
 refine hK.out _ _ ⟨(blk_cell BK641.out 0).trans rfl, (blk_cell BK641.out 1).trans rfl, (blk_cell BK641.out 2).trans rfl⟩ (fun hHeld => ?_)
 clear hK K
 refine norm_ (a' := ?_) ?_ ?_
 rotate_left
 {
 show Act.put _ (some 21) _ = _
 simp only [qzs]
 rfl
 }
 refine pI_ 2 22 (bqz 8 15) ?_
 refine one_ (i := 4) (N := some 24) (bqz 8 31) rfl rfl qzc (by decide) (fun K hK => ?_)
 refine goes_ Try.func30 (by kernel_rfl) rfl #[.agg #[.int .i64 t636, .int .i64 t637, .slice Ao52 t638.length co52]] (by rfl) rfl rfl qz3 ?_
 with_reducible refine (spec_Bridges.calls k t636 t637 _ _ t638 t647 _ ?side1 ?side2 A48.out).mono ?_
 (case side1 => exact qz59)
 (case side2 => exact (Kd.R_reads' HO640.out).2.1)
 rintro e w59 ⟨v648, rfl, ho0, hb⟩
 refine ⟨_, rfl, ?_⟩
 have n0_ := aM (Kd.R_below (rr_ HO640.out) hb)
 have n1_ := aM (Kd.R_elder' (rr_ HO646.out) (Kd.R_base ho0) hb)
 have n2_ := aM (Kd.R_lower (Kd.R_new' ho0 (Kd.R_lt (rr_ HO646.out))) (below_size qz10))
 have n3_ := aM (blk_below (bk_ BK641.out) hb)
 have n4_ := aM (below_step qz10 hb)
 clear HO640
 clear HO646
 clear BK641
 clear HB
 have HO640 := n0_
 have HO646 := n1_
 have HO649 := n2_
 have BK641 := n3_
 have HB := n4_
 clear n0_ n1_ n2_ n3_ n4_
 (try clear hb)
 (try clear hb2)
 (try clear hk)
 (try clear hi)
 (try clear ho0)
 obtain ⟨Ao60, co60, eo60⟩ := Kd.R_slice HO649.out
 (first | subst eo60 | (injection eo60 with f1_ f2_ f3_; have f4_ := f1_.symm; have f5_ := f3_.symm; clear f1_ f2_ f3_; subst f4_; subst f5_))
 refine hK.out _ _ ⟨(blk_cell BK641.out 0).trans rfl, (blk_cell BK641.out 1).trans rfl, (blk_cell BK641.out 2).trans rfl⟩ (fun hHeld => ?_)
 clear hK K
 refine norm_ (a' := ?_) ?_ ?_
 rotate_left
 {
 show Act.put _ (some 24) _ = _
 simp only [qzs]
 rfl
 }
 refine pI_ 5 25 (bqz 8 63) ?_
 refine pI_ 6 26 (bqz 8 127) ?_
 refine pI_ 7 2 (bqz 8 255) ?_
 refine done_ (done_of HT_.out (by kernel_rfl)) ?_
 try go_wp2
 go_ret
 exact ⟨by first | rfl | (simp [errW_none, errW_some] <;> rfl) | (simp [*, errW_none, errW_some] <;> rfl), by repeat (first | (with_reducible first | exact HB.out | apply below_alloc | apply pw_below_drewN | apply below_drew1 | refine below_set ?_ GE641.out) | exact HB.out)⟩

 }
 }
 }
/-- THE ONE PURE STATEMENT of laws_FnSound: yours. -/
def laws_FnSound.Pure : Prop := ∀ (l0 : List Int), l0.length ≤ maxLen → l0.length * 1 ≤ 140737488351232 → (∀ x ∈ l0, (Lit.int .u8 x).wf = true) → ∃ k, laws_FnSound.f k l0 = some true
theorem laws_FnSound.walk (P : laws_FnSound.Pure) (a0 : Option Addr) (len0 cap0 : Nat) (z0 : List Int) (w : World) (w0 : (a0 = none ∧ len0 = 0 ∧ cap0 = 0 ∧ z0 = []) ∨ ∃ x, a0 = some x ∧ len0 ≤ cap0 ∧ cap0 ≤ maxLen ∧ z0.length = cap0 ∧ (∀ i, i < z0.length → w.cell? (x.add i) = some (.int .u8 (z0.getD i 0))) ∧ ∀ n ∈ z0, (Lit.int .u8 n).wf = true) (y0 : len0 * 1 ≤ 140737488351232) :
  Calls Try.prog 6 #[.slice a0 len0 cap0] w fun e w' => e = .returned (.bool true) ∧ Below w.heap.size w w' := by
 obtain ⟨l0, rfl, hr0, hm0, hw0, hc0⟩ := ReadsInt.ofRowC w0
 obtain ⟨k, h⟩ := P l0 hm0 y0 hw0
 refine (laws_FnSound.calls k _ _ l0 true w (Kd.C_of_reads (d := (0 : Int)) (h1 := fun _ => rfl) hr0) hc0 rfl h).mono ?_
 rintro e w' ⟨rfl, hd⟩
 exact ⟨rfl, hd⟩

end Go.Proofs.Ytbebfhlejnidkaa.PFnSound
