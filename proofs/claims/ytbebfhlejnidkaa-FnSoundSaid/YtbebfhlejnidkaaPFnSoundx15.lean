-- Made by a program of this session out of the translation. Lean checks it.
import Derived.Test.YtbebfhlejnidkaaPFnSoundx0
import Derived.Test.YtbebfhlejnidkaaPFnSoundx10
import Derived.Test.YtbebfhlejnidkaaPFnSoundx12
import Derived.Test.YtbebfhlejnidkaaPFnSoundx14
namespace Go.Proofs.Ytbebfhlejnidkaa.PFnSound
open Go.RowKit Go.Proofs.YtbebfhlejnidkaaW.PrintWords Go.Proofs.YtbebfhlejnidkaaW.PrintLast Go.Proofs.YtbebfhlejnidkaaW.PrintMore
attribute [local go_sem] max2_int min2_int max_two min_two max_three min_three max_four min_four   -- for this text's walks alone
set_option linter.unusedVariables false
set_option linter.unusedSimpArgs false

/-! ### impl_Sound: function 27 -/
def impl_Sound.f (k : Nat) (a0_0 : Int) (a0_1 : Int) (l0_2 : List Int) : Option (Bool) := (impl_Together.f k a0_0 a0_1 l0_2).bind fun t501 => (if t501 = true then ((impl_open.f k a0_0 a0_1 l0_2).bind fun bt502 => (if bt502.1 ≥ 4 then ((impl_Cuts.f k a0_0 a0_1 l0_2).bind fun t504 => (some ((t504.length : Int) == 0))) else (some false))) else (some false))
theorem impl_Sound.mono : ∀ a0 a1 a2 k, LeO (impl_Sound.f k a0 a1 a2) (impl_Sound.f (k + 1) a0 a1 a2) := by
 intro a0 a1 a2 k
 unfold impl_Sound.f
 repeat' first
  | (with_reducible first | exact impl_Cuts.mono _ _ _ _ | exact impl_Together.mono _ _ _ _ | exact impl_open.mono _ _ _ _ | exact LeO.refl _ | exact LeO.none _ | refine LeO.ite ?_ ?_ | refine LeO.bind ?_ (fun _ => ?_))
  | exact impl_Cuts.mono _ _ _ _
  | exact impl_Together.mono _ _ _ _
  | exact impl_open.mono _ _ _ _
  | exact LeO.none _
  | refine LeO.ite ?_ ?_
  | refine LeO.bind ?_ (fun _ => ?_)
set_option maxHeartbeats 8000000 in
set_option maxRecDepth 100000 in
theorem impl_Sound.calls (k : Nat) (a0_0 : Int) (a0_1 : Int) (A0_2 : Option Addr) (c0_2 : Nat) (l0_2 : List Int) (r : Bool) (w : World) (hr0_2 : Kd.C (Kd.int .i64) w A0_2 l0_2.length l0_2) (hc0_2 : l0_2.length ≤ c0_2) (h : impl_Sound.f k a0_0 a0_1 l0_2 = some r) :
  Calls Try.prog 27 #[.agg #[.int .i64 a0_0, .int .i64 a0_1, .slice A0_2 l0_2.length c0_2]] w fun e w' => e = .returned (.bool r) ∧ Below w.heap.size w w' := by
 have hu43 := Try.underlying43
 have HR0_2 := aM hr0_2
 have HC0_2 := aM hc0_2
 clear hr0_2 hc0_2
 have HB := aM (Below.refl w.heap.size w)
 have H : ((impl_Together.f k a0_0 a0_1 l0_2).bind fun t501 => (if t501 = true then ((impl_open.f k a0_0 a0_1 l0_2).bind fun bt502 => (if bt502.1 ≥ 4 then ((impl_Cuts.f k a0_0 a0_1 l0_2).bind fun t504 => (some ((t504.length : Int) == 0))) else (some false))) else (some false))) = some r := h
 clear h
 replace H := Option.bind_eq_some_iff.mp H
 obtain ⟨t501, A20, H⟩ := H
 replace H : (if t501 = true then ((impl_open.f k a0_0 a0_1 l0_2).bind fun bt502 => (if bt502.1 ≥ 4 then ((impl_Cuts.f k a0_0 a0_1 l0_2).bind fun t504 => (some ((t504.length : Int) == 0))) else (some false))) else (some false)) = some r := H
 have A2 := aM A20
 clear A20
 by_cases c3 : t501 = true
 {
 subst c3
 rw [if_pos rfl] at H
 replace H := Option.bind_eq_some_iff.mp H
 obtain ⟨⟨t502, t503⟩, A40, H⟩ := H
 replace H : (if t502 ≥ 4 then ((impl_Cuts.f k a0_0 a0_1 l0_2).bind fun t504 => (some ((t504.length : Int) == 0))) else (some false)) = some r := H
 have A4 := aM A40
 clear A40
 by_cases c5 : t502 ≥ 4
 {
 rw [if_pos c5] at H
 have c5b0 := decide_eq_true c5
 clear c5
 replace H := Option.bind_eq_some_iff.mp H
 obtain ⟨t504, A60, H⟩ := H
 replace H : (some ((t504.length : Int) == 0)) = some r := H
 have A6 := aM A60
 clear A60
 obtain rfl := Option.some.inj H
 simp only [Option.some.injEq, Prod.mk.injEq] at H
 obtain ⟨rfl⟩ := H
 go_enter Try.func27, Try.ntmps27
 go_wp2_with (first | ((with_reducible refine gate_dst (N := 1) rfl ?_); (try (refine gate_guard (by rfl) ?_; dsimp only)); refine bx_ 1 #[.int .i64 a0_0, .int .i64 a0_1, .slice A0_2 l0_2.length c0_2] 43 ?_; intro gb500 hg w7 hbox hb; have n0_ := aM (below_step qz1 hb); have n1_ := aM (hbox); have n2_ := aM ((by rw [hg]; exact (below_size qz1) : w.heap.size ≤ gb500)); have n3_ := aM ((by rw [hg]; exact (below_size qz1) : w.heap.size ≤ gb500)); clear HB; have HB := n0_; have BK500 := n1_; have GW500 := n2_; have GE500 := n3_; clear n0_ n1_ n2_ n3_; clear hb hbox hg; obtain ⟨hcz8_0, hcz8_1, hcz8_2, hfz8_0, hfz8_1, hfz8_2⟩ := b6_ BK500.out) | ((with_reducible refine gate_callee (f := 32) rfl ?_); refine goesL_ (some 6) rfl rfl Try.func32 (by kernel_rfl) rfl #[.agg #[.int .i64 a0_0, .int .i64 a0_1, .slice A0_2 l0_2.length c0_2]] rfl qz3 ?_; (with_reducible refine (impl_Together.calls k a0_0 a0_1 _ _ l0_2 true _ ?side1 ?side2 A2.out).mono ?_); (case side1 => exact qz4); (case side2 => exact qz69); rintro e w9 ⟨rfl, hb⟩; refine ⟨_, rfl, ?_⟩; have n0_ := aM (blk_below (bk_ BK500.out) hb); have n1_ := aM (below_step qz37 hb); clear BK500 HB; have BK500 := n0_; have HB := n1_; clear n0_ n1_; (try clear hb); (try clear hb2); (try clear hk); (try clear hi); obtain ⟨hcz10_0, hcz10_1, hcz10_2, hfz10_0, hfz10_1, hfz10_2⟩ := b6_ BK500.out) | ((with_reducible refine gate_callee (f := 53) rfl ?_); refine goesL_ (some 10) rfl rfl Try.func53 (by kernel_rfl) rfl #[.agg #[.int .i64 a0_0, .int .i64 a0_1, .slice A0_2 l0_2.length c0_2]] rfl qz3 ?_; (with_reducible refine (impl_open.calls k a0_0 a0_1 _ _ l0_2 t502 t503 _ ?side1 ?side2 A4.out).mono ?_); (case side1 => exact qz4); (case side2 => exact qz69); rintro e w11 ⟨rfl, hb⟩; refine ⟨_, rfl, ?_⟩; have n0_ := aM (blk_below (bk_ BK500.out) hb); have n1_ := aM (below_step qz37 hb); clear BK500 HB; have BK500 := n0_; have HB := n1_; clear n0_ n1_; (try clear hb); (try clear hb2); (try clear hk); (try clear hi); obtain ⟨hcz12_0, hcz12_1, hcz12_2, hfz12_0, hfz12_1, hfz12_2⟩ := b6_ BK500.out) | (go_at_call 33; (with_reducible refine (impl_Cuts.calls k a0_0 a0_1 _ _ l0_2 t504 _ ?side1 ?side2 A6.out).mono ?_); (case side1 => exact qz4); (case side2 => exact qz69); rintro e w13 ⟨v505, rfl, ho0, hb⟩; have n0_ := aM (Kd.R_lower ho0 (below_size qz37)); have n1_ := aM (blk_below (bk_ BK500.out) hb); have n2_ := aM (below_step qz37 hb); clear BK500 HB; have HO506 := n0_; have BK500 := n1_; have HB := n2_; clear n0_ n1_ n2_; (try clear hb); (try clear hb2); (try clear hk); (try clear hi); (try clear ho0); obtain ⟨Ao14, co14, eo14⟩ := Kd.R_slice HO506.out; subst eo14))
 go_ret
 exact ⟨by first | rfl | (simp [errW_none, errW_some] <;> rfl) | (simp [*, errW_none, errW_some] <;> rfl), by repeat (first | (with_reducible first | exact HB.out | apply below_alloc | apply pw_below_drewN | apply below_drew1 | refine below_set ?_ GE500.out) | exact HB.out)⟩
 }
 {
 rw [if_neg c5] at H
 have c5b0 := decide_eq_false c5
 clear c5
 obtain rfl := Option.some.inj H
 simp only [Option.some.injEq, Prod.mk.injEq] at H
 obtain ⟨rfl⟩ := H
 go_enter Try.func27, Try.ntmps27
 go_wp2_with (first | ((with_reducible refine gate_dst (N := 1) rfl ?_); (try (refine gate_guard (by rfl) ?_; dsimp only)); refine bx_ 1 #[.int .i64 a0_0, .int .i64 a0_1, .slice A0_2 l0_2.length c0_2] 43 ?_; intro gb500 hg w15 hbox hb; have n0_ := aM (below_step qz1 hb); have n1_ := aM (hbox); have n2_ := aM ((by rw [hg]; exact (below_size qz1) : w.heap.size ≤ gb500)); have n3_ := aM ((by rw [hg]; exact (below_size qz1) : w.heap.size ≤ gb500)); clear HB; have HB := n0_; have BK500 := n1_; have GW500 := n2_; have GE500 := n3_; clear n0_ n1_ n2_ n3_; clear hb hbox hg; obtain ⟨hcz16_0, hcz16_1, hcz16_2, hfz16_0, hfz16_1, hfz16_2⟩ := b6_ BK500.out) | ((with_reducible refine gate_callee (f := 32) rfl ?_); refine goesL_ (some 6) rfl rfl Try.func32 (by kernel_rfl) rfl #[.agg #[.int .i64 a0_0, .int .i64 a0_1, .slice A0_2 l0_2.length c0_2]] rfl qz3 ?_; (with_reducible refine (impl_Together.calls k a0_0 a0_1 _ _ l0_2 true _ ?side1 ?side2 A2.out).mono ?_); (case side1 => exact qz4); (case side2 => exact qz69); rintro e w17 ⟨rfl, hb⟩; refine ⟨_, rfl, ?_⟩; have n0_ := aM (blk_below (bk_ BK500.out) hb); have n1_ := aM (below_step qz37 hb); clear BK500 HB; have BK500 := n0_; have HB := n1_; clear n0_ n1_; (try clear hb); (try clear hb2); (try clear hk); (try clear hi); obtain ⟨hcz18_0, hcz18_1, hcz18_2, hfz18_0, hfz18_1, hfz18_2⟩ := b6_ BK500.out) | ((with_reducible refine gate_callee (f := 53) rfl ?_); refine goesL_ (some 10) rfl rfl Try.func53 (by kernel_rfl) rfl #[.agg #[.int .i64 a0_0, .int .i64 a0_1, .slice A0_2 l0_2.length c0_2]] rfl qz3 ?_; (with_reducible refine (impl_open.calls k a0_0 a0_1 _ _ l0_2 t502 t503 _ ?side1 ?side2 A4.out).mono ?_); (case side1 => exact qz4); (case side2 => exact qz69); rintro e w19 ⟨rfl, hb⟩; refine ⟨_, rfl, ?_⟩; have n0_ := aM (blk_below (bk_ BK500.out) hb); have n1_ := aM (below_step qz37 hb); clear BK500 HB; have BK500 := n0_; have HB := n1_; clear n0_ n1_; (try clear hb); (try clear hb2); (try clear hk); (try clear hi)))
 go_ret
 exact ⟨by first | rfl | (simp [errW_none, errW_some] <;> rfl) | (simp [*, errW_none, errW_some] <;> rfl), by repeat (first | (with_reducible first | exact HB.out | apply below_alloc | apply pw_below_drewN | apply below_drew1 | refine below_set ?_ GE500.out) | exact HB.out)⟩
 }
 }
 {
 replace c3 := Bool.eq_false_iff.mpr c3
 subst c3
 rw [if_neg (show ¬ (false = true) by decide)] at H
 obtain rfl := Option.some.inj H
 simp only [Option.some.injEq, Prod.mk.injEq] at H
 obtain ⟨rfl⟩ := H
 go_enter Try.func27, Try.ntmps27
 go_wp2_with (first | ((with_reducible refine gate_dst (N := 1) rfl ?_); (try (refine gate_guard (by rfl) ?_; dsimp only)); refine bx_ 1 #[.int .i64 a0_0, .int .i64 a0_1, .slice A0_2 l0_2.length c0_2] 43 ?_; intro gb500 hg w20 hbox hb; have n0_ := aM (below_step qz1 hb); have n1_ := aM (hbox); have n2_ := aM ((by rw [hg]; exact (below_size qz1) : w.heap.size ≤ gb500)); have n3_ := aM ((by rw [hg]; exact (below_size qz1) : w.heap.size ≤ gb500)); clear HB; have HB := n0_; have BK500 := n1_; have GW500 := n2_; have GE500 := n3_; clear n0_ n1_ n2_ n3_; clear hb hbox hg; obtain ⟨hcz21_0, hcz21_1, hcz21_2, hfz21_0, hfz21_1, hfz21_2⟩ := b6_ BK500.out) | ((with_reducible refine gate_callee (f := 32) rfl ?_); refine goesL_ (some 6) rfl rfl Try.func32 (by kernel_rfl) rfl #[.agg #[.int .i64 a0_0, .int .i64 a0_1, .slice A0_2 l0_2.length c0_2]] rfl qz3 ?_; (with_reducible refine (impl_Together.calls k a0_0 a0_1 _ _ l0_2 false _ ?side1 ?side2 A2.out).mono ?_); (case side1 => exact qz4); (case side2 => exact qz69); rintro e w22 ⟨rfl, hb⟩; refine ⟨_, rfl, ?_⟩; have n0_ := aM (blk_below (bk_ BK500.out) hb); have n1_ := aM (below_step qz37 hb); clear BK500 HB; have BK500 := n0_; have HB := n1_; clear n0_ n1_; (try clear hb); (try clear hb2); (try clear hk); (try clear hi)))
 go_ret
 exact ⟨by first | rfl | (simp [errW_none, errW_some] <;> rfl) | (simp [*, errW_none, errW_some] <;> rfl), by repeat (first | (with_reducible first | exact HB.out | apply below_alloc | apply pw_below_drewN | apply below_drew1 | refine below_set ?_ GE500.out) | exact HB.out)⟩

 }
/-! ### impl_without: function 59 -/
mutual
def impl_without.l0 : Nat → Int → Int → List Bool → List Int → Int → Int → List Int → Option (Bool)
 | 0, _, _, _, _, _, _, _ => none
 | k + 1, x1, x2, x7, x8, x508000, x508001, x508002 => if (x8.length : Int) > 0 then (if 0 < (x8.length : Int) then (if 1 ≤ (x8.length : Int) then ((impl_near.f k x508000 x508001 x508002 (rd x8 0) false).bind fun t520 => (impl_without.l1 k x1 x2 x7 (x8.drop (1 : Int).toNat) (rd x8 0) t520 (t520.length : Int) 0 x508000 x508001 x508002)) else (none)) else (none)) else (if 0 ≤ x2 then (if x2 < (x7.length : Int) then (some (rdOf false x7 x2)) else (none)) else (none))
def impl_without.l1 : Nat → Int → Int → List Bool → List Int → Int → List Int → Int → Int → Int → Int → List Int → Option (Bool)
 | 0, _, _, _, _, _, _, _, _, _, _, _ => none
 | k + 1, x1, x2, x7, x8, x9, x31, x32, x33, x508000, x508001, x508002 => if x33 < x32 then (if 0 ≤ x33 then (if x33 < (x31.length : Int) then (if 0 ≤ (rd x31 x33) then (if (rd x31 x33) < (x7.length : Int) then (if rdOf false x7 (rd x31 x33) = true then (impl_without.l1 k x1 x2 x7 x8 x9 x31 x32 (wrap64 (x33 + 1)) x508000 x508001 x508002) else (if x9 = x1 then (if (rd x31 x33) = x2 then (impl_without.l1 k x1 x2 x7 x8 x9 x31 x32 (wrap64 (x33 + 1)) x508000 x508001 x508002) else (if x9 = x2 then (if (rd x31 x33) = x1 then (impl_without.l1 k x1 x2 x7 x8 x9 x31 x32 (wrap64 (x33 + 1)) x508000 x508001 x508002) else (if x8.length < 17592186044416 then (impl_without.l1 k x1 x2 (x7.set ((rd x31 x33) : Int).toNat true) (x8 ++ [rd x31 x33]) x9 x31 x32 (wrap64 (x33 + 1)) x508000 x508001 x508002) else (none))) else (if x8.length < 17592186044416 then (impl_without.l1 k x1 x2 (x7.set ((rd x31 x33) : Int).toNat true) (x8 ++ [rd x31 x33]) x9 x31 x32 (wrap64 (x33 + 1)) x508000 x508001 x508002) else (none)))) else (if x9 = x2 then (if (rd x31 x33) = x1 then (impl_without.l1 k x1 x2 x7 x8 x9 x31 x32 (wrap64 (x33 + 1)) x508000 x508001 x508002) else (if x8.length < 17592186044416 then (impl_without.l1 k x1 x2 (x7.set ((rd x31 x33) : Int).toNat true) (x8 ++ [rd x31 x33]) x9 x31 x32 (wrap64 (x33 + 1)) x508000 x508001 x508002) else (none))) else (if x8.length < 17592186044416 then (impl_without.l1 k x1 x2 (x7.set ((rd x31 x33) : Int).toNat true) (x8 ++ [rd x31 x33]) x9 x31 x32 (wrap64 (x33 + 1)) x508000 x508001 x508002) else (none))))) else (none)) else (none)) else (none)) else (none)) else (impl_without.l0 k x1 x2 x7 x8 x508000 x508001 x508002)
end
def impl_without.f (k : Nat) (a0_0 : Int) (a0_1 : Int) (l0_2 : List Int) (a1 : Int) (a2 : Int) : Option (Bool) := if 0 ≤ (l0_2.length : Int) then (if ((l0_2.length : Int) : Int).toNat ≤ 281474976710656 then ((some (List.replicate ((l0_2.length : Int) : Int).toNat false : List Bool)).bind fun y508 => (if 0 ≤ a1 then (if a1 < (y508.length : Int) then (impl_without.l0 k a1 a2 (y508.set (a1 : Int).toNat true) (([a1] : List Int)) a0_0 a0_1 l0_2) else (none)) else (none))) else (none)) else (none)
theorem impl_without.mono_l : ∀ k, (∀ y0 y1 y2 y3 y4 y5 y6, LeO (impl_without.l0 k y0 y1 y2 y3 y4 y5 y6) (impl_without.l0 (k + 1) y0 y1 y2 y3 y4 y5 y6)) ∧ (∀ y0 y1 y2 y3 y4 y5 y6 y7 y8 y9 y10, LeO (impl_without.l1 k y0 y1 y2 y3 y4 y5 y6 y7 y8 y9 y10) (impl_without.l1 (k + 1) y0 y1 y2 y3 y4 y5 y6 y7 y8 y9 y10))
 | 0 => ⟨fun _ _ _ _ _ _ _ r h => by simp [impl_without.l0] at h, fun _ _ _ _ _ _ _ _ _ _ _ r h => by simp [impl_without.l1] at h⟩
 | k + 1 => by
  obtain ⟨ih0, ih1⟩ := impl_without.mono_l k
  refine ⟨?_, ?_⟩
  {
  intro y0 y1 y2 y3 y4 y5 y6
  unfold impl_without.l0
  repeat' first
  | (with_reducible first | exact ih0 _ _ _ _ _ _ _ | exact ih1 _ _ _ _ _ _ _ _ _ _ _ | exact impl_near.mono _ _ _ _ _ _ | exact LeO.refl _ | exact LeO.none _ | refine LeO.ite ?_ ?_ | refine LeO.bind ?_ (fun _ => ?_))
  | exact ih0 _ _ _ _ _ _ _
  | exact ih1 _ _ _ _ _ _ _ _ _ _ _
  | exact impl_near.mono _ _ _ _ _ _
  | exact LeO.none _
  | refine LeO.ite ?_ ?_
  | refine LeO.bind ?_ (fun _ => ?_)
  }
  {
  intro y0 y1 y2 y3 y4 y5 y6 y7 y8 y9 y10
  unfold impl_without.l1
  repeat' first
  | (with_reducible first | exact ih0 _ _ _ _ _ _ _ | exact ih1 _ _ _ _ _ _ _ _ _ _ _ | exact impl_near.mono _ _ _ _ _ _ | exact LeO.refl _ | exact LeO.none _ | refine LeO.ite ?_ ?_ | refine LeO.bind ?_ (fun _ => ?_))
  | exact ih0 _ _ _ _ _ _ _
  | exact ih1 _ _ _ _ _ _ _ _ _ _ _
  | exact impl_near.mono _ _ _ _ _ _
  | exact LeO.none _
  | refine LeO.ite ?_ ?_
  | refine LeO.bind ?_ (fun _ => ?_)
  }
theorem impl_without.mono : ∀ a0 a1 a2 a3 a4 k, LeO (impl_without.f k a0 a1 a2 a3 a4) (impl_without.f (k + 1) a0 a1 a2 a3 a4) := by
 intro a0 a1 a2 a3 a4 k
 obtain ⟨ih0, ih1⟩ := impl_without.mono_l k
 unfold impl_without.f
 repeat' first
  | (with_reducible first | exact ih0 _ _ _ _ _ _ _ | exact ih1 _ _ _ _ _ _ _ _ _ _ _ | exact impl_near.mono _ _ _ _ _ _ | exact LeO.refl _ | exact LeO.none _ | refine LeO.ite ?_ ?_ | refine LeO.bind ?_ (fun _ => ?_))
  | exact ih0 _ _ _ _ _ _ _
  | exact ih1 _ _ _ _ _ _ _ _ _ _ _
  | exact impl_near.mono _ _ _ _ _ _
  | exact LeO.none _
  | refine LeO.ite ?_ ?_
  | refine LeO.bind ?_ (fun _ => ?_)
set_option maxHeartbeats 8000000 in
set_option maxRecDepth 100000 in
theorem impl_without.calls (k : Nat) (a0_0 : Int) (a0_1 : Int) (A0_2 : Option Addr) (c0_2 : Nat) (l0_2 : List Int) (a1 : Int) (a2 : Int) (r : Bool) (w : World) (hr0_2 : Kd.C (Kd.int .i64) w A0_2 l0_2.length l0_2) (hc0_2 : l0_2.length ≤ c0_2) (h : impl_without.f k a0_0 a0_1 l0_2 a1 a2 = some r) :
  Calls Try.prog 59 #[.agg #[.int .i64 a0_0, .int .i64 a0_1, .slice A0_2 l0_2.length c0_2], .int .i64 a1, .int .i64 a2] w fun e w' => e = .returned (.bool r) ∧ Below w.heap.size w w' := by
 have hu43 := Try.underlying43
 have HR0_2 := aM hr0_2
 have HC0_2 := aM hc0_2
 clear hr0_2 hc0_2
 have HB := aM (Below.refl w.heap.size w)
 have H : (if 0 ≤ (l0_2.length : Int) then (if ((l0_2.length : Int) : Int).toNat ≤ 281474976710656 then ((some (List.replicate ((l0_2.length : Int) : Int).toNat false : List Bool)).bind fun y508 => (if 0 ≤ a1 then (if a1 < (y508.length : Int) then (impl_without.l0 k a1 a2 (y508.set (a1 : Int).toNat true) (([a1] : List Int)) a0_0 a0_1 l0_2) else (none)) else (none))) else (none)) else (none)) = some r := h
 clear h
 by_cases c4 : 0 ≤ (l0_2.length : Int)
 {
 rw [if_pos c4] at H
 have c4b0 := eq_true c4
 have c4b1 := decide_eq_true c4
 clear c4
 by_cases c5 : ((l0_2.length : Int) : Int).toNat ≤ 281474976710656
 {
 rw [if_pos c5] at H
 have c5b0 := eq_true c5
 have c5b1 := decide_eq_true c5
 clear c5
 obtain ⟨y508, hy508⟩ : ∃ y_ : List Bool, y_ = (List.replicate ((l0_2.length : Int) : Int).toNat false) := ⟨_, rfl⟩
 replace H : (if 0 ≤ a1 then (if a1 < (y508.length : Int) then (impl_without.l0 k a1 a2 (y508.set (a1 : Int).toNat true) (([a1] : List Int)) a0_0 a0_1 l0_2) else (none)) else (none)) = some r := by first | (rw [hy508]; with_reducible exact H) | (have H2_ := (Option.bind_some _ _).symm.trans H; rw [hy508]; with_reducible exact H2_) | (have H2_ := (Option.bind_some _ _).symm.trans H; with_reducible exact H2_) | with_reducible exact H | (rw [hy508]; exact H) | exact H
 have Ny508 := aM hy508
 clear hy508
 by_cases c6 : 0 ≤ a1
 {
 rw [if_pos c6] at H
 have c6b0 := decide_eq_true c6
 clear c6
 by_cases c7 : a1 < (y508.length : Int)
 {
 rw [if_pos c7] at H
 have c7b0 := decide_eq_true c7
 clear c7
 obtain ⟨y511, hy511⟩ : ∃ y_ : List Bool, y_ = (y508.set (a1 : Int).toNat true) := ⟨_, rfl⟩
 replace H : (impl_without.l0 k a1 a2 y511 (([a1] : List Int)) a0_0 a0_1 l0_2) = some r := by first | (rw [hy511]; with_reducible exact H) | (have H2_ := (Option.bind_some _ _).symm.trans H; rw [hy511]; with_reducible exact H2_) | (have H2_ := (Option.bind_some _ _).symm.trans H; with_reducible exact H2_) | with_reducible exact H | (rw [hy511]; exact H) | exact H
 have Ny511 := aM hy511
 clear hy511
 obtain ⟨y512, hy512⟩ : ∃ y_ : List Int, y_ = (([a1] : List Int)) := ⟨_, rfl⟩
 replace H : (impl_without.l0 k a1 a2 y511 y512 a0_0 a0_1 l0_2) = some r := by first | (rw [hy512]; with_reducible exact H) | (have H2_ := (Option.bind_some _ _).symm.trans H; rw [hy512]; with_reducible exact H2_) | (have H2_ := (Option.bind_some _ _).symm.trans H; with_reducible exact H2_) | with_reducible exact H | (rw [hy512]; exact H) | exact H
 have Ny512 := aM hy512
 clear hy512
 have H' := aM H
 clear H
 go_enter Try.func59, Try.ntmps59
 go_wp2_with (first | ((with_reducible refine gate_dst (N := 3) rfl ?_); refine bx_ 3 #[.int .i64 a0_0, .int .i64 a0_1, .slice A0_2 l0_2.length c0_2] 43 ?_; intro gb507 hg w9 hbox hb; have n0_ := aM (below_step qz1 hb); have n1_ := aM (hbox); have n2_ := aM ((by rw [hg]; exact (below_size qz1) : w.heap.size ≤ gb507)); have n3_ := aM ((by rw [hg]; exact (below_size qz1) : w.heap.size ≤ gb507)); clear HB; have HB := n0_; have BK507 := n1_; have GW507 := n2_; have GE507 := n3_; clear n0_ n1_ n2_ n3_; clear hb hbox hg; obtain ⟨hcz10_0, hcz10_1, hcz10_2, hfz10_0, hfz10_1, hfz10_2⟩ := b6_ BK507.out) | ((with_reducible refine gate_dst (N := 15) rfl ?_); refine Kd.R_make Kd.bool _ 4 rfl (N := 15) rfl 36 _ _ rfl (l0_2.length : Int) rfl rfl Try.underlying36 (.bool false) 1 info4 rfl (by decide) (by omega) false (ok := fun _ => True) (okp := fun _ => True) rfl (fun _ hk => hk) trivial (of_decide_eq_true qz2) (Nat.le_trans (Nat.mul_le_mul_right _ (of_decide_eq_true qz2 : (l0_2.length : Int).toNat ≤ 281474976710656)) (by omega)) (Below.refl _ _) (Nat.le_refl _) ?_; intro v509 w11 ho12 hb hg_ hnew_; clear hg_ hnew_; (first | rw [← Ny508.out] at ho12 | (simp only [Int.reduceToNat] at ho12; rw [← Ny508.out] at ho12)); have n0_ := aM (Kd.R_lower ho12 (below_size qz17)); have n1_ := aM (blk_below (bk_ BK507.out) hb); have n2_ := aM (below_step qz17 hb); clear BK507 HB; have HO510 := n0_; have BK507 := n1_; have HB := n2_; clear n0_ n1_ n2_; clear hb ho12; have p8 : 0 ≤ (a1 : Int) := of_decide_eq_true qz2; have q8 : (a1 : Int) < ((y508.length : Int) : Int) := of_decide_eq_true qz2; obtain ⟨go8, co8, eo8, gb8, gl8, cl8, HG8⟩ := Kd.R_form HO510.out (by omega); (first | cases eo8 | (injection eo8 with ea_ en_ ec_; (first | subst ea_ | (injection ea_ with ea_; subst ea_)); subst ec_; clear en_)); have GB8 := aM gb8; have GG8 := aM HG8; clear gb8 gl8 HG8; obtain ⟨hx8_0, hf8_0⟩ := Kd.R_celln false HO510.out (a1 : Int) p8 q8; replace p8 := eq_true p8; replace q8 := eq_true q8; obtain ⟨hy13_, hz13_⟩ := Kd.R_celln false HO510.out (a1 : Int) (of_decide_eq_true qz2) (of_decide_eq_true qz2); have HP13 := Kd.R_putg HO510.out (a1 : Int) true) | ((with_reducible refine gate_store (t := 4) (p := 18) rfl ?_); refine store_event (t := 4) (p := 18) (v := ?vo_w14) (w1 := (w11.setCell ⟨go8, (a1 : Int).toNat, none⟩ (.bool true))) ?hg ?ho ?hn ?hr ?_; (case ho => rfl); (case hg => rfl); (case hn => rfl); (case hr => exact qz28); intro w14 hw; have hg : w11.grownBy w14 (some go8) := (by rw [hw]; exact HP13.2); have hp_ : Kd.R Kd.bool 4 w14 w.heap.size (fun _ => True) (.slice (some ⟨go8, 0, none⟩) y508.length co8) y511 := (by rw [hw, Ny511.out]; exact HP13.1); clear HP13; have n0_ := aM (blk_grown (bk_ BK507.out) hg (Kd.R_ne HO510.out BK507.out (by decide))); have n1_ := aM (hp_); have n2_ := aM ((by rw [hw]; exact below_set (HB.out) GB8.out : Below w.heap.size w w14)); clear BK507 HO510 HB; have BK507 := n0_; have HO510 := n1_; have HB := n2_; clear n0_ n1_ n2_; clear hg hw hp_) | ((with_reducible refine gate_dst (N := 20) rfl ?_); refine Kd.R_lit (Kd.int .i64) _ 3 ?hg (N := 20) ?hd (xs := ([a1] : List Int)) (inner := [.int .i64 a1]) (ok := fun _ => True) (okp := fun _ => True) ?hr ?hp (fun _ hk => hk) trivial (Below.refl _ _) (Nat.le_refl _) (by simp) ?_; (case hd => rfl); (case hg => rfl); (case hr => exact qz28); (case hp => exact qz73); intro v513 w15 ho16 hb hg_ hnew_; clear hg_ hnew_; (first | rw [← Ny512.out] at ho16 | (simp only [Int.reduceToNat] at ho16; rw [← Ny512.out] at ho16)); have n0_ := aM (Kd.R_below (rr_ HO510.out) hb); have n1_ := aM (Kd.R_lower ho16 (below_size qz17)); have n2_ := aM (blk_below (bk_ BK507.out) hb); have n3_ := aM (below_step qz17 hb); clear HO510 BK507 HB; have HO510 := n0_; have HO514 := n1_; have BK507 := n2_; have HB := n3_; clear n0_ n1_ n2_ n3_; clear hb ho16))
 go_loopg [8] k (fun kq v8 w' => ∃ (x7_1 : List Bool) (x8_1 : List Int), Aside0 (impl_without.l0 kq a1 a2 x7_1 x8_1 a0_0 a0_1 l0_2 = some r) ∧ Aside0 (kq ≤ k) ∧ Aside0 (Kd.R Kd.bool 4 w' w.heap.size (fun _ => True) (.slice (some ⟨go8, 0, none⟩) y508.length co8) x7_1) ∧ Aside0 (Kd.Q (Kd.int .i64) 3 w' w.heap.size (fun _ => True) v8 x8_1) ∧ Aside0 (w'.heap[gb507]? = some (.cells #[.int .i64 a0_0, .int .i64 a0_1, (.slice A0_2 l0_2.length c0_2)] 43 (0, 0))) ∧ Aside0 (Below w.heap.size w w'))
 case atStart => exact ⟨(y511), (y512), H', ⟨Nat.le_refl _⟩, ⟨rr_ HO510.out⟩, ⟨Kd.Q_of_R (rr_ HO514.out)⟩, ⟨bk_ BK507.out⟩, ⟨by repeat (first | (with_reducible first | exact HB.out | apply below_alloc | apply pw_below_drewN | apply below_drew1 | refine below_set ?_ GE507.out) | exact HB.out)⟩⟩
 case round =>
  clear H'
  try clear p2
  try clear c4
  try clear c4b0
  try clear c4b1
  try clear c5
  try clear c5b0
  try clear c5b1
  try clear c6
  try clear c6b0
  try clear c7
  try clear c7b0
  try clear p8
  try clear q8
  try clear hx8
  try clear hf8
  try clear hcz10_0
  try clear hcz10_1
  try clear hcz10_2
  try clear hfz10_0
  try clear hfz10_1
  try clear hfz10_2
  try clear hx8_0
  try clear p8
  try clear q8
  obtain ⟨x7_1, x8_1, HA, HK1, HO_7, HO_8, BK507, HB⟩ := hrel
  have hl7_1 := (Kd.R_reads' HO_7.out).1
  rw [hl7_1] at HO_7
  (try simp only [hl7_1])
  (try simp only [hl7_1] at BK507)
  (try simp only [hl7_1] at HO_8)
  cases gk with
  | zero => exact absurd HA.out (by simp [impl_without.l0])
  | succ k1 =>
   have H := HA.out
   clear HA
   simp only [impl_without.l0] at H
   by_cases c17 : (x8_1.length : Int) > 0
   {
   rw [if_pos c17] at H
   have c17b0 := decide_eq_true c17
   (try (have c17b0q7_1 := c17b0; simp only [hl7_1] at c17b0q7_1))
   have c17b1 : decide (0 < x8_1.length) = true := decide_eq_true (by omega)
   (try (have c17b1q7_1 := c17b1; simp only [hl7_1] at c17b1q7_1))
   clear c17
   by_cases c18 : 0 < (x8_1.length : Int)
   {
   rw [if_pos c18] at H
   have c18b0 := decide_eq_true c18
   (try (have c18b0q7_1 := c18b0; simp only [hl7_1] at c18b0q7_1))
   have c18b1 : decide (0 < x8_1.length) = true := decide_eq_true (by omega)
   (try (have c18b1q7_1 := c18b1; simp only [hl7_1] at c18b1q7_1))
   clear c18
   by_cases c19 : 1 ≤ (x8_1.length : Int)
   {
   rw [if_pos c19] at H
   have c19b0 := eq_true c19
   have c19b1 := decide_eq_true c19
   (try (have c19b1q7_1 := c19b1; simp only [hl7_1] at c19b1q7_1))
   clear c19
   obtain ⟨y517, hy517⟩ : ∃ y_ : List Int, y_ = (x8_1.drop (1 : Int).toNat) := ⟨_, rfl⟩
   replace H : ((impl_near.f k1 a0_0 a0_1 l0_2 (rd x8_1 0) false).bind fun t520 => (impl_without.l1 k1 a1 a2 x7_1 y517 (rd x8_1 0) t520 (t520.length : Int) 0 a0_0 a0_1 l0_2)) = some r := by first | (rw [hy517]; with_reducible exact H) | (have H2_ := (Option.bind_some _ _).symm.trans H; rw [hy517]; with_reducible exact H2_) | (have H2_ := (Option.bind_some _ _).symm.trans H; with_reducible exact H2_) | with_reducible exact H | (rw [hy517]; exact H) | exact H
   have Ny517 := aM hy517
   clear hy517
   replace H := Option.bind_eq_some_iff.mp H
   obtain ⟨t520, A200, H⟩ := H
   replace H : (impl_without.l1 k1 a1 a2 x7_1 y517 (rd x8_1 0) t520 (t520.length : Int) 0 a0_0 a0_1 l0_2) = some r := H
   have A20 := aM A200
   clear A200
   have H' := aM H
   clear H
   obtain ⟨Ao21, co21, eo21, _⟩ := Kd.Q_slice HO_8.out
   subst eo21
   have p516 : 0 ≤ (0 : Int) := (by omega)
   have q516 : 0 < (x8_1.length : Int) := of_decide_eq_true qz2
   obtain ⟨ad516, e516, hx516_0⟩ := Kd.at_int (Kd.Q_reads' HO_8.out).2.2 0 p516 q516
   cases e516
   have qi516 : (0 < x8_1.length) = True := eq_true (by omega)
   (try rw [show ((0 : Int)).toNat = 0 from rfl] at hx516_0)
   (try rw [Addr.add_zero'] at hx516_0)
   replace p516 := eq_true p516
   replace q516 := eq_true q516
   have q22 : (1 : Int) ≤ ((x8_1.length : Int) : Int) := of_decide_eq_true qz2
   obtain ⟨i022, hi022, _, hsz22, _⟩ := info_parts info3
   have hcut22 := cut_from (P := Try.prog) 24 3 .i64 Try.underlying24 hi022 1 hsz22 (some ad516) x8_1.length co21 1 (by omega) q22
   have hr22 := Kd.Q_drop (k := (1 : Int).toNat) HO_8.out (by omega)
   obtain ⟨A22, hA22⟩ : ∃ A1, A1 = (if co21 = (1 : Int).toNat then (some ad516) else ((some ad516) : Option Addr).map (·.add ((1 : Int).toNat * 1))) := ⟨_, rfl⟩
   obtain ⟨c22, hc22⟩ : ∃ c1, c1 = co21 - (1 : Int).toNat := ⟨_, rfl⟩
   have hy22 : y517.length = x8_1.length - (1 : Int).toNat := (by rw [Ny517.out, List.length_drop])
   rw [← Ny517.out] at hr22
   rw [← hy22, ← hA22, ← hc22] at hcut22
   replace hr22 : Kd.Q (Kd.int .i64) 3 wr w.heap.size (fun _ => True) (.slice A22 y517.length c22) y517 := (by rw [hA22, hc22, hy22]; exact hr22)
   have HE22 : Aside0 ((Value.slice A22 y517.length c22).ownBlock = (.slice (some ad516) x8_1.length co21 : Value).ownBlock) := ⟨by rw [hA22]; split <;> (cases ((some ad516) : Option Addr) <;> rfl)⟩
   clear hy22 hi022 hsz22 HO_8 hA22 hc22
   have HO519 := aM hr22
   clear hr22
   replace q22 := eq_true q22
   obtain ⟨hcz23_0, hcz23_1, hcz23_2, hfz23_0, hfz23_1, hfz23_2⟩ := b6_ BK507.out
   go_wp2_with (first | ((with_reducible refine gate_callee (f := 58) rfl ?_); refine goesL_ (some 31) rfl rfl Try.func58 (by kernel_rfl) rfl #[.agg #[.int .i64 a0_0, .int .i64 a0_1, .slice A0_2 l0_2.length c0_2], .int .i64 (rd x8_1 0), .bool false] rfl qz3 ?_; (with_reducible refine (impl_near.calls k1 a0_0 a0_1 _ _ l0_2 (rd x8_1 0) false t520 _ ?side1 ?side2 A20.out).mono ?_); (case side1 => exact qz4); (case side2 => exact qz69); rintro e w24 ⟨v521, rfl, ho0, hb⟩; refine ⟨_, rfl, ?_⟩; have n0_ := aM (Kd.R_below (rr_ HO_7.out) hb); have n1_ := aM (Kd.Q_elder' (by (with_reducible repeat (first | apply Kd.Q_alloc | apply Kd.Q_drewN | apply Kd.Q_drew)); exact HO519.out) (Kd.R_base ho0) hb); have n2_ := aM (Kd.R_lower (Kd.R_new' ho0 (Kd.Q_lt (by (with_reducible repeat (first | apply Kd.Q_alloc | apply Kd.Q_drewN | apply Kd.Q_drew)); exact HO519.out))) (below_size qz17)); have n3_ := aM (blk_below (bk_ BK507.out) hb); have n4_ := aM (below_step qz17 hb); clear HO_7 HO519 BK507 HB; have HO_7 := n0_; have HO519 := n1_; have HO522 := n2_; have BK507 := n3_; have HB := n4_; clear n0_ n1_ n2_ n3_ n4_; (try clear hb); (try clear hb2); (try clear hk); (try clear hi); (try clear ho0); obtain ⟨Ao25, co25, eo25⟩ := Kd.R_slice HO522.out; subst eo25))
   go_loopg [8, 33] k1 (fun kq v8 v33 w' => ∃ (x7_2 : List Bool) (x8_2 : List Int) (x33_2 : Int), v33 = .int .i64 x33_2 ∧ Aside0 (impl_without.l1 kq a1 a2 x7_2 x8_2 (rd x8_1 0) t520 (t520.length : Int) x33_2 a0_0 a0_1 l0_2 = some r) ∧ Aside0 (kq ≤ k1) ∧ Aside0 (Kd.R Kd.bool 4 w' w.heap.size (fun _ => True) (.slice (some ⟨go8, 0, none⟩) x7_1.length co8) x7_2) ∧ Aside0 (Kd.Q (Kd.int .i64) 3 w' w.heap.size (fun k_ => some k_ ≠ ((.slice Ao25 t520.length co25) : Value).ownBlock) v8 x8_2) ∧ Aside0 (Kd.R (Kd.int .i64) 3 w' w.heap.size (fun k_ => some k_ ≠ (v8 : Value).ownBlock) (.slice Ao25 t520.length co25) t520) ∧ Aside0 (w'.heap[gb507]? = some (.cells #[.int .i64 a0_0, .int .i64 a0_1, (.slice A0_2 l0_2.length c0_2)] 43 (0, 0))) ∧ Aside0 (Below w.heap.size w w'))
   case atStart => exact ⟨(x7_1), (y517), (0), qz5, H', ⟨Nat.le_refl _⟩, ⟨by (try simp only [hl7_1]); exact rr_ HO_7.out⟩, ⟨by (try simp only [hl7_1]); (with_reducible repeat (first | apply Kd.Q_alloc | apply Kd.Q_drewN | apply Kd.Q_drew)); exact Kd.Q_mono HO519.out (fun _ hk => hk.2)⟩, ⟨by (try simp only [hl7_1]); (with_reducible repeat (first | apply Kd.R_alloc | apply Kd.R_drewN | apply Kd.R_drew)); exact Kd.R_mono HO522.out (fun _ hk => hk.2)⟩, ⟨by (try simp only [hl7_1]); exact bk_ BK507.out⟩, ⟨by repeat (first | (with_reducible first | exact HB.out | apply below_alloc | apply pw_below_drewN | apply below_drew1 | refine below_set ?_ GE507.out) | exact HB.out)⟩⟩
   case round =>
    clear H'
    try clear c1
    try clear c2
    try clear p2
    try clear q2
    try clear c4
    try clear c4b0
    try clear c4b1
    try clear c5
    try clear c5b0
    try clear c5b1
    try clear p5
    try clear q5
    try clear hx5
    try clear qi5
    try clear c6
    try clear c6b0
    try clear c7
    try clear c7b0
    try clear p8
    try clear q8
    try clear hx8
    try clear hf8
    try clear c17
    try clear c17b0
    try clear c17b1
    try clear c18
    try clear c18b0
    try clear c18b1
    try clear c19
    try clear c19b0
    try clear c19b1
    try clear c22
    try clear q22
    try clear hcz10_0
    try clear hcz10_1
    try clear hcz10_2
    try clear hcz23_0
    try clear hcz23_1
    try clear hcz23_2
    try clear hfz10_0
    try clear hfz10_1
    try clear hfz10_2
    try clear hfz23_0
    try clear hfz23_1
    try clear hfz23_2
    try clear hx516_0
    try clear hx8_0
    try clear p2
    try clear p516
    try clear p8
    try clear q22
    try clear q516
    try clear q8
    obtain ⟨x7_2, x8_2, x33_2, rfl, HA, HK2, HO_7, HO_8, HO_31, BK507, HB⟩ := hrel
    have hl7_2 := (Kd.R_reads' HO_7.out).1
    rw [hl7_2] at HO_7
    (try simp only [hl7_2])
    (try simp only [hl7_2] at BK507)
    (try simp only [hl7_2] at HO_8)
    (try simp only [hl7_2] at HO_31)
    cases gk with
    | zero => exact absurd HA.out (by simp [impl_without.l1])
    | succ k2 =>
     have H := HA.out
     clear HA
     simp only [impl_without.l1] at H
     by_cases c26 : x33_2 < (t520.length : Int)
     {
     rw [if_pos c26] at H
     have c26b0 := decide_eq_true c26
     (try (have c26b0q7_1 := c26b0; simp only [hl7_1] at c26b0q7_1))
     (try (have c26b0q7_2 := c26b0; simp only [hl7_2] at c26b0q7_2))
     clear c26
     by_cases c27 : 0 ≤ x33_2
     {
     rw [if_pos c27] at H
     have c27b0 := decide_eq_true c27
     clear c27
     by_cases c28 : x33_2 < (t520.length : Int)
     {
     rw [if_pos c28] at H
     have c28b0 := decide_eq_true c28
     (try (have c28b0q7_1 := c28b0; simp only [hl7_1] at c28b0q7_1))
     (try (have c28b0q7_2 := c28b0; simp only [hl7_2] at c28b0q7_2))
     clear c28
     by_cases c29 : 0 ≤ (rd t520 x33_2)
     {
     rw [if_pos c29] at H
     have c29b0 := decide_eq_true c29
     clear c29
     by_cases c30 : (rd t520 x33_2) < (x7_2.length : Int)
     {
     rw [if_pos c30] at H
     have c30b0 := decide_eq_true c30
     (try (have c30b0q7_1 := c30b0; simp only [hl7_1] at c30b0q7_1))
     (try (have c30b0q7_2 := c30b0; simp only [hl7_2] at c30b0q7_2))
     clear c30
     obtain ⟨bq31, hbq31⟩ : ∃ b_ : Bool, b_ = (rdOf false x7_2 (rd t520 x33_2)) := ⟨_, rfl⟩
     replace H : (if bq31 = true then (impl_without.l1 k2 a1 a2 x7_2 x8_2 (rd x8_1 0) t520 (t520.length : Int) (wrap64 (x33_2 + 1)) a0_0 a0_1 l0_2) else (if (rd x8_1 0) = a1 then (if (rd t520 x33_2) = a2 then (impl_without.l1 k2 a1 a2 x7_2 x8_2 (rd x8_1 0) t520 (t520.length : Int) (wrap64 (x33_2 + 1)) a0_0 a0_1 l0_2) else (if (rd x8_1 0) = a2 then (if (rd t520 x33_2) = a1 then (impl_without.l1 k2 a1 a2 x7_2 x8_2 (rd x8_1 0) t520 (t520.length : Int) (wrap64 (x33_2 + 1)) a0_0 a0_1 l0_2) else (if x8_2.length < 17592186044416 then (impl_without.l1 k2 a1 a2 (x7_2.set ((rd t520 x33_2) : Int).toNat true) (x8_2 ++ [rd t520 x33_2]) (rd x8_1 0) t520 (t520.length : Int) (wrap64 (x33_2 + 1)) a0_0 a0_1 l0_2) else (none))) else (if x8_2.length < 17592186044416 then (impl_without.l1 k2 a1 a2 (x7_2.set ((rd t520 x33_2) : Int).toNat true) (x8_2 ++ [rd t520 x33_2]) (rd x8_1 0) t520 (t520.length : Int) (wrap64 (x33_2 + 1)) a0_0 a0_1 l0_2) else (none)))) else (if (rd x8_1 0) = a2 then (if (rd t520 x33_2) = a1 then (impl_without.l1 k2 a1 a2 x7_2 x8_2 (rd x8_1 0) t520 (t520.length : Int) (wrap64 (x33_2 + 1)) a0_0 a0_1 l0_2) else (if x8_2.length < 17592186044416 then (impl_without.l1 k2 a1 a2 (x7_2.set ((rd t520 x33_2) : Int).toNat true) (x8_2 ++ [rd t520 x33_2]) (rd x8_1 0) t520 (t520.length : Int) (wrap64 (x33_2 + 1)) a0_0 a0_1 l0_2) else (none))) else (if x8_2.length < 17592186044416 then (impl_without.l1 k2 a1 a2 (x7_2.set ((rd t520 x33_2) : Int).toNat true) (x8_2 ++ [rd t520 x33_2]) (rd x8_1 0) t520 (t520.length : Int) (wrap64 (x33_2 + 1)) a0_0 a0_1 l0_2) else (none))))) = some r := by rw [← hbq31] at H; exact H
     have Nbq31 := aM hbq31
     clear hbq31
     by_cases c32 : bq31 = true
     {
     subst c32
     rw [if_pos rfl] at H
     have H' := aM H
     clear H
     have p523 : 0 ≤ (x33_2 : Int) := of_decide_eq_true qz2
     have q523 : x33_2 < (t520.length : Int) := of_decide_eq_true qz2
     obtain ⟨ad523, e523, hx523_0⟩ := Kd.at_int (Kd.R_reads' HO_31.out).2.2 x33_2 p523 q523
     cases e523
     replace p523 := eq_true p523
     replace q523 := eq_true q523
     have p524 : 0 ≤ ((rd t520 x33_2) : Int) := of_decide_eq_true qz2
     have q524 : (rd t520 x33_2) < (x7_2.length : Int) := of_decide_eq_true qz2
     obtain ⟨ad524, e524, hx524_0⟩ := Kd.at_bool (Kd.R_reads' HO_7.out).2.2 (rd t520 x33_2) p524 q524
     (try rw [← Nbq31.out] at hx524_0)
     obtain rfl : (⟨go8, 0, none⟩ : Addr) = ad524 := (by injection e524)
     (first | simp only [add_plain] at hx524_0 | simp only [add_at] at hx524_0 | simp only [Addr.add, Nat.zero_add] at hx524_0 | skip)
     replace p524 := eq_true p524
     replace q524 := eq_true q524
     go_wp2
     (try simp only [← hl7_2])
     go_roundg k2
     case measure => have := HK1.out; have := HK2.out; omega
     case rel => exact ⟨(x7_2), (x8_2), (wrap64 (x33_2 + 1)), qz5, H', ⟨by have := HK1.out; have := HK2.out; omega⟩, ⟨by (try simp only [hl7_1]); (try simp only [hl7_2]); exact rm_ HO_7.out⟩, ⟨by (try simp only [hl7_1]); (try simp only [hl7_2]); (with_reducible repeat (first | apply Kd.Q_alloc | apply Kd.Q_drewN | apply Kd.Q_drew)); (first | exact HO_8.out | exact Kd.R_mono HO_8.out (fun _ h_ => h_.1) | exact Kd.R_mono HO_8.out (fun _ h_ => h_.2))⟩, ⟨by (try simp only [hl7_1]); (try simp only [hl7_2]); exact rm_ HO_31.out⟩, ⟨by (try simp only [hl7_1]); (try simp only [hl7_2]); exact bk_ BK507.out⟩, ⟨by repeat (first | (with_reducible first | exact HB.out | apply below_alloc | apply pw_below_drewN | apply below_drew1 | refine below_set ?_ GE507.out) | exact HB.out)⟩⟩
     }
     {
     replace c32 := Bool.eq_false_iff.mpr c32
     subst c32
     rw [if_neg (show ¬ (false = true) by decide)] at H
     by_cases c33 : (rd x8_1 0) = a1
     {
     rw [if_pos c33] at H
     have c33b0 := beq_iff_eq.mpr c33
     have c33b1 := bne_eq_false_iff_eq.mpr c33
     clear c33
     by_cases c34 : (rd t520 x33_2) = a2
     {
     rw [if_pos c34] at H
     have c34b0 := beq_iff_eq.mpr c34
     have c34b1 := bne_eq_false_iff_eq.mpr c34
     clear c34
     have H' := aM H
     clear H
     have p523 : 0 ≤ (x33_2 : Int) := of_decide_eq_true qz2
     have q523 : x33_2 < (t520.length : Int) := of_decide_eq_true qz2
     obtain ⟨ad523, e523, hx523_0⟩ := Kd.at_int (Kd.R_reads' HO_31.out).2.2 x33_2 p523 q523
     cases e523
     replace p523 := eq_true p523
     replace q523 := eq_true q523
     have p524 : 0 ≤ ((rd t520 x33_2) : Int) := of_decide_eq_true qz2
     have q524 : (rd t520 x33_2) < (x7_2.length : Int) := of_decide_eq_true qz2
     obtain ⟨ad524, e524, hx524_0⟩ := Kd.at_bool (Kd.R_reads' HO_7.out).2.2 (rd t520 x33_2) p524 q524
     (try rw [← Nbq31.out] at hx524_0)
     obtain rfl : (⟨go8, 0, none⟩ : Addr) = ad524 := (by injection e524)
     (first | simp only [add_plain] at hx524_0 | simp only [add_at] at hx524_0 | simp only [Addr.add, Nat.zero_add] at hx524_0 | skip)
     replace p524 := eq_true p524
     replace q524 := eq_true q524
     go_wp2
     (try simp only [← hl7_2])
     go_roundg k2
     case measure => have := HK1.out; have := HK2.out; omega
     case rel => exact ⟨(x7_2), (x8_2), (wrap64 (x33_2 + 1)), qz5, H', ⟨by have := HK1.out; have := HK2.out; omega⟩, ⟨by (try simp only [hl7_1]); (try simp only [hl7_2]); exact rm_ HO_7.out⟩, ⟨by (try simp only [hl7_1]); (try simp only [hl7_2]); (with_reducible repeat (first | apply Kd.Q_alloc | apply Kd.Q_drewN | apply Kd.Q_drew)); (first | exact HO_8.out | exact Kd.R_mono HO_8.out (fun _ h_ => h_.1) | exact Kd.R_mono HO_8.out (fun _ h_ => h_.2))⟩, ⟨by (try simp only [hl7_1]); (try simp only [hl7_2]); exact rm_ HO_31.out⟩, ⟨by (try simp only [hl7_1]); (try simp only [hl7_2]); exact bk_ BK507.out⟩, ⟨by repeat (first | (with_reducible first | exact HB.out | apply below_alloc | apply pw_below_drewN | apply below_drew1 | refine below_set ?_ GE507.out) | exact HB.out)⟩⟩
     }
     {
     rw [if_neg c34] at H
     have c34b0 := beq_eq_false_iff_ne.mpr c34
     have c34b1 := bne_iff_ne.mpr c34
     by_cases c35 : (rd x8_1 0) = a2
     {
     rw [if_pos c35] at H
     have c35b0 := beq_iff_eq.mpr c35
     have c35b1 := bne_eq_false_iff_eq.mpr c35
     clear c35
     by_cases c36 : (rd t520 x33_2) = a1
     {
     rw [if_pos c36] at H
     have c36b0 := beq_iff_eq.mpr c36
     have c36b1 := bne_eq_false_iff_eq.mpr c36
     clear c36
     have H' := aM H
     clear H
     have p523 : 0 ≤ (x33_2 : Int) := of_decide_eq_true qz2
     have q523 : x33_2 < (t520.length : Int) := of_decide_eq_true qz2
     obtain ⟨ad523, e523, hx523_0⟩ := Kd.at_int (Kd.R_reads' HO_31.out).2.2 x33_2 p523 q523
     cases e523
     replace p523 := eq_true p523
     replace q523 := eq_true q523
     have p524 : 0 ≤ ((rd t520 x33_2) : Int) := of_decide_eq_true qz2
     have q524 : (rd t520 x33_2) < (x7_2.length : Int) := of_decide_eq_true qz2
     obtain ⟨ad524, e524, hx524_0⟩ := Kd.at_bool (Kd.R_reads' HO_7.out).2.2 (rd t520 x33_2) p524 q524
     (try rw [← Nbq31.out] at hx524_0)
     obtain rfl : (⟨go8, 0, none⟩ : Addr) = ad524 := (by injection e524)
     (first | simp only [add_plain] at hx524_0 | simp only [add_at] at hx524_0 | simp only [Addr.add, Nat.zero_add] at hx524_0 | skip)
     replace p524 := eq_true p524
     replace q524 := eq_true q524
     go_wp2
     (try simp only [← hl7_2])
     go_roundg k2
     case measure => have := HK1.out; have := HK2.out; omega
     case rel => exact ⟨(x7_2), (x8_2), (wrap64 (x33_2 + 1)), qz5, H', ⟨by have := HK1.out; have := HK2.out; omega⟩, ⟨by (try simp only [hl7_1]); (try simp only [hl7_2]); exact rm_ HO_7.out⟩, ⟨by (try simp only [hl7_1]); (try simp only [hl7_2]); (with_reducible repeat (first | apply Kd.Q_alloc | apply Kd.Q_drewN | apply Kd.Q_drew)); (first | exact HO_8.out | exact Kd.R_mono HO_8.out (fun _ h_ => h_.1) | exact Kd.R_mono HO_8.out (fun _ h_ => h_.2))⟩, ⟨by (try simp only [hl7_1]); (try simp only [hl7_2]); exact rm_ HO_31.out⟩, ⟨by (try simp only [hl7_1]); (try simp only [hl7_2]); exact bk_ BK507.out⟩, ⟨by repeat (first | (with_reducible first | exact HB.out | apply below_alloc | apply pw_below_drewN | apply below_drew1 | refine below_set ?_ GE507.out) | exact HB.out)⟩⟩
     }
     {
     rw [if_neg c36] at H
     have c36b0 := beq_eq_false_iff_ne.mpr c36
     have c36b1 := bne_iff_ne.mpr c36
     obtain ⟨y525, hy525⟩ : ∃ y_ : List Bool, y_ = (x7_2.set ((rd t520 x33_2) : Int).toNat true) := ⟨_, rfl⟩
     replace H : (if x8_2.length < 17592186044416 then (impl_without.l1 k2 a1 a2 y525 (x8_2 ++ [rd t520 x33_2]) (rd x8_1 0) t520 (t520.length : Int) (wrap64 (x33_2 + 1)) a0_0 a0_1 l0_2) else (none)) = some r := by first | (rw [hy525]; with_reducible exact H) | (have H2_ := (Option.bind_some _ _).symm.trans H; rw [hy525]; with_reducible exact H2_) | (have H2_ := (Option.bind_some _ _).symm.trans H; with_reducible exact H2_) | with_reducible exact H | (rw [hy525]; exact H) | exact H
     have Ny525 := aM hy525
     clear hy525
     by_cases c38 : x8_2.length < 17592186044416
     {
     rw [if_pos c38] at H
     have LMc38 := aM c38
     clear c38
     obtain ⟨y526, hy526⟩ : ∃ y_ : List Int, y_ = (x8_2 ++ [rd t520 x33_2]) := ⟨_, rfl⟩
     replace H : (impl_without.l1 k2 a1 a2 y525 y526 (rd x8_1 0) t520 (t520.length : Int) (wrap64 (x33_2 + 1)) a0_0 a0_1 l0_2) = some r := by first | (rw [hy526]; with_reducible exact H) | (have H2_ := (Option.bind_some _ _).symm.trans H; rw [hy526]; with_reducible exact H2_) | (have H2_ := (Option.bind_some _ _).symm.trans H; with_reducible exact H2_) | with_reducible exact H | (rw [hy526]; exact H) | exact H
     have Ny526 := aM hy526
     clear hy526
     have H' := aM H
     clear H
     have p523 : 0 ≤ (x33_2 : Int) := of_decide_eq_true qz2
     have q523 : x33_2 < (t520.length : Int) := of_decide_eq_true qz2
     obtain ⟨ad523, e523, hx523_0⟩ := Kd.at_int (Kd.R_reads' HO_31.out).2.2 x33_2 p523 q523
     cases e523
     replace p523 := eq_true p523
     replace q523 := eq_true q523
     have p524 : 0 ≤ ((rd t520 x33_2) : Int) := of_decide_eq_true qz2
     have q524 : (rd t520 x33_2) < (x7_2.length : Int) := of_decide_eq_true qz2
     obtain ⟨ad524, e524, hx524_0⟩ := Kd.at_bool (Kd.R_reads' HO_7.out).2.2 (rd t520 x33_2) p524 q524
     (try rw [← Nbq31.out] at hx524_0)
     obtain rfl : (⟨go8, 0, none⟩ : Addr) = ad524 := (by injection e524)
     (first | simp only [add_plain] at hx524_0 | simp only [add_at] at hx524_0 | simp only [Addr.add, Nat.zero_add] at hx524_0 | skip)
     replace p524 := eq_true p524
     replace q524 := eq_true q524
     have p37 : 0 ≤ ((rd t520 x33_2) : Int) := of_decide_eq_true qz2
     have q37 : ((rd t520 x33_2) : Int) < ((x7_2.length : Int) : Int) := of_decide_eq_true qz2
     obtain ⟨hx37_0, hf37_0⟩ := Kd.R_celln false HO_7.out ((rd t520 x33_2) : Int) p37 q37
     replace p37 := eq_true p37
     replace q37 := eq_true q37
     have HP39 := Kd.R_putg HO_7.out ((rd t520 x33_2) : Int) true
     go_wp2_with (first | ((with_reducible refine gate_store (t := 4) (p := 63) rfl ?_); refine store_event (t := 4) (p := 63) (v := ?vo_w40) (w1 := (wr.setCell ⟨go8, ((rd t520 x33_2) : Int).toNat, none⟩ (.bool true))) ?hg ?ho ?hn ?hr ?_; (case ho => rfl); (case hg => rfl); (case hn => rfl); (case hr => exact qz28); intro w40 hw; have hg : wr.grownBy w40 (some go8) := (by rw [hw]; exact HP39.2); have hp_ : Kd.R Kd.bool 4 w40 w.heap.size (fun _ => True) (.slice (some ⟨go8, 0, none⟩) x7_2.length co8) y525 := (by rw [hw, Ny525.out]; exact HP39.1); clear HP39; have n0_ := aM (hp_); have n1_ := aM (Kd.Q_over' (v := (.slice (some ⟨go8, 0, none⟩) x7_2.length co8)) qz36 (Kd.R_typed HO_7.out) (by decide) hg); have n2_ := aM (Kd.R_over' (v := (.slice (some ⟨go8, 0, none⟩) x7_2.length co8)) (rr_ HO_31.out) (Kd.R_typed HO_7.out) (by decide) hg); have n3_ := aM (blk_grown (bk_ BK507.out) hg (Kd.R_ne HO_7.out BK507.out (by decide))); have n4_ := aM ((by rw [hw]; exact below_set (HB.out) GB8.out : Below w.heap.size w w40)); clear HO_7 HO_8 HO_31 BK507 HB; have HO_7 := n0_; have HO_8 := n1_; have HO_31 := n2_; have BK507 := n3_; have HB := n4_; clear n0_ n1_ n2_ n3_ n4_; clear hg hw hp_) | ((with_reducible refine gate_builtin (b := .append) (xs := #[.tmp 64, .tmp 66]) rfl ?_); at_builtin; refine Kd.Q_append (Kd.int .i64) (w0 := w) w.heap.size rfl (.tmp 64) (.tmp 66) 24 3 (.int .i64 0) 8 rfl Try.underlying24 info3 rfl (by decide) (by omega) u8 x8_2 (rd t520 x33_2) [.int .i64 (rd t520 x33_2)] (fun k_ => some k_ ≠ (.slice (some ad523) t520.length co25 : Value).ownBlock) (fun _ => False) rfl rfl ?aP (fun _ hk => hk.elim) ?aF ?aO ?aB ?aS ?aL ?_; (case aP => exact rfl); (case aB => exact qz17); (case aF => exact (fun k_ hk => Kd.fresh' (Kd.R_lt (rr_ HO_31.out)) k_ hk)); (case aO => exact qz36); (case aS => exact (below_size qz17)); (case aL => have := LMc38.out; omega); intro v527 w41 ho hb hg hat; rw [← Ny526.out] at ho; have n0_ := aM (Kd.R_over' (rr_ HO_7.out) (Kd.Q_typed qz36) (by decide) hg); have n1_ := aM (Kd.R_after (ok := (fun _ => True)) qz63 hg hat); have n2_ := aM (blk_grown (bk_ BK507.out) hg (Kd.Q_ne HO_8.out BK507.out (by decide))); have n3_ := aM (hb); have n4_ := aM (ho); clear HO_7 HO_31 BK507 HB HO_8; have HO_7 := n0_; have HO_31 := n1_; have BK507 := n2_; have HB := n3_; have HO528 := n4_; clear n0_ n1_ n2_ n3_ n4_; clear ho hb hg hat))
     (try simp only [← hl7_2])
     go_roundg k2
     case measure => have := HK1.out; have := HK2.out; omega
     case rel => exact ⟨(y525), (y526), (wrap64 (x33_2 + 1)), qz5, H', ⟨by have := HK1.out; have := HK2.out; omega⟩, ⟨by (try simp only [hl7_1]); (try simp only [hl7_2]); exact rm_ HO_7.out⟩, ⟨by (try simp only [hl7_1]); (try simp only [hl7_2]); (with_reducible repeat (first | apply Kd.Q_alloc | apply Kd.Q_drewN | apply Kd.Q_drew)); (first | exact HO528.out | exact Kd.R_mono HO528.out (fun _ h_ => h_.1) | exact Kd.R_mono HO528.out (fun _ h_ => h_.2))⟩, ⟨by (try simp only [hl7_1]); (try simp only [hl7_2]); (with_reducible repeat (first | apply Kd.R_alloc | apply Kd.R_drewN | apply Kd.R_drew)); exact Kd.R_mono HO_31.out (fun _ hk => hk.2)⟩, ⟨by (try simp only [hl7_1]); (try simp only [hl7_2]); exact bk_ BK507.out⟩, ⟨by repeat (first | (with_reducible first | exact HB.out | apply below_alloc | apply pw_below_drewN | apply below_drew1 | refine below_set ?_ GE507.out) | exact HB.out)⟩⟩
     }
     {
     rw [if_neg c38] at H
     exact absurd H (by simp)
     }
     }
     }
     {
     rw [if_neg c35] at H
     have c35b0 := beq_eq_false_iff_ne.mpr c35
     have c35b1 := bne_iff_ne.mpr c35
     obtain ⟨y529, hy529⟩ : ∃ y_ : List Bool, y_ = (x7_2.set ((rd t520 x33_2) : Int).toNat true) := ⟨_, rfl⟩
     replace H : (if x8_2.length < 17592186044416 then (impl_without.l1 k2 a1 a2 y529 (x8_2 ++ [rd t520 x33_2]) (rd x8_1 0) t520 (t520.length : Int) (wrap64 (x33_2 + 1)) a0_0 a0_1 l0_2) else (none)) = some r := by first | (rw [hy529]; with_reducible exact H) | (have H2_ := (Option.bind_some _ _).symm.trans H; rw [hy529]; with_reducible exact H2_) | (have H2_ := (Option.bind_some _ _).symm.trans H; with_reducible exact H2_) | with_reducible exact H | (rw [hy529]; exact H) | exact H
     have Ny529 := aM hy529
     clear hy529
     by_cases c43 : x8_2.length < 17592186044416
     {
     rw [if_pos c43] at H
     have LMc43 := aM c43
     clear c43
     obtain ⟨y530, hy530⟩ : ∃ y_ : List Int, y_ = (x8_2 ++ [rd t520 x33_2]) := ⟨_, rfl⟩
     replace H : (impl_without.l1 k2 a1 a2 y529 y530 (rd x8_1 0) t520 (t520.length : Int) (wrap64 (x33_2 + 1)) a0_0 a0_1 l0_2) = some r := by first | (rw [hy530]; with_reducible exact H) | (have H2_ := (Option.bind_some _ _).symm.trans H; rw [hy530]; with_reducible exact H2_) | (have H2_ := (Option.bind_some _ _).symm.trans H; with_reducible exact H2_) | with_reducible exact H | (rw [hy530]; exact H) | exact H
     have Ny530 := aM hy530
     clear hy530
     have H' := aM H
     clear H
     have p523 : 0 ≤ (x33_2 : Int) := of_decide_eq_true qz2
     have q523 : x33_2 < (t520.length : Int) := of_decide_eq_true qz2
     obtain ⟨ad523, e523, hx523_0⟩ := Kd.at_int (Kd.R_reads' HO_31.out).2.2 x33_2 p523 q523
     cases e523
     replace p523 := eq_true p523
     replace q523 := eq_true q523
     have p524 : 0 ≤ ((rd t520 x33_2) : Int) := of_decide_eq_true qz2
     have q524 : (rd t520 x33_2) < (x7_2.length : Int) := of_decide_eq_true qz2
     obtain ⟨ad524, e524, hx524_0⟩ := Kd.at_bool (Kd.R_reads' HO_7.out).2.2 (rd t520 x33_2) p524 q524
     (try rw [← Nbq31.out] at hx524_0)
     obtain rfl : (⟨go8, 0, none⟩ : Addr) = ad524 := (by injection e524)
     (first | simp only [add_plain] at hx524_0 | simp only [add_at] at hx524_0 | simp only [Addr.add, Nat.zero_add] at hx524_0 | skip)
     replace p524 := eq_true p524
     replace q524 := eq_true q524
     have p42 : 0 ≤ ((rd t520 x33_2) : Int) := of_decide_eq_true qz2
     have q42 : ((rd t520 x33_2) : Int) < ((x7_2.length : Int) : Int) := of_decide_eq_true qz2
     obtain ⟨hx42_0, hf42_0⟩ := Kd.R_celln false HO_7.out ((rd t520 x33_2) : Int) p42 q42
     replace p42 := eq_true p42
     replace q42 := eq_true q42
     have HP44 := Kd.R_putg HO_7.out ((rd t520 x33_2) : Int) true
     go_wp2_with (first | ((with_reducible refine gate_store (t := 4) (p := 63) rfl ?_); refine store_event (t := 4) (p := 63) (v := ?vo_w45) (w1 := (wr.setCell ⟨go8, ((rd t520 x33_2) : Int).toNat, none⟩ (.bool true))) ?hg ?ho ?hn ?hr ?_; (case ho => rfl); (case hg => rfl); (case hn => rfl); (case hr => exact qz28); intro w45 hw; have hg : wr.grownBy w45 (some go8) := (by rw [hw]; exact HP44.2); have hp_ : Kd.R Kd.bool 4 w45 w.heap.size (fun _ => True) (.slice (some ⟨go8, 0, none⟩) x7_2.length co8) y529 := (by rw [hw, Ny529.out]; exact HP44.1); clear HP44; have n0_ := aM (hp_); have n1_ := aM (Kd.Q_over' (v := (.slice (some ⟨go8, 0, none⟩) x7_2.length co8)) qz36 (Kd.R_typed HO_7.out) (by decide) hg); have n2_ := aM (Kd.R_over' (v := (.slice (some ⟨go8, 0, none⟩) x7_2.length co8)) (rr_ HO_31.out) (Kd.R_typed HO_7.out) (by decide) hg); have n3_ := aM (blk_grown (bk_ BK507.out) hg (Kd.R_ne HO_7.out BK507.out (by decide))); have n4_ := aM ((by rw [hw]; exact below_set (HB.out) GB8.out : Below w.heap.size w w45)); clear HO_7 HO_8 HO_31 BK507 HB; have HO_7 := n0_; have HO_8 := n1_; have HO_31 := n2_; have BK507 := n3_; have HB := n4_; clear n0_ n1_ n2_ n3_ n4_; clear hg hw hp_) | ((with_reducible refine gate_builtin (b := .append) (xs := #[.tmp 64, .tmp 66]) rfl ?_); at_builtin; refine Kd.Q_append (Kd.int .i64) (w0 := w) w.heap.size rfl (.tmp 64) (.tmp 66) 24 3 (.int .i64 0) 8 rfl Try.underlying24 info3 rfl (by decide) (by omega) u8 x8_2 (rd t520 x33_2) [.int .i64 (rd t520 x33_2)] (fun k_ => some k_ ≠ (.slice (some ad523) t520.length co25 : Value).ownBlock) (fun _ => False) rfl rfl ?aP (fun _ hk => hk.elim) ?aF ?aO ?aB ?aS ?aL ?_; (case aP => exact rfl); (case aB => exact qz17); (case aF => exact (fun k_ hk => Kd.fresh' (Kd.R_lt (rr_ HO_31.out)) k_ hk)); (case aO => exact qz36); (case aS => exact (below_size qz17)); (case aL => have := LMc43.out; omega); intro v531 w46 ho hb hg hat; rw [← Ny530.out] at ho; have n0_ := aM (Kd.R_over' (rr_ HO_7.out) (Kd.Q_typed qz36) (by decide) hg); have n1_ := aM (Kd.R_after (ok := (fun _ => True)) qz63 hg hat); have n2_ := aM (blk_grown (bk_ BK507.out) hg (Kd.Q_ne HO_8.out BK507.out (by decide))); have n3_ := aM (hb); have n4_ := aM (ho); clear HO_7 HO_31 BK507 HB HO_8; have HO_7 := n0_; have HO_31 := n1_; have BK507 := n2_; have HB := n3_; have HO532 := n4_; clear n0_ n1_ n2_ n3_ n4_; clear ho hb hg hat))
     (try simp only [← hl7_2])
     go_roundg k2
     case measure => have := HK1.out; have := HK2.out; omega
     case rel => exact ⟨(y529), (y530), (wrap64 (x33_2 + 1)), qz5, H', ⟨by have := HK1.out; have := HK2.out; omega⟩, ⟨by (try simp only [hl7_1]); (try simp only [hl7_2]); exact rm_ HO_7.out⟩, ⟨by (try simp only [hl7_1]); (try simp only [hl7_2]); (with_reducible repeat (first | apply Kd.Q_alloc | apply Kd.Q_drewN | apply Kd.Q_drew)); (first | exact HO532.out | exact Kd.R_mono HO532.out (fun _ h_ => h_.1) | exact Kd.R_mono HO532.out (fun _ h_ => h_.2))⟩, ⟨by (try simp only [hl7_1]); (try simp only [hl7_2]); (with_reducible repeat (first | apply Kd.R_alloc | apply Kd.R_drewN | apply Kd.R_drew)); exact Kd.R_mono HO_31.out (fun _ hk => hk.2)⟩, ⟨by (try simp only [hl7_1]); (try simp only [hl7_2]); exact bk_ BK507.out⟩, ⟨by repeat (first | (with_reducible first | exact HB.out | apply below_alloc | apply pw_below_drewN | apply below_drew1 | refine below_set ?_ GE507.out) | exact HB.out)⟩⟩
     }
     {
     rw [if_neg c43] at H
     exact absurd H (by simp)
     }
     }
     }
     }
     {
     rw [if_neg c33] at H
     have c33b0 := beq_eq_false_iff_ne.mpr c33
     have c33b1 := bne_iff_ne.mpr c33
     by_cases c47 : (rd x8_1 0) = a2
     {
     rw [if_pos c47] at H
     have c47b0 := beq_iff_eq.mpr c47
     have c47b1 := bne_eq_false_iff_eq.mpr c47
     clear c47
     by_cases c48 : (rd t520 x33_2) = a1
     {
     rw [if_pos c48] at H
     have c48b0 := beq_iff_eq.mpr c48
     have c48b1 := bne_eq_false_iff_eq.mpr c48
     clear c48
     have H' := aM H
     clear H
     have p523 : 0 ≤ (x33_2 : Int) := of_decide_eq_true qz2
     have q523 : x33_2 < (t520.length : Int) := of_decide_eq_true qz2
     obtain ⟨ad523, e523, hx523_0⟩ := Kd.at_int (Kd.R_reads' HO_31.out).2.2 x33_2 p523 q523
     cases e523
     replace p523 := eq_true p523
     replace q523 := eq_true q523
     have p524 : 0 ≤ ((rd t520 x33_2) : Int) := of_decide_eq_true qz2
     have q524 : (rd t520 x33_2) < (x7_2.length : Int) := of_decide_eq_true qz2
     obtain ⟨ad524, e524, hx524_0⟩ := Kd.at_bool (Kd.R_reads' HO_7.out).2.2 (rd t520 x33_2) p524 q524
     (try rw [← Nbq31.out] at hx524_0)
     obtain rfl : (⟨go8, 0, none⟩ : Addr) = ad524 := (by injection e524)
     (first | simp only [add_plain] at hx524_0 | simp only [add_at] at hx524_0 | simp only [Addr.add, Nat.zero_add] at hx524_0 | skip)
     replace p524 := eq_true p524
     replace q524 := eq_true q524
     go_wp2
     (try simp only [← hl7_2])
     go_roundg k2
     case measure => have := HK1.out; have := HK2.out; omega
     case rel => exact ⟨(x7_2), (x8_2), (wrap64 (x33_2 + 1)), qz5, H', ⟨by have := HK1.out; have := HK2.out; omega⟩, ⟨by (try simp only [hl7_1]); (try simp only [hl7_2]); exact rm_ HO_7.out⟩, ⟨by (try simp only [hl7_1]); (try simp only [hl7_2]); (with_reducible repeat (first | apply Kd.Q_alloc | apply Kd.Q_drewN | apply Kd.Q_drew)); (first | exact HO_8.out | exact Kd.R_mono HO_8.out (fun _ h_ => h_.1) | exact Kd.R_mono HO_8.out (fun _ h_ => h_.2))⟩, ⟨by (try simp only [hl7_1]); (try simp only [hl7_2]); exact rm_ HO_31.out⟩, ⟨by (try simp only [hl7_1]); (try simp only [hl7_2]); exact bk_ BK507.out⟩, ⟨by repeat (first | (with_reducible first | exact HB.out | apply below_alloc | apply pw_below_drewN | apply below_drew1 | refine below_set ?_ GE507.out) | exact HB.out)⟩⟩
     }
     {
     rw [if_neg c48] at H
     have c48b0 := beq_eq_false_iff_ne.mpr c48
     have c48b1 := bne_iff_ne.mpr c48
     obtain ⟨y533, hy533⟩ : ∃ y_ : List Bool, y_ = (x7_2.set ((rd t520 x33_2) : Int).toNat true) := ⟨_, rfl⟩
     replace H : (if x8_2.length < 17592186044416 then (impl_without.l1 k2 a1 a2 y533 (x8_2 ++ [rd t520 x33_2]) (rd x8_1 0) t520 (t520.length : Int) (wrap64 (x33_2 + 1)) a0_0 a0_1 l0_2) else (none)) = some r := by first | (rw [hy533]; with_reducible exact H) | (have H2_ := (Option.bind_some _ _).symm.trans H; rw [hy533]; with_reducible exact H2_) | (have H2_ := (Option.bind_some _ _).symm.trans H; with_reducible exact H2_) | with_reducible exact H | (rw [hy533]; exact H) | exact H
     have Ny533 := aM hy533
     clear hy533
     by_cases c50 : x8_2.length < 17592186044416
     {
     rw [if_pos c50] at H
     have LMc50 := aM c50
     clear c50
     obtain ⟨y534, hy534⟩ : ∃ y_ : List Int, y_ = (x8_2 ++ [rd t520 x33_2]) := ⟨_, rfl⟩
     replace H : (impl_without.l1 k2 a1 a2 y533 y534 (rd x8_1 0) t520 (t520.length : Int) (wrap64 (x33_2 + 1)) a0_0 a0_1 l0_2) = some r := by first | (rw [hy534]; with_reducible exact H) | (have H2_ := (Option.bind_some _ _).symm.trans H; rw [hy534]; with_reducible exact H2_) | (have H2_ := (Option.bind_some _ _).symm.trans H; with_reducible exact H2_) | with_reducible exact H | (rw [hy534]; exact H) | exact H
     have Ny534 := aM hy534
     clear hy534
     have H' := aM H
     clear H
     have p523 : 0 ≤ (x33_2 : Int) := of_decide_eq_true qz2
     have q523 : x33_2 < (t520.length : Int) := of_decide_eq_true qz2
     obtain ⟨ad523, e523, hx523_0⟩ := Kd.at_int (Kd.R_reads' HO_31.out).2.2 x33_2 p523 q523
     cases e523
     replace p523 := eq_true p523
     replace q523 := eq_true q523
     have p524 : 0 ≤ ((rd t520 x33_2) : Int) := of_decide_eq_true qz2
     have q524 : (rd t520 x33_2) < (x7_2.length : Int) := of_decide_eq_true qz2
     obtain ⟨ad524, e524, hx524_0⟩ := Kd.at_bool (Kd.R_reads' HO_7.out).2.2 (rd t520 x33_2) p524 q524
     (try rw [← Nbq31.out] at hx524_0)
     obtain rfl : (⟨go8, 0, none⟩ : Addr) = ad524 := (by injection e524)
     (first | simp only [add_plain] at hx524_0 | simp only [add_at] at hx524_0 | simp only [Addr.add, Nat.zero_add] at hx524_0 | skip)
     replace p524 := eq_true p524
     replace q524 := eq_true q524
     have p49 : 0 ≤ ((rd t520 x33_2) : Int) := of_decide_eq_true qz2
     have q49 : ((rd t520 x33_2) : Int) < ((x7_2.length : Int) : Int) := of_decide_eq_true qz2
     obtain ⟨hx49_0, hf49_0⟩ := Kd.R_celln false HO_7.out ((rd t520 x33_2) : Int) p49 q49
     replace p49 := eq_true p49
     replace q49 := eq_true q49
     have HP51 := Kd.R_putg HO_7.out ((rd t520 x33_2) : Int) true
     go_wp2_with (first | ((with_reducible refine gate_store (t := 4) (p := 63) rfl ?_); refine store_event (t := 4) (p := 63) (v := ?vo_w52) (w1 := (wr.setCell ⟨go8, ((rd t520 x33_2) : Int).toNat, none⟩ (.bool true))) ?hg ?ho ?hn ?hr ?_; (case ho => rfl); (case hg => rfl); (case hn => rfl); (case hr => exact qz28); intro w52 hw; have hg : wr.grownBy w52 (some go8) := (by rw [hw]; exact HP51.2); have hp_ : Kd.R Kd.bool 4 w52 w.heap.size (fun _ => True) (.slice (some ⟨go8, 0, none⟩) x7_2.length co8) y533 := (by rw [hw, Ny533.out]; exact HP51.1); clear HP51; have n0_ := aM (hp_); have n1_ := aM (Kd.Q_over' (v := (.slice (some ⟨go8, 0, none⟩) x7_2.length co8)) qz36 (Kd.R_typed HO_7.out) (by decide) hg); have n2_ := aM (Kd.R_over' (v := (.slice (some ⟨go8, 0, none⟩) x7_2.length co8)) (rr_ HO_31.out) (Kd.R_typed HO_7.out) (by decide) hg); have n3_ := aM (blk_grown (bk_ BK507.out) hg (Kd.R_ne HO_7.out BK507.out (by decide))); have n4_ := aM ((by rw [hw]; exact below_set (HB.out) GB8.out : Below w.heap.size w w52)); clear HO_7 HO_8 HO_31 BK507 HB; have HO_7 := n0_; have HO_8 := n1_; have HO_31 := n2_; have BK507 := n3_; have HB := n4_; clear n0_ n1_ n2_ n3_ n4_; clear hg hw hp_) | ((with_reducible refine gate_builtin (b := .append) (xs := #[.tmp 64, .tmp 66]) rfl ?_); at_builtin; refine Kd.Q_append (Kd.int .i64) (w0 := w) w.heap.size rfl (.tmp 64) (.tmp 66) 24 3 (.int .i64 0) 8 rfl Try.underlying24 info3 rfl (by decide) (by omega) u8 x8_2 (rd t520 x33_2) [.int .i64 (rd t520 x33_2)] (fun k_ => some k_ ≠ (.slice (some ad523) t520.length co25 : Value).ownBlock) (fun _ => False) rfl rfl ?aP (fun _ hk => hk.elim) ?aF ?aO ?aB ?aS ?aL ?_; (case aP => exact rfl); (case aB => exact qz17); (case aF => exact (fun k_ hk => Kd.fresh' (Kd.R_lt (rr_ HO_31.out)) k_ hk)); (case aO => exact qz36); (case aS => exact (below_size qz17)); (case aL => have := LMc50.out; omega); intro v535 w53 ho hb hg hat; rw [← Ny534.out] at ho; have n0_ := aM (Kd.R_over' (rr_ HO_7.out) (Kd.Q_typed qz36) (by decide) hg); have n1_ := aM (Kd.R_after (ok := (fun _ => True)) qz63 hg hat); have n2_ := aM (blk_grown (bk_ BK507.out) hg (Kd.Q_ne HO_8.out BK507.out (by decide))); have n3_ := aM (hb); have n4_ := aM (ho); clear HO_7 HO_31 BK507 HB HO_8; have HO_7 := n0_; have HO_31 := n1_; have BK507 := n2_; have HB := n3_; have HO536 := n4_; clear n0_ n1_ n2_ n3_ n4_; clear ho hb hg hat))
     (try simp only [← hl7_2])
     go_roundg k2
     case measure => have := HK1.out; have := HK2.out; omega
     case rel => exact ⟨(y533), (y534), (wrap64 (x33_2 + 1)), qz5, H', ⟨by have := HK1.out; have := HK2.out; omega⟩, ⟨by (try simp only [hl7_1]); (try simp only [hl7_2]); exact rm_ HO_7.out⟩, ⟨by (try simp only [hl7_1]); (try simp only [hl7_2]); (with_reducible repeat (first | apply Kd.Q_alloc | apply Kd.Q_drewN | apply Kd.Q_drew)); (first | exact HO536.out | exact Kd.R_mono HO536.out (fun _ h_ => h_.1) | exact Kd.R_mono HO536.out (fun _ h_ => h_.2))⟩, ⟨by (try simp only [hl7_1]); (try simp only [hl7_2]); (with_reducible repeat (first | apply Kd.R_alloc | apply Kd.R_drewN | apply Kd.R_drew)); exact Kd.R_mono HO_31.out (fun _ hk => hk.2)⟩, ⟨by (try simp only [hl7_1]); (try simp only [hl7_2]); exact bk_ BK507.out⟩, ⟨by repeat (first | (with_reducible first | exact HB.out | apply below_alloc | apply pw_below_drewN | apply below_drew1 | refine below_set ?_ GE507.out) | exact HB.out)⟩⟩
     }
     {
     rw [if_neg c50] at H
     exact absurd H (by simp)
     }
     }
     }
     {
     rw [if_neg c47] at H
     have c47b0 := beq_eq_false_iff_ne.mpr c47
     have c47b1 := bne_iff_ne.mpr c47
     obtain ⟨y537, hy537⟩ : ∃ y_ : List Bool, y_ = (x7_2.set ((rd t520 x33_2) : Int).toNat true) := ⟨_, rfl⟩
     replace H : (if x8_2.length < 17592186044416 then (impl_without.l1 k2 a1 a2 y537 (x8_2 ++ [rd t520 x33_2]) (rd x8_1 0) t520 (t520.length : Int) (wrap64 (x33_2 + 1)) a0_0 a0_1 l0_2) else (none)) = some r := by first | (rw [hy537]; with_reducible exact H) | (have H2_ := (Option.bind_some _ _).symm.trans H; rw [hy537]; with_reducible exact H2_) | (have H2_ := (Option.bind_some _ _).symm.trans H; with_reducible exact H2_) | with_reducible exact H | (rw [hy537]; exact H) | exact H
     have Ny537 := aM hy537
     clear hy537
     by_cases c55 : x8_2.length < 17592186044416
     {
     rw [if_pos c55] at H
     have LMc55 := aM c55
     clear c55
     obtain ⟨y538, hy538⟩ : ∃ y_ : List Int, y_ = (x8_2 ++ [rd t520 x33_2]) := ⟨_, rfl⟩
     replace H : (impl_without.l1 k2 a1 a2 y537 y538 (rd x8_1 0) t520 (t520.length : Int) (wrap64 (x33_2 + 1)) a0_0 a0_1 l0_2) = some r := by first | (rw [hy538]; with_reducible exact H) | (have H2_ := (Option.bind_some _ _).symm.trans H; rw [hy538]; with_reducible exact H2_) | (have H2_ := (Option.bind_some _ _).symm.trans H; with_reducible exact H2_) | with_reducible exact H | (rw [hy538]; exact H) | exact H
     have Ny538 := aM hy538
     clear hy538
     have H' := aM H
     clear H
     have p523 : 0 ≤ (x33_2 : Int) := of_decide_eq_true qz2
     have q523 : x33_2 < (t520.length : Int) := of_decide_eq_true qz2
     obtain ⟨ad523, e523, hx523_0⟩ := Kd.at_int (Kd.R_reads' HO_31.out).2.2 x33_2 p523 q523
     cases e523
     replace p523 := eq_true p523
     replace q523 := eq_true q523
     have p524 : 0 ≤ ((rd t520 x33_2) : Int) := of_decide_eq_true qz2
     have q524 : (rd t520 x33_2) < (x7_2.length : Int) := of_decide_eq_true qz2
     obtain ⟨ad524, e524, hx524_0⟩ := Kd.at_bool (Kd.R_reads' HO_7.out).2.2 (rd t520 x33_2) p524 q524
     (try rw [← Nbq31.out] at hx524_0)
     obtain rfl : (⟨go8, 0, none⟩ : Addr) = ad524 := (by injection e524)
     (first | simp only [add_plain] at hx524_0 | simp only [add_at] at hx524_0 | simp only [Addr.add, Nat.zero_add] at hx524_0 | skip)
     replace p524 := eq_true p524
     replace q524 := eq_true q524
     have p54 : 0 ≤ ((rd t520 x33_2) : Int) := of_decide_eq_true qz2
     have q54 : ((rd t520 x33_2) : Int) < ((x7_2.length : Int) : Int) := of_decide_eq_true qz2
     obtain ⟨hx54_0, hf54_0⟩ := Kd.R_celln false HO_7.out ((rd t520 x33_2) : Int) p54 q54
     replace p54 := eq_true p54
     replace q54 := eq_true q54
     have HP56 := Kd.R_putg HO_7.out ((rd t520 x33_2) : Int) true
     go_wp2_with (first | ((with_reducible refine gate_store (t := 4) (p := 63) rfl ?_); refine store_event (t := 4) (p := 63) (v := ?vo_w57) (w1 := (wr.setCell ⟨go8, ((rd t520 x33_2) : Int).toNat, none⟩ (.bool true))) ?hg ?ho ?hn ?hr ?_; (case ho => rfl); (case hg => rfl); (case hn => rfl); (case hr => exact qz28); intro w57 hw; have hg : wr.grownBy w57 (some go8) := (by rw [hw]; exact HP56.2); have hp_ : Kd.R Kd.bool 4 w57 w.heap.size (fun _ => True) (.slice (some ⟨go8, 0, none⟩) x7_2.length co8) y537 := (by rw [hw, Ny537.out]; exact HP56.1); clear HP56; have n0_ := aM (hp_); have n1_ := aM (Kd.Q_over' (v := (.slice (some ⟨go8, 0, none⟩) x7_2.length co8)) qz36 (Kd.R_typed HO_7.out) (by decide) hg); have n2_ := aM (Kd.R_over' (v := (.slice (some ⟨go8, 0, none⟩) x7_2.length co8)) (rr_ HO_31.out) (Kd.R_typed HO_7.out) (by decide) hg); have n3_ := aM (blk_grown (bk_ BK507.out) hg (Kd.R_ne HO_7.out BK507.out (by decide))); have n4_ := aM ((by rw [hw]; exact below_set (HB.out) GB8.out : Below w.heap.size w w57)); clear HO_7 HO_8 HO_31 BK507 HB; have HO_7 := n0_; have HO_8 := n1_; have HO_31 := n2_; have BK507 := n3_; have HB := n4_; clear n0_ n1_ n2_ n3_ n4_; clear hg hw hp_) | ((with_reducible refine gate_builtin (b := .append) (xs := #[.tmp 64, .tmp 66]) rfl ?_); at_builtin; refine Kd.Q_append (Kd.int .i64) (w0 := w) w.heap.size rfl (.tmp 64) (.tmp 66) 24 3 (.int .i64 0) 8 rfl Try.underlying24 info3 rfl (by decide) (by omega) u8 x8_2 (rd t520 x33_2) [.int .i64 (rd t520 x33_2)] (fun k_ => some k_ ≠ (.slice (some ad523) t520.length co25 : Value).ownBlock) (fun _ => False) rfl rfl ?aP (fun _ hk => hk.elim) ?aF ?aO ?aB ?aS ?aL ?_; (case aP => exact rfl); (case aB => exact qz17); (case aF => exact (fun k_ hk => Kd.fresh' (Kd.R_lt (rr_ HO_31.out)) k_ hk)); (case aO => exact qz36); (case aS => exact (below_size qz17)); (case aL => have := LMc55.out; omega); intro v539 w58 ho hb hg hat; rw [← Ny538.out] at ho; have n0_ := aM (Kd.R_over' (rr_ HO_7.out) (Kd.Q_typed qz36) (by decide) hg); have n1_ := aM (Kd.R_after (ok := (fun _ => True)) qz63 hg hat); have n2_ := aM (blk_grown (bk_ BK507.out) hg (Kd.Q_ne HO_8.out BK507.out (by decide))); have n3_ := aM (hb); have n4_ := aM (ho); clear HO_7 HO_31 BK507 HB HO_8; have HO_7 := n0_; have HO_31 := n1_; have BK507 := n2_; have HB := n3_; have HO540 := n4_; clear n0_ n1_ n2_ n3_ n4_; clear ho hb hg hat))
     (try simp only [← hl7_2])
     go_roundg k2
     case measure => have := HK1.out; have := HK2.out; omega
     case rel => exact ⟨(y537), (y538), (wrap64 (x33_2 + 1)), qz5, H', ⟨by have := HK1.out; have := HK2.out; omega⟩, ⟨by (try simp only [hl7_1]); (try simp only [hl7_2]); exact rm_ HO_7.out⟩, ⟨by (try simp only [hl7_1]); (try simp only [hl7_2]); (with_reducible repeat (first | apply Kd.Q_alloc | apply Kd.Q_drewN | apply Kd.Q_drew)); (first | exact HO540.out | exact Kd.R_mono HO540.out (fun _ h_ => h_.1) | exact Kd.R_mono HO540.out (fun _ h_ => h_.2))⟩, ⟨by (try simp only [hl7_1]); (try simp only [hl7_2]); (with_reducible repeat (first | apply Kd.R_alloc | apply Kd.R_drewN | apply Kd.R_drew)); exact Kd.R_mono HO_31.out (fun _ hk => hk.2)⟩, ⟨by (try simp only [hl7_1]); (try simp only [hl7_2]); exact bk_ BK507.out⟩, ⟨by repeat (first | (with_reducible first | exact HB.out | apply below_alloc | apply pw_below_drewN | apply below_drew1 | refine below_set ?_ GE507.out) | exact HB.out)⟩⟩
     }
     {
     rw [if_neg c55] at H
     exact absurd H (by simp)
     }
     }
     }
     }
     }
     {
     rw [if_neg c30] at H
     exact absurd H (by simp)
     }
     }
     {
     rw [if_neg c29] at H
     exact absurd H (by simp)
     }
     }
     {
     rw [if_neg c28] at H
     exact absurd H (by simp)
     }
     }
     {
     rw [if_neg c27] at H
     exact absurd H (by simp)
     }
     }
     {
     rw [if_neg c26] at H
     have c26b0 := decide_eq_false c26
     (try (have c26b0q7_1 := c26b0; simp only [hl7_1] at c26b0q7_1))
     (try (have c26b0q7_2 := c26b0; simp only [hl7_2] at c26b0q7_2))
     clear c26
     have H' := aM H
     clear H
     go_wp2
     (try simp only [← hl7_1, ← hl7_2])
     go_roundg k2
     case measure => have := HK1.out; have := HK2.out; omega
     case rel => exact ⟨(x7_2), (x8_2), H', ⟨by have := HK1.out; have := HK2.out; omega⟩, ⟨by (try simp only [hl7_1]); (try simp only [hl7_2]); exact rm_ HO_7.out⟩, ⟨by (try simp only [hl7_1]); (try simp only [hl7_2]); (with_reducible repeat (first | apply Kd.Q_alloc | apply Kd.Q_drewN | apply Kd.Q_drew)); exact Kd.Q_mono HO_8.out (fun _ hk => trivial)⟩, ⟨by (try simp only [hl7_1]); (try simp only [hl7_2]); exact bk_ BK507.out⟩, ⟨by repeat (first | (with_reducible first | exact HB.out | apply below_alloc | apply pw_below_drewN | apply below_drew1 | refine below_set ?_ GE507.out) | exact HB.out)⟩⟩
     }
   }
   {
   rw [if_neg c19] at H
   exact absurd H (by simp)
   }
   }
   {
   rw [if_neg c18] at H
   exact absurd H (by simp)
   }
   }
   {
   rw [if_neg c17] at H
   have c17b0 := decide_eq_false c17
   (try (have c17b0q7_1 := c17b0; simp only [hl7_1] at c17b0q7_1))
   have c17b1 : decide (0 < x8_1.length) = false := decide_eq_false (by omega)
   (try (have c17b1q7_1 := c17b1; simp only [hl7_1] at c17b1q7_1))
   clear c17
   by_cases c59 : 0 ≤ a2
   {
   rw [if_pos c59] at H
   have c59b0 := decide_eq_true c59
   clear c59
   by_cases c60 : a2 < (x7_1.length : Int)
   {
   rw [if_pos c60] at H
   have c60b0 := decide_eq_true c60
   (try (have c60b0q7_1 := c60b0; simp only [hl7_1] at c60b0q7_1))
   clear c60
   obtain rfl := Option.some.inj H
   simp only [Option.some.injEq, Prod.mk.injEq] at H
   obtain ⟨rfl⟩ := H
   obtain ⟨Ao61, co61, eo61, _⟩ := Kd.Q_slice HO_8.out
   subst eo61
   have p515 : 0 ≤ (a2 : Int) := of_decide_eq_true qz2
   have q515 : a2 < (x7_1.length : Int) := of_decide_eq_true qz2
   obtain ⟨ad515, e515, hx515_0⟩ := Kd.at_bool (Kd.R_reads' HO_7.out).2.2 a2 p515 q515
   obtain rfl : (⟨go8, 0, none⟩ : Addr) = ad515 := (by injection e515)
   (first | simp only [add_plain] at hx515_0 | simp only [add_at] at hx515_0 | simp only [Addr.add, Nat.zero_add] at hx515_0 | skip)
   replace p515 := eq_true p515
   replace q515 := eq_true q515
   go_wp2
   go_ret
   exact ⟨by first | rfl | (simp [errW_none, errW_some] <;> rfl) | (simp [*, errW_none, errW_some] <;> rfl), by repeat (first | (with_reducible first | exact HB.out | apply below_alloc | apply pw_below_drewN | apply below_drew1 | refine below_set ?_ GE507.out) | exact HB.out)⟩
   }
   {
   rw [if_neg c60] at H
   exact absurd H (by simp)
   }
   }
   {
   rw [if_neg c59] at H
   exact absurd H (by simp)
   }
   }
 }
 {
 rw [if_neg c7] at H
 exact absurd H (by simp)
 }
 }
 {
 rw [if_neg c6] at H
 exact absurd H (by simp)
 }
 }
 {
 rw [if_neg c5] at H
 exact absurd H (by simp)
 }
 }
 {
 rw [if_neg c4] at H
 exact absurd H (by simp)

 }
end Go.Proofs.Ytbebfhlejnidkaa.PFnSound
