-- Made by a program of this session out of the translation. Lean checks it.
import Derived.Test.YteajnkondkfmgaaPFnHeldx0
import Derived.Test.YteajnkondkfmgaaPFnHeldx10
namespace Go.Proofs.Yteajnkondkfmgaa.PFnHeld
open Go.RowKit Go.Proofs.YteajnkondkfmgaaW.PrintWords Go.Proofs.YteajnkondkfmgaaW.PrintLast Go.Proofs.YteajnkondkfmgaaW.PrintMore
attribute [local go_sem] max2_int min2_int max_two min_two max_three min_three max_four min_four   -- for this text's walks alone
set_option linter.unusedVariables false
set_option linter.unusedSimpArgs false

/-! ### spec_l5Stacks: function 82 -/
def spec_l5Stacks.l0 : Nat → List (S72) → Int → Option (Bool)
 | 0, _, _ => none
 | k + 1, x0, x3 => if x3 < (x0.length : Int) then (if 0 ≤ x3 then ((spec_l1In.f ((rd_T72 x0 x3).f0) 1 50).bind fun t305 => (if t305 = true then ((spec_l1In.f ((rd_T72 x0 x3).f1) 1 1000).bind fun t307 => (if t307 = true then ((spec_l1In.f ((rd_T72 x0 x3).f2) 0 ((rd_T72 x0 x3).f1)).bind fun t310 => (if t310 = true then (if x3 > 0 then (if 0 ≤ (wrap64 (x3 - 1)) then (if (wrap64 (x3 - 1)) < (x0.length : Int) then (if ((rd_T72 x0 (wrap64 (x3 - 1))).f0) ≥ ((rd_T72 x0 x3).f0) then (some false) else (spec_l5Stacks.l0 k x0 (wrap64 (x3 + 1)))) else (none)) else (none)) else (spec_l5Stacks.l0 k x0 (wrap64 (x3 + 1)))) else (some false))) else (some false))) else (some false))) else (none)) else (some (decide ((x0.length : Int) ≤ 8)))
def spec_l5Stacks.f (k : Nat) (l0 : List (S72)) : Option (Bool) := spec_l5Stacks.l0 k l0 0
theorem spec_l5Stacks.mono_l : ∀ k, (∀ y0 y1, LeO (spec_l5Stacks.l0 k y0 y1) (spec_l5Stacks.l0 (k + 1) y0 y1))
 | 0 => fun _ _ r h => by simp [spec_l5Stacks.l0] at h
 | k + 1 => by
  have ih0 := spec_l5Stacks.mono_l k
  {
  intro y0 y1
  unfold spec_l5Stacks.l0
  repeat' first
  | (with_reducible first | exact ih0 _ _ | exact LeO.refl _ | exact LeO.none _ | refine LeO.ite ?_ ?_ | refine LeO.bind ?_ (fun _ => ?_))
  | exact ih0 _ _
  | exact LeO.none _
  | refine LeO.ite ?_ ?_
  | refine LeO.bind ?_ (fun _ => ?_)
  }
theorem spec_l5Stacks.mono : ∀ a0 k, LeO (spec_l5Stacks.f k a0) (spec_l5Stacks.f (k + 1) a0) := by
 intro a0 k
 have ih0 := spec_l5Stacks.mono_l k
 unfold spec_l5Stacks.f
 repeat' first
  | (with_reducible first | exact ih0 _ _ | exact LeO.refl _ | exact LeO.none _ | refine LeO.ite ?_ ?_ | refine LeO.bind ?_ (fun _ => ?_))
  | exact ih0 _ _
  | exact LeO.none _
  | refine LeO.ite ?_ ?_
  | refine LeO.bind ?_ (fun _ => ?_)
def spec_l5Stacks.T4 : Bool × List (List Nat × List Nat) := (true, [([], []), ([], []), ([0, 1], [0, 1]), ([2], [2]), ([3], [3]), ([4], [4]), ([5], [5]), ([6, 5], [6]), ([7], [7]), ([7], [7]), ([8, 9, 7], [7, 8, 9]), ([10, 7], [7, 10]), ([11, 7], [7, 11]), ([12, 7, 7], [7, 12]), ([13, 7], [7, 13]), ([7, 14], [7, 14]), ([15, 13], [15]), ([16], [16]), ([16], [16]), ([17, 18, 16], [16, 17, 18]), ([19, 16], [16, 19]), ([20, 16], [16, 20]), ([16], [16]), ([16], [16]), ([22, 23, 16], [16, 22, 23]), ([24, 16], [16, 24]), ([25, 16], [16, 25]), ([21, 26, 16, 16], [16, 21, 26]), ([27, 16], [16, 27]), ([16, 28], [16, 28]), ([29, 27], [29]), ([30], [30]), ([31, 30], [30, 31]), ([32, 30, 30], [30, 32]), ([33], [33]), ([33], [33]), ([35, 33], [33, 35]), ([34, 36, 33], [33, 34, 36]), ([37, 33], [33, 37]), ([38, 33], [33, 38]), ([33], [33]), ([33], [33]), ([40, 41, 33], [33, 40, 41]), ([42, 33], [33, 42]), ([43, 33], [33, 43]), ([39, 44, 33], [33, 39, 44]), ([33, 45, 30], [30, 33, 45]), ([30, 46], [30, 46])])
def spec_l5Stacks.B4 : List Nat := [0, 0, 3, 7, 15, 31, 63, 127, 255, 255, 1023, 2047, 4095, 8191, 16383, 32767, 65535, 131071, 131071, 524287, 1048575, 2097151, 131071, 131071, 12713983, 29491199, 63045631, 134217727, 268435455, 536870911, 1073741823, 2147483647, 4294967295, 8589934591, 17179869183, 17179869183, 51539607551, 137438953471, 274877906943, 549755813887, 17179869183, 17179869183, 3315714752511, 7713761263615, 16509854285823, 35184372088831, 70368744177663, 140737488355327]
theorem spec_l5Stacks.tab4 : rtab .any (opsOf Try.f82 4) = spec_l5Stacks.T4 := by kernel_rfl
theorem spec_l5Stacks.bits4 : waitsOk spec_l5Stacks.T4.2 spec_l5Stacks.B4 = true := by kernel_rfl
set_option maxHeartbeats 8000000 in
set_option maxRecDepth 100000 in
theorem spec_l5Stacks.calls (k : Nat) (A0 : Option Addr) (c0 : Nat) (l0 : List (S72)) (r : Bool) (w : World) (hr0 : Kd.C k72 w A0 l0.length l0) (hc0 : l0.length ≤ c0) (h : spec_l5Stacks.f k l0 = some r) :
  Calls Try.prog 82 #[.slice A0 l0.length c0] w fun e w' => e = .returned (.bool r) ∧ Below w.heap.size w w' := by
 have HR0 := aM hr0
 have HC0 := aM hc0
 clear hr0 hc0
 have HB := aM (Below.refl w.heap.size w)
 have H : (spec_l5Stacks.l0 k l0 0) = some r := h
 clear h
 have H' := aM H
 clear H
 go_enter Try.func82, Try.ntmps82
 go_wp2
 go_loopg [3] k (fun kq v3 w' => ∃ (x3_1 : Int), v3 = .int .i64 x3_1 ∧ Aside0 (spec_l5Stacks.l0 kq l0 x3_1 = some r) ∧ Aside0 (kq ≤ k) ∧ Aside0 (Below w.heap.size w w'))
 case atStart => exact ⟨(0), qz13, H', ⟨Nat.le_refl _⟩, ⟨by repeat (first | (with_reducible first | exact HB.out | apply below_alloc | apply pw_below_drewN | apply below_drew1) | exact HB.out)⟩⟩
 case round =>
  clear H'
  obtain ⟨x3_1, rfl, HA, HK1, HB⟩ := hrel
  cases gk with
  | zero => exact absurd HA.out (by simp [spec_l5Stacks.l0])
  | succ k1 =>
   have H := HA.out
   clear HA
   simp only [spec_l5Stacks.l0] at H
   by_cases c2 : x3_1 < (l0.length : Int)
   {
   rw [if_pos c2] at H
   have c2b0 := decide_eq_true c2
   clear c2
   by_cases c3 : 0 ≤ x3_1
   {
   rw [if_pos c3] at H
   have c3b0 := decide_eq_true c3
   clear c3
   replace H := Option.bind_eq_some_iff.mp H
   obtain ⟨t305, A40, H⟩ := H
   replace H : (if t305 = true then ((spec_l1In.f ((rd_T72 l0 x3_1).f1) 1 1000).bind fun t307 => (if t307 = true then ((spec_l1In.f ((rd_T72 l0 x3_1).f2) 0 ((rd_T72 l0 x3_1).f1)).bind fun t310 => (if t310 = true then (if x3_1 > 0 then (if 0 ≤ (wrap64 (x3_1 - 1)) then (if (wrap64 (x3_1 - 1)) < (l0.length : Int) then (if ((rd_T72 l0 (wrap64 (x3_1 - 1))).f0) ≥ ((rd_T72 l0 x3_1).f0) then (some false) else (spec_l5Stacks.l0 k1 l0 (wrap64 (x3_1 + 1)))) else (none)) else (none)) else (spec_l5Stacks.l0 k1 l0 (wrap64 (x3_1 + 1)))) else (some false))) else (some false))) else (some false)) = some r := H
   have A4 := aM A40
   clear A40
   by_cases c5 : t305 = true
   {
   subst c5
   rw [if_pos rfl] at H
   replace H := Option.bind_eq_some_iff.mp H
   obtain ⟨t307, A60, H⟩ := H
   replace H : (if t307 = true then ((spec_l1In.f ((rd_T72 l0 x3_1).f2) 0 ((rd_T72 l0 x3_1).f1)).bind fun t310 => (if t310 = true then (if x3_1 > 0 then (if 0 ≤ (wrap64 (x3_1 - 1)) then (if (wrap64 (x3_1 - 1)) < (l0.length : Int) then (if ((rd_T72 l0 (wrap64 (x3_1 - 1))).f0) ≥ ((rd_T72 l0 x3_1).f0) then (some false) else (spec_l5Stacks.l0 k1 l0 (wrap64 (x3_1 + 1)))) else (none)) else (none)) else (spec_l5Stacks.l0 k1 l0 (wrap64 (x3_1 + 1)))) else (some false))) else (some false)) = some r := H
   have A6 := aM A60
   clear A60
   by_cases c7 : t307 = true
   {
   subst c7
   rw [if_pos rfl] at H
   replace H := Option.bind_eq_some_iff.mp H
   obtain ⟨t310, A80, H⟩ := H
   replace H : (if t310 = true then (if x3_1 > 0 then (if 0 ≤ (wrap64 (x3_1 - 1)) then (if (wrap64 (x3_1 - 1)) < (l0.length : Int) then (if ((rd_T72 l0 (wrap64 (x3_1 - 1))).f0) ≥ ((rd_T72 l0 x3_1).f0) then (some false) else (spec_l5Stacks.l0 k1 l0 (wrap64 (x3_1 + 1)))) else (none)) else (none)) else (spec_l5Stacks.l0 k1 l0 (wrap64 (x3_1 + 1)))) else (some false)) = some r := H
   have A8 := aM A80
   clear A80
   by_cases c9 : t310 = true
   {
   subst c9
   rw [if_pos rfl] at H
   by_cases c10 : x3_1 > 0
   {
   rw [if_pos c10] at H
   have c10b0 := decide_eq_true c10
   clear c10
   obtain ⟨ji11, hji11⟩ : ∃ j_ : Int, (wrap64 (x3_1 - 1)) = j_ := ⟨_, rfl⟩
   replace H : (if 0 ≤ (ji11) then (if (ji11) < (l0.length : Int) then (if ((rd_T72 l0 (ji11)).f0) ≥ ((rd_T72 l0 x3_1).f0) then (some false) else (spec_l5Stacks.l0 k1 l0 (wrap64 (x3_1 + 1)))) else (none)) else (none)) = some r := by first | (rw [hji11] at H; exact H) | (simp only [hji11] at H ⊢; exact H)
   (try rw [hji11] at A4)
   (try rw [hji11] at A6)
   (try rw [hji11] at A8)
   have hji11w : (IntKind.i64.wrap (x3_1 - 1)) = ji11 := (i64_w _).trans hji11
   by_cases c12 : 0 ≤ (ji11)
   {
   rw [if_pos c12] at H
   have c12b0 := decide_eq_true c12
   clear c12
   by_cases c13 : (ji11) < (l0.length : Int)
   {
   rw [if_pos c13] at H
   have c13b0 := decide_eq_true c13
   clear c13
   by_cases c14 : ((rd_T72 l0 (ji11)).f0) ≥ ((rd_T72 l0 x3_1).f0)
   {
   rw [if_pos c14] at H
   have c14b0 := decide_eq_true c14
   clear c14
   obtain rfl := Option.some.inj H
   simp only [Option.some.injEq, Prod.mk.injEq] at H
   obtain ⟨rfl⟩ := H
   try go_wp2
   have n0_ := aM (below_drew1 HB.out)
   clear HB
   have HB := n0_
   clear n0_
   have p304 : 0 ≤ (x3_1 : Int) := of_decide_eq_true qz4
   have q304 : x3_1 < (l0.length : Int) := of_decide_eq_true qz4
   obtain ⟨ad304, e304, hx304_0, hx304_1, hx304_2⟩ := at_T72 HR0.out x3_1 p304 q304
   have hw304_2 := hx304_2
   have hw304_1 := hx304_1
   have hw304_0 := hx304_0
   cases e304
   replace hx304_0 := pw_cell_below HB.out hx304_0
   replace hx304_1 := pw_cell_below HB.out hx304_1
   replace hx304_2 := pw_cell_below HB.out hx304_2
   replace p304 := eq_true p304
   replace q304 := eq_true q304
   have p306 : 0 ≤ (x3_1 : Int) := of_decide_eq_true qz4
   have q306 : x3_1 < (l0.length : Int) := of_decide_eq_true qz4
   obtain ⟨ad306, e306, hx306_0, hx306_1, hx306_2⟩ := at_T72 HR0.out x3_1 p306 q306
   have hw306_2 := hx306_2
   have hw306_1 := hx306_1
   have hw306_0 := hx306_0
   obtain rfl : ad304 = ad306 := (by injection e306)
   replace hx306_0 := pw_cell_below HB.out hx306_0
   replace hx306_1 := pw_cell_below HB.out hx306_1
   replace hx306_2 := pw_cell_below HB.out hx306_2
   replace p306 := eq_true p306
   replace q306 := eq_true q306
   have p308 : 0 ≤ (x3_1 : Int) := of_decide_eq_true qz4
   have q308 : x3_1 < (l0.length : Int) := of_decide_eq_true qz4
   obtain ⟨ad308, e308, hx308_0, hx308_1, hx308_2⟩ := at_T72 HR0.out x3_1 p308 q308
   have hw308_2 := hx308_2
   have hw308_1 := hx308_1
   have hw308_0 := hx308_0
   obtain rfl : ad304 = ad308 := (by injection e308)
   replace hx308_0 := pw_cell_below HB.out hx308_0
   replace hx308_1 := pw_cell_below HB.out hx308_1
   replace hx308_2 := pw_cell_below HB.out hx308_2
   replace p308 := eq_true p308
   replace q308 := eq_true q308
   have p309 : 0 ≤ (x3_1 : Int) := of_decide_eq_true qz4
   have q309 : x3_1 < (l0.length : Int) := of_decide_eq_true qz4
   obtain ⟨ad309, e309, hx309_0, hx309_1, hx309_2⟩ := at_T72 HR0.out x3_1 p309 q309
   have hw309_2 := hx309_2
   have hw309_1 := hx309_1
   have hw309_0 := hx309_0
   obtain rfl : ad304 = ad309 := (by injection e309)
   replace hx309_0 := pw_cell_below HB.out hx309_0
   replace hx309_1 := pw_cell_below HB.out hx309_1
   replace hx309_2 := pw_cell_below HB.out hx309_2
   replace p309 := eq_true p309
   replace q309 := eq_true q309
   have p311 : 0 ≤ ((ji11) : Int) := of_decide_eq_true qz4
   have q311 : (ji11) < (l0.length : Int) := of_decide_eq_true qz4
   obtain ⟨ad311, e311, hx311_0, hx311_1, hx311_2⟩ := at_T72 HR0.out (ji11) p311 q311
   have hw311_2 := hx311_2
   have hw311_1 := hx311_1
   have hw311_0 := hx311_0
   obtain rfl : ad304 = ad311 := (by injection e311)
   replace hx311_0 := pw_cell_below HB.out hx311_0
   replace hx311_1 := pw_cell_below HB.out hx311_1
   replace hx311_2 := pw_cell_below HB.out hx311_2
   replace p311 := eq_true p311
   replace q311 := eq_true q311
   have p312 : 0 ≤ (x3_1 : Int) := of_decide_eq_true qz4
   have q312 : x3_1 < (l0.length : Int) := of_decide_eq_true qz4
   obtain ⟨ad312, e312, hx312_0, hx312_1, hx312_2⟩ := at_T72 HR0.out x3_1 p312 q312
   have hw312_2 := hx312_2
   have hw312_1 := hx312_1
   have hw312_0 := hx312_0
   obtain rfl : ad304 = ad312 := (by injection e312)
   replace hx312_0 := pw_cell_below HB.out hx312_0
   replace hx312_1 := pw_cell_below HB.out hx312_1
   replace hx312_2 := pw_cell_below HB.out hx312_2
   replace p312 := eq_true p312
   replace q312 := eq_true q312
   refine start_ (n := 48) (S := fun w' => w'.cell? (ad304.add ((x3_1).toNat * 3)) = some (.int .i64 ((rd_T72 l0 x3_1).f0)) ∧ w'.cell? ⟨(ad304.add ((x3_1).toNat * 3)).block, (ad304.add ((x3_1).toNat * 3)).off + 1, none⟩ = some (.int .i64 ((rd_T72 l0 x3_1).f1)) ∧ w'.cell? ⟨(ad304.add ((x3_1).toNat * 3)).block, (ad304.add ((x3_1).toNat * 3)).off + 2, none⟩ = some (.int .i64 ((rd_T72 l0 x3_1).f2)) ∧ w'.cell? (ad304.add ((x3_1).toNat * 3)) = some (.int .i64 ((rd_T72 l0 x3_1).f0)) ∧ w'.cell? ⟨(ad304.add ((x3_1).toNat * 3)).block, (ad304.add ((x3_1).toNat * 3)).off + 1, none⟩ = some (.int .i64 ((rd_T72 l0 x3_1).f1)) ∧ w'.cell? ⟨(ad304.add ((x3_1).toNat * 3)).block, (ad304.add ((x3_1).toNat * 3)).off + 2, none⟩ = some (.int .i64 ((rd_T72 l0 x3_1).f2)) ∧ w'.cell? (ad304.add ((x3_1).toNat * 3)) = some (.int .i64 ((rd_T72 l0 x3_1).f0)) ∧ w'.cell? ⟨(ad304.add ((x3_1).toNat * 3)).block, (ad304.add ((x3_1).toNat * 3)).off + 1, none⟩ = some (.int .i64 ((rd_T72 l0 x3_1).f1)) ∧ w'.cell? ⟨(ad304.add ((x3_1).toNat * 3)).block, (ad304.add ((x3_1).toNat * 3)).off + 2, none⟩ = some (.int .i64 ((rd_T72 l0 x3_1).f2)) ∧ w'.cell? (ad304.add ((x3_1).toNat * 3)) = some (.int .i64 ((rd_T72 l0 x3_1).f0)) ∧ w'.cell? ⟨(ad304.add ((x3_1).toNat * 3)).block, (ad304.add ((x3_1).toNat * 3)).off + 1, none⟩ = some (.int .i64 ((rd_T72 l0 x3_1).f1)) ∧ w'.cell? ⟨(ad304.add ((x3_1).toNat * 3)).block, (ad304.add ((x3_1).toNat * 3)).off + 2, none⟩ = some (.int .i64 ((rd_T72 l0 x3_1).f2)) ∧ w'.cell? (ad304.add (((ji11)).toNat * 3)) = some (.int .i64 ((rd_T72 l0 (ji11)).f0)) ∧ w'.cell? ⟨(ad304.add (((ji11)).toNat * 3)).block, (ad304.add (((ji11)).toNat * 3)).off + 1, none⟩ = some (.int .i64 ((rd_T72 l0 (ji11)).f1)) ∧ w'.cell? ⟨(ad304.add (((ji11)).toNat * 3)).block, (ad304.add (((ji11)).toNat * 3)).off + 2, none⟩ = some (.int .i64 ((rd_T72 l0 (ji11)).f2)) ∧ w'.cell? (ad304.add ((x3_1).toNat * 3)) = some (.int .i64 ((rd_T72 l0 x3_1).f0)) ∧ w'.cell? ⟨(ad304.add ((x3_1).toNat * 3)).block, (ad304.add ((x3_1).toNat * 3)).off + 1, none⟩ = some (.int .i64 ((rd_T72 l0 x3_1).f1)) ∧ w'.cell? ⟨(ad304.add ((x3_1).toNat * 3)).block, (ad304.add ((x3_1).toNat * 3)).off + 2, none⟩ = some (.int .i64 ((rd_T72 l0 x3_1).f2))) (ds := []) #[false, false, false, false, false, false, false, false, false, false, false, false, false, false, false, false, false, false, false, false, false, false, false, false, false, false, false, false, false, false, false, false, false, false, false, false, false, false, false, false, false, false, false, false, false, false, false, false] (by kernel_rfl) rfl rfl ⟨(pw_cell_below HB.out hw304_0), (pw_cell_below HB.out hw304_1), (pw_cell_below HB.out hw304_2), (pw_cell_below HB.out hw306_0), (pw_cell_below HB.out hw306_1), (pw_cell_below HB.out hw306_2), (pw_cell_below HB.out hw308_0), (pw_cell_below HB.out hw308_1), (pw_cell_below HB.out hw308_2), (pw_cell_below HB.out hw309_0), (pw_cell_below HB.out hw309_1), (pw_cell_below HB.out hw309_2), (pw_cell_below HB.out hw311_0), (pw_cell_below HB.out hw311_1), (pw_cell_below HB.out hw311_2), (pw_cell_below HB.out hw312_0), (pw_cell_below HB.out hw312_1), (pw_cell_below HB.out hw312_2)⟩ (fun hHeld => ?_); refine with_tabW spec_l5Stacks.tab4 spec_l5Stacks.bits4 (fun HT_ HW_ => ?_)
   generalize wr.drew = w15 at HB hx304_0 hx304_1 hx304_2 hx306_0 hx306_1 hx306_2 hx308_0 hx308_1 hx308_2 hx309_0 hx309_1 hx309_2 hx311_0 hx311_1 hx311_2 hx312_0 hx312_1 hx312_2 hHeld ⊢
   refine pI_ 0 10 (bqz 48 1) ?_
   refine pI_ 1 11 (bqz 48 3) ?_
   refine pI_ 2 12 (bqz 48 7) ?_
   refine pI_ 3 13 (bqz 48 15) ?_
   refine tI18_ 4 14 (bqz 48 31) ?_
   refine one_ (i := 5) (N := some 15) (bqz 48 63) rfl rfl qzc (by decide) (fun K hK => ?_)
   refine goes_ Try.func81 (by kernel_rfl) rfl #[.int .i64 ((rd_T72 l0 x3_1).f0), .int .i64 1, .int .i64 50] (by rfl) rfl rfl qz1 ?_
   with_reducible refine (spec_l1In.calls ((rd_T72 l0 x3_1).f0) 1 50 true _ A4.out).mono ?_
   rintro e w' ⟨rfl, ⟨nd, rfl⟩⟩
   refine ⟨_, rfl, ?_⟩
   refine hK.out _ _ ⟨(pw_cell_below HB.out hw304_0), (pw_cell_below HB.out hw304_1), (pw_cell_below HB.out hw304_2), (pw_cell_below HB.out hw306_0), (pw_cell_below HB.out hw306_1), (pw_cell_below HB.out hw306_2), (pw_cell_below HB.out hw308_0), (pw_cell_below HB.out hw308_1), (pw_cell_below HB.out hw308_2), (pw_cell_below HB.out hw309_0), (pw_cell_below HB.out hw309_1), (pw_cell_below HB.out hw309_2), (pw_cell_below HB.out hw311_0), (pw_cell_below HB.out hw311_1), (pw_cell_below HB.out hw311_2), (pw_cell_below HB.out hw312_0), (pw_cell_below HB.out hw312_1), (pw_cell_below HB.out hw312_2)⟩ (fun hHeld => ?_)
   clear hK K
   refine norm_ (a' := ?_) ?_ ?_
   rotate_left
   {
   show Act.put _ (some 15) _ = _
   simp only [qzs]
   rfl
   }
   refine pI_ 6 16 (bqz 48 127) ?_
   refine pI_ 7 17 (bqz 48 255) ?_
   refine pI_ 8 18 (bqz 48 511) ?_
   refine pI_ 9 19 (bqz 48 1023) ?_
   refine pI_ 10 20 (bqz 48 2047) ?_
   refine pI_ 11 21 (bqz 48 4095) ?_
   refine tI18_ 12 22 (bqz 48 8191) ?_
   refine one_ (i := 13) (N := some 23) (bqz 48 16383) rfl rfl qzc (by decide) (fun K hK => ?_)
   refine goes_ Try.func81 (by kernel_rfl) rfl #[.int .i64 ((rd_T72 l0 x3_1).f1), .int .i64 1, .int .i64 1000] (by rfl) rfl rfl qz1 ?_
   with_reducible refine (spec_l1In.calls ((rd_T72 l0 x3_1).f1) 1 1000 true _ A6.out).mono ?_
   rintro e w' ⟨rfl, ⟨nd, rfl⟩⟩
   refine ⟨_, rfl, ?_⟩
   refine hK.out _ _ ⟨(pw_cell_below HB.out hw304_0), (pw_cell_below HB.out hw304_1), (pw_cell_below HB.out hw304_2), (pw_cell_below HB.out hw306_0), (pw_cell_below HB.out hw306_1), (pw_cell_below HB.out hw306_2), (pw_cell_below HB.out hw308_0), (pw_cell_below HB.out hw308_1), (pw_cell_below HB.out hw308_2), (pw_cell_below HB.out hw309_0), (pw_cell_below HB.out hw309_1), (pw_cell_below HB.out hw309_2), (pw_cell_below HB.out hw311_0), (pw_cell_below HB.out hw311_1), (pw_cell_below HB.out hw311_2), (pw_cell_below HB.out hw312_0), (pw_cell_below HB.out hw312_1), (pw_cell_below HB.out hw312_2)⟩ (fun hHeld => ?_)
   clear hK K
   refine norm_ (a' := ?_) ?_ ?_
   rotate_left
   {
   show Act.put _ (some 23) _ = _
   simp only [qzs]
   rfl
   }
   refine pI_ 14 24 (bqz 48 32767) ?_
   refine pI_ 15 25 (bqz 48 65535) ?_
   refine pI_ 16 26 (bqz 48 131071) ?_
   refine pI_ 17 27 (bqz 48 262143) ?_
   refine pI_ 18 28 (bqz 48 524287) ?_
   refine pI_ 19 29 (bqz 48 1048575) ?_
   refine pI_ 20 30 (bqz 48 2097151) ?_
   refine pI_ 22 32 (bqz 48 6291455) ?_
   refine pI_ 23 33 (bqz 48 14680063) ?_
   refine pI_ 24 34 (bqz 48 31457279) ?_
   refine pI_ 25 35 (bqz 48 65011711) ?_
   refine tI18_ 21 31 (bqz 48 67108863) ?_
   refine tI18_ 26 36 (bqz 48 134217727) ?_
   refine one_ (i := 27) (N := some 37) (bqz 48 268435455) rfl rfl qzc (by decide) (fun K hK => ?_)
   refine goes_ Try.func81 (by kernel_rfl) rfl #[.int .i64 ((rd_T72 l0 x3_1).f2), .int .i64 0, .int .i64 ((rd_T72 l0 x3_1).f1)] (by rfl) rfl rfl qz1 ?_
   with_reducible refine (spec_l1In.calls ((rd_T72 l0 x3_1).f2) 0 ((rd_T72 l0 x3_1).f1) true _ A8.out).mono ?_
   rintro e w' ⟨rfl, ⟨nd, rfl⟩⟩
   refine ⟨_, rfl, ?_⟩
   refine hK.out _ _ ⟨(pw_cell_below HB.out hw304_0), (pw_cell_below HB.out hw304_1), (pw_cell_below HB.out hw304_2), (pw_cell_below HB.out hw306_0), (pw_cell_below HB.out hw306_1), (pw_cell_below HB.out hw306_2), (pw_cell_below HB.out hw308_0), (pw_cell_below HB.out hw308_1), (pw_cell_below HB.out hw308_2), (pw_cell_below HB.out hw309_0), (pw_cell_below HB.out hw309_1), (pw_cell_below HB.out hw309_2), (pw_cell_below HB.out hw311_0), (pw_cell_below HB.out hw311_1), (pw_cell_below HB.out hw311_2), (pw_cell_below HB.out hw312_0), (pw_cell_below HB.out hw312_1), (pw_cell_below HB.out hw312_2)⟩ (fun hHeld => ?_)
   clear hK K
   refine norm_ (a' := ?_) ?_ ?_
   rotate_left
   {
   show Act.put _ (some 37) _ = _
   simp only [qzs]
   rfl
   }
   refine pI_ 28 38 (bqz 48 536870911) ?_
   refine pI_ 29 39 (bqz 48 1073741823) ?_
   refine pI_ 30 40 (bqz 48 2147483647) ?_
   refine pI_ 31 41 (bqz 48 4294967295) ?_
   refine pI_ 32 42 (bqz 48 8589934591) ?_
   refine pI_ 33 43 (bqz 48 17179869183) ?_
   refine pI_ 34 44 (bqz 48 34359738367) ?_
   refine pI_ 35 45 (bqz 48 68719476735) ?_
   refine pI_ 36 46 (bqz 48 137438953471) ?_
   refine pI_ 37 47 (bqz 48 274877906943) ?_
   refine pI_ 38 48 (bqz 48 549755813887) ?_
   refine pI_ 40 50 (bqz 48 1649267441663) ?_
   refine pI_ 41 51 (bqz 48 3848290697215) ?_
   refine pI_ 42 52 (bqz 48 8246337208319) ?_
   refine pI_ 43 53 (bqz 48 17042430230527) ?_
   refine tI18_ 39 49 (bqz 48 17592186044415) ?_
   refine tI18_ 44 54 (bqz 48 35184372088831) ?_
   refine pI_ 45 55 (bqz 48 70368744177663) ?_
   refine pI_ 46 56 (bqz 48 140737488355327) ?_
   refine pI_ 47 57 (bqz 48 281474976710655) ?_
   refine done_ (done_of HT_.out (by kernel_rfl)) ?_
   try go_wp2
   go_ret
   exact ⟨by first | rfl | (simp [errW_none, errW_some] <;> rfl) | (simp only [← hji11]; first | rfl | (simp [errW_none, errW_some] <;> rfl)) | (simp [*, errW_none, errW_some] <;> rfl), by repeat (first | (with_reducible first | exact HB.out | apply below_alloc | apply pw_below_drewN | apply below_drew1) | exact HB.out)⟩
   }
   {
   rw [if_neg c14] at H
   have c14b0 := decide_eq_false c14
   clear c14
   have H' := aM H
   clear H
   try go_wp2
   have n0_ := aM (below_drew1 HB.out)
   clear HB
   have HB := n0_
   clear n0_
   have p304 : 0 ≤ (x3_1 : Int) := of_decide_eq_true qz4
   have q304 : x3_1 < (l0.length : Int) := of_decide_eq_true qz4
   obtain ⟨ad304, e304, hx304_0, hx304_1, hx304_2⟩ := at_T72 HR0.out x3_1 p304 q304
   have hw304_2 := hx304_2
   have hw304_1 := hx304_1
   have hw304_0 := hx304_0
   cases e304
   replace hx304_0 := pw_cell_below HB.out hx304_0
   replace hx304_1 := pw_cell_below HB.out hx304_1
   replace hx304_2 := pw_cell_below HB.out hx304_2
   replace p304 := eq_true p304
   replace q304 := eq_true q304
   have p306 : 0 ≤ (x3_1 : Int) := of_decide_eq_true qz4
   have q306 : x3_1 < (l0.length : Int) := of_decide_eq_true qz4
   obtain ⟨ad306, e306, hx306_0, hx306_1, hx306_2⟩ := at_T72 HR0.out x3_1 p306 q306
   have hw306_2 := hx306_2
   have hw306_1 := hx306_1
   have hw306_0 := hx306_0
   obtain rfl : ad304 = ad306 := (by injection e306)
   replace hx306_0 := pw_cell_below HB.out hx306_0
   replace hx306_1 := pw_cell_below HB.out hx306_1
   replace hx306_2 := pw_cell_below HB.out hx306_2
   replace p306 := eq_true p306
   replace q306 := eq_true q306
   have p308 : 0 ≤ (x3_1 : Int) := of_decide_eq_true qz4
   have q308 : x3_1 < (l0.length : Int) := of_decide_eq_true qz4
   obtain ⟨ad308, e308, hx308_0, hx308_1, hx308_2⟩ := at_T72 HR0.out x3_1 p308 q308
   have hw308_2 := hx308_2
   have hw308_1 := hx308_1
   have hw308_0 := hx308_0
   obtain rfl : ad304 = ad308 := (by injection e308)
   replace hx308_0 := pw_cell_below HB.out hx308_0
   replace hx308_1 := pw_cell_below HB.out hx308_1
   replace hx308_2 := pw_cell_below HB.out hx308_2
   replace p308 := eq_true p308
   replace q308 := eq_true q308
   have p309 : 0 ≤ (x3_1 : Int) := of_decide_eq_true qz4
   have q309 : x3_1 < (l0.length : Int) := of_decide_eq_true qz4
   obtain ⟨ad309, e309, hx309_0, hx309_1, hx309_2⟩ := at_T72 HR0.out x3_1 p309 q309
   have hw309_2 := hx309_2
   have hw309_1 := hx309_1
   have hw309_0 := hx309_0
   obtain rfl : ad304 = ad309 := (by injection e309)
   replace hx309_0 := pw_cell_below HB.out hx309_0
   replace hx309_1 := pw_cell_below HB.out hx309_1
   replace hx309_2 := pw_cell_below HB.out hx309_2
   replace p309 := eq_true p309
   replace q309 := eq_true q309
   have p311 : 0 ≤ ((ji11) : Int) := of_decide_eq_true qz4
   have q311 : (ji11) < (l0.length : Int) := of_decide_eq_true qz4
   obtain ⟨ad311, e311, hx311_0, hx311_1, hx311_2⟩ := at_T72 HR0.out (ji11) p311 q311
   have hw311_2 := hx311_2
   have hw311_1 := hx311_1
   have hw311_0 := hx311_0
   obtain rfl : ad304 = ad311 := (by injection e311)
   replace hx311_0 := pw_cell_below HB.out hx311_0
   replace hx311_1 := pw_cell_below HB.out hx311_1
   replace hx311_2 := pw_cell_below HB.out hx311_2
   replace p311 := eq_true p311
   replace q311 := eq_true q311
   have p312 : 0 ≤ (x3_1 : Int) := of_decide_eq_true qz4
   have q312 : x3_1 < (l0.length : Int) := of_decide_eq_true qz4
   obtain ⟨ad312, e312, hx312_0, hx312_1, hx312_2⟩ := at_T72 HR0.out x3_1 p312 q312
   have hw312_2 := hx312_2
   have hw312_1 := hx312_1
   have hw312_0 := hx312_0
   obtain rfl : ad304 = ad312 := (by injection e312)
   replace hx312_0 := pw_cell_below HB.out hx312_0
   replace hx312_1 := pw_cell_below HB.out hx312_1
   replace hx312_2 := pw_cell_below HB.out hx312_2
   replace p312 := eq_true p312
   replace q312 := eq_true q312
   refine start_ (n := 48) (S := fun w' => w'.cell? (ad304.add ((x3_1).toNat * 3)) = some (.int .i64 ((rd_T72 l0 x3_1).f0)) ∧ w'.cell? ⟨(ad304.add ((x3_1).toNat * 3)).block, (ad304.add ((x3_1).toNat * 3)).off + 1, none⟩ = some (.int .i64 ((rd_T72 l0 x3_1).f1)) ∧ w'.cell? ⟨(ad304.add ((x3_1).toNat * 3)).block, (ad304.add ((x3_1).toNat * 3)).off + 2, none⟩ = some (.int .i64 ((rd_T72 l0 x3_1).f2)) ∧ w'.cell? (ad304.add ((x3_1).toNat * 3)) = some (.int .i64 ((rd_T72 l0 x3_1).f0)) ∧ w'.cell? ⟨(ad304.add ((x3_1).toNat * 3)).block, (ad304.add ((x3_1).toNat * 3)).off + 1, none⟩ = some (.int .i64 ((rd_T72 l0 x3_1).f1)) ∧ w'.cell? ⟨(ad304.add ((x3_1).toNat * 3)).block, (ad304.add ((x3_1).toNat * 3)).off + 2, none⟩ = some (.int .i64 ((rd_T72 l0 x3_1).f2)) ∧ w'.cell? (ad304.add ((x3_1).toNat * 3)) = some (.int .i64 ((rd_T72 l0 x3_1).f0)) ∧ w'.cell? ⟨(ad304.add ((x3_1).toNat * 3)).block, (ad304.add ((x3_1).toNat * 3)).off + 1, none⟩ = some (.int .i64 ((rd_T72 l0 x3_1).f1)) ∧ w'.cell? ⟨(ad304.add ((x3_1).toNat * 3)).block, (ad304.add ((x3_1).toNat * 3)).off + 2, none⟩ = some (.int .i64 ((rd_T72 l0 x3_1).f2)) ∧ w'.cell? (ad304.add ((x3_1).toNat * 3)) = some (.int .i64 ((rd_T72 l0 x3_1).f0)) ∧ w'.cell? ⟨(ad304.add ((x3_1).toNat * 3)).block, (ad304.add ((x3_1).toNat * 3)).off + 1, none⟩ = some (.int .i64 ((rd_T72 l0 x3_1).f1)) ∧ w'.cell? ⟨(ad304.add ((x3_1).toNat * 3)).block, (ad304.add ((x3_1).toNat * 3)).off + 2, none⟩ = some (.int .i64 ((rd_T72 l0 x3_1).f2)) ∧ w'.cell? (ad304.add (((ji11)).toNat * 3)) = some (.int .i64 ((rd_T72 l0 (ji11)).f0)) ∧ w'.cell? ⟨(ad304.add (((ji11)).toNat * 3)).block, (ad304.add (((ji11)).toNat * 3)).off + 1, none⟩ = some (.int .i64 ((rd_T72 l0 (ji11)).f1)) ∧ w'.cell? ⟨(ad304.add (((ji11)).toNat * 3)).block, (ad304.add (((ji11)).toNat * 3)).off + 2, none⟩ = some (.int .i64 ((rd_T72 l0 (ji11)).f2)) ∧ w'.cell? (ad304.add ((x3_1).toNat * 3)) = some (.int .i64 ((rd_T72 l0 x3_1).f0)) ∧ w'.cell? ⟨(ad304.add ((x3_1).toNat * 3)).block, (ad304.add ((x3_1).toNat * 3)).off + 1, none⟩ = some (.int .i64 ((rd_T72 l0 x3_1).f1)) ∧ w'.cell? ⟨(ad304.add ((x3_1).toNat * 3)).block, (ad304.add ((x3_1).toNat * 3)).off + 2, none⟩ = some (.int .i64 ((rd_T72 l0 x3_1).f2))) (ds := []) #[false, false, false, false, false, false, false, false, false, false, false, false, false, false, false, false, false, false, false, false, false, false, false, false, false, false, false, false, false, false, false, false, false, false, false, false, false, false, false, false, false, false, false, false, false, false, false, false] (by kernel_rfl) rfl rfl ⟨(pw_cell_below HB.out hw304_0), (pw_cell_below HB.out hw304_1), (pw_cell_below HB.out hw304_2), (pw_cell_below HB.out hw306_0), (pw_cell_below HB.out hw306_1), (pw_cell_below HB.out hw306_2), (pw_cell_below HB.out hw308_0), (pw_cell_below HB.out hw308_1), (pw_cell_below HB.out hw308_2), (pw_cell_below HB.out hw309_0), (pw_cell_below HB.out hw309_1), (pw_cell_below HB.out hw309_2), (pw_cell_below HB.out hw311_0), (pw_cell_below HB.out hw311_1), (pw_cell_below HB.out hw311_2), (pw_cell_below HB.out hw312_0), (pw_cell_below HB.out hw312_1), (pw_cell_below HB.out hw312_2)⟩ (fun hHeld => ?_); refine with_tabW spec_l5Stacks.tab4 spec_l5Stacks.bits4 (fun HT_ HW_ => ?_)
   generalize wr.drew = w16 at HB hx304_0 hx304_1 hx304_2 hx306_0 hx306_1 hx306_2 hx308_0 hx308_1 hx308_2 hx309_0 hx309_1 hx309_2 hx311_0 hx311_1 hx311_2 hx312_0 hx312_1 hx312_2 hHeld ⊢
   refine pI_ 0 10 (bqz 48 1) ?_
   refine pI_ 1 11 (bqz 48 3) ?_
   refine pI_ 2 12 (bqz 48 7) ?_
   refine pI_ 3 13 (bqz 48 15) ?_
   refine tI18_ 4 14 (bqz 48 31) ?_
   refine one_ (i := 5) (N := some 15) (bqz 48 63) rfl rfl qzc (by decide) (fun K hK => ?_)
   refine goes_ Try.func81 (by kernel_rfl) rfl #[.int .i64 ((rd_T72 l0 x3_1).f0), .int .i64 1, .int .i64 50] (by rfl) rfl rfl qz1 ?_
   with_reducible refine (spec_l1In.calls ((rd_T72 l0 x3_1).f0) 1 50 true _ A4.out).mono ?_
   rintro e w' ⟨rfl, ⟨nd, rfl⟩⟩
   refine ⟨_, rfl, ?_⟩
   refine hK.out _ _ ⟨(pw_cell_below HB.out hw304_0), (pw_cell_below HB.out hw304_1), (pw_cell_below HB.out hw304_2), (pw_cell_below HB.out hw306_0), (pw_cell_below HB.out hw306_1), (pw_cell_below HB.out hw306_2), (pw_cell_below HB.out hw308_0), (pw_cell_below HB.out hw308_1), (pw_cell_below HB.out hw308_2), (pw_cell_below HB.out hw309_0), (pw_cell_below HB.out hw309_1), (pw_cell_below HB.out hw309_2), (pw_cell_below HB.out hw311_0), (pw_cell_below HB.out hw311_1), (pw_cell_below HB.out hw311_2), (pw_cell_below HB.out hw312_0), (pw_cell_below HB.out hw312_1), (pw_cell_below HB.out hw312_2)⟩ (fun hHeld => ?_)
   clear hK K
   refine norm_ (a' := ?_) ?_ ?_
   rotate_left
   {
   show Act.put _ (some 15) _ = _
   simp only [qzs]
   rfl
   }
   refine pI_ 6 16 (bqz 48 127) ?_
   refine pI_ 7 17 (bqz 48 255) ?_
   refine pI_ 8 18 (bqz 48 511) ?_
   refine pI_ 9 19 (bqz 48 1023) ?_
   refine pI_ 10 20 (bqz 48 2047) ?_
   refine pI_ 11 21 (bqz 48 4095) ?_
   refine tI18_ 12 22 (bqz 48 8191) ?_
   refine one_ (i := 13) (N := some 23) (bqz 48 16383) rfl rfl qzc (by decide) (fun K hK => ?_)
   refine goes_ Try.func81 (by kernel_rfl) rfl #[.int .i64 ((rd_T72 l0 x3_1).f1), .int .i64 1, .int .i64 1000] (by rfl) rfl rfl qz1 ?_
   with_reducible refine (spec_l1In.calls ((rd_T72 l0 x3_1).f1) 1 1000 true _ A6.out).mono ?_
   rintro e w' ⟨rfl, ⟨nd, rfl⟩⟩
   refine ⟨_, rfl, ?_⟩
   refine hK.out _ _ ⟨(pw_cell_below HB.out hw304_0), (pw_cell_below HB.out hw304_1), (pw_cell_below HB.out hw304_2), (pw_cell_below HB.out hw306_0), (pw_cell_below HB.out hw306_1), (pw_cell_below HB.out hw306_2), (pw_cell_below HB.out hw308_0), (pw_cell_below HB.out hw308_1), (pw_cell_below HB.out hw308_2), (pw_cell_below HB.out hw309_0), (pw_cell_below HB.out hw309_1), (pw_cell_below HB.out hw309_2), (pw_cell_below HB.out hw311_0), (pw_cell_below HB.out hw311_1), (pw_cell_below HB.out hw311_2), (pw_cell_below HB.out hw312_0), (pw_cell_below HB.out hw312_1), (pw_cell_below HB.out hw312_2)⟩ (fun hHeld => ?_)
   clear hK K
   refine norm_ (a' := ?_) ?_ ?_
   rotate_left
   {
   show Act.put _ (some 23) _ = _
   simp only [qzs]
   rfl
   }
   refine pI_ 14 24 (bqz 48 32767) ?_
   refine pI_ 15 25 (bqz 48 65535) ?_
   refine pI_ 16 26 (bqz 48 131071) ?_
   refine pI_ 17 27 (bqz 48 262143) ?_
   refine pI_ 18 28 (bqz 48 524287) ?_
   refine pI_ 19 29 (bqz 48 1048575) ?_
   refine pI_ 20 30 (bqz 48 2097151) ?_
   refine pI_ 22 32 (bqz 48 6291455) ?_
   refine pI_ 23 33 (bqz 48 14680063) ?_
   refine pI_ 24 34 (bqz 48 31457279) ?_
   refine pI_ 25 35 (bqz 48 65011711) ?_
   refine tI18_ 21 31 (bqz 48 67108863) ?_
   refine tI18_ 26 36 (bqz 48 134217727) ?_
   refine one_ (i := 27) (N := some 37) (bqz 48 268435455) rfl rfl qzc (by decide) (fun K hK => ?_)
   refine goes_ Try.func81 (by kernel_rfl) rfl #[.int .i64 ((rd_T72 l0 x3_1).f2), .int .i64 0, .int .i64 ((rd_T72 l0 x3_1).f1)] (by rfl) rfl rfl qz1 ?_
   with_reducible refine (spec_l1In.calls ((rd_T72 l0 x3_1).f2) 0 ((rd_T72 l0 x3_1).f1) true _ A8.out).mono ?_
   rintro e w' ⟨rfl, ⟨nd, rfl⟩⟩
   refine ⟨_, rfl, ?_⟩
   refine hK.out _ _ ⟨(pw_cell_below HB.out hw304_0), (pw_cell_below HB.out hw304_1), (pw_cell_below HB.out hw304_2), (pw_cell_below HB.out hw306_0), (pw_cell_below HB.out hw306_1), (pw_cell_below HB.out hw306_2), (pw_cell_below HB.out hw308_0), (pw_cell_below HB.out hw308_1), (pw_cell_below HB.out hw308_2), (pw_cell_below HB.out hw309_0), (pw_cell_below HB.out hw309_1), (pw_cell_below HB.out hw309_2), (pw_cell_below HB.out hw311_0), (pw_cell_below HB.out hw311_1), (pw_cell_below HB.out hw311_2), (pw_cell_below HB.out hw312_0), (pw_cell_below HB.out hw312_1), (pw_cell_below HB.out hw312_2)⟩ (fun hHeld => ?_)
   clear hK K
   refine norm_ (a' := ?_) ?_ ?_
   rotate_left
   {
   show Act.put _ (some 37) _ = _
   simp only [qzs]
   rfl
   }
   refine pI_ 28 38 (bqz 48 536870911) ?_
   refine pI_ 29 39 (bqz 48 1073741823) ?_
   refine pI_ 30 40 (bqz 48 2147483647) ?_
   refine pI_ 31 41 (bqz 48 4294967295) ?_
   refine pI_ 32 42 (bqz 48 8589934591) ?_
   refine pI_ 33 43 (bqz 48 17179869183) ?_
   refine pI_ 34 44 (bqz 48 34359738367) ?_
   refine pI_ 35 45 (bqz 48 68719476735) ?_
   refine pI_ 36 46 (bqz 48 137438953471) ?_
   refine pI_ 37 47 (bqz 48 274877906943) ?_
   refine pI_ 38 48 (bqz 48 549755813887) ?_
   refine pI_ 40 50 (bqz 48 1649267441663) ?_
   refine pI_ 41 51 (bqz 48 3848290697215) ?_
   refine pI_ 42 52 (bqz 48 8246337208319) ?_
   refine pI_ 43 53 (bqz 48 17042430230527) ?_
   refine tI18_ 39 49 (bqz 48 17592186044415) ?_
   refine tI18_ 44 54 (bqz 48 35184372088831) ?_
   refine pI_ 45 55 (bqz 48 70368744177663) ?_
   refine pI_ 46 56 (bqz 48 140737488355327) ?_
   refine pI_ 47 57 (bqz 48 281474976710655) ?_
   refine done_ (done_of HT_.out (by kernel_rfl)) ?_
   try go_wp2
   go_roundg k1
   case measure => have := HK1.out; omega
   case rel => exact ⟨(wrap64 (x3_1 + 1)), qz13, H', ⟨by have := HK1.out; omega⟩, ⟨by repeat (first | (with_reducible first | exact HB.out | apply below_alloc | apply pw_below_drewN | apply below_drew1) | exact HB.out)⟩⟩
   }
   }
   {
   rw [if_neg c13] at H
   exact absurd H (by simp)
   }
   }
   {
   rw [if_neg c12] at H
   exact absurd H (by simp)
   }
   }
   {
   rw [if_neg c10] at H
   have c10b0 := decide_eq_false c10
   clear c10
   have H' := aM H
   clear H
   try go_wp2
   have n0_ := aM (below_drew1 HB.out)
   clear HB
   have HB := n0_
   clear n0_
   have p304 : 0 ≤ (x3_1 : Int) := of_decide_eq_true qz4
   have q304 : x3_1 < (l0.length : Int) := of_decide_eq_true qz4
   obtain ⟨ad304, e304, hx304_0, hx304_1, hx304_2⟩ := at_T72 HR0.out x3_1 p304 q304
   have hw304_2 := hx304_2
   have hw304_1 := hx304_1
   have hw304_0 := hx304_0
   cases e304
   replace hx304_0 := pw_cell_below HB.out hx304_0
   replace hx304_1 := pw_cell_below HB.out hx304_1
   replace hx304_2 := pw_cell_below HB.out hx304_2
   replace p304 := eq_true p304
   replace q304 := eq_true q304
   have p306 : 0 ≤ (x3_1 : Int) := of_decide_eq_true qz4
   have q306 : x3_1 < (l0.length : Int) := of_decide_eq_true qz4
   obtain ⟨ad306, e306, hx306_0, hx306_1, hx306_2⟩ := at_T72 HR0.out x3_1 p306 q306
   have hw306_2 := hx306_2
   have hw306_1 := hx306_1
   have hw306_0 := hx306_0
   obtain rfl : ad304 = ad306 := (by injection e306)
   replace hx306_0 := pw_cell_below HB.out hx306_0
   replace hx306_1 := pw_cell_below HB.out hx306_1
   replace hx306_2 := pw_cell_below HB.out hx306_2
   replace p306 := eq_true p306
   replace q306 := eq_true q306
   have p308 : 0 ≤ (x3_1 : Int) := of_decide_eq_true qz4
   have q308 : x3_1 < (l0.length : Int) := of_decide_eq_true qz4
   obtain ⟨ad308, e308, hx308_0, hx308_1, hx308_2⟩ := at_T72 HR0.out x3_1 p308 q308
   have hw308_2 := hx308_2
   have hw308_1 := hx308_1
   have hw308_0 := hx308_0
   obtain rfl : ad304 = ad308 := (by injection e308)
   replace hx308_0 := pw_cell_below HB.out hx308_0
   replace hx308_1 := pw_cell_below HB.out hx308_1
   replace hx308_2 := pw_cell_below HB.out hx308_2
   replace p308 := eq_true p308
   replace q308 := eq_true q308
   have p309 : 0 ≤ (x3_1 : Int) := of_decide_eq_true qz4
   have q309 : x3_1 < (l0.length : Int) := of_decide_eq_true qz4
   obtain ⟨ad309, e309, hx309_0, hx309_1, hx309_2⟩ := at_T72 HR0.out x3_1 p309 q309
   have hw309_2 := hx309_2
   have hw309_1 := hx309_1
   have hw309_0 := hx309_0
   obtain rfl : ad304 = ad309 := (by injection e309)
   replace hx309_0 := pw_cell_below HB.out hx309_0
   replace hx309_1 := pw_cell_below HB.out hx309_1
   replace hx309_2 := pw_cell_below HB.out hx309_2
   replace p309 := eq_true p309
   replace q309 := eq_true q309
   refine start_ (n := 48) (S := fun w' => w'.cell? (ad304.add ((x3_1).toNat * 3)) = some (.int .i64 ((rd_T72 l0 x3_1).f0)) ∧ w'.cell? ⟨(ad304.add ((x3_1).toNat * 3)).block, (ad304.add ((x3_1).toNat * 3)).off + 1, none⟩ = some (.int .i64 ((rd_T72 l0 x3_1).f1)) ∧ w'.cell? ⟨(ad304.add ((x3_1).toNat * 3)).block, (ad304.add ((x3_1).toNat * 3)).off + 2, none⟩ = some (.int .i64 ((rd_T72 l0 x3_1).f2)) ∧ w'.cell? (ad304.add ((x3_1).toNat * 3)) = some (.int .i64 ((rd_T72 l0 x3_1).f0)) ∧ w'.cell? ⟨(ad304.add ((x3_1).toNat * 3)).block, (ad304.add ((x3_1).toNat * 3)).off + 1, none⟩ = some (.int .i64 ((rd_T72 l0 x3_1).f1)) ∧ w'.cell? ⟨(ad304.add ((x3_1).toNat * 3)).block, (ad304.add ((x3_1).toNat * 3)).off + 2, none⟩ = some (.int .i64 ((rd_T72 l0 x3_1).f2)) ∧ w'.cell? (ad304.add ((x3_1).toNat * 3)) = some (.int .i64 ((rd_T72 l0 x3_1).f0)) ∧ w'.cell? ⟨(ad304.add ((x3_1).toNat * 3)).block, (ad304.add ((x3_1).toNat * 3)).off + 1, none⟩ = some (.int .i64 ((rd_T72 l0 x3_1).f1)) ∧ w'.cell? ⟨(ad304.add ((x3_1).toNat * 3)).block, (ad304.add ((x3_1).toNat * 3)).off + 2, none⟩ = some (.int .i64 ((rd_T72 l0 x3_1).f2)) ∧ w'.cell? (ad304.add ((x3_1).toNat * 3)) = some (.int .i64 ((rd_T72 l0 x3_1).f0)) ∧ w'.cell? ⟨(ad304.add ((x3_1).toNat * 3)).block, (ad304.add ((x3_1).toNat * 3)).off + 1, none⟩ = some (.int .i64 ((rd_T72 l0 x3_1).f1)) ∧ w'.cell? ⟨(ad304.add ((x3_1).toNat * 3)).block, (ad304.add ((x3_1).toNat * 3)).off + 2, none⟩ = some (.int .i64 ((rd_T72 l0 x3_1).f2))) (ds := []) #[false, false, false, false, false, false, false, false, false, false, false, false, false, false, false, false, false, false, false, false, false, false, false, false, false, false, false, false, false, false, false, false, false, false, false, false, false, false, false, false, false, false, false, false, false, false, false, false] (by kernel_rfl) rfl rfl ⟨(pw_cell_below HB.out hw304_0), (pw_cell_below HB.out hw304_1), (pw_cell_below HB.out hw304_2), (pw_cell_below HB.out hw306_0), (pw_cell_below HB.out hw306_1), (pw_cell_below HB.out hw306_2), (pw_cell_below HB.out hw308_0), (pw_cell_below HB.out hw308_1), (pw_cell_below HB.out hw308_2), (pw_cell_below HB.out hw309_0), (pw_cell_below HB.out hw309_1), (pw_cell_below HB.out hw309_2)⟩ (fun hHeld => ?_); refine with_tabW spec_l5Stacks.tab4 spec_l5Stacks.bits4 (fun HT_ HW_ => ?_)
   generalize wr.drew = w17 at HB hx304_0 hx304_1 hx304_2 hx306_0 hx306_1 hx306_2 hx308_0 hx308_1 hx308_2 hx309_0 hx309_1 hx309_2 hHeld ⊢
   refine pI_ 0 10 (bqz 48 1) ?_
   refine pI_ 1 11 (bqz 48 3) ?_
   refine pI_ 2 12 (bqz 48 7) ?_
   refine pI_ 3 13 (bqz 48 15) ?_
   refine tI12_ 4 14 (bqz 48 31) ?_
   refine one_ (i := 5) (N := some 15) (bqz 48 63) rfl rfl qzc (by decide) (fun K hK => ?_)
   refine goes_ Try.func81 (by kernel_rfl) rfl #[.int .i64 ((rd_T72 l0 x3_1).f0), .int .i64 1, .int .i64 50] (by rfl) rfl rfl qz1 ?_
   with_reducible refine (spec_l1In.calls ((rd_T72 l0 x3_1).f0) 1 50 true _ A4.out).mono ?_
   rintro e w' ⟨rfl, ⟨nd, rfl⟩⟩
   refine ⟨_, rfl, ?_⟩
   refine hK.out _ _ ⟨(pw_cell_below HB.out hw304_0), (pw_cell_below HB.out hw304_1), (pw_cell_below HB.out hw304_2), (pw_cell_below HB.out hw306_0), (pw_cell_below HB.out hw306_1), (pw_cell_below HB.out hw306_2), (pw_cell_below HB.out hw308_0), (pw_cell_below HB.out hw308_1), (pw_cell_below HB.out hw308_2), (pw_cell_below HB.out hw309_0), (pw_cell_below HB.out hw309_1), (pw_cell_below HB.out hw309_2)⟩ (fun hHeld => ?_)
   clear hK K
   refine norm_ (a' := ?_) ?_ ?_
   rotate_left
   {
   show Act.put _ (some 15) _ = _
   simp only [qzs]
   rfl
   }
   refine pI_ 6 16 (bqz 48 127) ?_
   refine pI_ 7 17 (bqz 48 255) ?_
   refine pI_ 8 18 (bqz 48 511) ?_
   refine pI_ 9 19 (bqz 48 1023) ?_
   refine pI_ 10 20 (bqz 48 2047) ?_
   refine pI_ 11 21 (bqz 48 4095) ?_
   refine tI12_ 12 22 (bqz 48 8191) ?_
   refine one_ (i := 13) (N := some 23) (bqz 48 16383) rfl rfl qzc (by decide) (fun K hK => ?_)
   refine goes_ Try.func81 (by kernel_rfl) rfl #[.int .i64 ((rd_T72 l0 x3_1).f1), .int .i64 1, .int .i64 1000] (by rfl) rfl rfl qz1 ?_
   with_reducible refine (spec_l1In.calls ((rd_T72 l0 x3_1).f1) 1 1000 true _ A6.out).mono ?_
   rintro e w' ⟨rfl, ⟨nd, rfl⟩⟩
   refine ⟨_, rfl, ?_⟩
   refine hK.out _ _ ⟨(pw_cell_below HB.out hw304_0), (pw_cell_below HB.out hw304_1), (pw_cell_below HB.out hw304_2), (pw_cell_below HB.out hw306_0), (pw_cell_below HB.out hw306_1), (pw_cell_below HB.out hw306_2), (pw_cell_below HB.out hw308_0), (pw_cell_below HB.out hw308_1), (pw_cell_below HB.out hw308_2), (pw_cell_below HB.out hw309_0), (pw_cell_below HB.out hw309_1), (pw_cell_below HB.out hw309_2)⟩ (fun hHeld => ?_)
   clear hK K
   refine norm_ (a' := ?_) ?_ ?_
   rotate_left
   {
   show Act.put _ (some 23) _ = _
   simp only [qzs]
   rfl
   }
   refine pI_ 14 24 (bqz 48 32767) ?_
   refine pI_ 15 25 (bqz 48 65535) ?_
   refine pI_ 16 26 (bqz 48 131071) ?_
   refine pI_ 17 27 (bqz 48 262143) ?_
   refine pI_ 18 28 (bqz 48 524287) ?_
   refine pI_ 19 29 (bqz 48 1048575) ?_
   refine pI_ 20 30 (bqz 48 2097151) ?_
   refine pI_ 22 32 (bqz 48 6291455) ?_
   refine pI_ 23 33 (bqz 48 14680063) ?_
   refine pI_ 24 34 (bqz 48 31457279) ?_
   refine pI_ 25 35 (bqz 48 65011711) ?_
   refine tI12_ 21 31 (bqz 48 67108863) ?_
   refine tI12_ 26 36 (bqz 48 134217727) ?_
   refine one_ (i := 27) (N := some 37) (bqz 48 268435455) rfl rfl qzc (by decide) (fun K hK => ?_)
   refine goes_ Try.func81 (by kernel_rfl) rfl #[.int .i64 ((rd_T72 l0 x3_1).f2), .int .i64 0, .int .i64 ((rd_T72 l0 x3_1).f1)] (by rfl) rfl rfl qz1 ?_
   with_reducible refine (spec_l1In.calls ((rd_T72 l0 x3_1).f2) 0 ((rd_T72 l0 x3_1).f1) true _ A8.out).mono ?_
   rintro e w' ⟨rfl, ⟨nd, rfl⟩⟩
   refine ⟨_, rfl, ?_⟩
   refine hK.out _ _ ⟨(pw_cell_below HB.out hw304_0), (pw_cell_below HB.out hw304_1), (pw_cell_below HB.out hw304_2), (pw_cell_below HB.out hw306_0), (pw_cell_below HB.out hw306_1), (pw_cell_below HB.out hw306_2), (pw_cell_below HB.out hw308_0), (pw_cell_below HB.out hw308_1), (pw_cell_below HB.out hw308_2), (pw_cell_below HB.out hw309_0), (pw_cell_below HB.out hw309_1), (pw_cell_below HB.out hw309_2)⟩ (fun hHeld => ?_)
   clear hK K
   refine norm_ (a' := ?_) ?_ ?_
   rotate_left
   {
   show Act.put _ (some 37) _ = _
   simp only [qzs]
   rfl
   }
   refine pI_ 28 38 (bqz 48 536870911) ?_
   refine pI_ 29 39 (bqz 48 1073741823) ?_
   refine pI_ 30 40 (bqz 48 2147483647) ?_
   refine pI_ 31 41 (bqz 48 4294967295) ?_
   refine pI_ 32 42 (bqz 48 8589934591) ?_
   refine pI_ 33 43 (bqz 48 17179869183) ?_
   refine pU_ 34 44 (bqz 48 34359738367) ?_
   refine pU_ 35 45 (bqz 48 68719476735) ?_
   refine pU_ 36 46 (bqz 48 137438953471) ?_
   refine pU_ 37 47 (bqz 48 274877906943) ?_
   refine pU_ 38 48 (bqz 48 549755813887) ?_
   refine pU_ 39 49 (bqz 48 1099511627775) ?_
   refine pU_ 40 50 (bqz 48 2199023255551) ?_
   refine pU_ 41 51 (bqz 48 4398046511103) ?_
   refine pU_ 42 52 (bqz 48 8796093022207) ?_
   refine pU_ 43 53 (bqz 48 17592186044415) ?_
   refine pU_ 44 54 (bqz 48 35184372088831) ?_
   refine pU_ 45 55 (bqz 48 70368744177663) ?_
   refine pI_ 46 56 (bqz 48 140737488355327) ?_
   refine pI_ 47 57 (bqz 48 281474976710655) ?_
   refine done_ (done_of HT_.out (by kernel_rfl)) ?_
   try go_wp2
   go_roundg k1
   case measure => have := HK1.out; omega
   case rel => exact ⟨(wrap64 (x3_1 + 1)), qz13, H', ⟨by have := HK1.out; omega⟩, ⟨by repeat (first | (with_reducible first | exact HB.out | apply below_alloc | apply pw_below_drewN | apply below_drew1) | exact HB.out)⟩⟩
   }
   }
   {
   replace c9 := Bool.eq_false_iff.mpr c9
   subst c9
   rw [if_neg (show ¬ (false = true) by decide)] at H
   obtain rfl := Option.some.inj H
   simp only [Option.some.injEq, Prod.mk.injEq] at H
   obtain ⟨rfl⟩ := H
   try go_wp2
   have n0_ := aM (below_drew1 HB.out)
   clear HB
   have HB := n0_
   clear n0_
   have p304 : 0 ≤ (x3_1 : Int) := of_decide_eq_true qz4
   have q304 : x3_1 < (l0.length : Int) := of_decide_eq_true qz4
   obtain ⟨ad304, e304, hx304_0, hx304_1, hx304_2⟩ := at_T72 HR0.out x3_1 p304 q304
   have hw304_2 := hx304_2
   have hw304_1 := hx304_1
   have hw304_0 := hx304_0
   cases e304
   replace hx304_0 := pw_cell_below HB.out hx304_0
   replace hx304_1 := pw_cell_below HB.out hx304_1
   replace hx304_2 := pw_cell_below HB.out hx304_2
   replace p304 := eq_true p304
   replace q304 := eq_true q304
   have p306 : 0 ≤ (x3_1 : Int) := of_decide_eq_true qz4
   have q306 : x3_1 < (l0.length : Int) := of_decide_eq_true qz4
   obtain ⟨ad306, e306, hx306_0, hx306_1, hx306_2⟩ := at_T72 HR0.out x3_1 p306 q306
   have hw306_2 := hx306_2
   have hw306_1 := hx306_1
   have hw306_0 := hx306_0
   obtain rfl : ad304 = ad306 := (by injection e306)
   replace hx306_0 := pw_cell_below HB.out hx306_0
   replace hx306_1 := pw_cell_below HB.out hx306_1
   replace hx306_2 := pw_cell_below HB.out hx306_2
   replace p306 := eq_true p306
   replace q306 := eq_true q306
   have p308 : 0 ≤ (x3_1 : Int) := of_decide_eq_true qz4
   have q308 : x3_1 < (l0.length : Int) := of_decide_eq_true qz4
   obtain ⟨ad308, e308, hx308_0, hx308_1, hx308_2⟩ := at_T72 HR0.out x3_1 p308 q308
   have hw308_2 := hx308_2
   have hw308_1 := hx308_1
   have hw308_0 := hx308_0
   obtain rfl : ad304 = ad308 := (by injection e308)
   replace hx308_0 := pw_cell_below HB.out hx308_0
   replace hx308_1 := pw_cell_below HB.out hx308_1
   replace hx308_2 := pw_cell_below HB.out hx308_2
   replace p308 := eq_true p308
   replace q308 := eq_true q308
   have p309 : 0 ≤ (x3_1 : Int) := of_decide_eq_true qz4
   have q309 : x3_1 < (l0.length : Int) := of_decide_eq_true qz4
   obtain ⟨ad309, e309, hx309_0, hx309_1, hx309_2⟩ := at_T72 HR0.out x3_1 p309 q309
   have hw309_2 := hx309_2
   have hw309_1 := hx309_1
   have hw309_0 := hx309_0
   obtain rfl : ad304 = ad309 := (by injection e309)
   replace hx309_0 := pw_cell_below HB.out hx309_0
   replace hx309_1 := pw_cell_below HB.out hx309_1
   replace hx309_2 := pw_cell_below HB.out hx309_2
   replace p309 := eq_true p309
   replace q309 := eq_true q309
   refine start_ (n := 48) (S := fun w' => w'.cell? (ad304.add ((x3_1).toNat * 3)) = some (.int .i64 ((rd_T72 l0 x3_1).f0)) ∧ w'.cell? ⟨(ad304.add ((x3_1).toNat * 3)).block, (ad304.add ((x3_1).toNat * 3)).off + 1, none⟩ = some (.int .i64 ((rd_T72 l0 x3_1).f1)) ∧ w'.cell? ⟨(ad304.add ((x3_1).toNat * 3)).block, (ad304.add ((x3_1).toNat * 3)).off + 2, none⟩ = some (.int .i64 ((rd_T72 l0 x3_1).f2)) ∧ w'.cell? (ad304.add ((x3_1).toNat * 3)) = some (.int .i64 ((rd_T72 l0 x3_1).f0)) ∧ w'.cell? ⟨(ad304.add ((x3_1).toNat * 3)).block, (ad304.add ((x3_1).toNat * 3)).off + 1, none⟩ = some (.int .i64 ((rd_T72 l0 x3_1).f1)) ∧ w'.cell? ⟨(ad304.add ((x3_1).toNat * 3)).block, (ad304.add ((x3_1).toNat * 3)).off + 2, none⟩ = some (.int .i64 ((rd_T72 l0 x3_1).f2)) ∧ w'.cell? (ad304.add ((x3_1).toNat * 3)) = some (.int .i64 ((rd_T72 l0 x3_1).f0)) ∧ w'.cell? ⟨(ad304.add ((x3_1).toNat * 3)).block, (ad304.add ((x3_1).toNat * 3)).off + 1, none⟩ = some (.int .i64 ((rd_T72 l0 x3_1).f1)) ∧ w'.cell? ⟨(ad304.add ((x3_1).toNat * 3)).block, (ad304.add ((x3_1).toNat * 3)).off + 2, none⟩ = some (.int .i64 ((rd_T72 l0 x3_1).f2)) ∧ w'.cell? (ad304.add ((x3_1).toNat * 3)) = some (.int .i64 ((rd_T72 l0 x3_1).f0)) ∧ w'.cell? ⟨(ad304.add ((x3_1).toNat * 3)).block, (ad304.add ((x3_1).toNat * 3)).off + 1, none⟩ = some (.int .i64 ((rd_T72 l0 x3_1).f1)) ∧ w'.cell? ⟨(ad304.add ((x3_1).toNat * 3)).block, (ad304.add ((x3_1).toNat * 3)).off + 2, none⟩ = some (.int .i64 ((rd_T72 l0 x3_1).f2))) (ds := []) #[false, false, false, false, false, false, false, false, false, false, false, false, false, false, false, false, false, false, false, false, false, false, false, false, false, false, false, false, false, false, false, false, false, false, false, false, false, false, false, false, false, false, false, false, false, false, false, false] (by kernel_rfl) rfl rfl ⟨(pw_cell_below HB.out hw304_0), (pw_cell_below HB.out hw304_1), (pw_cell_below HB.out hw304_2), (pw_cell_below HB.out hw306_0), (pw_cell_below HB.out hw306_1), (pw_cell_below HB.out hw306_2), (pw_cell_below HB.out hw308_0), (pw_cell_below HB.out hw308_1), (pw_cell_below HB.out hw308_2), (pw_cell_below HB.out hw309_0), (pw_cell_below HB.out hw309_1), (pw_cell_below HB.out hw309_2)⟩ (fun hHeld => ?_); refine with_tabW spec_l5Stacks.tab4 spec_l5Stacks.bits4 (fun HT_ HW_ => ?_)
   generalize wr.drew = w18 at HB hx304_0 hx304_1 hx304_2 hx306_0 hx306_1 hx306_2 hx308_0 hx308_1 hx308_2 hx309_0 hx309_1 hx309_2 hHeld ⊢
   refine pI_ 0 10 (bqz 48 1) ?_
   refine pI_ 1 11 (bqz 48 3) ?_
   refine pI_ 2 12 (bqz 48 7) ?_
   refine pI_ 3 13 (bqz 48 15) ?_
   refine tI12_ 4 14 (bqz 48 31) ?_
   refine one_ (i := 5) (N := some 15) (bqz 48 63) rfl rfl qzc (by decide) (fun K hK => ?_)
   refine goes_ Try.func81 (by kernel_rfl) rfl #[.int .i64 ((rd_T72 l0 x3_1).f0), .int .i64 1, .int .i64 50] (by rfl) rfl rfl qz1 ?_
   with_reducible refine (spec_l1In.calls ((rd_T72 l0 x3_1).f0) 1 50 true _ A4.out).mono ?_
   rintro e w' ⟨rfl, ⟨nd, rfl⟩⟩
   refine ⟨_, rfl, ?_⟩
   refine hK.out _ _ ⟨(pw_cell_below HB.out hw304_0), (pw_cell_below HB.out hw304_1), (pw_cell_below HB.out hw304_2), (pw_cell_below HB.out hw306_0), (pw_cell_below HB.out hw306_1), (pw_cell_below HB.out hw306_2), (pw_cell_below HB.out hw308_0), (pw_cell_below HB.out hw308_1), (pw_cell_below HB.out hw308_2), (pw_cell_below HB.out hw309_0), (pw_cell_below HB.out hw309_1), (pw_cell_below HB.out hw309_2)⟩ (fun hHeld => ?_)
   clear hK K
   refine norm_ (a' := ?_) ?_ ?_
   rotate_left
   {
   show Act.put _ (some 15) _ = _
   simp only [qzs]
   rfl
   }
   refine pI_ 6 16 (bqz 48 127) ?_
   refine pI_ 7 17 (bqz 48 255) ?_
   refine pI_ 8 18 (bqz 48 511) ?_
   refine pI_ 9 19 (bqz 48 1023) ?_
   refine pI_ 10 20 (bqz 48 2047) ?_
   refine pI_ 11 21 (bqz 48 4095) ?_
   refine tI12_ 12 22 (bqz 48 8191) ?_
   refine one_ (i := 13) (N := some 23) (bqz 48 16383) rfl rfl qzc (by decide) (fun K hK => ?_)
   refine goes_ Try.func81 (by kernel_rfl) rfl #[.int .i64 ((rd_T72 l0 x3_1).f1), .int .i64 1, .int .i64 1000] (by rfl) rfl rfl qz1 ?_
   with_reducible refine (spec_l1In.calls ((rd_T72 l0 x3_1).f1) 1 1000 true _ A6.out).mono ?_
   rintro e w' ⟨rfl, ⟨nd, rfl⟩⟩
   refine ⟨_, rfl, ?_⟩
   refine hK.out _ _ ⟨(pw_cell_below HB.out hw304_0), (pw_cell_below HB.out hw304_1), (pw_cell_below HB.out hw304_2), (pw_cell_below HB.out hw306_0), (pw_cell_below HB.out hw306_1), (pw_cell_below HB.out hw306_2), (pw_cell_below HB.out hw308_0), (pw_cell_below HB.out hw308_1), (pw_cell_below HB.out hw308_2), (pw_cell_below HB.out hw309_0), (pw_cell_below HB.out hw309_1), (pw_cell_below HB.out hw309_2)⟩ (fun hHeld => ?_)
   clear hK K
   refine norm_ (a' := ?_) ?_ ?_
   rotate_left
   {
   show Act.put _ (some 23) _ = _
   simp only [qzs]
   rfl
   }
   refine pI_ 14 24 (bqz 48 32767) ?_
   refine pI_ 15 25 (bqz 48 65535) ?_
   refine pI_ 16 26 (bqz 48 131071) ?_
   refine pI_ 17 27 (bqz 48 262143) ?_
   refine pI_ 18 28 (bqz 48 524287) ?_
   refine pI_ 19 29 (bqz 48 1048575) ?_
   refine pI_ 20 30 (bqz 48 2097151) ?_
   refine pI_ 22 32 (bqz 48 6291455) ?_
   refine pI_ 23 33 (bqz 48 14680063) ?_
   refine pI_ 24 34 (bqz 48 31457279) ?_
   refine pI_ 25 35 (bqz 48 65011711) ?_
   refine tI12_ 21 31 (bqz 48 67108863) ?_
   refine tI12_ 26 36 (bqz 48 134217727) ?_
   refine one_ (i := 27) (N := some 37) (bqz 48 268435455) rfl rfl qzc (by decide) (fun K hK => ?_)
   refine goes_ Try.func81 (by kernel_rfl) rfl #[.int .i64 ((rd_T72 l0 x3_1).f2), .int .i64 0, .int .i64 ((rd_T72 l0 x3_1).f1)] (by rfl) rfl rfl qz1 ?_
   with_reducible refine (spec_l1In.calls ((rd_T72 l0 x3_1).f2) 0 ((rd_T72 l0 x3_1).f1) false _ A8.out).mono ?_
   rintro e w' ⟨rfl, ⟨nd, rfl⟩⟩
   refine ⟨_, rfl, ?_⟩
   refine hK.out _ _ ⟨(pw_cell_below HB.out hw304_0), (pw_cell_below HB.out hw304_1), (pw_cell_below HB.out hw304_2), (pw_cell_below HB.out hw306_0), (pw_cell_below HB.out hw306_1), (pw_cell_below HB.out hw306_2), (pw_cell_below HB.out hw308_0), (pw_cell_below HB.out hw308_1), (pw_cell_below HB.out hw308_2), (pw_cell_below HB.out hw309_0), (pw_cell_below HB.out hw309_1), (pw_cell_below HB.out hw309_2)⟩ (fun hHeld => ?_)
   clear hK K
   refine norm_ (a' := ?_) ?_ ?_
   rotate_left
   {
   show Act.put _ (some 37) _ = _
   simp only [qzs]
   rfl
   }
   refine pI_ 28 38 (bqz 48 536870911) ?_
   refine pI_ 29 39 (bqz 48 1073741823) ?_
   refine pI_ 30 40 (bqz 48 2147483647) ?_
   refine pU_ 31 41 (bqz 48 4294967295) ?_
   refine pU_ 32 42 (bqz 48 8589934591) ?_
   refine pU_ 33 43 (bqz 48 17179869183) ?_
   refine pU_ 34 44 (bqz 48 34359738367) ?_
   refine pU_ 35 45 (bqz 48 68719476735) ?_
   refine pU_ 36 46 (bqz 48 137438953471) ?_
   refine pU_ 37 47 (bqz 48 274877906943) ?_
   refine pU_ 38 48 (bqz 48 549755813887) ?_
   refine pU_ 39 49 (bqz 48 1099511627775) ?_
   refine pU_ 40 50 (bqz 48 2199023255551) ?_
   refine pU_ 41 51 (bqz 48 4398046511103) ?_
   refine pU_ 42 52 (bqz 48 8796093022207) ?_
   refine pU_ 43 53 (bqz 48 17592186044415) ?_
   refine pU_ 44 54 (bqz 48 35184372088831) ?_
   refine pU_ 45 55 (bqz 48 70368744177663) ?_
   refine pU_ 46 56 (bqz 48 140737488355327) ?_
   refine pI_ 47 57 (bqz 48 281474976710655) ?_
   refine done_ (done_of HT_.out (by kernel_rfl)) ?_
   try go_wp2
   go_ret
   exact ⟨by first | rfl | (simp [errW_none, errW_some] <;> rfl) | (simp [*, errW_none, errW_some] <;> rfl), by repeat (first | (with_reducible first | exact HB.out | apply below_alloc | apply pw_below_drewN | apply below_drew1) | exact HB.out)⟩
   }
   }
   {
   replace c7 := Bool.eq_false_iff.mpr c7
   subst c7
   rw [if_neg (show ¬ (false = true) by decide)] at H
   obtain rfl := Option.some.inj H
   simp only [Option.some.injEq, Prod.mk.injEq] at H
   obtain ⟨rfl⟩ := H
   try go_wp2
   have n0_ := aM (below_drew1 HB.out)
   clear HB
   have HB := n0_
   clear n0_
   have p304 : 0 ≤ (x3_1 : Int) := of_decide_eq_true qz4
   have q304 : x3_1 < (l0.length : Int) := of_decide_eq_true qz4
   obtain ⟨ad304, e304, hx304_0, hx304_1, hx304_2⟩ := at_T72 HR0.out x3_1 p304 q304
   have hw304_2 := hx304_2
   have hw304_1 := hx304_1
   have hw304_0 := hx304_0
   cases e304
   replace hx304_0 := pw_cell_below HB.out hx304_0
   replace hx304_1 := pw_cell_below HB.out hx304_1
   replace hx304_2 := pw_cell_below HB.out hx304_2
   replace p304 := eq_true p304
   replace q304 := eq_true q304
   have p306 : 0 ≤ (x3_1 : Int) := of_decide_eq_true qz4
   have q306 : x3_1 < (l0.length : Int) := of_decide_eq_true qz4
   obtain ⟨ad306, e306, hx306_0, hx306_1, hx306_2⟩ := at_T72 HR0.out x3_1 p306 q306
   have hw306_2 := hx306_2
   have hw306_1 := hx306_1
   have hw306_0 := hx306_0
   obtain rfl : ad304 = ad306 := (by injection e306)
   replace hx306_0 := pw_cell_below HB.out hx306_0
   replace hx306_1 := pw_cell_below HB.out hx306_1
   replace hx306_2 := pw_cell_below HB.out hx306_2
   replace p306 := eq_true p306
   replace q306 := eq_true q306
   refine start_ (n := 48) (S := fun w' => w'.cell? (ad304.add ((x3_1).toNat * 3)) = some (.int .i64 ((rd_T72 l0 x3_1).f0)) ∧ w'.cell? ⟨(ad304.add ((x3_1).toNat * 3)).block, (ad304.add ((x3_1).toNat * 3)).off + 1, none⟩ = some (.int .i64 ((rd_T72 l0 x3_1).f1)) ∧ w'.cell? ⟨(ad304.add ((x3_1).toNat * 3)).block, (ad304.add ((x3_1).toNat * 3)).off + 2, none⟩ = some (.int .i64 ((rd_T72 l0 x3_1).f2)) ∧ w'.cell? (ad304.add ((x3_1).toNat * 3)) = some (.int .i64 ((rd_T72 l0 x3_1).f0)) ∧ w'.cell? ⟨(ad304.add ((x3_1).toNat * 3)).block, (ad304.add ((x3_1).toNat * 3)).off + 1, none⟩ = some (.int .i64 ((rd_T72 l0 x3_1).f1)) ∧ w'.cell? ⟨(ad304.add ((x3_1).toNat * 3)).block, (ad304.add ((x3_1).toNat * 3)).off + 2, none⟩ = some (.int .i64 ((rd_T72 l0 x3_1).f2))) (ds := []) #[false, false, false, false, false, false, false, false, false, false, false, false, false, false, false, false, false, false, false, false, false, false, false, false, false, false, false, false, false, false, false, false, false, false, false, false, false, false, false, false, false, false, false, false, false, false, false, false] (by kernel_rfl) rfl rfl ⟨(pw_cell_below HB.out hw304_0), (pw_cell_below HB.out hw304_1), (pw_cell_below HB.out hw304_2), (pw_cell_below HB.out hw306_0), (pw_cell_below HB.out hw306_1), (pw_cell_below HB.out hw306_2)⟩ (fun hHeld => ?_); refine with_tabW spec_l5Stacks.tab4 spec_l5Stacks.bits4 (fun HT_ HW_ => ?_)
   generalize wr.drew = w19 at HB hx304_0 hx304_1 hx304_2 hx306_0 hx306_1 hx306_2 hHeld ⊢
   refine pI_ 0 10 (bqz 48 1) ?_
   refine pI_ 1 11 (bqz 48 3) ?_
   refine pI_ 2 12 (bqz 48 7) ?_
   refine pI_ 3 13 (bqz 48 15) ?_
   refine tI6_ 4 14 (bqz 48 31) ?_
   refine one_ (i := 5) (N := some 15) (bqz 48 63) rfl rfl qzc (by decide) (fun K hK => ?_)
   refine goes_ Try.func81 (by kernel_rfl) rfl #[.int .i64 ((rd_T72 l0 x3_1).f0), .int .i64 1, .int .i64 50] (by rfl) rfl rfl qz1 ?_
   with_reducible refine (spec_l1In.calls ((rd_T72 l0 x3_1).f0) 1 50 true _ A4.out).mono ?_
   rintro e w' ⟨rfl, ⟨nd, rfl⟩⟩
   refine ⟨_, rfl, ?_⟩
   refine hK.out _ _ ⟨(pw_cell_below HB.out hw304_0), (pw_cell_below HB.out hw304_1), (pw_cell_below HB.out hw304_2), (pw_cell_below HB.out hw306_0), (pw_cell_below HB.out hw306_1), (pw_cell_below HB.out hw306_2)⟩ (fun hHeld => ?_)
   clear hK K
   refine norm_ (a' := ?_) ?_ ?_
   rotate_left
   {
   show Act.put _ (some 15) _ = _
   simp only [qzs]
   rfl
   }
   refine pI_ 6 16 (bqz 48 127) ?_
   refine pI_ 7 17 (bqz 48 255) ?_
   refine pI_ 8 18 (bqz 48 511) ?_
   refine pI_ 9 19 (bqz 48 1023) ?_
   refine pI_ 10 20 (bqz 48 2047) ?_
   refine pI_ 11 21 (bqz 48 4095) ?_
   refine tI6_ 12 22 (bqz 48 8191) ?_
   refine one_ (i := 13) (N := some 23) (bqz 48 16383) rfl rfl qzc (by decide) (fun K hK => ?_)
   refine goes_ Try.func81 (by kernel_rfl) rfl #[.int .i64 ((rd_T72 l0 x3_1).f1), .int .i64 1, .int .i64 1000] (by rfl) rfl rfl qz1 ?_
   with_reducible refine (spec_l1In.calls ((rd_T72 l0 x3_1).f1) 1 1000 false _ A6.out).mono ?_
   rintro e w' ⟨rfl, ⟨nd, rfl⟩⟩
   refine ⟨_, rfl, ?_⟩
   refine hK.out _ _ ⟨(pw_cell_below HB.out hw304_0), (pw_cell_below HB.out hw304_1), (pw_cell_below HB.out hw304_2), (pw_cell_below HB.out hw306_0), (pw_cell_below HB.out hw306_1), (pw_cell_below HB.out hw306_2)⟩ (fun hHeld => ?_)
   clear hK K
   refine norm_ (a' := ?_) ?_ ?_
   rotate_left
   {
   show Act.put _ (some 23) _ = _
   simp only [qzs]
   rfl
   }
   refine pI_ 14 24 (bqz 48 32767) ?_
   refine pI_ 15 25 (bqz 48 65535) ?_
   refine pI_ 16 26 (bqz 48 131071) ?_
   refine pU_ 17 27 (bqz 48 262143) ?_
   refine pU_ 18 28 (bqz 48 524287) ?_
   refine pU_ 19 29 (bqz 48 1048575) ?_
   refine pU_ 20 30 (bqz 48 2097151) ?_
   refine pU_ 21 31 (bqz 48 4194303) ?_
   refine pU_ 22 32 (bqz 48 8388607) ?_
   refine pU_ 23 33 (bqz 48 16777215) ?_
   refine pU_ 24 34 (bqz 48 33554431) ?_
   refine pU_ 25 35 (bqz 48 67108863) ?_
   refine pU_ 26 36 (bqz 48 134217727) ?_
   refine pU_ 27 37 (bqz 48 268435455) ?_
   refine pU_ 28 38 (bqz 48 536870911) ?_
   refine pI_ 29 39 (bqz 48 1073741823) ?_
   refine pI_ 30 40 (bqz 48 2147483647) ?_
   refine pU_ 31 41 (bqz 48 4294967295) ?_
   refine pU_ 32 42 (bqz 48 8589934591) ?_
   refine pU_ 33 43 (bqz 48 17179869183) ?_
   refine pU_ 34 44 (bqz 48 34359738367) ?_
   refine pU_ 35 45 (bqz 48 68719476735) ?_
   refine pU_ 36 46 (bqz 48 137438953471) ?_
   refine pU_ 37 47 (bqz 48 274877906943) ?_
   refine pU_ 38 48 (bqz 48 549755813887) ?_
   refine pU_ 39 49 (bqz 48 1099511627775) ?_
   refine pU_ 40 50 (bqz 48 2199023255551) ?_
   refine pU_ 41 51 (bqz 48 4398046511103) ?_
   refine pU_ 42 52 (bqz 48 8796093022207) ?_
   refine pU_ 43 53 (bqz 48 17592186044415) ?_
   refine pU_ 44 54 (bqz 48 35184372088831) ?_
   refine pU_ 45 55 (bqz 48 70368744177663) ?_
   refine pU_ 46 56 (bqz 48 140737488355327) ?_
   refine pI_ 47 57 (bqz 48 281474976710655) ?_
   refine done_ (done_of HT_.out (by kernel_rfl)) ?_
   try go_wp2
   go_ret
   exact ⟨by first | rfl | (simp [errW_none, errW_some] <;> rfl) | (simp [*, errW_none, errW_some] <;> rfl), by repeat (first | (with_reducible first | exact HB.out | apply below_alloc | apply pw_below_drewN | apply below_drew1) | exact HB.out)⟩
   }
   }
   {
   replace c5 := Bool.eq_false_iff.mpr c5
   subst c5
   rw [if_neg (show ¬ (false = true) by decide)] at H
   obtain rfl := Option.some.inj H
   simp only [Option.some.injEq, Prod.mk.injEq] at H
   obtain ⟨rfl⟩ := H
   try go_wp2
   have n0_ := aM (below_drew1 HB.out)
   clear HB
   have HB := n0_
   clear n0_
   have p304 : 0 ≤ (x3_1 : Int) := of_decide_eq_true qz4
   have q304 : x3_1 < (l0.length : Int) := of_decide_eq_true qz4
   obtain ⟨ad304, e304, hx304_0, hx304_1, hx304_2⟩ := at_T72 HR0.out x3_1 p304 q304
   have hw304_2 := hx304_2
   have hw304_1 := hx304_1
   have hw304_0 := hx304_0
   cases e304
   replace hx304_0 := pw_cell_below HB.out hx304_0
   replace hx304_1 := pw_cell_below HB.out hx304_1
   replace hx304_2 := pw_cell_below HB.out hx304_2
   replace p304 := eq_true p304
   replace q304 := eq_true q304
   refine start_ (n := 48) (S := fun w' => w'.cell? (ad304.add ((x3_1).toNat * 3)) = some (.int .i64 ((rd_T72 l0 x3_1).f0)) ∧ w'.cell? ⟨(ad304.add ((x3_1).toNat * 3)).block, (ad304.add ((x3_1).toNat * 3)).off + 1, none⟩ = some (.int .i64 ((rd_T72 l0 x3_1).f1)) ∧ w'.cell? ⟨(ad304.add ((x3_1).toNat * 3)).block, (ad304.add ((x3_1).toNat * 3)).off + 2, none⟩ = some (.int .i64 ((rd_T72 l0 x3_1).f2))) (ds := []) #[false, false, false, false, false, false, false, false, false, false, false, false, false, false, false, false, false, false, false, false, false, false, false, false, false, false, false, false, false, false, false, false, false, false, false, false, false, false, false, false, false, false, false, false, false, false, false, false] (by kernel_rfl) rfl rfl ⟨(pw_cell_below HB.out hw304_0), (pw_cell_below HB.out hw304_1), (pw_cell_below HB.out hw304_2)⟩ (fun hHeld => ?_); refine with_tabW spec_l5Stacks.tab4 spec_l5Stacks.bits4 (fun HT_ HW_ => ?_)
   generalize wr.drew = w20 at HB hx304_0 hx304_1 hx304_2 hHeld ⊢
   refine pI_ 0 10 (bqz 48 1) ?_
   refine pI_ 1 11 (bqz 48 3) ?_
   refine pI_ 2 12 (bqz 48 7) ?_
   refine pI_ 3 13 (bqz 48 15) ?_
   refine tI3_ 4 14 (bqz 48 31) ?_
   refine one_ (i := 5) (N := some 15) (bqz 48 63) rfl rfl qzc (by decide) (fun K hK => ?_)
   refine goes_ Try.func81 (by kernel_rfl) rfl #[.int .i64 ((rd_T72 l0 x3_1).f0), .int .i64 1, .int .i64 50] (by rfl) rfl rfl qz1 ?_
   with_reducible refine (spec_l1In.calls ((rd_T72 l0 x3_1).f0) 1 50 false _ A4.out).mono ?_
   rintro e w' ⟨rfl, ⟨nd, rfl⟩⟩
   refine ⟨_, rfl, ?_⟩
   refine hK.out _ _ ⟨(pw_cell_below HB.out hw304_0), (pw_cell_below HB.out hw304_1), (pw_cell_below HB.out hw304_2)⟩ (fun hHeld => ?_)
   clear hK K
   refine norm_ (a' := ?_) ?_ ?_
   rotate_left
   {
   show Act.put _ (some 15) _ = _
   simp only [qzs]
   rfl
   }
   refine pI_ 6 16 (bqz 48 127) ?_
   refine pI_ 7 17 (bqz 48 255) ?_
   refine pU_ 8 18 (bqz 48 511) ?_
   refine pU_ 9 19 (bqz 48 1023) ?_
   refine pU_ 10 20 (bqz 48 2047) ?_
   refine pU_ 11 21 (bqz 48 4095) ?_
   refine pU_ 12 22 (bqz 48 8191) ?_
   refine pU_ 13 23 (bqz 48 16383) ?_
   refine pU_ 14 24 (bqz 48 32767) ?_
   refine pI_ 15 25 (bqz 48 65535) ?_
   refine pI_ 16 26 (bqz 48 131071) ?_
   refine pU_ 17 27 (bqz 48 262143) ?_
   refine pU_ 18 28 (bqz 48 524287) ?_
   refine pU_ 19 29 (bqz 48 1048575) ?_
   refine pU_ 20 30 (bqz 48 2097151) ?_
   refine pU_ 21 31 (bqz 48 4194303) ?_
   refine pU_ 22 32 (bqz 48 8388607) ?_
   refine pU_ 23 33 (bqz 48 16777215) ?_
   refine pU_ 24 34 (bqz 48 33554431) ?_
   refine pU_ 25 35 (bqz 48 67108863) ?_
   refine pU_ 26 36 (bqz 48 134217727) ?_
   refine pU_ 27 37 (bqz 48 268435455) ?_
   refine pU_ 28 38 (bqz 48 536870911) ?_
   refine pI_ 29 39 (bqz 48 1073741823) ?_
   refine pI_ 30 40 (bqz 48 2147483647) ?_
   refine pU_ 31 41 (bqz 48 4294967295) ?_
   refine pU_ 32 42 (bqz 48 8589934591) ?_
   refine pU_ 33 43 (bqz 48 17179869183) ?_
   refine pU_ 34 44 (bqz 48 34359738367) ?_
   refine pU_ 35 45 (bqz 48 68719476735) ?_
   refine pU_ 36 46 (bqz 48 137438953471) ?_
   refine pU_ 37 47 (bqz 48 274877906943) ?_
   refine pU_ 38 48 (bqz 48 549755813887) ?_
   refine pU_ 39 49 (bqz 48 1099511627775) ?_
   refine pU_ 40 50 (bqz 48 2199023255551) ?_
   refine pU_ 41 51 (bqz 48 4398046511103) ?_
   refine pU_ 42 52 (bqz 48 8796093022207) ?_
   refine pU_ 43 53 (bqz 48 17592186044415) ?_
   refine pU_ 44 54 (bqz 48 35184372088831) ?_
   refine pU_ 45 55 (bqz 48 70368744177663) ?_
   refine pU_ 46 56 (bqz 48 140737488355327) ?_
   refine pI_ 47 57 (bqz 48 281474976710655) ?_
   refine done_ (done_of HT_.out (by kernel_rfl)) ?_
   try go_wp2
   go_ret
   exact ⟨by first | rfl | (simp [errW_none, errW_some] <;> rfl) | (simp [*, errW_none, errW_some] <;> rfl), by repeat (first | (with_reducible first | exact HB.out | apply below_alloc | apply pw_below_drewN | apply below_drew1) | exact HB.out)⟩
   }
   }
   {
   rw [if_neg c3] at H
   exact absurd H (by simp)
   }
   }
   {
   rw [if_neg c2] at H
   have c2b0 := decide_eq_false c2
   clear c2
   obtain rfl := Option.some.inj H
   simp only [Option.some.injEq, Prod.mk.injEq] at H
   obtain ⟨rfl⟩ := H
   go_wp2
   go_ret
   exact ⟨by first | rfl | (simp [errW_none, errW_some] <;> rfl) | (simp [*, errW_none, errW_some] <;> rfl), by repeat (first | (with_reducible first | exact HB.out | apply below_alloc | apply pw_below_drewN | apply below_drew1) | exact HB.out)⟩

   }
end Go.Proofs.Yteajnkondkfmgaa.PFnHeld
