-- Made by a program of this session out of the translation. Lean checks it.
import Derived.Test.YteajnkondkfmgaaPFnExactPutInx0
import Derived.Test.YteajnkondkfmgaaPFnExactPutInx4
namespace Go.Proofs.Yteajnkondkfmgaa.PFnExactPutIn
open Go.RowKit Go.Proofs.YteajnkondkfmgaaW.PrintWords Go.Proofs.YteajnkondkfmgaaW.PrintLast Go.Proofs.YteajnkondkfmgaaW.PrintMore
attribute [local go_sem] max2_int min2_int max_two min_two max_three min_three max_four min_four   -- for this text's walks alone
set_option linter.unusedVariables false
set_option linter.unusedSimpArgs false

/-! ### spec_l5Stacks: function 82 -/
def spec_l5Stacks.l0 : Nat → List (S72) → Int → Option (Bool)
  | 0, _, _ => none
  | k + 1, x0, x3 => if x3 < (x0.length : Int) then (if 0 ≤ x3 then ((spec_l1In.f ((rd_T72 x0 x3).f0) 1 50).bind fun t144 => (if t144 = true then ((spec_l1In.f ((rd_T72 x0 x3).f1) 1 1000).bind fun t146 => (if t146 = true then ((spec_l1In.f ((rd_T72 x0 x3).f2) 0 ((rd_T72 x0 x3).f1)).bind fun t149 => (if t149 = true then (if x3 > 0 then (if 0 ≤ (wrap64 (x3 - 1)) then (if (wrap64 (x3 - 1)) < (x0.length : Int) then (if ((rd_T72 x0 (wrap64 (x3 - 1))).f0) ≥ ((rd_T72 x0 x3).f0) then (some false) else (spec_l5Stacks.l0 k x0 (wrap64 (x3 + 1)))) else (none)) else (none)) else (spec_l5Stacks.l0 k x0 (wrap64 (x3 + 1)))) else (some false))) else (some false))) else (some false))) else (none)) else (some (decide ((x0.length : Int) ≤ 8)))
def spec_l5Stacks.f (k : Nat) (l0 : List (S72)) : Option (Bool) := spec_l5Stacks.l0 k l0 0
theorem spec_l5Stacks.mono_l : ∀ k, (∀ y0 y1, LeO (spec_l5Stacks.l0 k y0 y1) (spec_l5Stacks.l0 (k + 1) y0 y1))
  | 0 => fun _ _ r h => by simp [spec_l5Stacks.l0] at h
  | k + 1 => by
    have ih0 := spec_l5Stacks.mono_l k
    {
    intro y0 y1
    unfold spec_l5Stacks.l0
    repeat' first
    | (with_reducible exact ih0 _ _)
    | (with_reducible exact LeO.refl _)
    | (with_reducible exact LeO.none _)
    | (with_reducible refine LeO.ite ?_ ?_)
    | (with_reducible refine LeO.bind ?_ (fun _ => ?_))
    | exact ih0 _ _
    | exact LeO.none _
    | refine LeO.ite ?_ ?_
    | refine LeO.bind ?_ (fun _ => ?_)
    }
theorem spec_l5Stacks.mono : ∀ a0 k, LeO (spec_l5Stacks.f k a0) (spec_l5Stacks.f (k + 1) a0) := by
  intro a0 k
  have ih0 := spec_l5Stacks.mono_l k
  unfold spec_l5Stacks.f
  repeat' first
      | (with_reducible exact ih0 _ _)
      | (with_reducible exact LeO.refl _)
      | (with_reducible exact LeO.none _)
      | (with_reducible refine LeO.ite ?_ ?_)
      | (with_reducible refine LeO.bind ?_ (fun _ => ?_))
      | exact ih0 _ _
      | exact LeO.none _
      | refine LeO.ite ?_ ?_
      | refine LeO.bind ?_ (fun _ => ?_)
def spec_l5Stacks.T4 : Bool × List (List Nat × List Nat) := (true, [([], []), ([], []), ([0, 1], [0, 1]), ([2], [2]), ([3], [3]), ([4], [4]), ([5], [5]), ([6, 5], [6]), ([7], [7]), ([7], [7]), ([8, 9, 7], [7, 8, 9]), ([10, 7], [7, 10]), ([11, 7], [7, 11]), ([12, 7, 7], [7, 12]), ([13, 7], [7, 13]), ([7, 14], [7, 14]), ([15, 13], [15]), ([16], [16]), ([16], [16]), ([17, 18, 16], [16, 17, 18]), ([19, 16], [16, 19]), ([20, 16], [16, 20]), ([16], [16]), ([16], [16]), ([22, 23, 16], [16, 22, 23]), ([24, 16], [16, 24]), ([25, 16], [16, 25]), ([21, 26, 16, 16], [16, 21, 26]), ([27, 16], [16, 27]), ([16, 28], [16, 28]), ([29, 27], [29]), ([30], [30]), ([31, 30], [30, 31]), ([32, 30, 30], [30, 32]), ([33], [33]), ([33], [33]), ([35, 33], [33, 35]), ([34, 36, 33], [33, 34, 36]), ([37, 33], [33, 37]), ([38, 33], [33, 38]), ([33], [33]), ([33], [33]), ([40, 41, 33], [33, 40, 41]), ([42, 33], [33, 42]), ([43, 33], [33, 43]), ([39, 44, 33], [33, 39, 44]), ([33, 45, 30], [30, 33, 45]), ([30, 46], [30, 46])])
def spec_l5Stacks.B4 : List Nat := [0, 0, 3, 7, 15, 31, 63, 127, 255, 255, 1023, 2047, 4095, 8191, 16383, 32767, 65535, 131071, 131071, 524287, 1048575, 2097151, 131071, 131071, 12713983, 29491199, 63045631, 134217727, 268435455, 536870911, 1073741823, 2147483647, 4294967295, 8589934591, 17179869183, 17179869183, 51539607551, 137438953471, 274877906943, 549755813887, 17179869183, 17179869183, 3315714752511, 7713761263615, 16509854285823, 35184372088831, 70368744177663, 140737488355327]
theorem spec_l5Stacks.tab4 : rtab .any (opsOf Try.f82 4) = spec_l5Stacks.T4 := by kernel_rfl
theorem spec_l5Stacks.bits4 : waitsOk spec_l5Stacks.T4.2 spec_l5Stacks.B4 = true := by kernel_rfl
set_option maxHeartbeats 8000000 in
set_option maxRecDepth 100000 in
theorem spec_l5Stacks.calls (k : Nat) (A0 : Option Addr) (c0 : Nat) (l0 : List (S72)) (r : Bool) (w : World) (hr0 : Kd.C k72 w A0 l0.length l0) (hc0 : l0.length ≤ c0) (h : spec_l5Stacks.f k l0 = some r) :
    Calls Try.prog 82 #[.slice A0 l0.length c0] w fun e w' => e = .returned (.bool r) ∧ Below w.heap.size w w' := by
  have HR0 := Aside0.mk hr0
  have HC0 := Aside0.mk hc0
  clear hr0 hc0
  have HB := Aside0.mk (Below.refl w.heap.size w)
  have H : (spec_l5Stacks.l0 k l0 0) = some r := h
  clear h
  have H' := Aside0.mk H
  clear H
  go_enter Try.func82, Try.ntmps82
  go_wp2
  go_loopg [3] k (fun kq v3 w' => ∃ (x3_1 : Int), v3 = .int .i64 x3_1 ∧ Aside0 (spec_l5Stacks.l0 kq l0 x3_1 = some r) ∧ Aside0 (kq ≤ k) ∧ Aside0 (Below w.heap.size w w'))
  case atStart => exact ⟨(0), qz6, H', ⟨Nat.le_refl _⟩, ⟨by repeat (first | (with_reducible first | exact HB.out | apply below_alloc | apply pw_below_drewN | apply below_drew1) | exact HB.out)⟩⟩
  case round =>
    clear H'
    obtain ⟨x3_1, rfl, HA, HK1, HB⟩ := hrel
    cases gk with
    | zero => exact absurd HA.out (by simp [spec_l5Stacks.l0])
    | succ k1 =>
      have H := HA.out
      clear HA
      simp only [spec_l5Stacks.l0] at H
      by_cases c2 : x3_1 < (l0.length : Int)
      {
      rw [if_pos c2] at H
      have c2b0 : decide (x3_1 < (l0.length : Int)) = true := decide_eq_true c2
      clear c2
      by_cases c3 : 0 ≤ x3_1
      {
      rw [if_pos c3] at H
      have c3b0 : decide (0 ≤ x3_1) = true := decide_eq_true c3
      clear c3
      replace H := Option.bind_eq_some_iff.mp H
      obtain ⟨t144, A40, H⟩ := H
      replace H : (if t144 = true then ((spec_l1In.f ((rd_T72 l0 x3_1).f1) 1 1000).bind fun t146 => (if t146 = true then ((spec_l1In.f ((rd_T72 l0 x3_1).f2) 0 ((rd_T72 l0 x3_1).f1)).bind fun t149 => (if t149 = true then (if x3_1 > 0 then (if 0 ≤ (wrap64 (x3_1 - 1)) then (if (wrap64 (x3_1 - 1)) < (l0.length : Int) then (if ((rd_T72 l0 (wrap64 (x3_1 - 1))).f0) ≥ ((rd_T72 l0 x3_1).f0) then (some false) else (spec_l5Stacks.l0 k1 l0 (wrap64 (x3_1 + 1)))) else (none)) else (none)) else (spec_l5Stacks.l0 k1 l0 (wrap64 (x3_1 + 1)))) else (some false))) else (some false))) else (some false)) = some r := H
      have A4 := Aside0.mk A40
      clear A40
      by_cases c5 : t144 = true
      {
      subst c5
      have H1 : ((spec_l1In.f ((rd_T72 l0 x3_1).f1) 1 1000).bind fun t146 => (if t146 = true then ((spec_l1In.f ((rd_T72 l0 x3_1).f2) 0 ((rd_T72 l0 x3_1).f1)).bind fun t149 => (if t149 = true then (if x3_1 > 0 then (if 0 ≤ (wrap64 (x3_1 - 1)) then (if (wrap64 (x3_1 - 1)) < (l0.length : Int) then (if ((rd_T72 l0 (wrap64 (x3_1 - 1))).f0) ≥ ((rd_T72 l0 x3_1).f0) then (some false) else (spec_l5Stacks.l0 k1 l0 (wrap64 (x3_1 + 1)))) else (none)) else (none)) else (spec_l5Stacks.l0 k1 l0 (wrap64 (x3_1 + 1)))) else (some false))) else (some false))) = some r := by rw [if_pos rfl] at H; exact H
      clear H
      have H := H1
      clear H1
      replace H := Option.bind_eq_some_iff.mp H
      obtain ⟨t146, A60, H⟩ := H
      replace H : (if t146 = true then ((spec_l1In.f ((rd_T72 l0 x3_1).f2) 0 ((rd_T72 l0 x3_1).f1)).bind fun t149 => (if t149 = true then (if x3_1 > 0 then (if 0 ≤ (wrap64 (x3_1 - 1)) then (if (wrap64 (x3_1 - 1)) < (l0.length : Int) then (if ((rd_T72 l0 (wrap64 (x3_1 - 1))).f0) ≥ ((rd_T72 l0 x3_1).f0) then (some false) else (spec_l5Stacks.l0 k1 l0 (wrap64 (x3_1 + 1)))) else (none)) else (none)) else (spec_l5Stacks.l0 k1 l0 (wrap64 (x3_1 + 1)))) else (some false))) else (some false)) = some r := H
      have A6 := Aside0.mk A60
      clear A60
      by_cases c7 : t146 = true
      {
      subst c7
      have H1 : ((spec_l1In.f ((rd_T72 l0 x3_1).f2) 0 ((rd_T72 l0 x3_1).f1)).bind fun t149 => (if t149 = true then (if x3_1 > 0 then (if 0 ≤ (wrap64 (x3_1 - 1)) then (if (wrap64 (x3_1 - 1)) < (l0.length : Int) then (if ((rd_T72 l0 (wrap64 (x3_1 - 1))).f0) ≥ ((rd_T72 l0 x3_1).f0) then (some false) else (spec_l5Stacks.l0 k1 l0 (wrap64 (x3_1 + 1)))) else (none)) else (none)) else (spec_l5Stacks.l0 k1 l0 (wrap64 (x3_1 + 1)))) else (some false))) = some r := by rw [if_pos rfl] at H; exact H
      clear H
      have H := H1
      clear H1
      replace H := Option.bind_eq_some_iff.mp H
      obtain ⟨t149, A80, H⟩ := H
      replace H : (if t149 = true then (if x3_1 > 0 then (if 0 ≤ (wrap64 (x3_1 - 1)) then (if (wrap64 (x3_1 - 1)) < (l0.length : Int) then (if ((rd_T72 l0 (wrap64 (x3_1 - 1))).f0) ≥ ((rd_T72 l0 x3_1).f0) then (some false) else (spec_l5Stacks.l0 k1 l0 (wrap64 (x3_1 + 1)))) else (none)) else (none)) else (spec_l5Stacks.l0 k1 l0 (wrap64 (x3_1 + 1)))) else (some false)) = some r := H
      have A8 := Aside0.mk A80
      clear A80
      by_cases c9 : t149 = true
      {
      subst c9
      have H1 : (if x3_1 > 0 then (if 0 ≤ (wrap64 (x3_1 - 1)) then (if (wrap64 (x3_1 - 1)) < (l0.length : Int) then (if ((rd_T72 l0 (wrap64 (x3_1 - 1))).f0) ≥ ((rd_T72 l0 x3_1).f0) then (some false) else (spec_l5Stacks.l0 k1 l0 (wrap64 (x3_1 + 1)))) else (none)) else (none)) else (spec_l5Stacks.l0 k1 l0 (wrap64 (x3_1 + 1)))) = some r := by rw [if_pos rfl] at H; exact H
      clear H
      have H := H1
      clear H1
      by_cases c10 : x3_1 > 0
      {
      rw [if_pos c10] at H
      have c10b0 : decide (0 < x3_1) = true := decide_eq_true c10
      clear c10
      obtain ⟨ji11, hji11⟩ : ∃ j_ : Int, (wrap64 (x3_1 - 1)) = j_ := ⟨_, rfl⟩
      replace H : (if 0 ≤ (ji11) then (if (ji11) < (l0.length : Int) then (if ((rd_T72 l0 (ji11)).f0) ≥ ((rd_T72 l0 x3_1).f0) then (some false) else (spec_l5Stacks.l0 k1 l0 (wrap64 (x3_1 + 1)))) else (none)) else (none)) = some r := by first | (rw [hji11] at H; exact H) | (simp only [hji11] at H ⊢; exact H)
      (try rw [hji11] at A4)
      (try rw [hji11] at A6)
      (try rw [hji11] at A8)
      have hji11w : (IntKind.i64.wrap (x3_1 - 1)) = ji11 := (i64_w _).trans hji11
      by_cases c12 : 0 ≤ (ji11)
      {
      rw [if_pos c12] at H
      have c12b0 : decide (0 ≤ (ji11)) = true := decide_eq_true c12
      clear c12
      by_cases c13 : (ji11) < (l0.length : Int)
      {
      rw [if_pos c13] at H
      have c13b0 : decide ((ji11) < (l0.length : Int)) = true := decide_eq_true c13
      clear c13
      by_cases c14 : ((rd_T72 l0 (ji11)).f0) ≥ ((rd_T72 l0 x3_1).f0)
      {
      rw [if_pos c14] at H
      have c14b0 : decide (((rd_T72 l0 x3_1).f0) ≤ ((rd_T72 l0 (ji11)).f0)) = true := decide_eq_true c14
      clear c14
      obtain rfl := Option.some.inj H
      simp only [Option.some.injEq, Prod.mk.injEq] at H
      obtain ⟨rfl⟩ := H
      try go_wp2
      have n0_ := Aside0.mk (below_drew1 HB.out)
      clear HB
      have HB := n0_
      clear n0_
      have p143 : 0 ≤ (x3_1 : Int) := of_decide_eq_true qz3
      have q143 : x3_1 < (l0.length : Int) := of_decide_eq_true qz3
      obtain ⟨ad143, e143, hx143_0, hx143_1, hx143_2⟩ := at_T72 HR0.out x3_1 p143 q143
      have hw143_2 := hx143_2
      have hw143_1 := hx143_1
      have hw143_0 := hx143_0
      cases e143
      replace hx143_0 := (HB.out.cell (World.block_lt_of_cell? w _ hx143_0)).trans hx143_0
      replace hx143_1 := (HB.out.cell (World.block_lt_of_cell? w _ hx143_1)).trans hx143_1
      replace hx143_2 := (HB.out.cell (World.block_lt_of_cell? w _ hx143_2)).trans hx143_2
      replace p143 := eq_true p143
      replace q143 := eq_true q143
      have p145 : 0 ≤ (x3_1 : Int) := of_decide_eq_true qz3
      have q145 : x3_1 < (l0.length : Int) := of_decide_eq_true qz3
      obtain ⟨ad145, e145, hx145_0, hx145_1, hx145_2⟩ := at_T72 HR0.out x3_1 p145 q145
      have hw145_2 := hx145_2
      have hw145_1 := hx145_1
      have hw145_0 := hx145_0
      obtain rfl : ad143 = ad145 := (by injection e145)
      replace hx145_0 := (HB.out.cell (World.block_lt_of_cell? w _ hx145_0)).trans hx145_0
      replace hx145_1 := (HB.out.cell (World.block_lt_of_cell? w _ hx145_1)).trans hx145_1
      replace hx145_2 := (HB.out.cell (World.block_lt_of_cell? w _ hx145_2)).trans hx145_2
      replace p145 := eq_true p145
      replace q145 := eq_true q145
      have p147 : 0 ≤ (x3_1 : Int) := of_decide_eq_true qz3
      have q147 : x3_1 < (l0.length : Int) := of_decide_eq_true qz3
      obtain ⟨ad147, e147, hx147_0, hx147_1, hx147_2⟩ := at_T72 HR0.out x3_1 p147 q147
      have hw147_2 := hx147_2
      have hw147_1 := hx147_1
      have hw147_0 := hx147_0
      obtain rfl : ad143 = ad147 := (by injection e147)
      replace hx147_0 := (HB.out.cell (World.block_lt_of_cell? w _ hx147_0)).trans hx147_0
      replace hx147_1 := (HB.out.cell (World.block_lt_of_cell? w _ hx147_1)).trans hx147_1
      replace hx147_2 := (HB.out.cell (World.block_lt_of_cell? w _ hx147_2)).trans hx147_2
      replace p147 := eq_true p147
      replace q147 := eq_true q147
      have p148 : 0 ≤ (x3_1 : Int) := of_decide_eq_true qz3
      have q148 : x3_1 < (l0.length : Int) := of_decide_eq_true qz3
      obtain ⟨ad148, e148, hx148_0, hx148_1, hx148_2⟩ := at_T72 HR0.out x3_1 p148 q148
      have hw148_2 := hx148_2
      have hw148_1 := hx148_1
      have hw148_0 := hx148_0
      obtain rfl : ad143 = ad148 := (by injection e148)
      replace hx148_0 := (HB.out.cell (World.block_lt_of_cell? w _ hx148_0)).trans hx148_0
      replace hx148_1 := (HB.out.cell (World.block_lt_of_cell? w _ hx148_1)).trans hx148_1
      replace hx148_2 := (HB.out.cell (World.block_lt_of_cell? w _ hx148_2)).trans hx148_2
      replace p148 := eq_true p148
      replace q148 := eq_true q148
      have p150 : 0 ≤ ((ji11) : Int) := of_decide_eq_true qz3
      have q150 : (ji11) < (l0.length : Int) := of_decide_eq_true qz3
      obtain ⟨ad150, e150, hx150_0, hx150_1, hx150_2⟩ := at_T72 HR0.out (ji11) p150 q150
      have hw150_2 := hx150_2
      have hw150_1 := hx150_1
      have hw150_0 := hx150_0
      obtain rfl : ad143 = ad150 := (by injection e150)
      replace hx150_0 := (HB.out.cell (World.block_lt_of_cell? w _ hx150_0)).trans hx150_0
      replace hx150_1 := (HB.out.cell (World.block_lt_of_cell? w _ hx150_1)).trans hx150_1
      replace hx150_2 := (HB.out.cell (World.block_lt_of_cell? w _ hx150_2)).trans hx150_2
      replace p150 := eq_true p150
      replace q150 := eq_true q150
      have p151 : 0 ≤ (x3_1 : Int) := of_decide_eq_true qz3
      have q151 : x3_1 < (l0.length : Int) := of_decide_eq_true qz3
      obtain ⟨ad151, e151, hx151_0, hx151_1, hx151_2⟩ := at_T72 HR0.out x3_1 p151 q151
      have hw151_2 := hx151_2
      have hw151_1 := hx151_1
      have hw151_0 := hx151_0
      obtain rfl : ad143 = ad151 := (by injection e151)
      replace hx151_0 := (HB.out.cell (World.block_lt_of_cell? w _ hx151_0)).trans hx151_0
      replace hx151_1 := (HB.out.cell (World.block_lt_of_cell? w _ hx151_1)).trans hx151_1
      replace hx151_2 := (HB.out.cell (World.block_lt_of_cell? w _ hx151_2)).trans hx151_2
      replace p151 := eq_true p151
      replace q151 := eq_true q151
      refine start_ (n := 48) (S := fun w' => w'.cell? (ad143.add ((x3_1).toNat * 3)) = some (.int .i64 ((rd_T72 l0 x3_1).f0)) ∧ w'.cell? ⟨(ad143.add ((x3_1).toNat * 3)).block, (ad143.add ((x3_1).toNat * 3)).off + 1, none⟩ = some (.int .i64 ((rd_T72 l0 x3_1).f1)) ∧ w'.cell? ⟨(ad143.add ((x3_1).toNat * 3)).block, (ad143.add ((x3_1).toNat * 3)).off + 2, none⟩ = some (.int .i64 ((rd_T72 l0 x3_1).f2)) ∧ w'.cell? (ad143.add ((x3_1).toNat * 3)) = some (.int .i64 ((rd_T72 l0 x3_1).f0)) ∧ w'.cell? ⟨(ad143.add ((x3_1).toNat * 3)).block, (ad143.add ((x3_1).toNat * 3)).off + 1, none⟩ = some (.int .i64 ((rd_T72 l0 x3_1).f1)) ∧ w'.cell? ⟨(ad143.add ((x3_1).toNat * 3)).block, (ad143.add ((x3_1).toNat * 3)).off + 2, none⟩ = some (.int .i64 ((rd_T72 l0 x3_1).f2)) ∧ w'.cell? (ad143.add ((x3_1).toNat * 3)) = some (.int .i64 ((rd_T72 l0 x3_1).f0)) ∧ w'.cell? ⟨(ad143.add ((x3_1).toNat * 3)).block, (ad143.add ((x3_1).toNat * 3)).off + 1, none⟩ = some (.int .i64 ((rd_T72 l0 x3_1).f1)) ∧ w'.cell? ⟨(ad143.add ((x3_1).toNat * 3)).block, (ad143.add ((x3_1).toNat * 3)).off + 2, none⟩ = some (.int .i64 ((rd_T72 l0 x3_1).f2)) ∧ w'.cell? (ad143.add ((x3_1).toNat * 3)) = some (.int .i64 ((rd_T72 l0 x3_1).f0)) ∧ w'.cell? ⟨(ad143.add ((x3_1).toNat * 3)).block, (ad143.add ((x3_1).toNat * 3)).off + 1, none⟩ = some (.int .i64 ((rd_T72 l0 x3_1).f1)) ∧ w'.cell? ⟨(ad143.add ((x3_1).toNat * 3)).block, (ad143.add ((x3_1).toNat * 3)).off + 2, none⟩ = some (.int .i64 ((rd_T72 l0 x3_1).f2)) ∧ w'.cell? (ad143.add (((ji11)).toNat * 3)) = some (.int .i64 ((rd_T72 l0 (ji11)).f0)) ∧ w'.cell? ⟨(ad143.add (((ji11)).toNat * 3)).block, (ad143.add (((ji11)).toNat * 3)).off + 1, none⟩ = some (.int .i64 ((rd_T72 l0 (ji11)).f1)) ∧ w'.cell? ⟨(ad143.add (((ji11)).toNat * 3)).block, (ad143.add (((ji11)).toNat * 3)).off + 2, none⟩ = some (.int .i64 ((rd_T72 l0 (ji11)).f2)) ∧ w'.cell? (ad143.add ((x3_1).toNat * 3)) = some (.int .i64 ((rd_T72 l0 x3_1).f0)) ∧ w'.cell? ⟨(ad143.add ((x3_1).toNat * 3)).block, (ad143.add ((x3_1).toNat * 3)).off + 1, none⟩ = some (.int .i64 ((rd_T72 l0 x3_1).f1)) ∧ w'.cell? ⟨(ad143.add ((x3_1).toNat * 3)).block, (ad143.add ((x3_1).toNat * 3)).off + 2, none⟩ = some (.int .i64 ((rd_T72 l0 x3_1).f2))) (ds := []) #[false, false, false, false, false, false, false, false, false, false, false, false, false, false, false, false, false, false, false, false, false, false, false, false, false, false, false, false, false, false, false, false, false, false, false, false, false, false, false, false, false, false, false, false, false, false, false, false] (by kernel_rfl) rfl rfl ⟨((HB.out.cell (World.block_lt_of_cell? w _ hw143_0)).trans hw143_0), ((HB.out.cell (World.block_lt_of_cell? w _ hw143_1)).trans hw143_1), ((HB.out.cell (World.block_lt_of_cell? w _ hw143_2)).trans hw143_2), ((HB.out.cell (World.block_lt_of_cell? w _ hw145_0)).trans hw145_0), ((HB.out.cell (World.block_lt_of_cell? w _ hw145_1)).trans hw145_1), ((HB.out.cell (World.block_lt_of_cell? w _ hw145_2)).trans hw145_2), ((HB.out.cell (World.block_lt_of_cell? w _ hw147_0)).trans hw147_0), ((HB.out.cell (World.block_lt_of_cell? w _ hw147_1)).trans hw147_1), ((HB.out.cell (World.block_lt_of_cell? w _ hw147_2)).trans hw147_2), ((HB.out.cell (World.block_lt_of_cell? w _ hw148_0)).trans hw148_0), ((HB.out.cell (World.block_lt_of_cell? w _ hw148_1)).trans hw148_1), ((HB.out.cell (World.block_lt_of_cell? w _ hw148_2)).trans hw148_2), ((HB.out.cell (World.block_lt_of_cell? w _ hw150_0)).trans hw150_0), ((HB.out.cell (World.block_lt_of_cell? w _ hw150_1)).trans hw150_1), ((HB.out.cell (World.block_lt_of_cell? w _ hw150_2)).trans hw150_2), ((HB.out.cell (World.block_lt_of_cell? w _ hw151_0)).trans hw151_0), ((HB.out.cell (World.block_lt_of_cell? w _ hw151_1)).trans hw151_1), ((HB.out.cell (World.block_lt_of_cell? w _ hw151_2)).trans hw151_2)⟩ (fun hHeld => ?_); refine with_tabW spec_l5Stacks.tab4 spec_l5Stacks.bits4 (fun HT_ HW_ => ?_)
      generalize wr.drew = w15 at HB hx143_0 hx143_1 hx143_2 hx145_0 hx145_1 hx145_2 hx147_0 hx147_1 hx147_2 hx148_0 hx148_1 hx148_2 hx150_0 hx150_1 hx150_2 hx151_0 hx151_1 hx151_2 hHeld ⊢
      refine pure_ (i := 0) (N := some 10) (v := ?_) (a' := ?_) (bqz 48 1) rfl rfl qza qzd (Or.inl ⟨by rfl, ?_⟩) ?_ ?_
      rotate_left
      {
      intro w'
      go_simp
      with_reducible rfl
      }
      rotate_left
      {
      simp only [qzs]
      rfl
      }
      refine pure_ (i := 1) (N := some 11) (v := ?_) (a' := ?_) (bqz 48 3) rfl rfl qza qzd (Or.inl ⟨by rfl, ?_⟩) ?_ ?_
      rotate_left
      {
      intro w'
      go_simp
      with_reducible rfl
      }
      rotate_left
      {
      simp only [qzs]
      rfl
      }
      refine pure_ (i := 2) (N := some 12) (v := ?_) (a' := ?_) (bqz 48 7) rfl rfl qza qzd (Or.inl ⟨by rfl, ?_⟩) ?_ ?_
      rotate_left
      {
      intro w'
      go_simp
      with_reducible rfl
      }
      rotate_left
      {
      simp only [qzs]
      rfl
      }
      refine pure_ (i := 3) (N := some 13) (v := ?_) (a' := ?_) (bqz 48 15) rfl rfl qza qzd (Or.inl ⟨by rfl, ?_⟩) ?_ ?_
      rotate_left
      {
      intro w'
      go_simp
      with_reducible rfl
      }
      rotate_left
      {
      simp only [qzs]
      rfl
      }
      refine take_ (i := 4) (N := some 14) (v := ?_) (a' := ?_) (bqz 48 31) rfl rfl qzb qzd (Or.inl ⟨by rfl, ?_⟩) hHeld ?_ ?_
      rotate_left
      {
      rintro w' ⟨s0, s1, s2, s3, s4, s5, s6, s7, s8, s9, s10, s11, s12, s13, s14, s15, s16, s17⟩
      go_simp
      with_reducible rfl
      }
      rotate_left
      {
      simp only [qzs]
      rfl
      }
      refine one_ (i := 5) (N := some 15) (bqz 48 63) rfl rfl qzc (by decide) (fun K hK => ?_)
      refine goes_ Try.func81 (by kernel_rfl) rfl #[.int .i64 ((rd_T72 l0 x3_1).f0), .int .i64 1, .int .i64 50] (by rfl) rfl rfl qz2 ?_
      with_reducible refine (spec_l1In.calls ((rd_T72 l0 x3_1).f0) 1 50 true _ A4.out).mono ?_
      rintro e w' ⟨rfl, ⟨nd, rfl⟩⟩
      refine ⟨_, rfl, ?_⟩
      refine hK.out _ _ ⟨((HB.out.cell (World.block_lt_of_cell? w _ hw143_0)).trans hw143_0), ((HB.out.cell (World.block_lt_of_cell? w _ hw143_1)).trans hw143_1), ((HB.out.cell (World.block_lt_of_cell? w _ hw143_2)).trans hw143_2), ((HB.out.cell (World.block_lt_of_cell? w _ hw145_0)).trans hw145_0), ((HB.out.cell (World.block_lt_of_cell? w _ hw145_1)).trans hw145_1), ((HB.out.cell (World.block_lt_of_cell? w _ hw145_2)).trans hw145_2), ((HB.out.cell (World.block_lt_of_cell? w _ hw147_0)).trans hw147_0), ((HB.out.cell (World.block_lt_of_cell? w _ hw147_1)).trans hw147_1), ((HB.out.cell (World.block_lt_of_cell? w _ hw147_2)).trans hw147_2), ((HB.out.cell (World.block_lt_of_cell? w _ hw148_0)).trans hw148_0), ((HB.out.cell (World.block_lt_of_cell? w _ hw148_1)).trans hw148_1), ((HB.out.cell (World.block_lt_of_cell? w _ hw148_2)).trans hw148_2), ((HB.out.cell (World.block_lt_of_cell? w _ hw150_0)).trans hw150_0), ((HB.out.cell (World.block_lt_of_cell? w _ hw150_1)).trans hw150_1), ((HB.out.cell (World.block_lt_of_cell? w _ hw150_2)).trans hw150_2), ((HB.out.cell (World.block_lt_of_cell? w _ hw151_0)).trans hw151_0), ((HB.out.cell (World.block_lt_of_cell? w _ hw151_1)).trans hw151_1), ((HB.out.cell (World.block_lt_of_cell? w _ hw151_2)).trans hw151_2)⟩ (fun hHeld => ?_)
      clear hK K
      refine norm_ (a' := ?_) ?_ ?_
      rotate_left
      {
      show Act.put _ (some 15) _ = _
      simp only [qzs]
      rfl
      }
      refine pure_ (i := 6) (N := some 16) (v := ?_) (a' := ?_) (bqz 48 127) rfl rfl qza qzd (Or.inl ⟨by rfl, ?_⟩) ?_ ?_
      rotate_left
      {
      intro w'
      go_simp
      with_reducible rfl
      }
      rotate_left
      {
      simp only [qzs]
      rfl
      }
      refine pure_ (i := 7) (N := some 17) (v := ?_) (a' := ?_) (bqz 48 255) rfl rfl qza qzd (Or.inl ⟨by rfl, ?_⟩) ?_ ?_
      rotate_left
      {
      intro w'
      go_simp
      with_reducible rfl
      }
      rotate_left
      {
      simp only [qzs]
      rfl
      }
      refine pure_ (i := 8) (N := some 18) (v := ?_) (a' := ?_) (bqz 48 511) rfl rfl qza qzd (Or.inl ⟨by rfl, ?_⟩) ?_ ?_
      rotate_left
      {
      intro w'
      go_simp
      with_reducible rfl
      }
      rotate_left
      {
      simp only [qzs]
      rfl
      }
      refine pure_ (i := 9) (N := some 19) (v := ?_) (a' := ?_) (bqz 48 1023) rfl rfl qza qzd (Or.inl ⟨by rfl, ?_⟩) ?_ ?_
      rotate_left
      {
      intro w'
      go_simp
      with_reducible rfl
      }
      rotate_left
      {
      simp only [qzs]
      rfl
      }
      refine pure_ (i := 10) (N := some 20) (v := ?_) (a' := ?_) (bqz 48 2047) rfl rfl qza qzd (Or.inl ⟨by rfl, ?_⟩) ?_ ?_
      rotate_left
      {
      intro w'
      go_simp
      with_reducible rfl
      }
      rotate_left
      {
      simp only [qzs]
      rfl
      }
      refine pure_ (i := 11) (N := some 21) (v := ?_) (a' := ?_) (bqz 48 4095) rfl rfl qza qzd (Or.inl ⟨by rfl, ?_⟩) ?_ ?_
      rotate_left
      {
      intro w'
      go_simp
      with_reducible rfl
      }
      rotate_left
      {
      simp only [qzs]
      rfl
      }
      refine take_ (i := 12) (N := some 22) (v := ?_) (a' := ?_) (bqz 48 8191) rfl rfl qzb qzd (Or.inl ⟨by rfl, ?_⟩) hHeld ?_ ?_
      rotate_left
      {
      rintro w' ⟨s0, s1, s2, s3, s4, s5, s6, s7, s8, s9, s10, s11, s12, s13, s14, s15, s16, s17⟩
      go_simp
      with_reducible rfl
      }
      rotate_left
      {
      simp only [qzs]
      rfl
      }
      refine one_ (i := 13) (N := some 23) (bqz 48 16383) rfl rfl qzc (by decide) (fun K hK => ?_)
      refine goes_ Try.func81 (by kernel_rfl) rfl #[.int .i64 ((rd_T72 l0 x3_1).f1), .int .i64 1, .int .i64 1000] (by rfl) rfl rfl qz2 ?_
      with_reducible refine (spec_l1In.calls ((rd_T72 l0 x3_1).f1) 1 1000 true _ A6.out).mono ?_
      rintro e w' ⟨rfl, ⟨nd, rfl⟩⟩
      refine ⟨_, rfl, ?_⟩
      refine hK.out _ _ ⟨((HB.out.cell (World.block_lt_of_cell? w _ hw143_0)).trans hw143_0), ((HB.out.cell (World.block_lt_of_cell? w _ hw143_1)).trans hw143_1), ((HB.out.cell (World.block_lt_of_cell? w _ hw143_2)).trans hw143_2), ((HB.out.cell (World.block_lt_of_cell? w _ hw145_0)).trans hw145_0), ((HB.out.cell (World.block_lt_of_cell? w _ hw145_1)).trans hw145_1), ((HB.out.cell (World.block_lt_of_cell? w _ hw145_2)).trans hw145_2), ((HB.out.cell (World.block_lt_of_cell? w _ hw147_0)).trans hw147_0), ((HB.out.cell (World.block_lt_of_cell? w _ hw147_1)).trans hw147_1), ((HB.out.cell (World.block_lt_of_cell? w _ hw147_2)).trans hw147_2), ((HB.out.cell (World.block_lt_of_cell? w _ hw148_0)).trans hw148_0), ((HB.out.cell (World.block_lt_of_cell? w _ hw148_1)).trans hw148_1), ((HB.out.cell (World.block_lt_of_cell? w _ hw148_2)).trans hw148_2), ((HB.out.cell (World.block_lt_of_cell? w _ hw150_0)).trans hw150_0), ((HB.out.cell (World.block_lt_of_cell? w _ hw150_1)).trans hw150_1), ((HB.out.cell (World.block_lt_of_cell? w _ hw150_2)).trans hw150_2), ((HB.out.cell (World.block_lt_of_cell? w _ hw151_0)).trans hw151_0), ((HB.out.cell (World.block_lt_of_cell? w _ hw151_1)).trans hw151_1), ((HB.out.cell (World.block_lt_of_cell? w _ hw151_2)).trans hw151_2)⟩ (fun hHeld => ?_)
      clear hK K
      refine norm_ (a' := ?_) ?_ ?_
      rotate_left
      {
      show Act.put _ (some 23) _ = _
      simp only [qzs]
      rfl
      }
      refine pure_ (i := 14) (N := some 24) (v := ?_) (a' := ?_) (bqz 48 32767) rfl rfl qza qzd (Or.inl ⟨by rfl, ?_⟩) ?_ ?_
      rotate_left
      {
      intro w'
      go_simp
      with_reducible rfl
      }
      rotate_left
      {
      simp only [qzs]
      rfl
      }
      refine pure_ (i := 15) (N := some 25) (v := ?_) (a' := ?_) (bqz 48 65535) rfl rfl qza qzd (Or.inl ⟨by rfl, ?_⟩) ?_ ?_
      rotate_left
      {
      intro w'
      go_simp
      with_reducible rfl
      }
      rotate_left
      {
      simp only [qzs]
      rfl
      }
      refine pure_ (i := 16) (N := some 26) (v := ?_) (a' := ?_) (bqz 48 131071) rfl rfl qza qzd (Or.inl ⟨by rfl, ?_⟩) ?_ ?_
      rotate_left
      {
      intro w'
      go_simp
      with_reducible rfl
      }
      rotate_left
      {
      simp only [qzs]
      rfl
      }
      refine pure_ (i := 17) (N := some 27) (v := ?_) (a' := ?_) (bqz 48 262143) rfl rfl qza qzd (Or.inl ⟨by rfl, ?_⟩) ?_ ?_
      rotate_left
      {
      intro w'
      go_simp
      with_reducible rfl
      }
      rotate_left
      {
      simp only [qzs]
      rfl
      }
      refine pure_ (i := 18) (N := some 28) (v := ?_) (a' := ?_) (bqz 48 524287) rfl rfl qza qzd (Or.inl ⟨by rfl, ?_⟩) ?_ ?_
      rotate_left
      {
      intro w'
      go_simp
      with_reducible rfl
      }
      rotate_left
      {
      simp only [qzs]
      rfl
      }
      refine pure_ (i := 19) (N := some 29) (v := ?_) (a' := ?_) (bqz 48 1048575) rfl rfl qza qzd (Or.inl ⟨by rfl, ?_⟩) ?_ ?_
      rotate_left
      {
      intro w'
      go_simp
      with_reducible rfl
      }
      rotate_left
      {
      simp only [qzs]
      rfl
      }
      refine pure_ (i := 20) (N := some 30) (v := ?_) (a' := ?_) (bqz 48 2097151) rfl rfl qza qzd (Or.inl ⟨by rfl, ?_⟩) ?_ ?_
      rotate_left
      {
      intro w'
      go_simp
      with_reducible rfl
      }
      rotate_left
      {
      simp only [qzs]
      rfl
      }
      refine pure_ (i := 22) (N := some 32) (v := ?_) (a' := ?_) (bqz 48 6291455) rfl rfl qza qzd (Or.inl ⟨by rfl, ?_⟩) ?_ ?_
      rotate_left
      {
      intro w'
      go_simp
      with_reducible rfl
      }
      rotate_left
      {
      simp only [qzs]
      rfl
      }
      refine pure_ (i := 23) (N := some 33) (v := ?_) (a' := ?_) (bqz 48 14680063) rfl rfl qza qzd (Or.inl ⟨by rfl, ?_⟩) ?_ ?_
      rotate_left
      {
      intro w'
      go_simp
      with_reducible rfl
      }
      rotate_left
      {
      simp only [qzs]
      rfl
      }
      refine pure_ (i := 24) (N := some 34) (v := ?_) (a' := ?_) (bqz 48 31457279) rfl rfl qza qzd (Or.inl ⟨by rfl, ?_⟩) ?_ ?_
      rotate_left
      {
      intro w'
      go_simp
      with_reducible rfl
      }
      rotate_left
      {
      simp only [qzs]
      rfl
      }
      refine pure_ (i := 25) (N := some 35) (v := ?_) (a' := ?_) (bqz 48 65011711) rfl rfl qza qzd (Or.inl ⟨by rfl, ?_⟩) ?_ ?_
      rotate_left
      {
      intro w'
      go_simp
      with_reducible rfl
      }
      rotate_left
      {
      simp only [qzs]
      rfl
      }
      refine take_ (i := 21) (N := some 31) (v := ?_) (a' := ?_) (bqz 48 67108863) rfl rfl qzb qzd (Or.inl ⟨by rfl, ?_⟩) hHeld ?_ ?_
      rotate_left
      {
      rintro w' ⟨s0, s1, s2, s3, s4, s5, s6, s7, s8, s9, s10, s11, s12, s13, s14, s15, s16, s17⟩
      go_simp
      with_reducible rfl
      }
      rotate_left
      {
      simp only [qzs]
      rfl
      }
      refine take_ (i := 26) (N := some 36) (v := ?_) (a' := ?_) (bqz 48 134217727) rfl rfl qzb qzd (Or.inl ⟨by rfl, ?_⟩) hHeld ?_ ?_
      rotate_left
      {
      rintro w' ⟨s0, s1, s2, s3, s4, s5, s6, s7, s8, s9, s10, s11, s12, s13, s14, s15, s16, s17⟩
      go_simp
      with_reducible rfl
      }
      rotate_left
      {
      simp only [qzs]
      rfl
      }
      refine one_ (i := 27) (N := some 37) (bqz 48 268435455) rfl rfl qzc (by decide) (fun K hK => ?_)
      refine goes_ Try.func81 (by kernel_rfl) rfl #[.int .i64 ((rd_T72 l0 x3_1).f2), .int .i64 0, .int .i64 ((rd_T72 l0 x3_1).f1)] (by rfl) rfl rfl qz2 ?_
      with_reducible refine (spec_l1In.calls ((rd_T72 l0 x3_1).f2) 0 ((rd_T72 l0 x3_1).f1) true _ A8.out).mono ?_
      rintro e w' ⟨rfl, ⟨nd, rfl⟩⟩
      refine ⟨_, rfl, ?_⟩
      refine hK.out _ _ ⟨((HB.out.cell (World.block_lt_of_cell? w _ hw143_0)).trans hw143_0), ((HB.out.cell (World.block_lt_of_cell? w _ hw143_1)).trans hw143_1), ((HB.out.cell (World.block_lt_of_cell? w _ hw143_2)).trans hw143_2), ((HB.out.cell (World.block_lt_of_cell? w _ hw145_0)).trans hw145_0), ((HB.out.cell (World.block_lt_of_cell? w _ hw145_1)).trans hw145_1), ((HB.out.cell (World.block_lt_of_cell? w _ hw145_2)).trans hw145_2), ((HB.out.cell (World.block_lt_of_cell? w _ hw147_0)).trans hw147_0), ((HB.out.cell (World.block_lt_of_cell? w _ hw147_1)).trans hw147_1), ((HB.out.cell (World.block_lt_of_cell? w _ hw147_2)).trans hw147_2), ((HB.out.cell (World.block_lt_of_cell? w _ hw148_0)).trans hw148_0), ((HB.out.cell (World.block_lt_of_cell? w _ hw148_1)).trans hw148_1), ((HB.out.cell (World.block_lt_of_cell? w _ hw148_2)).trans hw148_2), ((HB.out.cell (World.block_lt_of_cell? w _ hw150_0)).trans hw150_0), ((HB.out.cell (World.block_lt_of_cell? w _ hw150_1)).trans hw150_1), ((HB.out.cell (World.block_lt_of_cell? w _ hw150_2)).trans hw150_2), ((HB.out.cell (World.block_lt_of_cell? w _ hw151_0)).trans hw151_0), ((HB.out.cell (World.block_lt_of_cell? w _ hw151_1)).trans hw151_1), ((HB.out.cell (World.block_lt_of_cell? w _ hw151_2)).trans hw151_2)⟩ (fun hHeld => ?_)
      clear hK K
      refine norm_ (a' := ?_) ?_ ?_
      rotate_left
      {
      show Act.put _ (some 37) _ = _
      simp only [qzs]
      rfl
      }
      refine pure_ (i := 28) (N := some 38) (v := ?_) (a' := ?_) (bqz 48 536870911) rfl rfl qza qzd (Or.inl ⟨by rfl, ?_⟩) ?_ ?_
      rotate_left
      {
      intro w'
      go_simp
      with_reducible rfl
      }
      rotate_left
      {
      simp only [qzs]
      rfl
      }
      refine pure_ (i := 29) (N := some 39) (v := ?_) (a' := ?_) (bqz 48 1073741823) rfl rfl qza qzd (Or.inl ⟨by rfl, ?_⟩) ?_ ?_
      rotate_left
      {
      intro w'
      go_simp
      with_reducible rfl
      }
      rotate_left
      {
      simp only [qzs]
      rfl
      }
      refine pure_ (i := 30) (N := some 40) (v := ?_) (a' := ?_) (bqz 48 2147483647) rfl rfl qza qzd (Or.inl ⟨by rfl, ?_⟩) ?_ ?_
      rotate_left
      {
      intro w'
      go_simp
      with_reducible rfl
      }
      rotate_left
      {
      simp only [qzs]
      rfl
      }
      refine pure_ (i := 31) (N := some 41) (v := ?_) (a' := ?_) (bqz 48 4294967295) rfl rfl qza qzd (Or.inl ⟨by rfl, ?_⟩) ?_ ?_
      rotate_left
      {
      intro w'
      go_simp
      with_reducible rfl
      }
      rotate_left
      {
      simp only [qzs]
      rfl
      }
      refine pure_ (i := 32) (N := some 42) (v := ?_) (a' := ?_) (bqz 48 8589934591) rfl rfl qza qzd (Or.inl ⟨by rfl, ?_⟩) ?_ ?_
      rotate_left
      {
      intro w'
      go_simp
      with_reducible rfl
      }
      rotate_left
      {
      simp only [qzs]
      rfl
      }
      refine pure_ (i := 33) (N := some 43) (v := ?_) (a' := ?_) (bqz 48 17179869183) rfl rfl qza qzd (Or.inl ⟨by rfl, ?_⟩) ?_ ?_
      rotate_left
      {
      intro w'
      go_simp
      with_reducible rfl
      }
      rotate_left
      {
      simp only [qzs]
      rfl
      }
      refine pure_ (i := 34) (N := some 44) (v := ?_) (a' := ?_) (bqz 48 34359738367) rfl rfl qza qzd (Or.inl ⟨by rfl, ?_⟩) ?_ ?_
      rotate_left
      {
      intro w'
      go_simp
      with_reducible rfl
      }
      rotate_left
      {
      simp only [qzs]
      rfl
      }
      refine pure_ (i := 35) (N := some 45) (v := ?_) (a' := ?_) (bqz 48 68719476735) rfl rfl qza qzd (Or.inl ⟨by rfl, ?_⟩) ?_ ?_
      rotate_left
      {
      intro w'
      go_simp
      with_reducible rfl
      }
      rotate_left
      {
      simp only [qzs]
      rfl
      }
      refine pure_ (i := 36) (N := some 46) (v := ?_) (a' := ?_) (bqz 48 137438953471) rfl rfl qza qzd (Or.inl ⟨by rfl, ?_⟩) ?_ ?_
      rotate_left
      {
      intro w'
      go_simp
      with_reducible rfl
      }
      rotate_left
      {
      simp only [qzs]
      rfl
      }
      refine pure_ (i := 37) (N := some 47) (v := ?_) (a' := ?_) (bqz 48 274877906943) rfl rfl qza qzd (Or.inl ⟨by rfl, ?_⟩) ?_ ?_
      rotate_left
      {
      intro w'
      go_simp
      with_reducible rfl
      }
      rotate_left
      {
      simp only [qzs]
      rfl
      }
      refine pure_ (i := 38) (N := some 48) (v := ?_) (a' := ?_) (bqz 48 549755813887) rfl rfl qza qzd (Or.inl ⟨by rfl, ?_⟩) ?_ ?_
      rotate_left
      {
      intro w'
      go_simp
      with_reducible rfl
      }
      rotate_left
      {
      simp only [qzs]
      rfl
      }
      refine pure_ (i := 40) (N := some 50) (v := ?_) (a' := ?_) (bqz 48 1649267441663) rfl rfl qza qzd (Or.inl ⟨by rfl, ?_⟩) ?_ ?_
      rotate_left
      {
      intro w'
      go_simp
      with_reducible rfl
      }
      rotate_left
      {
      simp only [qzs]
      rfl
      }
      refine pure_ (i := 41) (N := some 51) (v := ?_) (a' := ?_) (bqz 48 3848290697215) rfl rfl qza qzd (Or.inl ⟨by rfl, ?_⟩) ?_ ?_
      rotate_left
      {
      intro w'
      go_simp
      with_reducible rfl
      }
      rotate_left
      {
      simp only [qzs]
      rfl
      }
      refine pure_ (i := 42) (N := some 52) (v := ?_) (a' := ?_) (bqz 48 8246337208319) rfl rfl qza qzd (Or.inl ⟨by rfl, ?_⟩) ?_ ?_
      rotate_left
      {
      intro w'
      go_simp
      with_reducible rfl
      }
      rotate_left
      {
      simp only [qzs]
      rfl
      }
      refine pure_ (i := 43) (N := some 53) (v := ?_) (a' := ?_) (bqz 48 17042430230527) rfl rfl qza qzd (Or.inl ⟨by rfl, ?_⟩) ?_ ?_
      rotate_left
      {
      intro w'
      go_simp
      with_reducible rfl
      }
      rotate_left
      {
      simp only [qzs]
      rfl
      }
      refine take_ (i := 39) (N := some 49) (v := ?_) (a' := ?_) (bqz 48 17592186044415) rfl rfl qzb qzd (Or.inl ⟨by rfl, ?_⟩) hHeld ?_ ?_
      rotate_left
      {
      rintro w' ⟨s0, s1, s2, s3, s4, s5, s6, s7, s8, s9, s10, s11, s12, s13, s14, s15, s16, s17⟩
      go_simp
      with_reducible rfl
      }
      rotate_left
      {
      simp only [qzs]
      rfl
      }
      refine take_ (i := 44) (N := some 54) (v := ?_) (a' := ?_) (bqz 48 35184372088831) rfl rfl qzb qzd (Or.inl ⟨by rfl, ?_⟩) hHeld ?_ ?_
      rotate_left
      {
      rintro w' ⟨s0, s1, s2, s3, s4, s5, s6, s7, s8, s9, s10, s11, s12, s13, s14, s15, s16, s17⟩
      go_simp
      with_reducible rfl
      }
      rotate_left
      {
      simp only [qzs]
      rfl
      }
      refine pure_ (i := 45) (N := some 55) (v := ?_) (a' := ?_) (bqz 48 70368744177663) rfl rfl qza qzd (Or.inl ⟨by rfl, ?_⟩) ?_ ?_
      rotate_left
      {
      intro w'
      go_simp
      with_reducible rfl
      }
      rotate_left
      {
      simp only [qzs]
      rfl
      }
      refine pure_ (i := 46) (N := some 56) (v := ?_) (a' := ?_) (bqz 48 140737488355327) rfl rfl qza qzd (Or.inl ⟨by rfl, ?_⟩) ?_ ?_
      rotate_left
      {
      intro w'
      go_simp
      with_reducible rfl
      }
      rotate_left
      {
      simp only [qzs]
      rfl
      }
      refine pure_ (i := 47) (N := some 57) (v := ?_) (a' := ?_) (bqz 48 281474976710655) rfl rfl qza qzd (Or.inl ⟨by rfl, ?_⟩) ?_ ?_
      rotate_left
      {
      intro w'
      go_simp
      with_reducible rfl
      }
      rotate_left
      {
      simp only [qzs]
      rfl
      }
      refine done_ (done_of HT_.out (by kernel_rfl)) ?_
      try go_wp2
      go_ret
      exact ⟨by first | rfl | (simp [errW_none, errW_some] <;> rfl) | (simp only [← hji11]; first | rfl | (simp [errW_none, errW_some] <;> rfl)) | (simp [*, errW_none, errW_some] <;> rfl), by repeat (first | (with_reducible first | exact HB.out | apply below_alloc | apply pw_below_drewN | apply below_drew1) | exact HB.out)⟩
      }
      {
      rw [if_neg c14] at H
      have c14b0 : decide (((rd_T72 l0 x3_1).f0) ≤ ((rd_T72 l0 (ji11)).f0)) = false := decide_eq_false c14
      clear c14
      have H' := Aside0.mk H
      clear H
      try go_wp2
      have n0_ := Aside0.mk (below_drew1 HB.out)
      clear HB
      have HB := n0_
      clear n0_
      have p143 : 0 ≤ (x3_1 : Int) := of_decide_eq_true qz3
      have q143 : x3_1 < (l0.length : Int) := of_decide_eq_true qz3
      obtain ⟨ad143, e143, hx143_0, hx143_1, hx143_2⟩ := at_T72 HR0.out x3_1 p143 q143
      have hw143_2 := hx143_2
      have hw143_1 := hx143_1
      have hw143_0 := hx143_0
      cases e143
      replace hx143_0 := (HB.out.cell (World.block_lt_of_cell? w _ hx143_0)).trans hx143_0
      replace hx143_1 := (HB.out.cell (World.block_lt_of_cell? w _ hx143_1)).trans hx143_1
      replace hx143_2 := (HB.out.cell (World.block_lt_of_cell? w _ hx143_2)).trans hx143_2
      replace p143 := eq_true p143
      replace q143 := eq_true q143
      have p145 : 0 ≤ (x3_1 : Int) := of_decide_eq_true qz3
      have q145 : x3_1 < (l0.length : Int) := of_decide_eq_true qz3
      obtain ⟨ad145, e145, hx145_0, hx145_1, hx145_2⟩ := at_T72 HR0.out x3_1 p145 q145
      have hw145_2 := hx145_2
      have hw145_1 := hx145_1
      have hw145_0 := hx145_0
      obtain rfl : ad143 = ad145 := (by injection e145)
      replace hx145_0 := (HB.out.cell (World.block_lt_of_cell? w _ hx145_0)).trans hx145_0
      replace hx145_1 := (HB.out.cell (World.block_lt_of_cell? w _ hx145_1)).trans hx145_1
      replace hx145_2 := (HB.out.cell (World.block_lt_of_cell? w _ hx145_2)).trans hx145_2
      replace p145 := eq_true p145
      replace q145 := eq_true q145
      have p147 : 0 ≤ (x3_1 : Int) := of_decide_eq_true qz3
      have q147 : x3_1 < (l0.length : Int) := of_decide_eq_true qz3
      obtain ⟨ad147, e147, hx147_0, hx147_1, hx147_2⟩ := at_T72 HR0.out x3_1 p147 q147
      have hw147_2 := hx147_2
      have hw147_1 := hx147_1
      have hw147_0 := hx147_0
      obtain rfl : ad143 = ad147 := (by injection e147)
      replace hx147_0 := (HB.out.cell (World.block_lt_of_cell? w _ hx147_0)).trans hx147_0
      replace hx147_1 := (HB.out.cell (World.block_lt_of_cell? w _ hx147_1)).trans hx147_1
      replace hx147_2 := (HB.out.cell (World.block_lt_of_cell? w _ hx147_2)).trans hx147_2
      replace p147 := eq_true p147
      replace q147 := eq_true q147
      have p148 : 0 ≤ (x3_1 : Int) := of_decide_eq_true qz3
      have q148 : x3_1 < (l0.length : Int) := of_decide_eq_true qz3
      obtain ⟨ad148, e148, hx148_0, hx148_1, hx148_2⟩ := at_T72 HR0.out x3_1 p148 q148
      have hw148_2 := hx148_2
      have hw148_1 := hx148_1
      have hw148_0 := hx148_0
      obtain rfl : ad143 = ad148 := (by injection e148)
      replace hx148_0 := (HB.out.cell (World.block_lt_of_cell? w _ hx148_0)).trans hx148_0
      replace hx148_1 := (HB.out.cell (World.block_lt_of_cell? w _ hx148_1)).trans hx148_1
      replace hx148_2 := (HB.out.cell (World.block_lt_of_cell? w _ hx148_2)).trans hx148_2
      replace p148 := eq_true p148
      replace q148 := eq_true q148
      have p150 : 0 ≤ ((ji11) : Int) := of_decide_eq_true qz3
      have q150 : (ji11) < (l0.length : Int) := of_decide_eq_true qz3
      obtain ⟨ad150, e150, hx150_0, hx150_1, hx150_2⟩ := at_T72 HR0.out (ji11) p150 q150
      have hw150_2 := hx150_2
      have hw150_1 := hx150_1
      have hw150_0 := hx150_0
      obtain rfl : ad143 = ad150 := (by injection e150)
      replace hx150_0 := (HB.out.cell (World.block_lt_of_cell? w _ hx150_0)).trans hx150_0
      replace hx150_1 := (HB.out.cell (World.block_lt_of_cell? w _ hx150_1)).trans hx150_1
      replace hx150_2 := (HB.out.cell (World.block_lt_of_cell? w _ hx150_2)).trans hx150_2
      replace p150 := eq_true p150
      replace q150 := eq_true q150
      have p151 : 0 ≤ (x3_1 : Int) := of_decide_eq_true qz3
      have q151 : x3_1 < (l0.length : Int) := of_decide_eq_true qz3
      obtain ⟨ad151, e151, hx151_0, hx151_1, hx151_2⟩ := at_T72 HR0.out x3_1 p151 q151
      have hw151_2 := hx151_2
      have hw151_1 := hx151_1
      have hw151_0 := hx151_0
      obtain rfl : ad143 = ad151 := (by injection e151)
      replace hx151_0 := (HB.out.cell (World.block_lt_of_cell? w _ hx151_0)).trans hx151_0
      replace hx151_1 := (HB.out.cell (World.block_lt_of_cell? w _ hx151_1)).trans hx151_1
      replace hx151_2 := (HB.out.cell (World.block_lt_of_cell? w _ hx151_2)).trans hx151_2
      replace p151 := eq_true p151
      replace q151 := eq_true q151
      refine start_ (n := 48) (S := fun w' => w'.cell? (ad143.add ((x3_1).toNat * 3)) = some (.int .i64 ((rd_T72 l0 x3_1).f0)) ∧ w'.cell? ⟨(ad143.add ((x3_1).toNat * 3)).block, (ad143.add ((x3_1).toNat * 3)).off + 1, none⟩ = some (.int .i64 ((rd_T72 l0 x3_1).f1)) ∧ w'.cell? ⟨(ad143.add ((x3_1).toNat * 3)).block, (ad143.add ((x3_1).toNat * 3)).off + 2, none⟩ = some (.int .i64 ((rd_T72 l0 x3_1).f2)) ∧ w'.cell? (ad143.add ((x3_1).toNat * 3)) = some (.int .i64 ((rd_T72 l0 x3_1).f0)) ∧ w'.cell? ⟨(ad143.add ((x3_1).toNat * 3)).block, (ad143.add ((x3_1).toNat * 3)).off + 1, none⟩ = some (.int .i64 ((rd_T72 l0 x3_1).f1)) ∧ w'.cell? ⟨(ad143.add ((x3_1).toNat * 3)).block, (ad143.add ((x3_1).toNat * 3)).off + 2, none⟩ = some (.int .i64 ((rd_T72 l0 x3_1).f2)) ∧ w'.cell? (ad143.add ((x3_1).toNat * 3)) = some (.int .i64 ((rd_T72 l0 x3_1).f0)) ∧ w'.cell? ⟨(ad143.add ((x3_1).toNat * 3)).block, (ad143.add ((x3_1).toNat * 3)).off + 1, none⟩ = some (.int .i64 ((rd_T72 l0 x3_1).f1)) ∧ w'.cell? ⟨(ad143.add ((x3_1).toNat * 3)).block, (ad143.add ((x3_1).toNat * 3)).off + 2, none⟩ = some (.int .i64 ((rd_T72 l0 x3_1).f2)) ∧ w'.cell? (ad143.add ((x3_1).toNat * 3)) = some (.int .i64 ((rd_T72 l0 x3_1).f0)) ∧ w'.cell? ⟨(ad143.add ((x3_1).toNat * 3)).block, (ad143.add ((x3_1).toNat * 3)).off + 1, none⟩ = some (.int .i64 ((rd_T72 l0 x3_1).f1)) ∧ w'.cell? ⟨(ad143.add ((x3_1).toNat * 3)).block, (ad143.add ((x3_1).toNat * 3)).off + 2, none⟩ = some (.int .i64 ((rd_T72 l0 x3_1).f2)) ∧ w'.cell? (ad143.add (((ji11)).toNat * 3)) = some (.int .i64 ((rd_T72 l0 (ji11)).f0)) ∧ w'.cell? ⟨(ad143.add (((ji11)).toNat * 3)).block, (ad143.add (((ji11)).toNat * 3)).off + 1, none⟩ = some (.int .i64 ((rd_T72 l0 (ji11)).f1)) ∧ w'.cell? ⟨(ad143.add (((ji11)).toNat * 3)).block, (ad143.add (((ji11)).toNat * 3)).off + 2, none⟩ = some (.int .i64 ((rd_T72 l0 (ji11)).f2)) ∧ w'.cell? (ad143.add ((x3_1).toNat * 3)) = some (.int .i64 ((rd_T72 l0 x3_1).f0)) ∧ w'.cell? ⟨(ad143.add ((x3_1).toNat * 3)).block, (ad143.add ((x3_1).toNat * 3)).off + 1, none⟩ = some (.int .i64 ((rd_T72 l0 x3_1).f1)) ∧ w'.cell? ⟨(ad143.add ((x3_1).toNat * 3)).block, (ad143.add ((x3_1).toNat * 3)).off + 2, none⟩ = some (.int .i64 ((rd_T72 l0 x3_1).f2))) (ds := []) #[false, false, false, false, false, false, false, false, false, false, false, false, false, false, false, false, false, false, false, false, false, false, false, false, false, false, false, false, false, false, false, false, false, false, false, false, false, false, false, false, false, false, false, false, false, false, false, false] (by kernel_rfl) rfl rfl ⟨((HB.out.cell (World.block_lt_of_cell? w _ hw143_0)).trans hw143_0), ((HB.out.cell (World.block_lt_of_cell? w _ hw143_1)).trans hw143_1), ((HB.out.cell (World.block_lt_of_cell? w _ hw143_2)).trans hw143_2), ((HB.out.cell (World.block_lt_of_cell? w _ hw145_0)).trans hw145_0), ((HB.out.cell (World.block_lt_of_cell? w _ hw145_1)).trans hw145_1), ((HB.out.cell (World.block_lt_of_cell? w _ hw145_2)).trans hw145_2), ((HB.out.cell (World.block_lt_of_cell? w _ hw147_0)).trans hw147_0), ((HB.out.cell (World.block_lt_of_cell? w _ hw147_1)).trans hw147_1), ((HB.out.cell (World.block_lt_of_cell? w _ hw147_2)).trans hw147_2), ((HB.out.cell (World.block_lt_of_cell? w _ hw148_0)).trans hw148_0), ((HB.out.cell (World.block_lt_of_cell? w _ hw148_1)).trans hw148_1), ((HB.out.cell (World.block_lt_of_cell? w _ hw148_2)).trans hw148_2), ((HB.out.cell (World.block_lt_of_cell? w _ hw150_0)).trans hw150_0), ((HB.out.cell (World.block_lt_of_cell? w _ hw150_1)).trans hw150_1), ((HB.out.cell (World.block_lt_of_cell? w _ hw150_2)).trans hw150_2), ((HB.out.cell (World.block_lt_of_cell? w _ hw151_0)).trans hw151_0), ((HB.out.cell (World.block_lt_of_cell? w _ hw151_1)).trans hw151_1), ((HB.out.cell (World.block_lt_of_cell? w _ hw151_2)).trans hw151_2)⟩ (fun hHeld => ?_); refine with_tabW spec_l5Stacks.tab4 spec_l5Stacks.bits4 (fun HT_ HW_ => ?_)
      generalize wr.drew = w16 at HB hx143_0 hx143_1 hx143_2 hx145_0 hx145_1 hx145_2 hx147_0 hx147_1 hx147_2 hx148_0 hx148_1 hx148_2 hx150_0 hx150_1 hx150_2 hx151_0 hx151_1 hx151_2 hHeld ⊢
      refine pure_ (i := 0) (N := some 10) (v := ?_) (a' := ?_) (bqz 48 1) rfl rfl qza qzd (Or.inl ⟨by rfl, ?_⟩) ?_ ?_
      rotate_left
      {
      intro w'
      go_simp
      with_reducible rfl
      }
      rotate_left
      {
      simp only [qzs]
      rfl
      }
      refine pure_ (i := 1) (N := some 11) (v := ?_) (a' := ?_) (bqz 48 3) rfl rfl qza qzd (Or.inl ⟨by rfl, ?_⟩) ?_ ?_
      rotate_left
      {
      intro w'
      go_simp
      with_reducible rfl
      }
      rotate_left
      {
      simp only [qzs]
      rfl
      }
      refine pure_ (i := 2) (N := some 12) (v := ?_) (a' := ?_) (bqz 48 7) rfl rfl qza qzd (Or.inl ⟨by rfl, ?_⟩) ?_ ?_
      rotate_left
      {
      intro w'
      go_simp
      with_reducible rfl
      }
      rotate_left
      {
      simp only [qzs]
      rfl
      }
      refine pure_ (i := 3) (N := some 13) (v := ?_) (a' := ?_) (bqz 48 15) rfl rfl qza qzd (Or.inl ⟨by rfl, ?_⟩) ?_ ?_
      rotate_left
      {
      intro w'
      go_simp
      with_reducible rfl
      }
      rotate_left
      {
      simp only [qzs]
      rfl
      }
      refine take_ (i := 4) (N := some 14) (v := ?_) (a' := ?_) (bqz 48 31) rfl rfl qzb qzd (Or.inl ⟨by rfl, ?_⟩) hHeld ?_ ?_
      rotate_left
      {
      rintro w' ⟨s0, s1, s2, s3, s4, s5, s6, s7, s8, s9, s10, s11, s12, s13, s14, s15, s16, s17⟩
      go_simp
      with_reducible rfl
      }
      rotate_left
      {
      simp only [qzs]
      rfl
      }
      refine one_ (i := 5) (N := some 15) (bqz 48 63) rfl rfl qzc (by decide) (fun K hK => ?_)
      refine goes_ Try.func81 (by kernel_rfl) rfl #[.int .i64 ((rd_T72 l0 x3_1).f0), .int .i64 1, .int .i64 50] (by rfl) rfl rfl qz2 ?_
      with_reducible refine (spec_l1In.calls ((rd_T72 l0 x3_1).f0) 1 50 true _ A4.out).mono ?_
      rintro e w' ⟨rfl, ⟨nd, rfl⟩⟩
      refine ⟨_, rfl, ?_⟩
      refine hK.out _ _ ⟨((HB.out.cell (World.block_lt_of_cell? w _ hw143_0)).trans hw143_0), ((HB.out.cell (World.block_lt_of_cell? w _ hw143_1)).trans hw143_1), ((HB.out.cell (World.block_lt_of_cell? w _ hw143_2)).trans hw143_2), ((HB.out.cell (World.block_lt_of_cell? w _ hw145_0)).trans hw145_0), ((HB.out.cell (World.block_lt_of_cell? w _ hw145_1)).trans hw145_1), ((HB.out.cell (World.block_lt_of_cell? w _ hw145_2)).trans hw145_2), ((HB.out.cell (World.block_lt_of_cell? w _ hw147_0)).trans hw147_0), ((HB.out.cell (World.block_lt_of_cell? w _ hw147_1)).trans hw147_1), ((HB.out.cell (World.block_lt_of_cell? w _ hw147_2)).trans hw147_2), ((HB.out.cell (World.block_lt_of_cell? w _ hw148_0)).trans hw148_0), ((HB.out.cell (World.block_lt_of_cell? w _ hw148_1)).trans hw148_1), ((HB.out.cell (World.block_lt_of_cell? w _ hw148_2)).trans hw148_2), ((HB.out.cell (World.block_lt_of_cell? w _ hw150_0)).trans hw150_0), ((HB.out.cell (World.block_lt_of_cell? w _ hw150_1)).trans hw150_1), ((HB.out.cell (World.block_lt_of_cell? w _ hw150_2)).trans hw150_2), ((HB.out.cell (World.block_lt_of_cell? w _ hw151_0)).trans hw151_0), ((HB.out.cell (World.block_lt_of_cell? w _ hw151_1)).trans hw151_1), ((HB.out.cell (World.block_lt_of_cell? w _ hw151_2)).trans hw151_2)⟩ (fun hHeld => ?_)
      clear hK K
      refine norm_ (a' := ?_) ?_ ?_
      rotate_left
      {
      show Act.put _ (some 15) _ = _
      simp only [qzs]
      rfl
      }
      refine pure_ (i := 6) (N := some 16) (v := ?_) (a' := ?_) (bqz 48 127) rfl rfl qza qzd (Or.inl ⟨by rfl, ?_⟩) ?_ ?_
      rotate_left
      {
      intro w'
      go_simp
      with_reducible rfl
      }
      rotate_left
      {
      simp only [qzs]
      rfl
      }
      refine pure_ (i := 7) (N := some 17) (v := ?_) (a' := ?_) (bqz 48 255) rfl rfl qza qzd (Or.inl ⟨by rfl, ?_⟩) ?_ ?_
      rotate_left
      {
      intro w'
      go_simp
      with_reducible rfl
      }
      rotate_left
      {
      simp only [qzs]
      rfl
      }
      refine pure_ (i := 8) (N := some 18) (v := ?_) (a' := ?_) (bqz 48 511) rfl rfl qza qzd (Or.inl ⟨by rfl, ?_⟩) ?_ ?_
      rotate_left
      {
      intro w'
      go_simp
      with_reducible rfl
      }
      rotate_left
      {
      simp only [qzs]
      rfl
      }
      refine pure_ (i := 9) (N := some 19) (v := ?_) (a' := ?_) (bqz 48 1023) rfl rfl qza qzd (Or.inl ⟨by rfl, ?_⟩) ?_ ?_
      rotate_left
      {
      intro w'
      go_simp
      with_reducible rfl
      }
      rotate_left
      {
      simp only [qzs]
      rfl
      }
      refine pure_ (i := 10) (N := some 20) (v := ?_) (a' := ?_) (bqz 48 2047) rfl rfl qza qzd (Or.inl ⟨by rfl, ?_⟩) ?_ ?_
      rotate_left
      {
      intro w'
      go_simp
      with_reducible rfl
      }
      rotate_left
      {
      simp only [qzs]
      rfl
      }
      refine pure_ (i := 11) (N := some 21) (v := ?_) (a' := ?_) (bqz 48 4095) rfl rfl qza qzd (Or.inl ⟨by rfl, ?_⟩) ?_ ?_
      rotate_left
      {
      intro w'
      go_simp
      with_reducible rfl
      }
      rotate_left
      {
      simp only [qzs]
      rfl
      }
      refine take_ (i := 12) (N := some 22) (v := ?_) (a' := ?_) (bqz 48 8191) rfl rfl qzb qzd (Or.inl ⟨by rfl, ?_⟩) hHeld ?_ ?_
      rotate_left
      {
      rintro w' ⟨s0, s1, s2, s3, s4, s5, s6, s7, s8, s9, s10, s11, s12, s13, s14, s15, s16, s17⟩
      go_simp
      with_reducible rfl
      }
      rotate_left
      {
      simp only [qzs]
      rfl
      }
      refine one_ (i := 13) (N := some 23) (bqz 48 16383) rfl rfl qzc (by decide) (fun K hK => ?_)
      refine goes_ Try.func81 (by kernel_rfl) rfl #[.int .i64 ((rd_T72 l0 x3_1).f1), .int .i64 1, .int .i64 1000] (by rfl) rfl rfl qz2 ?_
      with_reducible refine (spec_l1In.calls ((rd_T72 l0 x3_1).f1) 1 1000 true _ A6.out).mono ?_
      rintro e w' ⟨rfl, ⟨nd, rfl⟩⟩
      refine ⟨_, rfl, ?_⟩
      refine hK.out _ _ ⟨((HB.out.cell (World.block_lt_of_cell? w _ hw143_0)).trans hw143_0), ((HB.out.cell (World.block_lt_of_cell? w _ hw143_1)).trans hw143_1), ((HB.out.cell (World.block_lt_of_cell? w _ hw143_2)).trans hw143_2), ((HB.out.cell (World.block_lt_of_cell? w _ hw145_0)).trans hw145_0), ((HB.out.cell (World.block_lt_of_cell? w _ hw145_1)).trans hw145_1), ((HB.out.cell (World.block_lt_of_cell? w _ hw145_2)).trans hw145_2), ((HB.out.cell (World.block_lt_of_cell? w _ hw147_0)).trans hw147_0), ((HB.out.cell (World.block_lt_of_cell? w _ hw147_1)).trans hw147_1), ((HB.out.cell (World.block_lt_of_cell? w _ hw147_2)).trans hw147_2), ((HB.out.cell (World.block_lt_of_cell? w _ hw148_0)).trans hw148_0), ((HB.out.cell (World.block_lt_of_cell? w _ hw148_1)).trans hw148_1), ((HB.out.cell (World.block_lt_of_cell? w _ hw148_2)).trans hw148_2), ((HB.out.cell (World.block_lt_of_cell? w _ hw150_0)).trans hw150_0), ((HB.out.cell (World.block_lt_of_cell? w _ hw150_1)).trans hw150_1), ((HB.out.cell (World.block_lt_of_cell? w _ hw150_2)).trans hw150_2), ((HB.out.cell (World.block_lt_of_cell? w _ hw151_0)).trans hw151_0), ((HB.out.cell (World.block_lt_of_cell? w _ hw151_1)).trans hw151_1), ((HB.out.cell (World.block_lt_of_cell? w _ hw151_2)).trans hw151_2)⟩ (fun hHeld => ?_)
      clear hK K
      refine norm_ (a' := ?_) ?_ ?_
      rotate_left
      {
      show Act.put _ (some 23) _ = _
      simp only [qzs]
      rfl
      }
      refine pure_ (i := 14) (N := some 24) (v := ?_) (a' := ?_) (bqz 48 32767) rfl rfl qza qzd (Or.inl ⟨by rfl, ?_⟩) ?_ ?_
      rotate_left
      {
      intro w'
      go_simp
      with_reducible rfl
      }
      rotate_left
      {
      simp only [qzs]
      rfl
      }
      refine pure_ (i := 15) (N := some 25) (v := ?_) (a' := ?_) (bqz 48 65535) rfl rfl qza qzd (Or.inl ⟨by rfl, ?_⟩) ?_ ?_
      rotate_left
      {
      intro w'
      go_simp
      with_reducible rfl
      }
      rotate_left
      {
      simp only [qzs]
      rfl
      }
      refine pure_ (i := 16) (N := some 26) (v := ?_) (a' := ?_) (bqz 48 131071) rfl rfl qza qzd (Or.inl ⟨by rfl, ?_⟩) ?_ ?_
      rotate_left
      {
      intro w'
      go_simp
      with_reducible rfl
      }
      rotate_left
      {
      simp only [qzs]
      rfl
      }
      refine pure_ (i := 17) (N := some 27) (v := ?_) (a' := ?_) (bqz 48 262143) rfl rfl qza qzd (Or.inl ⟨by rfl, ?_⟩) ?_ ?_
      rotate_left
      {
      intro w'
      go_simp
      with_reducible rfl
      }
      rotate_left
      {
      simp only [qzs]
      rfl
      }
      refine pure_ (i := 18) (N := some 28) (v := ?_) (a' := ?_) (bqz 48 524287) rfl rfl qza qzd (Or.inl ⟨by rfl, ?_⟩) ?_ ?_
      rotate_left
      {
      intro w'
      go_simp
      with_reducible rfl
      }
      rotate_left
      {
      simp only [qzs]
      rfl
      }
      refine pure_ (i := 19) (N := some 29) (v := ?_) (a' := ?_) (bqz 48 1048575) rfl rfl qza qzd (Or.inl ⟨by rfl, ?_⟩) ?_ ?_
      rotate_left
      {
      intro w'
      go_simp
      with_reducible rfl
      }
      rotate_left
      {
      simp only [qzs]
      rfl
      }
      refine pure_ (i := 20) (N := some 30) (v := ?_) (a' := ?_) (bqz 48 2097151) rfl rfl qza qzd (Or.inl ⟨by rfl, ?_⟩) ?_ ?_
      rotate_left
      {
      intro w'
      go_simp
      with_reducible rfl
      }
      rotate_left
      {
      simp only [qzs]
      rfl
      }
      refine pure_ (i := 22) (N := some 32) (v := ?_) (a' := ?_) (bqz 48 6291455) rfl rfl qza qzd (Or.inl ⟨by rfl, ?_⟩) ?_ ?_
      rotate_left
      {
      intro w'
      go_simp
      with_reducible rfl
      }
      rotate_left
      {
      simp only [qzs]
      rfl
      }
      refine pure_ (i := 23) (N := some 33) (v := ?_) (a' := ?_) (bqz 48 14680063) rfl rfl qza qzd (Or.inl ⟨by rfl, ?_⟩) ?_ ?_
      rotate_left
      {
      intro w'
      go_simp
      with_reducible rfl
      }
      rotate_left
      {
      simp only [qzs]
      rfl
      }
      refine pure_ (i := 24) (N := some 34) (v := ?_) (a' := ?_) (bqz 48 31457279) rfl rfl qza qzd (Or.inl ⟨by rfl, ?_⟩) ?_ ?_
      rotate_left
      {
      intro w'
      go_simp
      with_reducible rfl
      }
      rotate_left
      {
      simp only [qzs]
      rfl
      }
      refine pure_ (i := 25) (N := some 35) (v := ?_) (a' := ?_) (bqz 48 65011711) rfl rfl qza qzd (Or.inl ⟨by rfl, ?_⟩) ?_ ?_
      rotate_left
      {
      intro w'
      go_simp
      with_reducible rfl
      }
      rotate_left
      {
      simp only [qzs]
      rfl
      }
      refine take_ (i := 21) (N := some 31) (v := ?_) (a' := ?_) (bqz 48 67108863) rfl rfl qzb qzd (Or.inl ⟨by rfl, ?_⟩) hHeld ?_ ?_
      rotate_left
      {
      rintro w' ⟨s0, s1, s2, s3, s4, s5, s6, s7, s8, s9, s10, s11, s12, s13, s14, s15, s16, s17⟩
      go_simp
      with_reducible rfl
      }
      rotate_left
      {
      simp only [qzs]
      rfl
      }
      refine take_ (i := 26) (N := some 36) (v := ?_) (a' := ?_) (bqz 48 134217727) rfl rfl qzb qzd (Or.inl ⟨by rfl, ?_⟩) hHeld ?_ ?_
      rotate_left
      {
      rintro w' ⟨s0, s1, s2, s3, s4, s5, s6, s7, s8, s9, s10, s11, s12, s13, s14, s15, s16, s17⟩
      go_simp
      with_reducible rfl
      }
      rotate_left
      {
      simp only [qzs]
      rfl
      }
      refine one_ (i := 27) (N := some 37) (bqz 48 268435455) rfl rfl qzc (by decide) (fun K hK => ?_)
      refine goes_ Try.func81 (by kernel_rfl) rfl #[.int .i64 ((rd_T72 l0 x3_1).f2), .int .i64 0, .int .i64 ((rd_T72 l0 x3_1).f1)] (by rfl) rfl rfl qz2 ?_
      with_reducible refine (spec_l1In.calls ((rd_T72 l0 x3_1).f2) 0 ((rd_T72 l0 x3_1).f1) true _ A8.out).mono ?_
      rintro e w' ⟨rfl, ⟨nd, rfl⟩⟩
      refine ⟨_, rfl, ?_⟩
      refine hK.out _ _ ⟨((HB.out.cell (World.block_lt_of_cell? w _ hw143_0)).trans hw143_0), ((HB.out.cell (World.block_lt_of_cell? w _ hw143_1)).trans hw143_1), ((HB.out.cell (World.block_lt_of_cell? w _ hw143_2)).trans hw143_2), ((HB.out.cell (World.block_lt_of_cell? w _ hw145_0)).trans hw145_0), ((HB.out.cell (World.block_lt_of_cell? w _ hw145_1)).trans hw145_1), ((HB.out.cell (World.block_lt_of_cell? w _ hw145_2)).trans hw145_2), ((HB.out.cell (World.block_lt_of_cell? w _ hw147_0)).trans hw147_0), ((HB.out.cell (World.block_lt_of_cell? w _ hw147_1)).trans hw147_1), ((HB.out.cell (World.block_lt_of_cell? w _ hw147_2)).trans hw147_2), ((HB.out.cell (World.block_lt_of_cell? w _ hw148_0)).trans hw148_0), ((HB.out.cell (World.block_lt_of_cell? w _ hw148_1)).trans hw148_1), ((HB.out.cell (World.block_lt_of_cell? w _ hw148_2)).trans hw148_2), ((HB.out.cell (World.block_lt_of_cell? w _ hw150_0)).trans hw150_0), ((HB.out.cell (World.block_lt_of_cell? w _ hw150_1)).trans hw150_1), ((HB.out.cell (World.block_lt_of_cell? w _ hw150_2)).trans hw150_2), ((HB.out.cell (World.block_lt_of_cell? w _ hw151_0)).trans hw151_0), ((HB.out.cell (World.block_lt_of_cell? w _ hw151_1)).trans hw151_1), ((HB.out.cell (World.block_lt_of_cell? w _ hw151_2)).trans hw151_2)⟩ (fun hHeld => ?_)
      clear hK K
      refine norm_ (a' := ?_) ?_ ?_
      rotate_left
      {
      show Act.put _ (some 37) _ = _
      simp only [qzs]
      rfl
      }
      refine pure_ (i := 28) (N := some 38) (v := ?_) (a' := ?_) (bqz 48 536870911) rfl rfl qza qzd (Or.inl ⟨by rfl, ?_⟩) ?_ ?_
      rotate_left
      {
      intro w'
      go_simp
      with_reducible rfl
      }
      rotate_left
      {
      simp only [qzs]
      rfl
      }
      refine pure_ (i := 29) (N := some 39) (v := ?_) (a' := ?_) (bqz 48 1073741823) rfl rfl qza qzd (Or.inl ⟨by rfl, ?_⟩) ?_ ?_
      rotate_left
      {
      intro w'
      go_simp
      with_reducible rfl
      }
      rotate_left
      {
      simp only [qzs]
      rfl
      }
      refine pure_ (i := 30) (N := some 40) (v := ?_) (a' := ?_) (bqz 48 2147483647) rfl rfl qza qzd (Or.inl ⟨by rfl, ?_⟩) ?_ ?_
      rotate_left
      {
      intro w'
      go_simp
      with_reducible rfl
      }
      rotate_left
      {
      simp only [qzs]
      rfl
      }
      refine pure_ (i := 31) (N := some 41) (v := ?_) (a' := ?_) (bqz 48 4294967295) rfl rfl qza qzd (Or.inl ⟨by rfl, ?_⟩) ?_ ?_
      rotate_left
      {
      intro w'
      go_simp
      with_reducible rfl
      }
      rotate_left
      {
      simp only [qzs]
      rfl
      }
      refine pure_ (i := 32) (N := some 42) (v := ?_) (a' := ?_) (bqz 48 8589934591) rfl rfl qza qzd (Or.inl ⟨by rfl, ?_⟩) ?_ ?_
      rotate_left
      {
      intro w'
      go_simp
      with_reducible rfl
      }
      rotate_left
      {
      simp only [qzs]
      rfl
      }
      refine pure_ (i := 33) (N := some 43) (v := ?_) (a' := ?_) (bqz 48 17179869183) rfl rfl qza qzd (Or.inl ⟨by rfl, ?_⟩) ?_ ?_
      rotate_left
      {
      intro w'
      go_simp
      with_reducible rfl
      }
      rotate_left
      {
      simp only [qzs]
      rfl
      }
      refine pure_ (i := 34) (N := some 44) (v := ?_) (a' := ?_) (bqz 48 34359738367) rfl rfl qza qzd (Or.inl ⟨by rfl, ?_⟩) ?_ ?_
      rotate_left
      {
      intro w'
      go_simp
      with_reducible rfl
      }
      rotate_left
      {
      simp only [qzs]
      rfl
      }
      refine pure_ (i := 35) (N := some 45) (v := ?_) (a' := ?_) (bqz 48 68719476735) rfl rfl qza qzd (Or.inl ⟨by rfl, ?_⟩) ?_ ?_
      rotate_left
      {
      intro w'
      go_simp
      with_reducible rfl
      }
      rotate_left
      {
      simp only [qzs]
      rfl
      }
      refine pure_ (i := 36) (N := some 46) (v := ?_) (a' := ?_) (bqz 48 137438953471) rfl rfl qza qzd (Or.inl ⟨by rfl, ?_⟩) ?_ ?_
      rotate_left
      {
      intro w'
      go_simp
      with_reducible rfl
      }
      rotate_left
      {
      simp only [qzs]
      rfl
      }
      refine pure_ (i := 37) (N := some 47) (v := ?_) (a' := ?_) (bqz 48 274877906943) rfl rfl qza qzd (Or.inl ⟨by rfl, ?_⟩) ?_ ?_
      rotate_left
      {
      intro w'
      go_simp
      with_reducible rfl
      }
      rotate_left
      {
      simp only [qzs]
      rfl
      }
      refine pure_ (i := 38) (N := some 48) (v := ?_) (a' := ?_) (bqz 48 549755813887) rfl rfl qza qzd (Or.inl ⟨by rfl, ?_⟩) ?_ ?_
      rotate_left
      {
      intro w'
      go_simp
      with_reducible rfl
      }
      rotate_left
      {
      simp only [qzs]
      rfl
      }
      refine pure_ (i := 40) (N := some 50) (v := ?_) (a' := ?_) (bqz 48 1649267441663) rfl rfl qza qzd (Or.inl ⟨by rfl, ?_⟩) ?_ ?_
      rotate_left
      {
      intro w'
      go_simp
      with_reducible rfl
      }
      rotate_left
      {
      simp only [qzs]
      rfl
      }
      refine pure_ (i := 41) (N := some 51) (v := ?_) (a' := ?_) (bqz 48 3848290697215) rfl rfl qza qzd (Or.inl ⟨by rfl, ?_⟩) ?_ ?_
      rotate_left
      {
      intro w'
      go_simp
      with_reducible rfl
      }
      rotate_left
      {
      simp only [qzs]
      rfl
      }
      refine pure_ (i := 42) (N := some 52) (v := ?_) (a' := ?_) (bqz 48 8246337208319) rfl rfl qza qzd (Or.inl ⟨by rfl, ?_⟩) ?_ ?_
      rotate_left
      {
      intro w'
      go_simp
      with_reducible rfl
      }
      rotate_left
      {
      simp only [qzs]
      rfl
      }
      refine pure_ (i := 43) (N := some 53) (v := ?_) (a' := ?_) (bqz 48 17042430230527) rfl rfl qza qzd (Or.inl ⟨by rfl, ?_⟩) ?_ ?_
      rotate_left
      {
      intro w'
      go_simp
      with_reducible rfl
      }
      rotate_left
      {
      simp only [qzs]
      rfl
      }
      refine take_ (i := 39) (N := some 49) (v := ?_) (a' := ?_) (bqz 48 17592186044415) rfl rfl qzb qzd (Or.inl ⟨by rfl, ?_⟩) hHeld ?_ ?_
      rotate_left
      {
      rintro w' ⟨s0, s1, s2, s3, s4, s5, s6, s7, s8, s9, s10, s11, s12, s13, s14, s15, s16, s17⟩
      go_simp
      with_reducible rfl
      }
      rotate_left
      {
      simp only [qzs]
      rfl
      }
      refine take_ (i := 44) (N := some 54) (v := ?_) (a' := ?_) (bqz 48 35184372088831) rfl rfl qzb qzd (Or.inl ⟨by rfl, ?_⟩) hHeld ?_ ?_
      rotate_left
      {
      rintro w' ⟨s0, s1, s2, s3, s4, s5, s6, s7, s8, s9, s10, s11, s12, s13, s14, s15, s16, s17⟩
      go_simp
      with_reducible rfl
      }
      rotate_left
      {
      simp only [qzs]
      rfl
      }
      refine pure_ (i := 45) (N := some 55) (v := ?_) (a' := ?_) (bqz 48 70368744177663) rfl rfl qza qzd (Or.inl ⟨by rfl, ?_⟩) ?_ ?_
      rotate_left
      {
      intro w'
      go_simp
      with_reducible rfl
      }
      rotate_left
      {
      simp only [qzs]
      rfl
      }
      refine pure_ (i := 46) (N := some 56) (v := ?_) (a' := ?_) (bqz 48 140737488355327) rfl rfl qza qzd (Or.inl ⟨by rfl, ?_⟩) ?_ ?_
      rotate_left
      {
      intro w'
      go_simp
      with_reducible rfl
      }
      rotate_left
      {
      simp only [qzs]
      rfl
      }
      refine pure_ (i := 47) (N := some 57) (v := ?_) (a' := ?_) (bqz 48 281474976710655) rfl rfl qza qzd (Or.inl ⟨by rfl, ?_⟩) ?_ ?_
      rotate_left
      {
      intro w'
      go_simp
      with_reducible rfl
      }
      rotate_left
      {
      simp only [qzs]
      rfl
      }
      refine done_ (done_of HT_.out (by kernel_rfl)) ?_
      try go_wp2
      go_roundg k1
      case measure => have := HK1.out; omega
      case rel => exact ⟨(wrap64 (x3_1 + 1)), qz6, H', ⟨by have := HK1.out; omega⟩, ⟨by repeat (first | (with_reducible first | exact HB.out | apply below_alloc | apply pw_below_drewN | apply below_drew1) | exact HB.out)⟩⟩
      }
      }
      {
      rw [if_neg c13] at H
      exact absurd H (by simp)
      }
      }
      {
      rw [if_neg c12] at H
      exact absurd H (by simp)
      }
      }
      {
      rw [if_neg c10] at H
      have c10b0 : decide (0 < x3_1) = false := decide_eq_false c10
      clear c10
      have H' := Aside0.mk H
      clear H
      try go_wp2
      have n0_ := Aside0.mk (below_drew1 HB.out)
      clear HB
      have HB := n0_
      clear n0_
      have p143 : 0 ≤ (x3_1 : Int) := of_decide_eq_true qz3
      have q143 : x3_1 < (l0.length : Int) := of_decide_eq_true qz3
      obtain ⟨ad143, e143, hx143_0, hx143_1, hx143_2⟩ := at_T72 HR0.out x3_1 p143 q143
      have hw143_2 := hx143_2
      have hw143_1 := hx143_1
      have hw143_0 := hx143_0
      cases e143
      replace hx143_0 := (HB.out.cell (World.block_lt_of_cell? w _ hx143_0)).trans hx143_0
      replace hx143_1 := (HB.out.cell (World.block_lt_of_cell? w _ hx143_1)).trans hx143_1
      replace hx143_2 := (HB.out.cell (World.block_lt_of_cell? w _ hx143_2)).trans hx143_2
      replace p143 := eq_true p143
      replace q143 := eq_true q143
      have p145 : 0 ≤ (x3_1 : Int) := of_decide_eq_true qz3
      have q145 : x3_1 < (l0.length : Int) := of_decide_eq_true qz3
      obtain ⟨ad145, e145, hx145_0, hx145_1, hx145_2⟩ := at_T72 HR0.out x3_1 p145 q145
      have hw145_2 := hx145_2
      have hw145_1 := hx145_1
      have hw145_0 := hx145_0
      obtain rfl : ad143 = ad145 := (by injection e145)
      replace hx145_0 := (HB.out.cell (World.block_lt_of_cell? w _ hx145_0)).trans hx145_0
      replace hx145_1 := (HB.out.cell (World.block_lt_of_cell? w _ hx145_1)).trans hx145_1
      replace hx145_2 := (HB.out.cell (World.block_lt_of_cell? w _ hx145_2)).trans hx145_2
      replace p145 := eq_true p145
      replace q145 := eq_true q145
      have p147 : 0 ≤ (x3_1 : Int) := of_decide_eq_true qz3
      have q147 : x3_1 < (l0.length : Int) := of_decide_eq_true qz3
      obtain ⟨ad147, e147, hx147_0, hx147_1, hx147_2⟩ := at_T72 HR0.out x3_1 p147 q147
      have hw147_2 := hx147_2
      have hw147_1 := hx147_1
      have hw147_0 := hx147_0
      obtain rfl : ad143 = ad147 := (by injection e147)
      replace hx147_0 := (HB.out.cell (World.block_lt_of_cell? w _ hx147_0)).trans hx147_0
      replace hx147_1 := (HB.out.cell (World.block_lt_of_cell? w _ hx147_1)).trans hx147_1
      replace hx147_2 := (HB.out.cell (World.block_lt_of_cell? w _ hx147_2)).trans hx147_2
      replace p147 := eq_true p147
      replace q147 := eq_true q147
      have p148 : 0 ≤ (x3_1 : Int) := of_decide_eq_true qz3
      have q148 : x3_1 < (l0.length : Int) := of_decide_eq_true qz3
      obtain ⟨ad148, e148, hx148_0, hx148_1, hx148_2⟩ := at_T72 HR0.out x3_1 p148 q148
      have hw148_2 := hx148_2
      have hw148_1 := hx148_1
      have hw148_0 := hx148_0
      obtain rfl : ad143 = ad148 := (by injection e148)
      replace hx148_0 := (HB.out.cell (World.block_lt_of_cell? w _ hx148_0)).trans hx148_0
      replace hx148_1 := (HB.out.cell (World.block_lt_of_cell? w _ hx148_1)).trans hx148_1
      replace hx148_2 := (HB.out.cell (World.block_lt_of_cell? w _ hx148_2)).trans hx148_2
      replace p148 := eq_true p148
      replace q148 := eq_true q148
      refine start_ (n := 48) (S := fun w' => w'.cell? (ad143.add ((x3_1).toNat * 3)) = some (.int .i64 ((rd_T72 l0 x3_1).f0)) ∧ w'.cell? ⟨(ad143.add ((x3_1).toNat * 3)).block, (ad143.add ((x3_1).toNat * 3)).off + 1, none⟩ = some (.int .i64 ((rd_T72 l0 x3_1).f1)) ∧ w'.cell? ⟨(ad143.add ((x3_1).toNat * 3)).block, (ad143.add ((x3_1).toNat * 3)).off + 2, none⟩ = some (.int .i64 ((rd_T72 l0 x3_1).f2)) ∧ w'.cell? (ad143.add ((x3_1).toNat * 3)) = some (.int .i64 ((rd_T72 l0 x3_1).f0)) ∧ w'.cell? ⟨(ad143.add ((x3_1).toNat * 3)).block, (ad143.add ((x3_1).toNat * 3)).off + 1, none⟩ = some (.int .i64 ((rd_T72 l0 x3_1).f1)) ∧ w'.cell? ⟨(ad143.add ((x3_1).toNat * 3)).block, (ad143.add ((x3_1).toNat * 3)).off + 2, none⟩ = some (.int .i64 ((rd_T72 l0 x3_1).f2)) ∧ w'.cell? (ad143.add ((x3_1).toNat * 3)) = some (.int .i64 ((rd_T72 l0 x3_1).f0)) ∧ w'.cell? ⟨(ad143.add ((x3_1).toNat * 3)).block, (ad143.add ((x3_1).toNat * 3)).off + 1, none⟩ = some (.int .i64 ((rd_T72 l0 x3_1).f1)) ∧ w'.cell? ⟨(ad143.add ((x3_1).toNat * 3)).block, (ad143.add ((x3_1).toNat * 3)).off + 2, none⟩ = some (.int .i64 ((rd_T72 l0 x3_1).f2)) ∧ w'.cell? (ad143.add ((x3_1).toNat * 3)) = some (.int .i64 ((rd_T72 l0 x3_1).f0)) ∧ w'.cell? ⟨(ad143.add ((x3_1).toNat * 3)).block, (ad143.add ((x3_1).toNat * 3)).off + 1, none⟩ = some (.int .i64 ((rd_T72 l0 x3_1).f1)) ∧ w'.cell? ⟨(ad143.add ((x3_1).toNat * 3)).block, (ad143.add ((x3_1).toNat * 3)).off + 2, none⟩ = some (.int .i64 ((rd_T72 l0 x3_1).f2))) (ds := []) #[false, false, false, false, false, false, false, false, false, false, false, false, false, false, false, false, false, false, false, false, false, false, false, false, false, false, false, false, false, false, false, false, false, false, false, false, false, false, false, false, false, false, false, false, false, false, false, false] (by kernel_rfl) rfl rfl ⟨((HB.out.cell (World.block_lt_of_cell? w _ hw143_0)).trans hw143_0), ((HB.out.cell (World.block_lt_of_cell? w _ hw143_1)).trans hw143_1), ((HB.out.cell (World.block_lt_of_cell? w _ hw143_2)).trans hw143_2), ((HB.out.cell (World.block_lt_of_cell? w _ hw145_0)).trans hw145_0), ((HB.out.cell (World.block_lt_of_cell? w _ hw145_1)).trans hw145_1), ((HB.out.cell (World.block_lt_of_cell? w _ hw145_2)).trans hw145_2), ((HB.out.cell (World.block_lt_of_cell? w _ hw147_0)).trans hw147_0), ((HB.out.cell (World.block_lt_of_cell? w _ hw147_1)).trans hw147_1), ((HB.out.cell (World.block_lt_of_cell? w _ hw147_2)).trans hw147_2), ((HB.out.cell (World.block_lt_of_cell? w _ hw148_0)).trans hw148_0), ((HB.out.cell (World.block_lt_of_cell? w _ hw148_1)).trans hw148_1), ((HB.out.cell (World.block_lt_of_cell? w _ hw148_2)).trans hw148_2)⟩ (fun hHeld => ?_); refine with_tabW spec_l5Stacks.tab4 spec_l5Stacks.bits4 (fun HT_ HW_ => ?_)
      generalize wr.drew = w17 at HB hx143_0 hx143_1 hx143_2 hx145_0 hx145_1 hx145_2 hx147_0 hx147_1 hx147_2 hx148_0 hx148_1 hx148_2 hHeld ⊢
      refine pure_ (i := 0) (N := some 10) (v := ?_) (a' := ?_) (bqz 48 1) rfl rfl qza qzd (Or.inl ⟨by rfl, ?_⟩) ?_ ?_
      rotate_left
      {
      intro w'
      go_simp
      with_reducible rfl
      }
      rotate_left
      {
      simp only [qzs]
      rfl
      }
      refine pure_ (i := 1) (N := some 11) (v := ?_) (a' := ?_) (bqz 48 3) rfl rfl qza qzd (Or.inl ⟨by rfl, ?_⟩) ?_ ?_
      rotate_left
      {
      intro w'
      go_simp
      with_reducible rfl
      }
      rotate_left
      {
      simp only [qzs]
      rfl
      }
      refine pure_ (i := 2) (N := some 12) (v := ?_) (a' := ?_) (bqz 48 7) rfl rfl qza qzd (Or.inl ⟨by rfl, ?_⟩) ?_ ?_
      rotate_left
      {
      intro w'
      go_simp
      with_reducible rfl
      }
      rotate_left
      {
      simp only [qzs]
      rfl
      }
      refine pure_ (i := 3) (N := some 13) (v := ?_) (a' := ?_) (bqz 48 15) rfl rfl qza qzd (Or.inl ⟨by rfl, ?_⟩) ?_ ?_
      rotate_left
      {
      intro w'
      go_simp
      with_reducible rfl
      }
      rotate_left
      {
      simp only [qzs]
      rfl
      }
      refine take_ (i := 4) (N := some 14) (v := ?_) (a' := ?_) (bqz 48 31) rfl rfl qzb qzd (Or.inl ⟨by rfl, ?_⟩) hHeld ?_ ?_
      rotate_left
      {
      rintro w' ⟨s0, s1, s2, s3, s4, s5, s6, s7, s8, s9, s10, s11⟩
      go_simp
      with_reducible rfl
      }
      rotate_left
      {
      simp only [qzs]
      rfl
      }
      refine one_ (i := 5) (N := some 15) (bqz 48 63) rfl rfl qzc (by decide) (fun K hK => ?_)
      refine goes_ Try.func81 (by kernel_rfl) rfl #[.int .i64 ((rd_T72 l0 x3_1).f0), .int .i64 1, .int .i64 50] (by rfl) rfl rfl qz2 ?_
      with_reducible refine (spec_l1In.calls ((rd_T72 l0 x3_1).f0) 1 50 true _ A4.out).mono ?_
      rintro e w' ⟨rfl, ⟨nd, rfl⟩⟩
      refine ⟨_, rfl, ?_⟩
      refine hK.out _ _ ⟨((HB.out.cell (World.block_lt_of_cell? w _ hw143_0)).trans hw143_0), ((HB.out.cell (World.block_lt_of_cell? w _ hw143_1)).trans hw143_1), ((HB.out.cell (World.block_lt_of_cell? w _ hw143_2)).trans hw143_2), ((HB.out.cell (World.block_lt_of_cell? w _ hw145_0)).trans hw145_0), ((HB.out.cell (World.block_lt_of_cell? w _ hw145_1)).trans hw145_1), ((HB.out.cell (World.block_lt_of_cell? w _ hw145_2)).trans hw145_2), ((HB.out.cell (World.block_lt_of_cell? w _ hw147_0)).trans hw147_0), ((HB.out.cell (World.block_lt_of_cell? w _ hw147_1)).trans hw147_1), ((HB.out.cell (World.block_lt_of_cell? w _ hw147_2)).trans hw147_2), ((HB.out.cell (World.block_lt_of_cell? w _ hw148_0)).trans hw148_0), ((HB.out.cell (World.block_lt_of_cell? w _ hw148_1)).trans hw148_1), ((HB.out.cell (World.block_lt_of_cell? w _ hw148_2)).trans hw148_2)⟩ (fun hHeld => ?_)
      clear hK K
      refine norm_ (a' := ?_) ?_ ?_
      rotate_left
      {
      show Act.put _ (some 15) _ = _
      simp only [qzs]
      rfl
      }
      refine pure_ (i := 6) (N := some 16) (v := ?_) (a' := ?_) (bqz 48 127) rfl rfl qza qzd (Or.inl ⟨by rfl, ?_⟩) ?_ ?_
      rotate_left
      {
      intro w'
      go_simp
      with_reducible rfl
      }
      rotate_left
      {
      simp only [qzs]
      rfl
      }
      refine pure_ (i := 7) (N := some 17) (v := ?_) (a' := ?_) (bqz 48 255) rfl rfl qza qzd (Or.inl ⟨by rfl, ?_⟩) ?_ ?_
      rotate_left
      {
      intro w'
      go_simp
      with_reducible rfl
      }
      rotate_left
      {
      simp only [qzs]
      rfl
      }
      refine pure_ (i := 8) (N := some 18) (v := ?_) (a' := ?_) (bqz 48 511) rfl rfl qza qzd (Or.inl ⟨by rfl, ?_⟩) ?_ ?_
      rotate_left
      {
      intro w'
      go_simp
      with_reducible rfl
      }
      rotate_left
      {
      simp only [qzs]
      rfl
      }
      refine pure_ (i := 9) (N := some 19) (v := ?_) (a' := ?_) (bqz 48 1023) rfl rfl qza qzd (Or.inl ⟨by rfl, ?_⟩) ?_ ?_
      rotate_left
      {
      intro w'
      go_simp
      with_reducible rfl
      }
      rotate_left
      {
      simp only [qzs]
      rfl
      }
      refine pure_ (i := 10) (N := some 20) (v := ?_) (a' := ?_) (bqz 48 2047) rfl rfl qza qzd (Or.inl ⟨by rfl, ?_⟩) ?_ ?_
      rotate_left
      {
      intro w'
      go_simp
      with_reducible rfl
      }
      rotate_left
      {
      simp only [qzs]
      rfl
      }
      refine pure_ (i := 11) (N := some 21) (v := ?_) (a' := ?_) (bqz 48 4095) rfl rfl qza qzd (Or.inl ⟨by rfl, ?_⟩) ?_ ?_
      rotate_left
      {
      intro w'
      go_simp
      with_reducible rfl
      }
      rotate_left
      {
      simp only [qzs]
      rfl
      }
      refine take_ (i := 12) (N := some 22) (v := ?_) (a' := ?_) (bqz 48 8191) rfl rfl qzb qzd (Or.inl ⟨by rfl, ?_⟩) hHeld ?_ ?_
      rotate_left
      {
      rintro w' ⟨s0, s1, s2, s3, s4, s5, s6, s7, s8, s9, s10, s11⟩
      go_simp
      with_reducible rfl
      }
      rotate_left
      {
      simp only [qzs]
      rfl
      }
      refine one_ (i := 13) (N := some 23) (bqz 48 16383) rfl rfl qzc (by decide) (fun K hK => ?_)
      refine goes_ Try.func81 (by kernel_rfl) rfl #[.int .i64 ((rd_T72 l0 x3_1).f1), .int .i64 1, .int .i64 1000] (by rfl) rfl rfl qz2 ?_
      with_reducible refine (spec_l1In.calls ((rd_T72 l0 x3_1).f1) 1 1000 true _ A6.out).mono ?_
      rintro e w' ⟨rfl, ⟨nd, rfl⟩⟩
      refine ⟨_, rfl, ?_⟩
      refine hK.out _ _ ⟨((HB.out.cell (World.block_lt_of_cell? w _ hw143_0)).trans hw143_0), ((HB.out.cell (World.block_lt_of_cell? w _ hw143_1)).trans hw143_1), ((HB.out.cell (World.block_lt_of_cell? w _ hw143_2)).trans hw143_2), ((HB.out.cell (World.block_lt_of_cell? w _ hw145_0)).trans hw145_0), ((HB.out.cell (World.block_lt_of_cell? w _ hw145_1)).trans hw145_1), ((HB.out.cell (World.block_lt_of_cell? w _ hw145_2)).trans hw145_2), ((HB.out.cell (World.block_lt_of_cell? w _ hw147_0)).trans hw147_0), ((HB.out.cell (World.block_lt_of_cell? w _ hw147_1)).trans hw147_1), ((HB.out.cell (World.block_lt_of_cell? w _ hw147_2)).trans hw147_2), ((HB.out.cell (World.block_lt_of_cell? w _ hw148_0)).trans hw148_0), ((HB.out.cell (World.block_lt_of_cell? w _ hw148_1)).trans hw148_1), ((HB.out.cell (World.block_lt_of_cell? w _ hw148_2)).trans hw148_2)⟩ (fun hHeld => ?_)
      clear hK K
      refine norm_ (a' := ?_) ?_ ?_
      rotate_left
      {
      show Act.put _ (some 23) _ = _
      simp only [qzs]
      rfl
      }
      refine pure_ (i := 14) (N := some 24) (v := ?_) (a' := ?_) (bqz 48 32767) rfl rfl qza qzd (Or.inl ⟨by rfl, ?_⟩) ?_ ?_
      rotate_left
      {
      intro w'
      go_simp
      with_reducible rfl
      }
      rotate_left
      {
      simp only [qzs]
      rfl
      }
      refine pure_ (i := 15) (N := some 25) (v := ?_) (a' := ?_) (bqz 48 65535) rfl rfl qza qzd (Or.inl ⟨by rfl, ?_⟩) ?_ ?_
      rotate_left
      {
      intro w'
      go_simp
      with_reducible rfl
      }
      rotate_left
      {
      simp only [qzs]
      rfl
      }
      refine pure_ (i := 16) (N := some 26) (v := ?_) (a' := ?_) (bqz 48 131071) rfl rfl qza qzd (Or.inl ⟨by rfl, ?_⟩) ?_ ?_
      rotate_left
      {
      intro w'
      go_simp
      with_reducible rfl
      }
      rotate_left
      {
      simp only [qzs]
      rfl
      }
      refine pure_ (i := 17) (N := some 27) (v := ?_) (a' := ?_) (bqz 48 262143) rfl rfl qza qzd (Or.inl ⟨by rfl, ?_⟩) ?_ ?_
      rotate_left
      {
      intro w'
      go_simp
      with_reducible rfl
      }
      rotate_left
      {
      simp only [qzs]
      rfl
      }
      refine pure_ (i := 18) (N := some 28) (v := ?_) (a' := ?_) (bqz 48 524287) rfl rfl qza qzd (Or.inl ⟨by rfl, ?_⟩) ?_ ?_
      rotate_left
      {
      intro w'
      go_simp
      with_reducible rfl
      }
      rotate_left
      {
      simp only [qzs]
      rfl
      }
      refine pure_ (i := 19) (N := some 29) (v := ?_) (a' := ?_) (bqz 48 1048575) rfl rfl qza qzd (Or.inl ⟨by rfl, ?_⟩) ?_ ?_
      rotate_left
      {
      intro w'
      go_simp
      with_reducible rfl
      }
      rotate_left
      {
      simp only [qzs]
      rfl
      }
      refine pure_ (i := 20) (N := some 30) (v := ?_) (a' := ?_) (bqz 48 2097151) rfl rfl qza qzd (Or.inl ⟨by rfl, ?_⟩) ?_ ?_
      rotate_left
      {
      intro w'
      go_simp
      with_reducible rfl
      }
      rotate_left
      {
      simp only [qzs]
      rfl
      }
      refine pure_ (i := 22) (N := some 32) (v := ?_) (a' := ?_) (bqz 48 6291455) rfl rfl qza qzd (Or.inl ⟨by rfl, ?_⟩) ?_ ?_
      rotate_left
      {
      intro w'
      go_simp
      with_reducible rfl
      }
      rotate_left
      {
      simp only [qzs]
      rfl
      }
      refine pure_ (i := 23) (N := some 33) (v := ?_) (a' := ?_) (bqz 48 14680063) rfl rfl qza qzd (Or.inl ⟨by rfl, ?_⟩) ?_ ?_
      rotate_left
      {
      intro w'
      go_simp
      with_reducible rfl
      }
      rotate_left
      {
      simp only [qzs]
      rfl
      }
      refine pure_ (i := 24) (N := some 34) (v := ?_) (a' := ?_) (bqz 48 31457279) rfl rfl qza qzd (Or.inl ⟨by rfl, ?_⟩) ?_ ?_
      rotate_left
      {
      intro w'
      go_simp
      with_reducible rfl
      }
      rotate_left
      {
      simp only [qzs]
      rfl
      }
      refine pure_ (i := 25) (N := some 35) (v := ?_) (a' := ?_) (bqz 48 65011711) rfl rfl qza qzd (Or.inl ⟨by rfl, ?_⟩) ?_ ?_
      rotate_left
      {
      intro w'
      go_simp
      with_reducible rfl
      }
      rotate_left
      {
      simp only [qzs]
      rfl
      }
      refine take_ (i := 21) (N := some 31) (v := ?_) (a' := ?_) (bqz 48 67108863) rfl rfl qzb qzd (Or.inl ⟨by rfl, ?_⟩) hHeld ?_ ?_
      rotate_left
      {
      rintro w' ⟨s0, s1, s2, s3, s4, s5, s6, s7, s8, s9, s10, s11⟩
      go_simp
      with_reducible rfl
      }
      rotate_left
      {
      simp only [qzs]
      rfl
      }
      refine take_ (i := 26) (N := some 36) (v := ?_) (a' := ?_) (bqz 48 134217727) rfl rfl qzb qzd (Or.inl ⟨by rfl, ?_⟩) hHeld ?_ ?_
      rotate_left
      {
      rintro w' ⟨s0, s1, s2, s3, s4, s5, s6, s7, s8, s9, s10, s11⟩
      go_simp
      with_reducible rfl
      }
      rotate_left
      {
      simp only [qzs]
      rfl
      }
      refine one_ (i := 27) (N := some 37) (bqz 48 268435455) rfl rfl qzc (by decide) (fun K hK => ?_)
      refine goes_ Try.func81 (by kernel_rfl) rfl #[.int .i64 ((rd_T72 l0 x3_1).f2), .int .i64 0, .int .i64 ((rd_T72 l0 x3_1).f1)] (by rfl) rfl rfl qz2 ?_
      with_reducible refine (spec_l1In.calls ((rd_T72 l0 x3_1).f2) 0 ((rd_T72 l0 x3_1).f1) true _ A8.out).mono ?_
      rintro e w' ⟨rfl, ⟨nd, rfl⟩⟩
      refine ⟨_, rfl, ?_⟩
      refine hK.out _ _ ⟨((HB.out.cell (World.block_lt_of_cell? w _ hw143_0)).trans hw143_0), ((HB.out.cell (World.block_lt_of_cell? w _ hw143_1)).trans hw143_1), ((HB.out.cell (World.block_lt_of_cell? w _ hw143_2)).trans hw143_2), ((HB.out.cell (World.block_lt_of_cell? w _ hw145_0)).trans hw145_0), ((HB.out.cell (World.block_lt_of_cell? w _ hw145_1)).trans hw145_1), ((HB.out.cell (World.block_lt_of_cell? w _ hw145_2)).trans hw145_2), ((HB.out.cell (World.block_lt_of_cell? w _ hw147_0)).trans hw147_0), ((HB.out.cell (World.block_lt_of_cell? w _ hw147_1)).trans hw147_1), ((HB.out.cell (World.block_lt_of_cell? w _ hw147_2)).trans hw147_2), ((HB.out.cell (World.block_lt_of_cell? w _ hw148_0)).trans hw148_0), ((HB.out.cell (World.block_lt_of_cell? w _ hw148_1)).trans hw148_1), ((HB.out.cell (World.block_lt_of_cell? w _ hw148_2)).trans hw148_2)⟩ (fun hHeld => ?_)
      clear hK K
      refine norm_ (a' := ?_) ?_ ?_
      rotate_left
      {
      show Act.put _ (some 37) _ = _
      simp only [qzs]
      rfl
      }
      refine pure_ (i := 28) (N := some 38) (v := ?_) (a' := ?_) (bqz 48 536870911) rfl rfl qza qzd (Or.inl ⟨by rfl, ?_⟩) ?_ ?_
      rotate_left
      {
      intro w'
      go_simp
      with_reducible rfl
      }
      rotate_left
      {
      simp only [qzs]
      rfl
      }
      refine pure_ (i := 29) (N := some 39) (v := ?_) (a' := ?_) (bqz 48 1073741823) rfl rfl qza qzd (Or.inl ⟨by rfl, ?_⟩) ?_ ?_
      rotate_left
      {
      intro w'
      go_simp
      with_reducible rfl
      }
      rotate_left
      {
      simp only [qzs]
      rfl
      }
      refine pure_ (i := 30) (N := some 40) (v := ?_) (a' := ?_) (bqz 48 2147483647) rfl rfl qza qzd (Or.inl ⟨by rfl, ?_⟩) ?_ ?_
      rotate_left
      {
      intro w'
      go_simp
      with_reducible rfl
      }
      rotate_left
      {
      simp only [qzs]
      rfl
      }
      refine pure_ (i := 31) (N := some 41) (v := ?_) (a' := ?_) (bqz 48 4294967295) rfl rfl qza qzd (Or.inl ⟨by rfl, ?_⟩) ?_ ?_
      rotate_left
      {
      intro w'
      go_simp
      with_reducible rfl
      }
      rotate_left
      {
      simp only [qzs]
      rfl
      }
      refine pure_ (i := 32) (N := some 42) (v := ?_) (a' := ?_) (bqz 48 8589934591) rfl rfl qza qzd (Or.inl ⟨by rfl, ?_⟩) ?_ ?_
      rotate_left
      {
      intro w'
      go_simp
      with_reducible rfl
      }
      rotate_left
      {
      simp only [qzs]
      rfl
      }
      refine pure_ (i := 33) (N := some 43) (v := ?_) (a' := ?_) (bqz 48 17179869183) rfl rfl qza qzd (Or.inl ⟨by rfl, ?_⟩) ?_ ?_
      rotate_left
      {
      intro w'
      go_simp
      with_reducible rfl
      }
      rotate_left
      {
      simp only [qzs]
      rfl
      }
      refine pure_ (i := 34) (N := some 44) (v := undef) (a' := ?_) (bqz 48 34359738367) rfl rfl qza qzd (Or.inr ⟨by rfl, rfl⟩) ?_ ?_
      rotate_left
      {
      simp only [qzs]
      rfl
      }
      refine pure_ (i := 35) (N := some 45) (v := undef) (a' := ?_) (bqz 48 68719476735) rfl rfl qza qzd (Or.inr ⟨by rfl, rfl⟩) ?_ ?_
      rotate_left
      {
      simp only [qzs]
      rfl
      }
      refine pure_ (i := 36) (N := some 46) (v := undef) (a' := ?_) (bqz 48 137438953471) rfl rfl qza qzd (Or.inr ⟨by rfl, rfl⟩) ?_ ?_
      rotate_left
      {
      simp only [qzs]
      rfl
      }
      refine pure_ (i := 37) (N := some 47) (v := undef) (a' := ?_) (bqz 48 274877906943) rfl rfl qza qzd (Or.inr ⟨by rfl, rfl⟩) ?_ ?_
      rotate_left
      {
      simp only [qzs]
      rfl
      }
      refine pure_ (i := 38) (N := some 48) (v := undef) (a' := ?_) (bqz 48 549755813887) rfl rfl qza qzd (Or.inr ⟨by rfl, rfl⟩) ?_ ?_
      rotate_left
      {
      simp only [qzs]
      rfl
      }
      refine pure_ (i := 39) (N := some 49) (v := undef) (a' := ?_) (bqz 48 1099511627775) rfl rfl qza qzd (Or.inr ⟨by rfl, rfl⟩) ?_ ?_
      rotate_left
      {
      simp only [qzs]
      rfl
      }
      refine pure_ (i := 40) (N := some 50) (v := undef) (a' := ?_) (bqz 48 2199023255551) rfl rfl qza qzd (Or.inr ⟨by rfl, rfl⟩) ?_ ?_
      rotate_left
      {
      simp only [qzs]
      rfl
      }
      refine pure_ (i := 41) (N := some 51) (v := undef) (a' := ?_) (bqz 48 4398046511103) rfl rfl qza qzd (Or.inr ⟨by rfl, rfl⟩) ?_ ?_
      rotate_left
      {
      simp only [qzs]
      rfl
      }
      refine pure_ (i := 42) (N := some 52) (v := undef) (a' := ?_) (bqz 48 8796093022207) rfl rfl qza qzd (Or.inr ⟨by rfl, rfl⟩) ?_ ?_
      rotate_left
      {
      simp only [qzs]
      rfl
      }
      refine pure_ (i := 43) (N := some 53) (v := undef) (a' := ?_) (bqz 48 17592186044415) rfl rfl qza qzd (Or.inr ⟨by rfl, rfl⟩) ?_ ?_
      rotate_left
      {
      simp only [qzs]
      rfl
      }
      refine pure_ (i := 44) (N := some 54) (v := undef) (a' := ?_) (bqz 48 35184372088831) rfl rfl qza qzd (Or.inr ⟨by rfl, rfl⟩) ?_ ?_
      rotate_left
      {
      simp only [qzs]
      rfl
      }
      refine pure_ (i := 45) (N := some 55) (v := undef) (a' := ?_) (bqz 48 70368744177663) rfl rfl qza qzd (Or.inr ⟨by rfl, rfl⟩) ?_ ?_
      rotate_left
      {
      simp only [qzs]
      rfl
      }
      refine pure_ (i := 46) (N := some 56) (v := ?_) (a' := ?_) (bqz 48 140737488355327) rfl rfl qza qzd (Or.inl ⟨by rfl, ?_⟩) ?_ ?_
      rotate_left
      {
      intro w'
      go_simp
      with_reducible rfl
      }
      rotate_left
      {
      simp only [qzs]
      rfl
      }
      refine pure_ (i := 47) (N := some 57) (v := ?_) (a' := ?_) (bqz 48 281474976710655) rfl rfl qza qzd (Or.inl ⟨by rfl, ?_⟩) ?_ ?_
      rotate_left
      {
      intro w'
      go_simp
      with_reducible rfl
      }
      rotate_left
      {
      simp only [qzs]
      rfl
      }
      refine done_ (done_of HT_.out (by kernel_rfl)) ?_
      try go_wp2
      go_roundg k1
      case measure => have := HK1.out; omega
      case rel => exact ⟨(wrap64 (x3_1 + 1)), qz6, H', ⟨by have := HK1.out; omega⟩, ⟨by repeat (first | (with_reducible first | exact HB.out | apply below_alloc | apply pw_below_drewN | apply below_drew1) | exact HB.out)⟩⟩
      }
      }
      {
      replace c9 := Bool.eq_false_iff.mpr c9
      subst c9
      have H1 : (some false) = some r := by rw [if_neg (show ¬ (false = true) by decide)] at H; exact H
      clear H
      have H := H1
      clear H1
      obtain rfl := Option.some.inj H
      simp only [Option.some.injEq, Prod.mk.injEq] at H
      obtain ⟨rfl⟩ := H
      try go_wp2
      have n0_ := Aside0.mk (below_drew1 HB.out)
      clear HB
      have HB := n0_
      clear n0_
      have p143 : 0 ≤ (x3_1 : Int) := of_decide_eq_true qz3
      have q143 : x3_1 < (l0.length : Int) := of_decide_eq_true qz3
      obtain ⟨ad143, e143, hx143_0, hx143_1, hx143_2⟩ := at_T72 HR0.out x3_1 p143 q143
      have hw143_2 := hx143_2
      have hw143_1 := hx143_1
      have hw143_0 := hx143_0
      cases e143
      replace hx143_0 := (HB.out.cell (World.block_lt_of_cell? w _ hx143_0)).trans hx143_0
      replace hx143_1 := (HB.out.cell (World.block_lt_of_cell? w _ hx143_1)).trans hx143_1
      replace hx143_2 := (HB.out.cell (World.block_lt_of_cell? w _ hx143_2)).trans hx143_2
      replace p143 := eq_true p143
      replace q143 := eq_true q143
      have p145 : 0 ≤ (x3_1 : Int) := of_decide_eq_true qz3
      have q145 : x3_1 < (l0.length : Int) := of_decide_eq_true qz3
      obtain ⟨ad145, e145, hx145_0, hx145_1, hx145_2⟩ := at_T72 HR0.out x3_1 p145 q145
      have hw145_2 := hx145_2
      have hw145_1 := hx145_1
      have hw145_0 := hx145_0
      obtain rfl : ad143 = ad145 := (by injection e145)
      replace hx145_0 := (HB.out.cell (World.block_lt_of_cell? w _ hx145_0)).trans hx145_0
      replace hx145_1 := (HB.out.cell (World.block_lt_of_cell? w _ hx145_1)).trans hx145_1
      replace hx145_2 := (HB.out.cell (World.block_lt_of_cell? w _ hx145_2)).trans hx145_2
      replace p145 := eq_true p145
      replace q145 := eq_true q145
      have p147 : 0 ≤ (x3_1 : Int) := of_decide_eq_true qz3
      have q147 : x3_1 < (l0.length : Int) := of_decide_eq_true qz3
      obtain ⟨ad147, e147, hx147_0, hx147_1, hx147_2⟩ := at_T72 HR0.out x3_1 p147 q147
      have hw147_2 := hx147_2
      have hw147_1 := hx147_1
      have hw147_0 := hx147_0
      obtain rfl : ad143 = ad147 := (by injection e147)
      replace hx147_0 := (HB.out.cell (World.block_lt_of_cell? w _ hx147_0)).trans hx147_0
      replace hx147_1 := (HB.out.cell (World.block_lt_of_cell? w _ hx147_1)).trans hx147_1
      replace hx147_2 := (HB.out.cell (World.block_lt_of_cell? w _ hx147_2)).trans hx147_2
      replace p147 := eq_true p147
      replace q147 := eq_true q147
      have p148 : 0 ≤ (x3_1 : Int) := of_decide_eq_true qz3
      have q148 : x3_1 < (l0.length : Int) := of_decide_eq_true qz3
      obtain ⟨ad148, e148, hx148_0, hx148_1, hx148_2⟩ := at_T72 HR0.out x3_1 p148 q148
      have hw148_2 := hx148_2
      have hw148_1 := hx148_1
      have hw148_0 := hx148_0
      obtain rfl : ad143 = ad148 := (by injection e148)
      replace hx148_0 := (HB.out.cell (World.block_lt_of_cell? w _ hx148_0)).trans hx148_0
      replace hx148_1 := (HB.out.cell (World.block_lt_of_cell? w _ hx148_1)).trans hx148_1
      replace hx148_2 := (HB.out.cell (World.block_lt_of_cell? w _ hx148_2)).trans hx148_2
      replace p148 := eq_true p148
      replace q148 := eq_true q148
      refine start_ (n := 48) (S := fun w' => w'.cell? (ad143.add ((x3_1).toNat * 3)) = some (.int .i64 ((rd_T72 l0 x3_1).f0)) ∧ w'.cell? ⟨(ad143.add ((x3_1).toNat * 3)).block, (ad143.add ((x3_1).toNat * 3)).off + 1, none⟩ = some (.int .i64 ((rd_T72 l0 x3_1).f1)) ∧ w'.cell? ⟨(ad143.add ((x3_1).toNat * 3)).block, (ad143.add ((x3_1).toNat * 3)).off + 2, none⟩ = some (.int .i64 ((rd_T72 l0 x3_1).f2)) ∧ w'.cell? (ad143.add ((x3_1).toNat * 3)) = some (.int .i64 ((rd_T72 l0 x3_1).f0)) ∧ w'.cell? ⟨(ad143.add ((x3_1).toNat * 3)).block, (ad143.add ((x3_1).toNat * 3)).off + 1, none⟩ = some (.int .i64 ((rd_T72 l0 x3_1).f1)) ∧ w'.cell? ⟨(ad143.add ((x3_1).toNat * 3)).block, (ad143.add ((x3_1).toNat * 3)).off + 2, none⟩ = some (.int .i64 ((rd_T72 l0 x3_1).f2)) ∧ w'.cell? (ad143.add ((x3_1).toNat * 3)) = some (.int .i64 ((rd_T72 l0 x3_1).f0)) ∧ w'.cell? ⟨(ad143.add ((x3_1).toNat * 3)).block, (ad143.add ((x3_1).toNat * 3)).off + 1, none⟩ = some (.int .i64 ((rd_T72 l0 x3_1).f1)) ∧ w'.cell? ⟨(ad143.add ((x3_1).toNat * 3)).block, (ad143.add ((x3_1).toNat * 3)).off + 2, none⟩ = some (.int .i64 ((rd_T72 l0 x3_1).f2)) ∧ w'.cell? (ad143.add ((x3_1).toNat * 3)) = some (.int .i64 ((rd_T72 l0 x3_1).f0)) ∧ w'.cell? ⟨(ad143.add ((x3_1).toNat * 3)).block, (ad143.add ((x3_1).toNat * 3)).off + 1, none⟩ = some (.int .i64 ((rd_T72 l0 x3_1).f1)) ∧ w'.cell? ⟨(ad143.add ((x3_1).toNat * 3)).block, (ad143.add ((x3_1).toNat * 3)).off + 2, none⟩ = some (.int .i64 ((rd_T72 l0 x3_1).f2))) (ds := []) #[false, false, false, false, false, false, false, false, false, false, false, false, false, false, false, false, false, false, false, false, false, false, false, false, false, false, false, false, false, false, false, false, false, false, false, false, false, false, false, false, false, false, false, false, false, false, false, false] (by kernel_rfl) rfl rfl ⟨((HB.out.cell (World.block_lt_of_cell? w _ hw143_0)).trans hw143_0), ((HB.out.cell (World.block_lt_of_cell? w _ hw143_1)).trans hw143_1), ((HB.out.cell (World.block_lt_of_cell? w _ hw143_2)).trans hw143_2), ((HB.out.cell (World.block_lt_of_cell? w _ hw145_0)).trans hw145_0), ((HB.out.cell (World.block_lt_of_cell? w _ hw145_1)).trans hw145_1), ((HB.out.cell (World.block_lt_of_cell? w _ hw145_2)).trans hw145_2), ((HB.out.cell (World.block_lt_of_cell? w _ hw147_0)).trans hw147_0), ((HB.out.cell (World.block_lt_of_cell? w _ hw147_1)).trans hw147_1), ((HB.out.cell (World.block_lt_of_cell? w _ hw147_2)).trans hw147_2), ((HB.out.cell (World.block_lt_of_cell? w _ hw148_0)).trans hw148_0), ((HB.out.cell (World.block_lt_of_cell? w _ hw148_1)).trans hw148_1), ((HB.out.cell (World.block_lt_of_cell? w _ hw148_2)).trans hw148_2)⟩ (fun hHeld => ?_); refine with_tabW spec_l5Stacks.tab4 spec_l5Stacks.bits4 (fun HT_ HW_ => ?_)
      generalize wr.drew = w18 at HB hx143_0 hx143_1 hx143_2 hx145_0 hx145_1 hx145_2 hx147_0 hx147_1 hx147_2 hx148_0 hx148_1 hx148_2 hHeld ⊢
      refine pure_ (i := 0) (N := some 10) (v := ?_) (a' := ?_) (bqz 48 1) rfl rfl qza qzd (Or.inl ⟨by rfl, ?_⟩) ?_ ?_
      rotate_left
      {
      intro w'
      go_simp
      with_reducible rfl
      }
      rotate_left
      {
      simp only [qzs]
      rfl
      }
      refine pure_ (i := 1) (N := some 11) (v := ?_) (a' := ?_) (bqz 48 3) rfl rfl qza qzd (Or.inl ⟨by rfl, ?_⟩) ?_ ?_
      rotate_left
      {
      intro w'
      go_simp
      with_reducible rfl
      }
      rotate_left
      {
      simp only [qzs]
      rfl
      }
      refine pure_ (i := 2) (N := some 12) (v := ?_) (a' := ?_) (bqz 48 7) rfl rfl qza qzd (Or.inl ⟨by rfl, ?_⟩) ?_ ?_
      rotate_left
      {
      intro w'
      go_simp
      with_reducible rfl
      }
      rotate_left
      {
      simp only [qzs]
      rfl
      }
      refine pure_ (i := 3) (N := some 13) (v := ?_) (a' := ?_) (bqz 48 15) rfl rfl qza qzd (Or.inl ⟨by rfl, ?_⟩) ?_ ?_
      rotate_left
      {
      intro w'
      go_simp
      with_reducible rfl
      }
      rotate_left
      {
      simp only [qzs]
      rfl
      }
      refine take_ (i := 4) (N := some 14) (v := ?_) (a' := ?_) (bqz 48 31) rfl rfl qzb qzd (Or.inl ⟨by rfl, ?_⟩) hHeld ?_ ?_
      rotate_left
      {
      rintro w' ⟨s0, s1, s2, s3, s4, s5, s6, s7, s8, s9, s10, s11⟩
      go_simp
      with_reducible rfl
      }
      rotate_left
      {
      simp only [qzs]
      rfl
      }
      refine one_ (i := 5) (N := some 15) (bqz 48 63) rfl rfl qzc (by decide) (fun K hK => ?_)
      refine goes_ Try.func81 (by kernel_rfl) rfl #[.int .i64 ((rd_T72 l0 x3_1).f0), .int .i64 1, .int .i64 50] (by rfl) rfl rfl qz2 ?_
      with_reducible refine (spec_l1In.calls ((rd_T72 l0 x3_1).f0) 1 50 true _ A4.out).mono ?_
      rintro e w' ⟨rfl, ⟨nd, rfl⟩⟩
      refine ⟨_, rfl, ?_⟩
      refine hK.out _ _ ⟨((HB.out.cell (World.block_lt_of_cell? w _ hw143_0)).trans hw143_0), ((HB.out.cell (World.block_lt_of_cell? w _ hw143_1)).trans hw143_1), ((HB.out.cell (World.block_lt_of_cell? w _ hw143_2)).trans hw143_2), ((HB.out.cell (World.block_lt_of_cell? w _ hw145_0)).trans hw145_0), ((HB.out.cell (World.block_lt_of_cell? w _ hw145_1)).trans hw145_1), ((HB.out.cell (World.block_lt_of_cell? w _ hw145_2)).trans hw145_2), ((HB.out.cell (World.block_lt_of_cell? w _ hw147_0)).trans hw147_0), ((HB.out.cell (World.block_lt_of_cell? w _ hw147_1)).trans hw147_1), ((HB.out.cell (World.block_lt_of_cell? w _ hw147_2)).trans hw147_2), ((HB.out.cell (World.block_lt_of_cell? w _ hw148_0)).trans hw148_0), ((HB.out.cell (World.block_lt_of_cell? w _ hw148_1)).trans hw148_1), ((HB.out.cell (World.block_lt_of_cell? w _ hw148_2)).trans hw148_2)⟩ (fun hHeld => ?_)
      clear hK K
      refine norm_ (a' := ?_) ?_ ?_
      rotate_left
      {
      show Act.put _ (some 15) _ = _
      simp only [qzs]
      rfl
      }
      refine pure_ (i := 6) (N := some 16) (v := ?_) (a' := ?_) (bqz 48 127) rfl rfl qza qzd (Or.inl ⟨by rfl, ?_⟩) ?_ ?_
      rotate_left
      {
      intro w'
      go_simp
      with_reducible rfl
      }
      rotate_left
      {
      simp only [qzs]
      rfl
      }
      refine pure_ (i := 7) (N := some 17) (v := ?_) (a' := ?_) (bqz 48 255) rfl rfl qza qzd (Or.inl ⟨by rfl, ?_⟩) ?_ ?_
      rotate_left
      {
      intro w'
      go_simp
      with_reducible rfl
      }
      rotate_left
      {
      simp only [qzs]
      rfl
      }
      refine pure_ (i := 8) (N := some 18) (v := ?_) (a' := ?_) (bqz 48 511) rfl rfl qza qzd (Or.inl ⟨by rfl, ?_⟩) ?_ ?_
      rotate_left
      {
      intro w'
      go_simp
      with_reducible rfl
      }
      rotate_left
      {
      simp only [qzs]
      rfl
      }
      refine pure_ (i := 9) (N := some 19) (v := ?_) (a' := ?_) (bqz 48 1023) rfl rfl qza qzd (Or.inl ⟨by rfl, ?_⟩) ?_ ?_
      rotate_left
      {
      intro w'
      go_simp
      with_reducible rfl
      }
      rotate_left
      {
      simp only [qzs]
      rfl
      }
      refine pure_ (i := 10) (N := some 20) (v := ?_) (a' := ?_) (bqz 48 2047) rfl rfl qza qzd (Or.inl ⟨by rfl, ?_⟩) ?_ ?_
      rotate_left
      {
      intro w'
      go_simp
      with_reducible rfl
      }
      rotate_left
      {
      simp only [qzs]
      rfl
      }
      refine pure_ (i := 11) (N := some 21) (v := ?_) (a' := ?_) (bqz 48 4095) rfl rfl qza qzd (Or.inl ⟨by rfl, ?_⟩) ?_ ?_
      rotate_left
      {
      intro w'
      go_simp
      with_reducible rfl
      }
      rotate_left
      {
      simp only [qzs]
      rfl
      }
      refine take_ (i := 12) (N := some 22) (v := ?_) (a' := ?_) (bqz 48 8191) rfl rfl qzb qzd (Or.inl ⟨by rfl, ?_⟩) hHeld ?_ ?_
      rotate_left
      {
      rintro w' ⟨s0, s1, s2, s3, s4, s5, s6, s7, s8, s9, s10, s11⟩
      go_simp
      with_reducible rfl
      }
      rotate_left
      {
      simp only [qzs]
      rfl
      }
      refine one_ (i := 13) (N := some 23) (bqz 48 16383) rfl rfl qzc (by decide) (fun K hK => ?_)
      refine goes_ Try.func81 (by kernel_rfl) rfl #[.int .i64 ((rd_T72 l0 x3_1).f1), .int .i64 1, .int .i64 1000] (by rfl) rfl rfl qz2 ?_
      with_reducible refine (spec_l1In.calls ((rd_T72 l0 x3_1).f1) 1 1000 true _ A6.out).mono ?_
      rintro e w' ⟨rfl, ⟨nd, rfl⟩⟩
      refine ⟨_, rfl, ?_⟩
      refine hK.out _ _ ⟨((HB.out.cell (World.block_lt_of_cell? w _ hw143_0)).trans hw143_0), ((HB.out.cell (World.block_lt_of_cell? w _ hw143_1)).trans hw143_1), ((HB.out.cell (World.block_lt_of_cell? w _ hw143_2)).trans hw143_2), ((HB.out.cell (World.block_lt_of_cell? w _ hw145_0)).trans hw145_0), ((HB.out.cell (World.block_lt_of_cell? w _ hw145_1)).trans hw145_1), ((HB.out.cell (World.block_lt_of_cell? w _ hw145_2)).trans hw145_2), ((HB.out.cell (World.block_lt_of_cell? w _ hw147_0)).trans hw147_0), ((HB.out.cell (World.block_lt_of_cell? w _ hw147_1)).trans hw147_1), ((HB.out.cell (World.block_lt_of_cell? w _ hw147_2)).trans hw147_2), ((HB.out.cell (World.block_lt_of_cell? w _ hw148_0)).trans hw148_0), ((HB.out.cell (World.block_lt_of_cell? w _ hw148_1)).trans hw148_1), ((HB.out.cell (World.block_lt_of_cell? w _ hw148_2)).trans hw148_2)⟩ (fun hHeld => ?_)
      clear hK K
      refine norm_ (a' := ?_) ?_ ?_
      rotate_left
      {
      show Act.put _ (some 23) _ = _
      simp only [qzs]
      rfl
      }
      refine pure_ (i := 14) (N := some 24) (v := ?_) (a' := ?_) (bqz 48 32767) rfl rfl qza qzd (Or.inl ⟨by rfl, ?_⟩) ?_ ?_
      rotate_left
      {
      intro w'
      go_simp
      with_reducible rfl
      }
      rotate_left
      {
      simp only [qzs]
      rfl
      }
      refine pure_ (i := 15) (N := some 25) (v := ?_) (a' := ?_) (bqz 48 65535) rfl rfl qza qzd (Or.inl ⟨by rfl, ?_⟩) ?_ ?_
      rotate_left
      {
      intro w'
      go_simp
      with_reducible rfl
      }
      rotate_left
      {
      simp only [qzs]
      rfl
      }
      refine pure_ (i := 16) (N := some 26) (v := ?_) (a' := ?_) (bqz 48 131071) rfl rfl qza qzd (Or.inl ⟨by rfl, ?_⟩) ?_ ?_
      rotate_left
      {
      intro w'
      go_simp
      with_reducible rfl
      }
      rotate_left
      {
      simp only [qzs]
      rfl
      }
      refine pure_ (i := 17) (N := some 27) (v := ?_) (a' := ?_) (bqz 48 262143) rfl rfl qza qzd (Or.inl ⟨by rfl, ?_⟩) ?_ ?_
      rotate_left
      {
      intro w'
      go_simp
      with_reducible rfl
      }
      rotate_left
      {
      simp only [qzs]
      rfl
      }
      refine pure_ (i := 18) (N := some 28) (v := ?_) (a' := ?_) (bqz 48 524287) rfl rfl qza qzd (Or.inl ⟨by rfl, ?_⟩) ?_ ?_
      rotate_left
      {
      intro w'
      go_simp
      with_reducible rfl
      }
      rotate_left
      {
      simp only [qzs]
      rfl
      }
      refine pure_ (i := 19) (N := some 29) (v := ?_) (a' := ?_) (bqz 48 1048575) rfl rfl qza qzd (Or.inl ⟨by rfl, ?_⟩) ?_ ?_
      rotate_left
      {
      intro w'
      go_simp
      with_reducible rfl
      }
      rotate_left
      {
      simp only [qzs]
      rfl
      }
      refine pure_ (i := 20) (N := some 30) (v := ?_) (a' := ?_) (bqz 48 2097151) rfl rfl qza qzd (Or.inl ⟨by rfl, ?_⟩) ?_ ?_
      rotate_left
      {
      intro w'
      go_simp
      with_reducible rfl
      }
      rotate_left
      {
      simp only [qzs]
      rfl
      }
      refine pure_ (i := 22) (N := some 32) (v := ?_) (a' := ?_) (bqz 48 6291455) rfl rfl qza qzd (Or.inl ⟨by rfl, ?_⟩) ?_ ?_
      rotate_left
      {
      intro w'
      go_simp
      with_reducible rfl
      }
      rotate_left
      {
      simp only [qzs]
      rfl
      }
      refine pure_ (i := 23) (N := some 33) (v := ?_) (a' := ?_) (bqz 48 14680063) rfl rfl qza qzd (Or.inl ⟨by rfl, ?_⟩) ?_ ?_
      rotate_left
      {
      intro w'
      go_simp
      with_reducible rfl
      }
      rotate_left
      {
      simp only [qzs]
      rfl
      }
      refine pure_ (i := 24) (N := some 34) (v := ?_) (a' := ?_) (bqz 48 31457279) rfl rfl qza qzd (Or.inl ⟨by rfl, ?_⟩) ?_ ?_
      rotate_left
      {
      intro w'
      go_simp
      with_reducible rfl
      }
      rotate_left
      {
      simp only [qzs]
      rfl
      }
      refine pure_ (i := 25) (N := some 35) (v := ?_) (a' := ?_) (bqz 48 65011711) rfl rfl qza qzd (Or.inl ⟨by rfl, ?_⟩) ?_ ?_
      rotate_left
      {
      intro w'
      go_simp
      with_reducible rfl
      }
      rotate_left
      {
      simp only [qzs]
      rfl
      }
      refine take_ (i := 21) (N := some 31) (v := ?_) (a' := ?_) (bqz 48 67108863) rfl rfl qzb qzd (Or.inl ⟨by rfl, ?_⟩) hHeld ?_ ?_
      rotate_left
      {
      rintro w' ⟨s0, s1, s2, s3, s4, s5, s6, s7, s8, s9, s10, s11⟩
      go_simp
      with_reducible rfl
      }
      rotate_left
      {
      simp only [qzs]
      rfl
      }
      refine take_ (i := 26) (N := some 36) (v := ?_) (a' := ?_) (bqz 48 134217727) rfl rfl qzb qzd (Or.inl ⟨by rfl, ?_⟩) hHeld ?_ ?_
      rotate_left
      {
      rintro w' ⟨s0, s1, s2, s3, s4, s5, s6, s7, s8, s9, s10, s11⟩
      go_simp
      with_reducible rfl
      }
      rotate_left
      {
      simp only [qzs]
      rfl
      }
      refine one_ (i := 27) (N := some 37) (bqz 48 268435455) rfl rfl qzc (by decide) (fun K hK => ?_)
      refine goes_ Try.func81 (by kernel_rfl) rfl #[.int .i64 ((rd_T72 l0 x3_1).f2), .int .i64 0, .int .i64 ((rd_T72 l0 x3_1).f1)] (by rfl) rfl rfl qz2 ?_
      with_reducible refine (spec_l1In.calls ((rd_T72 l0 x3_1).f2) 0 ((rd_T72 l0 x3_1).f1) false _ A8.out).mono ?_
      rintro e w' ⟨rfl, ⟨nd, rfl⟩⟩
      refine ⟨_, rfl, ?_⟩
      refine hK.out _ _ ⟨((HB.out.cell (World.block_lt_of_cell? w _ hw143_0)).trans hw143_0), ((HB.out.cell (World.block_lt_of_cell? w _ hw143_1)).trans hw143_1), ((HB.out.cell (World.block_lt_of_cell? w _ hw143_2)).trans hw143_2), ((HB.out.cell (World.block_lt_of_cell? w _ hw145_0)).trans hw145_0), ((HB.out.cell (World.block_lt_of_cell? w _ hw145_1)).trans hw145_1), ((HB.out.cell (World.block_lt_of_cell? w _ hw145_2)).trans hw145_2), ((HB.out.cell (World.block_lt_of_cell? w _ hw147_0)).trans hw147_0), ((HB.out.cell (World.block_lt_of_cell? w _ hw147_1)).trans hw147_1), ((HB.out.cell (World.block_lt_of_cell? w _ hw147_2)).trans hw147_2), ((HB.out.cell (World.block_lt_of_cell? w _ hw148_0)).trans hw148_0), ((HB.out.cell (World.block_lt_of_cell? w _ hw148_1)).trans hw148_1), ((HB.out.cell (World.block_lt_of_cell? w _ hw148_2)).trans hw148_2)⟩ (fun hHeld => ?_)
      clear hK K
      refine norm_ (a' := ?_) ?_ ?_
      rotate_left
      {
      show Act.put _ (some 37) _ = _
      simp only [qzs]
      rfl
      }
      refine pure_ (i := 28) (N := some 38) (v := ?_) (a' := ?_) (bqz 48 536870911) rfl rfl qza qzd (Or.inl ⟨by rfl, ?_⟩) ?_ ?_
      rotate_left
      {
      intro w'
      go_simp
      with_reducible rfl
      }
      rotate_left
      {
      simp only [qzs]
      rfl
      }
      refine pure_ (i := 29) (N := some 39) (v := ?_) (a' := ?_) (bqz 48 1073741823) rfl rfl qza qzd (Or.inl ⟨by rfl, ?_⟩) ?_ ?_
      rotate_left
      {
      intro w'
      go_simp
      with_reducible rfl
      }
      rotate_left
      {
      simp only [qzs]
      rfl
      }
      refine pure_ (i := 30) (N := some 40) (v := ?_) (a' := ?_) (bqz 48 2147483647) rfl rfl qza qzd (Or.inl ⟨by rfl, ?_⟩) ?_ ?_
      rotate_left
      {
      intro w'
      go_simp
      with_reducible rfl
      }
      rotate_left
      {
      simp only [qzs]
      rfl
      }
      refine pure_ (i := 31) (N := some 41) (v := undef) (a' := ?_) (bqz 48 4294967295) rfl rfl qza qzd (Or.inr ⟨by rfl, rfl⟩) ?_ ?_
      rotate_left
      {
      simp only [qzs]
      rfl
      }
      refine pure_ (i := 32) (N := some 42) (v := undef) (a' := ?_) (bqz 48 8589934591) rfl rfl qza qzd (Or.inr ⟨by rfl, rfl⟩) ?_ ?_
      rotate_left
      {
      simp only [qzs]
      rfl
      }
      refine pure_ (i := 33) (N := some 43) (v := undef) (a' := ?_) (bqz 48 17179869183) rfl rfl qza qzd (Or.inr ⟨by rfl, rfl⟩) ?_ ?_
      rotate_left
      {
      simp only [qzs]
      rfl
      }
      refine pure_ (i := 34) (N := some 44) (v := undef) (a' := ?_) (bqz 48 34359738367) rfl rfl qza qzd (Or.inr ⟨by rfl, rfl⟩) ?_ ?_
      rotate_left
      {
      simp only [qzs]
      rfl
      }
      refine pure_ (i := 35) (N := some 45) (v := undef) (a' := ?_) (bqz 48 68719476735) rfl rfl qza qzd (Or.inr ⟨by rfl, rfl⟩) ?_ ?_
      rotate_left
      {
      simp only [qzs]
      rfl
      }
      refine pure_ (i := 36) (N := some 46) (v := undef) (a' := ?_) (bqz 48 137438953471) rfl rfl qza qzd (Or.inr ⟨by rfl, rfl⟩) ?_ ?_
      rotate_left
      {
      simp only [qzs]
      rfl
      }
      refine pure_ (i := 37) (N := some 47) (v := undef) (a' := ?_) (bqz 48 274877906943) rfl rfl qza qzd (Or.inr ⟨by rfl, rfl⟩) ?_ ?_
      rotate_left
      {
      simp only [qzs]
      rfl
      }
      refine pure_ (i := 38) (N := some 48) (v := undef) (a' := ?_) (bqz 48 549755813887) rfl rfl qza qzd (Or.inr ⟨by rfl, rfl⟩) ?_ ?_
      rotate_left
      {
      simp only [qzs]
      rfl
      }
      refine pure_ (i := 39) (N := some 49) (v := undef) (a' := ?_) (bqz 48 1099511627775) rfl rfl qza qzd (Or.inr ⟨by rfl, rfl⟩) ?_ ?_
      rotate_left
      {
      simp only [qzs]
      rfl
      }
      refine pure_ (i := 40) (N := some 50) (v := undef) (a' := ?_) (bqz 48 2199023255551) rfl rfl qza qzd (Or.inr ⟨by rfl, rfl⟩) ?_ ?_
      rotate_left
      {
      simp only [qzs]
      rfl
      }
      refine pure_ (i := 41) (N := some 51) (v := undef) (a' := ?_) (bqz 48 4398046511103) rfl rfl qza qzd (Or.inr ⟨by rfl, rfl⟩) ?_ ?_
      rotate_left
      {
      simp only [qzs]
      rfl
      }
      refine pure_ (i := 42) (N := some 52) (v := undef) (a' := ?_) (bqz 48 8796093022207) rfl rfl qza qzd (Or.inr ⟨by rfl, rfl⟩) ?_ ?_
      rotate_left
      {
      simp only [qzs]
      rfl
      }
      refine pure_ (i := 43) (N := some 53) (v := undef) (a' := ?_) (bqz 48 17592186044415) rfl rfl qza qzd (Or.inr ⟨by rfl, rfl⟩) ?_ ?_
      rotate_left
      {
      simp only [qzs]
      rfl
      }
      refine pure_ (i := 44) (N := some 54) (v := undef) (a' := ?_) (bqz 48 35184372088831) rfl rfl qza qzd (Or.inr ⟨by rfl, rfl⟩) ?_ ?_
      rotate_left
      {
      simp only [qzs]
      rfl
      }
      refine pure_ (i := 45) (N := some 55) (v := undef) (a' := ?_) (bqz 48 70368744177663) rfl rfl qza qzd (Or.inr ⟨by rfl, rfl⟩) ?_ ?_
      rotate_left
      {
      simp only [qzs]
      rfl
      }
      refine pure_ (i := 46) (N := some 56) (v := undef) (a' := ?_) (bqz 48 140737488355327) rfl rfl qza qzd (Or.inr ⟨by rfl, rfl⟩) ?_ ?_
      rotate_left
      {
      simp only [qzs]
      rfl
      }
      refine pure_ (i := 47) (N := some 57) (v := ?_) (a' := ?_) (bqz 48 281474976710655) rfl rfl qza qzd (Or.inl ⟨by rfl, ?_⟩) ?_ ?_
      rotate_left
      {
      intro w'
      go_simp
      with_reducible rfl
      }
      rotate_left
      {
      simp only [qzs]
      rfl
      }
      refine done_ (done_of HT_.out (by kernel_rfl)) ?_
      try go_wp2
      go_ret
      exact ⟨by first | rfl | (simp [errW_none, errW_some] <;> rfl) | (simp [*, errW_none, errW_some] <;> rfl), by repeat (first | (with_reducible first | exact HB.out | apply below_alloc | apply pw_below_drewN | apply below_drew1) | exact HB.out)⟩
      }
      }
      {
      replace c7 := Bool.eq_false_iff.mpr c7
      subst c7
      have H1 : (some false) = some r := by rw [if_neg (show ¬ (false = true) by decide)] at H; exact H
      clear H
      have H := H1
      clear H1
      obtain rfl := Option.some.inj H
      simp only [Option.some.injEq, Prod.mk.injEq] at H
      obtain ⟨rfl⟩ := H
      try go_wp2
      have n0_ := Aside0.mk (below_drew1 HB.out)
      clear HB
      have HB := n0_
      clear n0_
      have p143 : 0 ≤ (x3_1 : Int) := of_decide_eq_true qz3
      have q143 : x3_1 < (l0.length : Int) := of_decide_eq_true qz3
      obtain ⟨ad143, e143, hx143_0, hx143_1, hx143_2⟩ := at_T72 HR0.out x3_1 p143 q143
      have hw143_2 := hx143_2
      have hw143_1 := hx143_1
      have hw143_0 := hx143_0
      cases e143
      replace hx143_0 := (HB.out.cell (World.block_lt_of_cell? w _ hx143_0)).trans hx143_0
      replace hx143_1 := (HB.out.cell (World.block_lt_of_cell? w _ hx143_1)).trans hx143_1
      replace hx143_2 := (HB.out.cell (World.block_lt_of_cell? w _ hx143_2)).trans hx143_2
      replace p143 := eq_true p143
      replace q143 := eq_true q143
      have p145 : 0 ≤ (x3_1 : Int) := of_decide_eq_true qz3
      have q145 : x3_1 < (l0.length : Int) := of_decide_eq_true qz3
      obtain ⟨ad145, e145, hx145_0, hx145_1, hx145_2⟩ := at_T72 HR0.out x3_1 p145 q145
      have hw145_2 := hx145_2
      have hw145_1 := hx145_1
      have hw145_0 := hx145_0
      obtain rfl : ad143 = ad145 := (by injection e145)
      replace hx145_0 := (HB.out.cell (World.block_lt_of_cell? w _ hx145_0)).trans hx145_0
      replace hx145_1 := (HB.out.cell (World.block_lt_of_cell? w _ hx145_1)).trans hx145_1
      replace hx145_2 := (HB.out.cell (World.block_lt_of_cell? w _ hx145_2)).trans hx145_2
      replace p145 := eq_true p145
      replace q145 := eq_true q145
      refine start_ (n := 48) (S := fun w' => w'.cell? (ad143.add ((x3_1).toNat * 3)) = some (.int .i64 ((rd_T72 l0 x3_1).f0)) ∧ w'.cell? ⟨(ad143.add ((x3_1).toNat * 3)).block, (ad143.add ((x3_1).toNat * 3)).off + 1, none⟩ = some (.int .i64 ((rd_T72 l0 x3_1).f1)) ∧ w'.cell? ⟨(ad143.add ((x3_1).toNat * 3)).block, (ad143.add ((x3_1).toNat * 3)).off + 2, none⟩ = some (.int .i64 ((rd_T72 l0 x3_1).f2)) ∧ w'.cell? (ad143.add ((x3_1).toNat * 3)) = some (.int .i64 ((rd_T72 l0 x3_1).f0)) ∧ w'.cell? ⟨(ad143.add ((x3_1).toNat * 3)).block, (ad143.add ((x3_1).toNat * 3)).off + 1, none⟩ = some (.int .i64 ((rd_T72 l0 x3_1).f1)) ∧ w'.cell? ⟨(ad143.add ((x3_1).toNat * 3)).block, (ad143.add ((x3_1).toNat * 3)).off + 2, none⟩ = some (.int .i64 ((rd_T72 l0 x3_1).f2))) (ds := []) #[false, false, false, false, false, false, false, false, false, false, false, false, false, false, false, false, false, false, false, false, false, false, false, false, false, false, false, false, false, false, false, false, false, false, false, false, false, false, false, false, false, false, false, false, false, false, false, false] (by kernel_rfl) rfl rfl ⟨((HB.out.cell (World.block_lt_of_cell? w _ hw143_0)).trans hw143_0), ((HB.out.cell (World.block_lt_of_cell? w _ hw143_1)).trans hw143_1), ((HB.out.cell (World.block_lt_of_cell? w _ hw143_2)).trans hw143_2), ((HB.out.cell (World.block_lt_of_cell? w _ hw145_0)).trans hw145_0), ((HB.out.cell (World.block_lt_of_cell? w _ hw145_1)).trans hw145_1), ((HB.out.cell (World.block_lt_of_cell? w _ hw145_2)).trans hw145_2)⟩ (fun hHeld => ?_); refine with_tabW spec_l5Stacks.tab4 spec_l5Stacks.bits4 (fun HT_ HW_ => ?_)
      generalize wr.drew = w19 at HB hx143_0 hx143_1 hx143_2 hx145_0 hx145_1 hx145_2 hHeld ⊢
      refine pure_ (i := 0) (N := some 10) (v := ?_) (a' := ?_) (bqz 48 1) rfl rfl qza qzd (Or.inl ⟨by rfl, ?_⟩) ?_ ?_
      rotate_left
      {
      intro w'
      go_simp
      with_reducible rfl
      }
      rotate_left
      {
      simp only [qzs]
      rfl
      }
      refine pure_ (i := 1) (N := some 11) (v := ?_) (a' := ?_) (bqz 48 3) rfl rfl qza qzd (Or.inl ⟨by rfl, ?_⟩) ?_ ?_
      rotate_left
      {
      intro w'
      go_simp
      with_reducible rfl
      }
      rotate_left
      {
      simp only [qzs]
      rfl
      }
      refine pure_ (i := 2) (N := some 12) (v := ?_) (a' := ?_) (bqz 48 7) rfl rfl qza qzd (Or.inl ⟨by rfl, ?_⟩) ?_ ?_
      rotate_left
      {
      intro w'
      go_simp
      with_reducible rfl
      }
      rotate_left
      {
      simp only [qzs]
      rfl
      }
      refine pure_ (i := 3) (N := some 13) (v := ?_) (a' := ?_) (bqz 48 15) rfl rfl qza qzd (Or.inl ⟨by rfl, ?_⟩) ?_ ?_
      rotate_left
      {
      intro w'
      go_simp
      with_reducible rfl
      }
      rotate_left
      {
      simp only [qzs]
      rfl
      }
      refine take_ (i := 4) (N := some 14) (v := ?_) (a' := ?_) (bqz 48 31) rfl rfl qzb qzd (Or.inl ⟨by rfl, ?_⟩) hHeld ?_ ?_
      rotate_left
      {
      rintro w' ⟨s0, s1, s2, s3, s4, s5⟩
      go_simp
      with_reducible rfl
      }
      rotate_left
      {
      simp only [qzs]
      rfl
      }
      refine one_ (i := 5) (N := some 15) (bqz 48 63) rfl rfl qzc (by decide) (fun K hK => ?_)
      refine goes_ Try.func81 (by kernel_rfl) rfl #[.int .i64 ((rd_T72 l0 x3_1).f0), .int .i64 1, .int .i64 50] (by rfl) rfl rfl qz2 ?_
      with_reducible refine (spec_l1In.calls ((rd_T72 l0 x3_1).f0) 1 50 true _ A4.out).mono ?_
      rintro e w' ⟨rfl, ⟨nd, rfl⟩⟩
      refine ⟨_, rfl, ?_⟩
      refine hK.out _ _ ⟨((HB.out.cell (World.block_lt_of_cell? w _ hw143_0)).trans hw143_0), ((HB.out.cell (World.block_lt_of_cell? w _ hw143_1)).trans hw143_1), ((HB.out.cell (World.block_lt_of_cell? w _ hw143_2)).trans hw143_2), ((HB.out.cell (World.block_lt_of_cell? w _ hw145_0)).trans hw145_0), ((HB.out.cell (World.block_lt_of_cell? w _ hw145_1)).trans hw145_1), ((HB.out.cell (World.block_lt_of_cell? w _ hw145_2)).trans hw145_2)⟩ (fun hHeld => ?_)
      clear hK K
      refine norm_ (a' := ?_) ?_ ?_
      rotate_left
      {
      show Act.put _ (some 15) _ = _
      simp only [qzs]
      rfl
      }
      refine pure_ (i := 6) (N := some 16) (v := ?_) (a' := ?_) (bqz 48 127) rfl rfl qza qzd (Or.inl ⟨by rfl, ?_⟩) ?_ ?_
      rotate_left
      {
      intro w'
      go_simp
      with_reducible rfl
      }
      rotate_left
      {
      simp only [qzs]
      rfl
      }
      refine pure_ (i := 7) (N := some 17) (v := ?_) (a' := ?_) (bqz 48 255) rfl rfl qza qzd (Or.inl ⟨by rfl, ?_⟩) ?_ ?_
      rotate_left
      {
      intro w'
      go_simp
      with_reducible rfl
      }
      rotate_left
      {
      simp only [qzs]
      rfl
      }
      refine pure_ (i := 8) (N := some 18) (v := ?_) (a' := ?_) (bqz 48 511) rfl rfl qza qzd (Or.inl ⟨by rfl, ?_⟩) ?_ ?_
      rotate_left
      {
      intro w'
      go_simp
      with_reducible rfl
      }
      rotate_left
      {
      simp only [qzs]
      rfl
      }
      refine pure_ (i := 9) (N := some 19) (v := ?_) (a' := ?_) (bqz 48 1023) rfl rfl qza qzd (Or.inl ⟨by rfl, ?_⟩) ?_ ?_
      rotate_left
      {
      intro w'
      go_simp
      with_reducible rfl
      }
      rotate_left
      {
      simp only [qzs]
      rfl
      }
      refine pure_ (i := 10) (N := some 20) (v := ?_) (a' := ?_) (bqz 48 2047) rfl rfl qza qzd (Or.inl ⟨by rfl, ?_⟩) ?_ ?_
      rotate_left
      {
      intro w'
      go_simp
      with_reducible rfl
      }
      rotate_left
      {
      simp only [qzs]
      rfl
      }
      refine pure_ (i := 11) (N := some 21) (v := ?_) (a' := ?_) (bqz 48 4095) rfl rfl qza qzd (Or.inl ⟨by rfl, ?_⟩) ?_ ?_
      rotate_left
      {
      intro w'
      go_simp
      with_reducible rfl
      }
      rotate_left
      {
      simp only [qzs]
      rfl
      }
      refine take_ (i := 12) (N := some 22) (v := ?_) (a' := ?_) (bqz 48 8191) rfl rfl qzb qzd (Or.inl ⟨by rfl, ?_⟩) hHeld ?_ ?_
      rotate_left
      {
      rintro w' ⟨s0, s1, s2, s3, s4, s5⟩
      go_simp
      with_reducible rfl
      }
      rotate_left
      {
      simp only [qzs]
      rfl
      }
      refine one_ (i := 13) (N := some 23) (bqz 48 16383) rfl rfl qzc (by decide) (fun K hK => ?_)
      refine goes_ Try.func81 (by kernel_rfl) rfl #[.int .i64 ((rd_T72 l0 x3_1).f1), .int .i64 1, .int .i64 1000] (by rfl) rfl rfl qz2 ?_
      with_reducible refine (spec_l1In.calls ((rd_T72 l0 x3_1).f1) 1 1000 false _ A6.out).mono ?_
      rintro e w' ⟨rfl, ⟨nd, rfl⟩⟩
      refine ⟨_, rfl, ?_⟩
      refine hK.out _ _ ⟨((HB.out.cell (World.block_lt_of_cell? w _ hw143_0)).trans hw143_0), ((HB.out.cell (World.block_lt_of_cell? w _ hw143_1)).trans hw143_1), ((HB.out.cell (World.block_lt_of_cell? w _ hw143_2)).trans hw143_2), ((HB.out.cell (World.block_lt_of_cell? w _ hw145_0)).trans hw145_0), ((HB.out.cell (World.block_lt_of_cell? w _ hw145_1)).trans hw145_1), ((HB.out.cell (World.block_lt_of_cell? w _ hw145_2)).trans hw145_2)⟩ (fun hHeld => ?_)
      clear hK K
      refine norm_ (a' := ?_) ?_ ?_
      rotate_left
      {
      show Act.put _ (some 23) _ = _
      simp only [qzs]
      rfl
      }
      refine pure_ (i := 14) (N := some 24) (v := ?_) (a' := ?_) (bqz 48 32767) rfl rfl qza qzd (Or.inl ⟨by rfl, ?_⟩) ?_ ?_
      rotate_left
      {
      intro w'
      go_simp
      with_reducible rfl
      }
      rotate_left
      {
      simp only [qzs]
      rfl
      }
      refine pure_ (i := 15) (N := some 25) (v := ?_) (a' := ?_) (bqz 48 65535) rfl rfl qza qzd (Or.inl ⟨by rfl, ?_⟩) ?_ ?_
      rotate_left
      {
      intro w'
      go_simp
      with_reducible rfl
      }
      rotate_left
      {
      simp only [qzs]
      rfl
      }
      refine pure_ (i := 16) (N := some 26) (v := ?_) (a' := ?_) (bqz 48 131071) rfl rfl qza qzd (Or.inl ⟨by rfl, ?_⟩) ?_ ?_
      rotate_left
      {
      intro w'
      go_simp
      with_reducible rfl
      }
      rotate_left
      {
      simp only [qzs]
      rfl
      }
      refine pure_ (i := 17) (N := some 27) (v := undef) (a' := ?_) (bqz 48 262143) rfl rfl qza qzd (Or.inr ⟨by rfl, rfl⟩) ?_ ?_
      rotate_left
      {
      simp only [qzs]
      rfl
      }
      refine pure_ (i := 18) (N := some 28) (v := undef) (a' := ?_) (bqz 48 524287) rfl rfl qza qzd (Or.inr ⟨by rfl, rfl⟩) ?_ ?_
      rotate_left
      {
      simp only [qzs]
      rfl
      }
      refine pure_ (i := 19) (N := some 29) (v := undef) (a' := ?_) (bqz 48 1048575) rfl rfl qza qzd (Or.inr ⟨by rfl, rfl⟩) ?_ ?_
      rotate_left
      {
      simp only [qzs]
      rfl
      }
      refine pure_ (i := 20) (N := some 30) (v := undef) (a' := ?_) (bqz 48 2097151) rfl rfl qza qzd (Or.inr ⟨by rfl, rfl⟩) ?_ ?_
      rotate_left
      {
      simp only [qzs]
      rfl
      }
      refine pure_ (i := 21) (N := some 31) (v := undef) (a' := ?_) (bqz 48 4194303) rfl rfl qza qzd (Or.inr ⟨by rfl, rfl⟩) ?_ ?_
      rotate_left
      {
      simp only [qzs]
      rfl
      }
      refine pure_ (i := 22) (N := some 32) (v := undef) (a' := ?_) (bqz 48 8388607) rfl rfl qza qzd (Or.inr ⟨by rfl, rfl⟩) ?_ ?_
      rotate_left
      {
      simp only [qzs]
      rfl
      }
      refine pure_ (i := 23) (N := some 33) (v := undef) (a' := ?_) (bqz 48 16777215) rfl rfl qza qzd (Or.inr ⟨by rfl, rfl⟩) ?_ ?_
      rotate_left
      {
      simp only [qzs]
      rfl
      }
      refine pure_ (i := 24) (N := some 34) (v := undef) (a' := ?_) (bqz 48 33554431) rfl rfl qza qzd (Or.inr ⟨by rfl, rfl⟩) ?_ ?_
      rotate_left
      {
      simp only [qzs]
      rfl
      }
      refine pure_ (i := 25) (N := some 35) (v := undef) (a' := ?_) (bqz 48 67108863) rfl rfl qza qzd (Or.inr ⟨by rfl, rfl⟩) ?_ ?_
      rotate_left
      {
      simp only [qzs]
      rfl
      }
      refine pure_ (i := 26) (N := some 36) (v := undef) (a' := ?_) (bqz 48 134217727) rfl rfl qza qzd (Or.inr ⟨by rfl, rfl⟩) ?_ ?_
      rotate_left
      {
      simp only [qzs]
      rfl
      }
      refine pure_ (i := 27) (N := some 37) (v := undef) (a' := ?_) (bqz 48 268435455) rfl rfl qza qzd (Or.inr ⟨by rfl, rfl⟩) ?_ ?_
      rotate_left
      {
      simp only [qzs]
      rfl
      }
      refine pure_ (i := 28) (N := some 38) (v := undef) (a' := ?_) (bqz 48 536870911) rfl rfl qza qzd (Or.inr ⟨by rfl, rfl⟩) ?_ ?_
      rotate_left
      {
      simp only [qzs]
      rfl
      }
      refine pure_ (i := 29) (N := some 39) (v := ?_) (a' := ?_) (bqz 48 1073741823) rfl rfl qza qzd (Or.inl ⟨by rfl, ?_⟩) ?_ ?_
      rotate_left
      {
      intro w'
      go_simp
      with_reducible rfl
      }
      rotate_left
      {
      simp only [qzs]
      rfl
      }
      refine pure_ (i := 30) (N := some 40) (v := ?_) (a' := ?_) (bqz 48 2147483647) rfl rfl qza qzd (Or.inl ⟨by rfl, ?_⟩) ?_ ?_
      rotate_left
      {
      intro w'
      go_simp
      with_reducible rfl
      }
      rotate_left
      {
      simp only [qzs]
      rfl
      }
      refine pure_ (i := 31) (N := some 41) (v := undef) (a' := ?_) (bqz 48 4294967295) rfl rfl qza qzd (Or.inr ⟨by rfl, rfl⟩) ?_ ?_
      rotate_left
      {
      simp only [qzs]
      rfl
      }
      refine pure_ (i := 32) (N := some 42) (v := undef) (a' := ?_) (bqz 48 8589934591) rfl rfl qza qzd (Or.inr ⟨by rfl, rfl⟩) ?_ ?_
      rotate_left
      {
      simp only [qzs]
      rfl
      }
      refine pure_ (i := 33) (N := some 43) (v := undef) (a' := ?_) (bqz 48 17179869183) rfl rfl qza qzd (Or.inr ⟨by rfl, rfl⟩) ?_ ?_
      rotate_left
      {
      simp only [qzs]
      rfl
      }
      refine pure_ (i := 34) (N := some 44) (v := undef) (a' := ?_) (bqz 48 34359738367) rfl rfl qza qzd (Or.inr ⟨by rfl, rfl⟩) ?_ ?_
      rotate_left
      {
      simp only [qzs]
      rfl
      }
      refine pure_ (i := 35) (N := some 45) (v := undef) (a' := ?_) (bqz 48 68719476735) rfl rfl qza qzd (Or.inr ⟨by rfl, rfl⟩) ?_ ?_
      rotate_left
      {
      simp only [qzs]
      rfl
      }
      refine pure_ (i := 36) (N := some 46) (v := undef) (a' := ?_) (bqz 48 137438953471) rfl rfl qza qzd (Or.inr ⟨by rfl, rfl⟩) ?_ ?_
      rotate_left
      {
      simp only [qzs]
      rfl
      }
      refine pure_ (i := 37) (N := some 47) (v := undef) (a' := ?_) (bqz 48 274877906943) rfl rfl qza qzd (Or.inr ⟨by rfl, rfl⟩) ?_ ?_
      rotate_left
      {
      simp only [qzs]
      rfl
      }
      refine pure_ (i := 38) (N := some 48) (v := undef) (a' := ?_) (bqz 48 549755813887) rfl rfl qza qzd (Or.inr ⟨by rfl, rfl⟩) ?_ ?_
      rotate_left
      {
      simp only [qzs]
      rfl
      }
      refine pure_ (i := 39) (N := some 49) (v := undef) (a' := ?_) (bqz 48 1099511627775) rfl rfl qza qzd (Or.inr ⟨by rfl, rfl⟩) ?_ ?_
      rotate_left
      {
      simp only [qzs]
      rfl
      }
      refine pure_ (i := 40) (N := some 50) (v := undef) (a' := ?_) (bqz 48 2199023255551) rfl rfl qza qzd (Or.inr ⟨by rfl, rfl⟩) ?_ ?_
      rotate_left
      {
      simp only [qzs]
      rfl
      }
      refine pure_ (i := 41) (N := some 51) (v := undef) (a' := ?_) (bqz 48 4398046511103) rfl rfl qza qzd (Or.inr ⟨by rfl, rfl⟩) ?_ ?_
      rotate_left
      {
      simp only [qzs]
      rfl
      }
      refine pure_ (i := 42) (N := some 52) (v := undef) (a' := ?_) (bqz 48 8796093022207) rfl rfl qza qzd (Or.inr ⟨by rfl, rfl⟩) ?_ ?_
      rotate_left
      {
      simp only [qzs]
      rfl
      }
      refine pure_ (i := 43) (N := some 53) (v := undef) (a' := ?_) (bqz 48 17592186044415) rfl rfl qza qzd (Or.inr ⟨by rfl, rfl⟩) ?_ ?_
      rotate_left
      {
      simp only [qzs]
      rfl
      }
      refine pure_ (i := 44) (N := some 54) (v := undef) (a' := ?_) (bqz 48 35184372088831) rfl rfl qza qzd (Or.inr ⟨by rfl, rfl⟩) ?_ ?_
      rotate_left
      {
      simp only [qzs]
      rfl
      }
      refine pure_ (i := 45) (N := some 55) (v := undef) (a' := ?_) (bqz 48 70368744177663) rfl rfl qza qzd (Or.inr ⟨by rfl, rfl⟩) ?_ ?_
      rotate_left
      {
      simp only [qzs]
      rfl
      }
      refine pure_ (i := 46) (N := some 56) (v := undef) (a' := ?_) (bqz 48 140737488355327) rfl rfl qza qzd (Or.inr ⟨by rfl, rfl⟩) ?_ ?_
      rotate_left
      {
      simp only [qzs]
      rfl
      }
      refine pure_ (i := 47) (N := some 57) (v := ?_) (a' := ?_) (bqz 48 281474976710655) rfl rfl qza qzd (Or.inl ⟨by rfl, ?_⟩) ?_ ?_
      rotate_left
      {
      intro w'
      go_simp
      with_reducible rfl
      }
      rotate_left
      {
      simp only [qzs]
      rfl
      }
      refine done_ (done_of HT_.out (by kernel_rfl)) ?_
      try go_wp2
      go_ret
      exact ⟨by first | rfl | (simp [errW_none, errW_some] <;> rfl) | (simp [*, errW_none, errW_some] <;> rfl), by repeat (first | (with_reducible first | exact HB.out | apply below_alloc | apply pw_below_drewN | apply below_drew1) | exact HB.out)⟩
      }
      }
      {
      replace c5 := Bool.eq_false_iff.mpr c5
      subst c5
      have H1 : (some false) = some r := by rw [if_neg (show ¬ (false = true) by decide)] at H; exact H
      clear H
      have H := H1
      clear H1
      obtain rfl := Option.some.inj H
      simp only [Option.some.injEq, Prod.mk.injEq] at H
      obtain ⟨rfl⟩ := H
      try go_wp2
      have n0_ := Aside0.mk (below_drew1 HB.out)
      clear HB
      have HB := n0_
      clear n0_
      have p143 : 0 ≤ (x3_1 : Int) := of_decide_eq_true qz3
      have q143 : x3_1 < (l0.length : Int) := of_decide_eq_true qz3
      obtain ⟨ad143, e143, hx143_0, hx143_1, hx143_2⟩ := at_T72 HR0.out x3_1 p143 q143
      have hw143_2 := hx143_2
      have hw143_1 := hx143_1
      have hw143_0 := hx143_0
      cases e143
      replace hx143_0 := (HB.out.cell (World.block_lt_of_cell? w _ hx143_0)).trans hx143_0
      replace hx143_1 := (HB.out.cell (World.block_lt_of_cell? w _ hx143_1)).trans hx143_1
      replace hx143_2 := (HB.out.cell (World.block_lt_of_cell? w _ hx143_2)).trans hx143_2
      replace p143 := eq_true p143
      replace q143 := eq_true q143
      refine start_ (n := 48) (S := fun w' => w'.cell? (ad143.add ((x3_1).toNat * 3)) = some (.int .i64 ((rd_T72 l0 x3_1).f0)) ∧ w'.cell? ⟨(ad143.add ((x3_1).toNat * 3)).block, (ad143.add ((x3_1).toNat * 3)).off + 1, none⟩ = some (.int .i64 ((rd_T72 l0 x3_1).f1)) ∧ w'.cell? ⟨(ad143.add ((x3_1).toNat * 3)).block, (ad143.add ((x3_1).toNat * 3)).off + 2, none⟩ = some (.int .i64 ((rd_T72 l0 x3_1).f2))) (ds := []) #[false, false, false, false, false, false, false, false, false, false, false, false, false, false, false, false, false, false, false, false, false, false, false, false, false, false, false, false, false, false, false, false, false, false, false, false, false, false, false, false, false, false, false, false, false, false, false, false] (by kernel_rfl) rfl rfl ⟨((HB.out.cell (World.block_lt_of_cell? w _ hw143_0)).trans hw143_0), ((HB.out.cell (World.block_lt_of_cell? w _ hw143_1)).trans hw143_1), ((HB.out.cell (World.block_lt_of_cell? w _ hw143_2)).trans hw143_2)⟩ (fun hHeld => ?_); refine with_tabW spec_l5Stacks.tab4 spec_l5Stacks.bits4 (fun HT_ HW_ => ?_)
      generalize wr.drew = w20 at HB hx143_0 hx143_1 hx143_2 hHeld ⊢
      refine pure_ (i := 0) (N := some 10) (v := ?_) (a' := ?_) (bqz 48 1) rfl rfl qza qzd (Or.inl ⟨by rfl, ?_⟩) ?_ ?_
      rotate_left
      {
      intro w'
      go_simp
      with_reducible rfl
      }
      rotate_left
      {
      simp only [qzs]
      rfl
      }
      refine pure_ (i := 1) (N := some 11) (v := ?_) (a' := ?_) (bqz 48 3) rfl rfl qza qzd (Or.inl ⟨by rfl, ?_⟩) ?_ ?_
      rotate_left
      {
      intro w'
      go_simp
      with_reducible rfl
      }
      rotate_left
      {
      simp only [qzs]
      rfl
      }
      refine pure_ (i := 2) (N := some 12) (v := ?_) (a' := ?_) (bqz 48 7) rfl rfl qza qzd (Or.inl ⟨by rfl, ?_⟩) ?_ ?_
      rotate_left
      {
      intro w'
      go_simp
      with_reducible rfl
      }
      rotate_left
      {
      simp only [qzs]
      rfl
      }
      refine pure_ (i := 3) (N := some 13) (v := ?_) (a' := ?_) (bqz 48 15) rfl rfl qza qzd (Or.inl ⟨by rfl, ?_⟩) ?_ ?_
      rotate_left
      {
      intro w'
      go_simp
      with_reducible rfl
      }
      rotate_left
      {
      simp only [qzs]
      rfl
      }
      refine take_ (i := 4) (N := some 14) (v := ?_) (a' := ?_) (bqz 48 31) rfl rfl qzb qzd (Or.inl ⟨by rfl, ?_⟩) hHeld ?_ ?_
      rotate_left
      {
      rintro w' ⟨s0, s1, s2⟩
      go_simp
      with_reducible rfl
      }
      rotate_left
      {
      simp only [qzs]
      rfl
      }
      refine one_ (i := 5) (N := some 15) (bqz 48 63) rfl rfl qzc (by decide) (fun K hK => ?_)
      refine goes_ Try.func81 (by kernel_rfl) rfl #[.int .i64 ((rd_T72 l0 x3_1).f0), .int .i64 1, .int .i64 50] (by rfl) rfl rfl qz2 ?_
      with_reducible refine (spec_l1In.calls ((rd_T72 l0 x3_1).f0) 1 50 false _ A4.out).mono ?_
      rintro e w' ⟨rfl, ⟨nd, rfl⟩⟩
      refine ⟨_, rfl, ?_⟩
      refine hK.out _ _ ⟨((HB.out.cell (World.block_lt_of_cell? w _ hw143_0)).trans hw143_0), ((HB.out.cell (World.block_lt_of_cell? w _ hw143_1)).trans hw143_1), ((HB.out.cell (World.block_lt_of_cell? w _ hw143_2)).trans hw143_2)⟩ (fun hHeld => ?_)
      clear hK K
      refine norm_ (a' := ?_) ?_ ?_
      rotate_left
      {
      show Act.put _ (some 15) _ = _
      simp only [qzs]
      rfl
      }
      refine pure_ (i := 6) (N := some 16) (v := ?_) (a' := ?_) (bqz 48 127) rfl rfl qza qzd (Or.inl ⟨by rfl, ?_⟩) ?_ ?_
      rotate_left
      {
      intro w'
      go_simp
      with_reducible rfl
      }
      rotate_left
      {
      simp only [qzs]
      rfl
      }
      refine pure_ (i := 7) (N := some 17) (v := ?_) (a' := ?_) (bqz 48 255) rfl rfl qza qzd (Or.inl ⟨by rfl, ?_⟩) ?_ ?_
      rotate_left
      {
      intro w'
      go_simp
      with_reducible rfl
      }
      rotate_left
      {
      simp only [qzs]
      rfl
      }
      refine pure_ (i := 8) (N := some 18) (v := undef) (a' := ?_) (bqz 48 511) rfl rfl qza qzd (Or.inr ⟨by rfl, rfl⟩) ?_ ?_
      rotate_left
      {
      simp only [qzs]
      rfl
      }
      refine pure_ (i := 9) (N := some 19) (v := undef) (a' := ?_) (bqz 48 1023) rfl rfl qza qzd (Or.inr ⟨by rfl, rfl⟩) ?_ ?_
      rotate_left
      {
      simp only [qzs]
      rfl
      }
      refine pure_ (i := 10) (N := some 20) (v := undef) (a' := ?_) (bqz 48 2047) rfl rfl qza qzd (Or.inr ⟨by rfl, rfl⟩) ?_ ?_
      rotate_left
      {
      simp only [qzs]
      rfl
      }
      refine pure_ (i := 11) (N := some 21) (v := undef) (a' := ?_) (bqz 48 4095) rfl rfl qza qzd (Or.inr ⟨by rfl, rfl⟩) ?_ ?_
      rotate_left
      {
      simp only [qzs]
      rfl
      }
      refine pure_ (i := 12) (N := some 22) (v := undef) (a' := ?_) (bqz 48 8191) rfl rfl qza qzd (Or.inr ⟨by rfl, rfl⟩) ?_ ?_
      rotate_left
      {
      simp only [qzs]
      rfl
      }
      refine pure_ (i := 13) (N := some 23) (v := undef) (a' := ?_) (bqz 48 16383) rfl rfl qza qzd (Or.inr ⟨by rfl, rfl⟩) ?_ ?_
      rotate_left
      {
      simp only [qzs]
      rfl
      }
      refine pure_ (i := 14) (N := some 24) (v := undef) (a' := ?_) (bqz 48 32767) rfl rfl qza qzd (Or.inr ⟨by rfl, rfl⟩) ?_ ?_
      rotate_left
      {
      simp only [qzs]
      rfl
      }
      refine pure_ (i := 15) (N := some 25) (v := ?_) (a' := ?_) (bqz 48 65535) rfl rfl qza qzd (Or.inl ⟨by rfl, ?_⟩) ?_ ?_
      rotate_left
      {
      intro w'
      go_simp
      with_reducible rfl
      }
      rotate_left
      {
      simp only [qzs]
      rfl
      }
      refine pure_ (i := 16) (N := some 26) (v := ?_) (a' := ?_) (bqz 48 131071) rfl rfl qza qzd (Or.inl ⟨by rfl, ?_⟩) ?_ ?_
      rotate_left
      {
      intro w'
      go_simp
      with_reducible rfl
      }
      rotate_left
      {
      simp only [qzs]
      rfl
      }
      refine pure_ (i := 17) (N := some 27) (v := undef) (a' := ?_) (bqz 48 262143) rfl rfl qza qzd (Or.inr ⟨by rfl, rfl⟩) ?_ ?_
      rotate_left
      {
      simp only [qzs]
      rfl
      }
      refine pure_ (i := 18) (N := some 28) (v := undef) (a' := ?_) (bqz 48 524287) rfl rfl qza qzd (Or.inr ⟨by rfl, rfl⟩) ?_ ?_
      rotate_left
      {
      simp only [qzs]
      rfl
      }
      refine pure_ (i := 19) (N := some 29) (v := undef) (a' := ?_) (bqz 48 1048575) rfl rfl qza qzd (Or.inr ⟨by rfl, rfl⟩) ?_ ?_
      rotate_left
      {
      simp only [qzs]
      rfl
      }
      refine pure_ (i := 20) (N := some 30) (v := undef) (a' := ?_) (bqz 48 2097151) rfl rfl qza qzd (Or.inr ⟨by rfl, rfl⟩) ?_ ?_
      rotate_left
      {
      simp only [qzs]
      rfl
      }
      refine pure_ (i := 21) (N := some 31) (v := undef) (a' := ?_) (bqz 48 4194303) rfl rfl qza qzd (Or.inr ⟨by rfl, rfl⟩) ?_ ?_
      rotate_left
      {
      simp only [qzs]
      rfl
      }
      refine pure_ (i := 22) (N := some 32) (v := undef) (a' := ?_) (bqz 48 8388607) rfl rfl qza qzd (Or.inr ⟨by rfl, rfl⟩) ?_ ?_
      rotate_left
      {
      simp only [qzs]
      rfl
      }
      refine pure_ (i := 23) (N := some 33) (v := undef) (a' := ?_) (bqz 48 16777215) rfl rfl qza qzd (Or.inr ⟨by rfl, rfl⟩) ?_ ?_
      rotate_left
      {
      simp only [qzs]
      rfl
      }
      refine pure_ (i := 24) (N := some 34) (v := undef) (a' := ?_) (bqz 48 33554431) rfl rfl qza qzd (Or.inr ⟨by rfl, rfl⟩) ?_ ?_
      rotate_left
      {
      simp only [qzs]
      rfl
      }
      refine pure_ (i := 25) (N := some 35) (v := undef) (a' := ?_) (bqz 48 67108863) rfl rfl qza qzd (Or.inr ⟨by rfl, rfl⟩) ?_ ?_
      rotate_left
      {
      simp only [qzs]
      rfl
      }
      refine pure_ (i := 26) (N := some 36) (v := undef) (a' := ?_) (bqz 48 134217727) rfl rfl qza qzd (Or.inr ⟨by rfl, rfl⟩) ?_ ?_
      rotate_left
      {
      simp only [qzs]
      rfl
      }
      refine pure_ (i := 27) (N := some 37) (v := undef) (a' := ?_) (bqz 48 268435455) rfl rfl qza qzd (Or.inr ⟨by rfl, rfl⟩) ?_ ?_
      rotate_left
      {
      simp only [qzs]
      rfl
      }
      refine pure_ (i := 28) (N := some 38) (v := undef) (a' := ?_) (bqz 48 536870911) rfl rfl qza qzd (Or.inr ⟨by rfl, rfl⟩) ?_ ?_
      rotate_left
      {
      simp only [qzs]
      rfl
      }
      refine pure_ (i := 29) (N := some 39) (v := ?_) (a' := ?_) (bqz 48 1073741823) rfl rfl qza qzd (Or.inl ⟨by rfl, ?_⟩) ?_ ?_
      rotate_left
      {
      intro w'
      go_simp
      with_reducible rfl
      }
      rotate_left
      {
      simp only [qzs]
      rfl
      }
      refine pure_ (i := 30) (N := some 40) (v := ?_) (a' := ?_) (bqz 48 2147483647) rfl rfl qza qzd (Or.inl ⟨by rfl, ?_⟩) ?_ ?_
      rotate_left
      {
      intro w'
      go_simp
      with_reducible rfl
      }
      rotate_left
      {
      simp only [qzs]
      rfl
      }
      refine pure_ (i := 31) (N := some 41) (v := undef) (a' := ?_) (bqz 48 4294967295) rfl rfl qza qzd (Or.inr ⟨by rfl, rfl⟩) ?_ ?_
      rotate_left
      {
      simp only [qzs]
      rfl
      }
      refine pure_ (i := 32) (N := some 42) (v := undef) (a' := ?_) (bqz 48 8589934591) rfl rfl qza qzd (Or.inr ⟨by rfl, rfl⟩) ?_ ?_
      rotate_left
      {
      simp only [qzs]
      rfl
      }
      refine pure_ (i := 33) (N := some 43) (v := undef) (a' := ?_) (bqz 48 17179869183) rfl rfl qza qzd (Or.inr ⟨by rfl, rfl⟩) ?_ ?_
      rotate_left
      {
      simp only [qzs]
      rfl
      }
      refine pure_ (i := 34) (N := some 44) (v := undef) (a' := ?_) (bqz 48 34359738367) rfl rfl qza qzd (Or.inr ⟨by rfl, rfl⟩) ?_ ?_
      rotate_left
      {
      simp only [qzs]
      rfl
      }
      refine pure_ (i := 35) (N := some 45) (v := undef) (a' := ?_) (bqz 48 68719476735) rfl rfl qza qzd (Or.inr ⟨by rfl, rfl⟩) ?_ ?_
      rotate_left
      {
      simp only [qzs]
      rfl
      }
      refine pure_ (i := 36) (N := some 46) (v := undef) (a' := ?_) (bqz 48 137438953471) rfl rfl qza qzd (Or.inr ⟨by rfl, rfl⟩) ?_ ?_
      rotate_left
      {
      simp only [qzs]
      rfl
      }
      refine pure_ (i := 37) (N := some 47) (v := undef) (a' := ?_) (bqz 48 274877906943) rfl rfl qza qzd (Or.inr ⟨by rfl, rfl⟩) ?_ ?_
      rotate_left
      {
      simp only [qzs]
      rfl
      }
      refine pure_ (i := 38) (N := some 48) (v := undef) (a' := ?_) (bqz 48 549755813887) rfl rfl qza qzd (Or.inr ⟨by rfl, rfl⟩) ?_ ?_
      rotate_left
      {
      simp only [qzs]
      rfl
      }
      refine pure_ (i := 39) (N := some 49) (v := undef) (a' := ?_) (bqz 48 1099511627775) rfl rfl qza qzd (Or.inr ⟨by rfl, rfl⟩) ?_ ?_
      rotate_left
      {
      simp only [qzs]
      rfl
      }
      refine pure_ (i := 40) (N := some 50) (v := undef) (a' := ?_) (bqz 48 2199023255551) rfl rfl qza qzd (Or.inr ⟨by rfl, rfl⟩) ?_ ?_
      rotate_left
      {
      simp only [qzs]
      rfl
      }
      refine pure_ (i := 41) (N := some 51) (v := undef) (a' := ?_) (bqz 48 4398046511103) rfl rfl qza qzd (Or.inr ⟨by rfl, rfl⟩) ?_ ?_
      rotate_left
      {
      simp only [qzs]
      rfl
      }
      refine pure_ (i := 42) (N := some 52) (v := undef) (a' := ?_) (bqz 48 8796093022207) rfl rfl qza qzd (Or.inr ⟨by rfl, rfl⟩) ?_ ?_
      rotate_left
      {
      simp only [qzs]
      rfl
      }
      refine pure_ (i := 43) (N := some 53) (v := undef) (a' := ?_) (bqz 48 17592186044415) rfl rfl qza qzd (Or.inr ⟨by rfl, rfl⟩) ?_ ?_
      rotate_left
      {
      simp only [qzs]
      rfl
      }
      refine pure_ (i := 44) (N := some 54) (v := undef) (a' := ?_) (bqz 48 35184372088831) rfl rfl qza qzd (Or.inr ⟨by rfl, rfl⟩) ?_ ?_
      rotate_left
      {
      simp only [qzs]
      rfl
      }
      refine pure_ (i := 45) (N := some 55) (v := undef) (a' := ?_) (bqz 48 70368744177663) rfl rfl qza qzd (Or.inr ⟨by rfl, rfl⟩) ?_ ?_
      rotate_left
      {
      simp only [qzs]
      rfl
      }
      refine pure_ (i := 46) (N := some 56) (v := undef) (a' := ?_) (bqz 48 140737488355327) rfl rfl qza qzd (Or.inr ⟨by rfl, rfl⟩) ?_ ?_
      rotate_left
      {
      simp only [qzs]
      rfl
      }
      refine pure_ (i := 47) (N := some 57) (v := ?_) (a' := ?_) (bqz 48 281474976710655) rfl rfl qza qzd (Or.inl ⟨by rfl, ?_⟩) ?_ ?_
      rotate_left
      {
      intro w'
      go_simp
      with_reducible rfl
      }
      rotate_left
      {
      simp only [qzs]
      rfl
      }
      refine done_ (done_of HT_.out (by kernel_rfl)) ?_
      try go_wp2
      go_ret
      exact ⟨by first | rfl | (simp [errW_none, errW_some] <;> rfl) | (simp [*, errW_none, errW_some] <;> rfl), by repeat (first | (with_reducible first | exact HB.out | apply below_alloc | apply pw_below_drewN | apply below_drew1) | exact HB.out)⟩
      }
      }
      {
      rw [if_neg c3] at H
      exact absurd H (by simp)
      }
      }
      {
      rw [if_neg c2] at H
      have c2b0 : decide (x3_1 < (l0.length : Int)) = false := decide_eq_false c2
      clear c2
      obtain rfl := Option.some.inj H
      simp only [Option.some.injEq, Prod.mk.injEq] at H
      obtain ⟨rfl⟩ := H
      go_wp2
      go_ret
      exact ⟨by first | rfl | (simp [errW_none, errW_some] <;> rfl) | (simp [*, errW_none, errW_some] <;> rfl), by repeat (first | (with_reducible first | exact HB.out | apply below_alloc | apply pw_below_drewN | apply below_drew1) | exact HB.out)⟩

      }
end Go.Proofs.Yteajnkondkfmgaa.PFnExactPutIn
