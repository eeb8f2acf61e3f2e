-- Made by a program of this session out of the translation. Lean checks it.
import Derived.Test.YtbebfhlejnidkaaPFnExactMatchx0
namespace Go.Proofs.Ytbebfhlejnidkaa.PFnExactMatch
open Go.RowKit Go.Proofs.YtbebfhlejnidkaaW.PrintWords Go.Proofs.YtbebfhlejnidkaaW.PrintLast Go.Proofs.YtbebfhlejnidkaaW.PrintMore
attribute [local go_sem] max2_int min2_int max_two min_two max_three min_three max_four min_four   -- for this text's walks alone
set_option linter.unusedVariables false
set_option linter.unusedSimpArgs false

/-! ### impl_least: function 38 -/
mutual
def impl_least.j0 : Nat → List (List Int) → Int → Option ((List (List Int)))
 | 0, _, _ => none
 | k + 1, x0, x3 => if 0 ≤ (wrap64 ((x0.length : Int) + 1)) then (if (wrap64 ((x0.length : Int) + 1) : Int).toNat ≤ 11728124029610 then ((some (List.replicate (wrap64 ((x0.length : Int) + 1) : Int).toNat [] : List (List Int))).bind fun y246 => (if 0 ≤ x3 then (if 0 ≤ (shl .i64 1 x3) then (if (shl .i64 1 x3 : Int).toNat ≤ 35184372088832 then (if 0 ≤ (x0.length : Int) then (if (x0.length : Int) < (y246.length : Int) then (impl_least.l0 k x0 x3 (y246.set ((x0.length : Int) : Int).toNat (List.replicate (shl .i64 1 x3 : Int).toNat 0)) (wrap64 ((x0.length : Int) - 1))) else (none)) else (none)) else (none)) else (none)) else (none))) else (none)) else (none)
def impl_least.l0 : Nat → List (List Int) → Int → List (List Int) → Int → Option ((List (List Int)))
 | 0, _, _, _, _ => none
 | k + 1, x0, x3, x4, x5 => if x5 ≥ 0 then (if 0 ≤ x3 then (if 0 ≤ (shl .i64 1 x3) then (if (shl .i64 1 x3 : Int).toNat ≤ 35184372088832 then (if 0 ≤ x5 then (if x5 < (x4.length : Int) then ((some (x4.set (x5 : Int).toNat (List.replicate (shl .i64 1 x3 : Int).toNat 0) : List (List Int))).bind fun y256 => (impl_least.l1 k x0 x3 y256 x5 ((rd_L1 y256 x5).length : Int) 0)) else (none)) else (none)) else (none)) else (none)) else (none)) else (some x4)
def impl_least.l1 : Nat → List (List Int) → Int → List (List Int) → Int → Int → Int → Option ((List (List Int)))
 | 0, _, _, _, _, _, _ => none
 | k + 1, x0, x3, x4, x5, x44, x45 => if x45 < x44 then (if 0 ≤ x5 then (if x5 < (x4.length : Int) then (if 0 ≤ x45 then (if x45 < ((rd_L1 x4 x5).length : Int) then (impl_least.l2 k x0 x3 (x4.set (x5 : Int).toNat ((rd_L1 x4 x5).set (x45 : Int).toNat (-1))) x5 x45 x44 x45 x3 0) else (none)) else (none)) else (none)) else (none)) else (impl_least.l0 k x0 x3 x4 (wrap64 (x5 - 1)))
def impl_least.l2 : Nat → List (List Int) → Int → List (List Int) → Int → Int → Int → Int → Int → Int → Option ((List (List Int)))
 | 0, _, _, _, _, _, _, _, _, _ => none
 | k + 1, x0, x3, x4, x5, x6, x44, x45, x54, x55 => if x55 < x54 then (if 0 ≤ x55 then (if (Go.bits .and .i64 (shr .i64 x6 x55) 1) = 1 then (impl_least.j4 k x0 x3 x4 x5 x6 x55 x44 x45 x54 x55 true) else (if 0 ≤ (wrap64 (x5 + 1)) then (if (wrap64 (x5 + 1)) < (x4.length : Int) then (if 0 ≤ (Go.bits .or .i64 x6 (shl .i64 1 x55)) then (if (Go.bits .or .i64 x6 (shl .i64 1 x55)) < ((rd_L1 x4 (wrap64 (x5 + 1))).length : Int) then (impl_least.j4 k x0 x3 x4 x5 x6 x55 x44 x45 x54 x55 (decide ((rd (rd_L1 x4 (wrap64 (x5 + 1))) (Go.bits .or .i64 x6 (shl .i64 1 x55))) < 0))) else (none)) else (none)) else (none)) else (none))) else (none)) else (impl_least.l1 k x0 x3 x4 x5 x44 (wrap64 (x45 + 1)))
def impl_least.j4 : Nat → List (List Int) → Int → List (List Int) → Int → Int → Int → Int → Int → Int → Int → Bool → Option ((List (List Int)))
 | 0, _, _, _, _, _, _, _, _, _, _, _ => none
 | k + 1, x0, x3, x4, x5, x6, x7, x44, x45, x54, x55, x76 => if x76 = true then (impl_least.l2 k x0 x3 x4 x5 x6 x44 x45 x54 (wrap64 (x55 + 1))) else (if 0 ≤ x5 then (if x5 < (x0.length : Int) then (if 0 ≤ x7 then (if x7 < ((rd_L1 x0 x5).length : Int) then (if 0 ≤ (wrap64 (x5 + 1)) then (if (wrap64 (x5 + 1)) < (x4.length : Int) then (if 0 ≤ (Go.bits .or .i64 x6 (shl .i64 1 x7)) then (if (Go.bits .or .i64 x6 (shl .i64 1 x7)) < ((rd_L1 x4 (wrap64 (x5 + 1))).length : Int) then (if x5 < (x4.length : Int) then (if 0 ≤ x6 then (if x6 < ((rd_L1 x4 x5).length : Int) then (if (rd (rd_L1 x4 x5) x6) < 0 then (impl_least.l2 k x0 x3 (x4.set (x5 : Int).toNat ((rd_L1 x4 x5).set (x6 : Int).toNat (wrap64 ((rd (rd_L1 x0 x5) x7) + (rd (rd_L1 x4 (wrap64 (x5 + 1))) (Go.bits .or .i64 x6 (shl .i64 1 x7))))))) x5 x6 x44 x45 x54 (wrap64 (x55 + 1))) else (if (wrap64 ((rd (rd_L1 x0 x5) x7) + (rd (rd_L1 x4 (wrap64 (x5 + 1))) (Go.bits .or .i64 x6 (shl .i64 1 x7))))) < (rd (rd_L1 x4 x5) x6) then (impl_least.l2 k x0 x3 (x4.set (x5 : Int).toNat ((rd_L1 x4 x5).set (x6 : Int).toNat (wrap64 ((rd (rd_L1 x0 x5) x7) + (rd (rd_L1 x4 (wrap64 (x5 + 1))) (Go.bits .or .i64 x6 (shl .i64 1 x7))))))) x5 x6 x44 x45 x54 (wrap64 (x55 + 1))) else (impl_least.l2 k x0 x3 x4 x5 x6 x44 x45 x54 (wrap64 (x55 + 1))))) else (none)) else (none)) else (none)) else (none)) else (none)) else (none)) else (none)) else (none)) else (none)) else (none)) else (none))
end
def impl_least.f (k : Nat) (l0 : List (List Int)) : Option ((List (List Int))) := if (l0.length : Int) > 0 then (if 0 < (l0.length : Int) then (impl_least.j0 k l0 ((rd_L1 l0 0).length : Int)) else (none)) else (impl_least.j0 k l0 0)
theorem impl_least.mono_l : ∀ k, (∀ y0 y1, LeO (impl_least.j0 k y0 y1) (impl_least.j0 (k + 1) y0 y1)) ∧ (∀ y0 y1 y2 y3, LeO (impl_least.l0 k y0 y1 y2 y3) (impl_least.l0 (k + 1) y0 y1 y2 y3)) ∧ (∀ y0 y1 y2 y3 y4 y5, LeO (impl_least.l1 k y0 y1 y2 y3 y4 y5) (impl_least.l1 (k + 1) y0 y1 y2 y3 y4 y5)) ∧ (∀ y0 y1 y2 y3 y4 y5 y6 y7 y8, LeO (impl_least.l2 k y0 y1 y2 y3 y4 y5 y6 y7 y8) (impl_least.l2 (k + 1) y0 y1 y2 y3 y4 y5 y6 y7 y8)) ∧ (∀ y0 y1 y2 y3 y4 y5 y6 y7 y8 y9 y10, LeO (impl_least.j4 k y0 y1 y2 y3 y4 y5 y6 y7 y8 y9 y10) (impl_least.j4 (k + 1) y0 y1 y2 y3 y4 y5 y6 y7 y8 y9 y10))
 | 0 => ⟨fun _ _ r h => by simp [impl_least.j0] at h, fun _ _ _ _ r h => by simp [impl_least.l0] at h, fun _ _ _ _ _ _ r h => by simp [impl_least.l1] at h, fun _ _ _ _ _ _ _ _ _ r h => by simp [impl_least.l2] at h, fun _ _ _ _ _ _ _ _ _ _ _ r h => by simp [impl_least.j4] at h⟩
 | k + 1 => by
  obtain ⟨ih0, ih1, ih2, ih3, ih4⟩ := impl_least.mono_l k
  refine ⟨?_, ?_, ?_, ?_, ?_⟩
  {
  intro y0 y1
  unfold impl_least.j0
  exact qL
  }
  {
  intro y0 y1 y2 y3
  unfold impl_least.l0
  exact qL
  }
  {
  intro y0 y1 y2 y3 y4 y5
  unfold impl_least.l1
  exact qL
  }
  {
  intro y0 y1 y2 y3 y4 y5 y6 y7 y8
  unfold impl_least.l2
  exact qL
  }
  {
  intro y0 y1 y2 y3 y4 y5 y6 y7 y8 y9 y10
  unfold impl_least.j4
  exact qL
  }
theorem impl_least.mono : ∀ a0 k, LeO (impl_least.f k a0) (impl_least.f (k + 1) a0) := by
 intro a0 k
 obtain ⟨ih0, ih1, ih2, ih3, ih4⟩ := impl_least.mono_l k
 unfold impl_least.f
 exact qL
set_option maxHeartbeats 8000000 in
set_option maxRecDepth 100000 in
theorem impl_least.calls (k : Nat) (A0 : Option Addr) (c0 : Nat) (l0 : List (List Int)) (r : List (List Int)) (w : World) (hr0 : Kd.C (Kd.slice 3 (Kd.int .i64)) w A0 l0.length l0) (hc0 : l0.length ≤ c0) (h : impl_least.f k l0 = some r) :
  Calls Try.prog 38 #[.slice A0 l0.length c0] w fun e w' => ∃ v0_ : Value, e = .returned (v0_) ∧ Kd.S (Kd.slice 3 (Kd.int .i64)) 24 w' w.heap.size (fun _ => True) v0_ r ∧ Below w.heap.size w w' := by
 have HR0 := aM hr0
 have HC0 := aM hc0
 clear hr0 hc0
 have HB := aM (Below.refl w.heap.size w)
 have H : (if (l0.length : Int) > 0 then (if 0 < (l0.length : Int) then (impl_least.j0 k l0 ((rd_L1 l0 0).length : Int)) else (none)) else (impl_least.j0 k l0 0)) = some r := h
 clear h
 have HC2 := aM H
 clear H
 go_enter Try.func38, Try.ntmps38
 go_upto_if 11 with (fail)
 repeat (go_quiet (fail); go_upto_if 11 with (fail))
 go_cut [3] (fun v3 wc => ∃ (kq : Nat) (x3_1 : Int), v3 = .int .i64 x3_1 ∧ Aside0 (impl_least.j0 kq l0 x3_1 = some r) ∧ Aside0 (kq ≤ k) ∧ Aside0 (Below w.heap.size w wc))
 case first =>
  have H := HC2.out
  clear HC2
  by_cases c3 : (l0.length : Int) > 0
  {
  rw [if_pos c3] at H
  have c3b0 := decide_eq_true c3
  have c3b1 : decide (0 < l0.length) = true := decide_eq_true (by omega)
  clear c3
  (first | rw [c3b0] | (simp only [i64_w, i32_w]; rw [c3b0]) | rw [@decide_eq_true _ _ (of_decide_eq_true c3b0)] | rw [@decide_eq_true _ _ (of_decide_eq_true c3b1)] | skip)
  by_cases c4 : 0 < (l0.length : Int)
  {
  rw [if_pos c4] at H
  have c4b0 := decide_eq_true c4
  have c4b1 : decide (0 < l0.length) = true := decide_eq_true (by omega)
  clear c4
  have H' := aM H
  clear H
  have p245 : 0 ≤ (0 : Int) := (by omega)
  have q245 : 0 < (l0.length : Int) := dt_
  obtain ⟨ad245, A245_0, c245_0, e245, hx245_0, hl245_0, hi245_0⟩ := at_L1 HR0.out 0 p245 q245
  cases e245
  have qi245 : (0 < l0.length) = True := eq_true (by omega)
  (try rw [show ((0 : Int)).toNat = 0 from rfl] at hx245_0)
  (try rw [Addr.add_zero'] at hx245_0)
  replace hx245_0 := cB_ hx245_0
  have HR245_0 := aM hi245_0
  have HC245_0 := aM hl245_0
  clear hi245_0 hl245_0
  replace p245 := eq_true p245
  replace q245 := eq_true q245
  go_wp2
  repeat (go_quiet (fail); try go_wp2)
  go_meet
  case rel => exact ⟨_, (((rd_L1 l0 0).length : Int)), qz3, H', ⟨by first | omega | exact Nat.le_refl _⟩, ⟨qz1⟩⟩
  }
  {
  exact an_ c4 H
  }
  }
  {
  rw [if_neg c3] at H
  have c3b0 := decide_eq_false c3
  have c3b1 : decide (0 < l0.length) = false := decide_eq_false (by omega)
  clear c3
  (first | rw [c3b0] | (simp only [i64_w, i32_w]; rw [c3b0]) | rw [@decide_eq_false _ _ (of_decide_eq_false c3b0)] | rw [@decide_eq_false _ _ (of_decide_eq_false c3b1)] | skip)
  have H' := aM H
  clear H
  go_wp2
  repeat (go_quiet (fail); try go_wp2)
  go_meet
  case rel => exact ⟨_, (0), qz3, H', ⟨by first | omega | exact Nat.le_refl _⟩, ⟨qz1⟩⟩
  }
 case rest =>
  clear HC2
  try clear c2
  try clear p2
  try clear q2
  try clear hx2
  try clear qi2
  try clear c3
  try clear c3b0
  try clear c3b1
  try clear c4
  try clear c4b0
  try clear c4b1
  try clear hx245_0
  try clear p245
  try clear q245
  obtain ⟨kq, x3_1, rfl, HA, HJ1, HB⟩ := hcut
  cases kq with
  | zero => exact absurd HA.out (by simp [impl_least.j0])
  | succ kj1 =>
   have H := HA.out
   clear HA
   simp only [impl_least.j0] at H
   obtain ⟨ji5, hji5⟩ : ∃ j_ : Int, (wrap64 ((l0.length : Int) + 1)) = j_ := ⟨_, rfl⟩
   replace H : (if 0 ≤ (ji5) then (if (ji5 : Int).toNat ≤ 11728124029610 then ((some (List.replicate (ji5 : Int).toNat [] : List (List Int))).bind fun y246 => (if 0 ≤ x3_1 then (if 0 ≤ (shl .i64 1 x3_1) then (if (shl .i64 1 x3_1 : Int).toNat ≤ 35184372088832 then (if 0 ≤ (l0.length : Int) then (if (l0.length : Int) < (y246.length : Int) then (impl_least.l0 kj1 l0 x3_1 (y246.set ((l0.length : Int) : Int).toNat (List.replicate (shl .i64 1 x3_1 : Int).toNat 0)) (wrap64 ((l0.length : Int) - 1))) else (none)) else (none)) else (none)) else (none)) else (none))) else (none)) else (none)) = some r := by first | (rw [hji5] at H; exact H) | (simp only [hji5] at H ⊢; exact H)
   have hji5w : (IntKind.i64.wrap ((l0.length : Int) + 1)) = ji5 := (i64_w _).trans hji5
   by_cases c6 : 0 ≤ (ji5)
   {
   rw [if_pos c6] at H
   have c6b0 := eq_true c6
   have c6b1 := decide_eq_true c6
   clear c6
   by_cases c7 : (ji5 : Int).toNat ≤ 11728124029610
   {
   rw [if_pos c7] at H
   have c7b0 := eq_true c7
   have c7b1 := decide_eq_true c7
   clear c7
   obtain ⟨y246, hy246⟩ : ∃ y_ : List (List Int), y_ = (List.replicate (ji5 : Int).toNat []) := ⟨_, rfl⟩
   replace H : (if 0 ≤ x3_1 then (if 0 ≤ (shl .i64 1 x3_1) then (if (shl .i64 1 x3_1 : Int).toNat ≤ 35184372088832 then (if 0 ≤ (l0.length : Int) then (if (l0.length : Int) < (y246.length : Int) then (impl_least.l0 kj1 l0 x3_1 (y246.set ((l0.length : Int) : Int).toNat (List.replicate (shl .i64 1 x3_1 : Int).toNat 0)) (wrap64 ((l0.length : Int) - 1))) else (none)) else (none)) else (none)) else (none)) else (none)) = some r := by first | (rw [hy246]; with_reducible exact H) | (have H2_ := (Option.bind_some _ _).symm.trans H; rw [hy246]; with_reducible exact H2_) | (have H2_ := (Option.bind_some _ _).symm.trans H; with_reducible exact H2_) | with_reducible exact H | (rw [hy246]; exact H) | exact H
   have Ny246 := aM hy246
   clear hy246
   by_cases c8 : 0 ≤ x3_1
   {
   rw [if_pos c8] at H
   have c8b0 := eq_true c8
   have c8b1 := decide_eq_true c8
   clear c8
   obtain ⟨ji9, hji9⟩ : ∃ j_ : Int, (shl .i64 1 x3_1) = j_ := ⟨_, rfl⟩
   replace H : (if 0 ≤ (ji9) then (if (ji9 : Int).toNat ≤ 35184372088832 then (if 0 ≤ (l0.length : Int) then (if (l0.length : Int) < (y246.length : Int) then (impl_least.l0 kj1 l0 x3_1 (y246.set ((l0.length : Int) : Int).toNat (List.replicate (ji9 : Int).toNat 0)) (wrap64 ((l0.length : Int) - 1))) else (none)) else (none)) else (none)) else (none)) = some r := by first | (rw [hji9] at H; exact H) | (simp only [hji9] at H ⊢; exact H)
   have hji9_ : (IntKind.i64.wrap (1 * 2 ^ min x3_1.toNat 64)) = ji9 := hji9
   have hji9z : x3_1 ≤ 64 → (IntKind.i64.wrap (1 * 2 ^ x3_1.toNat)) = ji9 := shl_small hji9
   have hji9u : (IntKind.i64.wrap (2 ^ min x3_1.toNat 64)) = ji9 := by have h_ := hji9_; rw [Int.one_mul] at h_; exact h_
   have hji9v : x3_1 ≤ 64 → (IntKind.i64.wrap (2 ^ x3_1.toNat)) = ji9 := fun hle_ => by have h_ := hji9z hle_; rw [Int.one_mul] at h_; exact h_
   have hji9y : (wrap64 (1 * 2 ^ min x3_1.toNat 64)) = ji9 := (i64_w _).symm.trans hji9_
   have hji9x : x3_1 ≤ 64 → (wrap64 (1 * 2 ^ x3_1.toNat)) = ji9 := fun h_ => (i64_w _).symm.trans (hji9z h_)
   by_cases c10 : 0 ≤ (ji9)
   {
   rw [if_pos c10] at H
   have c10b0 := eq_true c10
   have c10b1 := decide_eq_true c10
   clear c10
   by_cases c11 : (ji9 : Int).toNat ≤ 35184372088832
   {
   rw [if_pos c11] at H
   have c11b0 := eq_true c11
   have c11b1 := decide_eq_true c11
   clear c11
   obtain ⟨y249, hy249⟩ : ∃ y_ : List Int, y_ = (List.replicate (ji9 : Int).toNat 0) := ⟨_, rfl⟩
   replace H : (if 0 ≤ (l0.length : Int) then (if (l0.length : Int) < (y246.length : Int) then (impl_least.l0 kj1 l0 x3_1 (y246.set ((l0.length : Int) : Int).toNat y249) (wrap64 ((l0.length : Int) - 1))) else (none)) else (none)) = some r := by first | (rw [hy249]; with_reducible exact H) | (have H2_ := (Option.bind_some _ _).symm.trans H; rw [hy249]; with_reducible exact H2_) | (have H2_ := (Option.bind_some _ _).symm.trans H; with_reducible exact H2_) | with_reducible exact H | (rw [hy249]; exact H) | exact H
   have Ny249 := aM hy249
   clear hy249
   by_cases c12 : 0 ≤ (l0.length : Int)
   {
   rw [if_pos c12] at H
   have c12b0 := decide_eq_true c12
   have c12b1 : decide (0 ≤ l0.length) = true := decide_eq_true (by omega)
   clear c12
   by_cases c13 : (l0.length : Int) < (y246.length : Int)
   {
   rw [if_pos c13] at H
   have c13b0 := decide_eq_true c13
   have c13b1 : decide (l0.length < y246.length) = true := decide_eq_true (Int.ofNat_lt.mp c13)
   clear c13
   obtain ⟨y252, hy252⟩ : ∃ y_ : List (List Int), y_ = (y246.set ((l0.length : Int) : Int).toNat y249) := ⟨_, rfl⟩
   replace H : (impl_least.l0 kj1 l0 x3_1 y252 (wrap64 ((l0.length : Int) - 1))) = some r := by first | (rw [hy252]; with_reducible exact H) | (have H2_ := (Option.bind_some _ _).symm.trans H; rw [hy252]; with_reducible exact H2_) | (have H2_ := (Option.bind_some _ _).symm.trans H; with_reducible exact H2_) | with_reducible exact H | (rw [hy252]; exact H) | exact H
   have Ny252 := aM hy252
   clear hy252
   have H' := aM H
   clear H
   go_wp2_with (first | ((with_reducible refine gate_dst (N := 19) rfl ?_); refine Kd.S_make (Kd.slice 3 (Kd.int .i64)) _ 24 rfl (N := 19) rfl 22 _ _ rfl ji5 rfl rfl Try.underlying22 (.slice none 0 0) 24 info24 rfl (by decide) (by omega) [] (ok := fun _ => True) (okp := fun _ => True) ⟨_, rfl, Kd.R_nil _ _ _ _ _⟩ (fun _ hk => hk) trivial (dt_) (Nat.le_trans (Nat.mul_le_mul_right _ (dt_ : ji5.toNat ≤ 11728124029610)) (by omega)) (Below.refl _ _) (Nat.le_refl _) ?_; intro v247 w15 ho16 hb hg_ hnew_; clear hg_ hnew_; (first | rw [← Ny246.out] at ho16 | (simp only [Int.reduceToNat] at ho16; rw [← Ny246.out] at ho16)); have HO248 := aM (Kd.S_lower ho16 (below_size qz1)); replace HB := bS_ hb; clear hb ho16) | ((with_reducible refine gate_dst (N := 25) rfl ?_); refine Kd.R_make (Kd.int .i64) _ 3 rfl (N := 25) rfl 24 _ _ rfl ji9 rfl rfl Try.underlying24 (.int .i64 0) 8 info3 rfl (by decide) (by omega) 0 (ok := fun _ => True) (okp := fun _ => True) rfl (fun _ hk => hk) trivial (dt_) (Nat.le_trans (Nat.mul_le_mul_right _ (dt_ : ji9.toNat ≤ 35184372088832)) (by omega)) (Below.refl _ _) (Nat.le_refl _) ?_; intro v250 w17 ho18 hb hg_ hnew_; clear hg_ hnew_; (first | rw [← Ny249.out] at ho18 | (simp only [Int.reduceToNat] at ho18; rw [← Ny249.out] at ho18)); replace HO248 := aM (Kd.S_elder' (rs_ HO248.out) (Kd.R_base ho18) hb); have HO251 := aM (Kd.R_lower ho18 (below_size qz1)); replace HB := bS_ hb; clear hb ho18; have p14 : 0 ≤ ((l0.length : Int) : Int) := dt_; have q14 : ((l0.length : Int) : Int) < ((y246.length : Int) : Int) := dt_; obtain ⟨go14, co14, eo14, gb14, gl14, cl14, HG14⟩ := Kd.S_form HO248.out (by omega); (first | cases eo14 | (injection eo14 with ea_ en_ ec_; (first | subst ea_ | (injection ea_ with ea_; subst ea_)); subst ec_; clear en_)); have GB14 := aM gb14; have GG14 := aM HG14; clear gb14 gl14 HG14; obtain ⟨_, ce14, hcl14, hM14, hcc14, hfr14, _, _⟩ := Kd.S_elem HO248.out [] ((l0.length : Int) : Int) p14 q14; obtain ⟨ve14_0, rfl, ge14_0⟩ := hM14; have hx14_0 := hcc14 0 _ rfl; have hf14_0 := hfr14 0; (try simp only [show ((Kd.slice 3 (Kd.int .i64))).sz = 1 from rfl, Nat.mul_one, Nat.add_zero, Int.toNat_natCast] at hx14_0); (try simp only [show ((Kd.slice 3 (Kd.int .i64))).sz = 1 from rfl, Nat.mul_one, Nat.add_zero, Int.toNat_natCast] at hf14_0); clear hcl14 hcc14 hfr14; (try clear hM14); replace p14 := eq_true p14; replace q14 := eq_true q14; have n_ := aM (Kd.S_mono (ok' := (fun k_ => some k_ ≠ (v250 : Value).ownBlock)) HO248.out (fun k_ hk => hk.2)); clear HO248; have HO248 := n_; clear n_; have HX19 := aM (show Kd.S (Kd.slice 3 (Kd.int .i64)) 24 w17 w.heap.size (fun k_ => ((fun _ => True)) k_ ∧ ¬ ((fun k_ => some k_ = (v250 : Value).ownBlock)) k_) (.slice (some ⟨go14, 0, none⟩) y246.length co14) y246 from qz6); obtain ⟨oki19, ce19, hcl19, hM19, hcc19, hfr19, hoki19, hH19⟩ := Kd.S_elem HX19.out [] ((l0.length : Int) : Int) (dt_) (by have h_ : ((l0.length : Int) : Int) < ((y246.length : Int) : Int) := dt_; first | exact h_ | (have e_ := (Kd.S_reads' HO248.out).1; omega) | simpa using h_); obtain ⟨ve19_0, rfl, ge19_0⟩ := hM19; have HP19 := Kd.S_seg hH19 (dt_) (by have h_ : ((l0.length : Int) : Int) < ((y246.length : Int) : Int) := dt_; first | exact h_ | (have e_ := (Kd.S_reads' HO248.out).1; omega) | simpa using h_) (seg := [v250]) (j := 0) (show 1 ≤ 1 from by decide) (x' := y249) (Kd.M_row (Kd.R_mono (Kd.R_tight rfl (Kd.R_mono (ok' := fun k_ => ((fun _ => True)) k_ ∧ k_ ≠ go14) (Kd.R_apart' (HO251.out) (Kd.S_typed HO248.out) (by decide)) (fun k_ hk => ⟨trivial, fun e_ => (hk.2) (by rw [e_]; rfl)⟩))) (fun _ h_ => Or.inr (h_)))) (fun _ hk => hk) (fun k_ hk_ => ((Kd.R_mono (ok' := fun k_ => ((fun _ => True)) k_ ∧ k_ ≠ go14) (Kd.R_apart' (HO251.out) (Kd.S_typed HO248.out) (by decide)) (fun k_ hk => ⟨trivial, fun e_ => (hk.2) (by rw [e_]; rfl)⟩))).1 k_ hk_.symm); have hx19_0 := hcc19 0 _ rfl; (try simp only [show ((Kd.slice 3 (Kd.int .i64))).sz = 1 from rfl, Nat.mul_one, Nat.add_zero] at hx19_0); have hf19_0 := hfr19 0; (try simp only [show ((Kd.slice 3 (Kd.int .i64))).sz = 1 from rfl, Nat.mul_one, Nat.add_zero] at hf19_0); clear hcl19 hcc19 hfr19; (try clear hM19); clear hoki19 hH19; (try simp only [show ((Kd.slice 3 (Kd.int .i64))).sz = 1 from rfl, Nat.mul_one, Nat.add_zero, Int.toNat_natCast] at HP19)) | ((with_reducible refine gate_store (t := 24) (p := 26) rfl ?_); (try (rw [drewN_self w17]; generalize hq_ : World.drewN w17 _ = w17; replace HO248 := aM (Kd.S_at hq_ HO248.out); replace HB := aM (below_at hq_ HB.out); clear hq_; (try (have n_ := aM (Kd.S_mono (ok' := (fun k_ => some k_ ≠ (v250 : Value).ownBlock)) HO248.out (fun k_ hk => hk.2)); clear HO248; have HO248 := n_; clear n_)); (try (have HX19 := aM (show Kd.S (Kd.slice 3 (Kd.int .i64)) 24 w17 w.heap.size (fun k_ => ((fun _ => True)) k_ ∧ ¬ ((fun k_ => some k_ = (v250 : Value).ownBlock)) k_) (.slice (some ⟨go14, 0, none⟩) y246.length co14) y246 from qz6))); (try (obtain ⟨oki19, ce19, hcl19, hM19, hcc19, hfr19, hoki19, hH19⟩ := Kd.S_elem HX19.out [] ((l0.length : Int) : Int) (dt_) (by have h_ : ((l0.length : Int) : Int) < ((y246.length : Int) : Int) := dt_; first | exact h_ | (have e_ := (Kd.S_reads' HO248.out).1; omega) | simpa using h_))); (try (obtain ⟨ve19_0, rfl, ge19_0⟩ := hM19)); (try (have HP19 := Kd.S_seg hH19 (dt_) (by have h_ : ((l0.length : Int) : Int) < ((y246.length : Int) : Int) := dt_; first | exact h_ | (have e_ := (Kd.S_reads' HO248.out).1; omega) | simpa using h_) (seg := [v250]) (j := 0) (show 1 ≤ 1 from by decide) (x' := y249) (Kd.M_row (Kd.R_mono (Kd.R_tight rfl (Kd.R_mono (ok' := fun k_ => ((fun _ => True)) k_ ∧ k_ ≠ go14) (Kd.R_apart' (HO251.out) (Kd.S_typed HO248.out) (by decide)) (fun k_ hk => ⟨trivial, fun e_ => (hk.2) (by rw [e_]; rfl)⟩))) (fun _ h_ => Or.inr (h_)))) (fun _ hk => hk) (fun k_ hk_ => ((Kd.R_mono (ok' := fun k_ => ((fun _ => True)) k_ ∧ k_ ≠ go14) (Kd.R_apart' (HO251.out) (Kd.S_typed HO248.out) (by decide)) (fun k_ hk => ⟨trivial, fun e_ => (hk.2) (by rw [e_]; rfl)⟩))).1 k_ hk_.symm))); (try (have hx19_0 := hcc19 0 _ rfl)); (try (try simp only [show ((Kd.slice 3 (Kd.int .i64))).sz = 1 from rfl, Nat.mul_one, Nat.add_zero] at hx19_0)); (try (have hf19_0 := hfr19 0)); (try (try simp only [show ((Kd.slice 3 (Kd.int .i64))).sz = 1 from rfl, Nat.mul_one, Nat.add_zero] at hf19_0)); (try (clear hcl19 hcc19 hfr19; (try clear hM19); clear hoki19 hH19)); (try (try simp only [show ((Kd.slice 3 (Kd.int .i64))).sz = 1 from rfl, Nat.mul_one, Nat.add_zero, Int.toNat_natCast] at HP19)))); refine store_event (t := 24) (p := 26) (v := ?vo_w20) (w1 := (w17.setCell ⟨go14, ((l0.length : Int) : Int).toNat, none⟩ (v250))) ?hg ?ho ?hn ?hr ?_; (case ho => rfl); (case hg => rfl); (case hn => rfl); (case hr => first | (go_simp; done) | (go_simp; rfl) | (obtain ⟨A_, c_, e_⟩ := Kd.R_slice (show Kd.R _ _ _ _ _ v250 _ from Aside0.out (by assumption)); rw [e_]; go_simp; done)); intro w20 hw; have hg : w17.grownBy w20 (some go14) := (by rw [hw]; exact HP19.2); have hp_ : Kd.S (Kd.slice 3 (Kd.int .i64)) 24 w20 w.heap.size (fun _ => True) (.slice (some ⟨go14, 0, none⟩) y246.length co14) y252 := (by rw [hw, Ny252.out]; exact HP19.1); clear HP19; replace HO248 := aM (hp_); replace HB := aM ((by rw [hw]; exact below_set (HB.out) GB14.out : Below w.heap.size w w20)); clear HO251; clear hg hw hp_))
   repeat (go_quiet (first | ((with_reducible refine gate_dst (N := 19) rfl ?_); refine Kd.S_make (Kd.slice 3 (Kd.int .i64)) _ 24 rfl (N := 19) rfl 22 _ _ rfl ji5 rfl rfl Try.underlying22 (.slice none 0 0) 24 info24 rfl (by decide) (by omega) [] (ok := fun _ => True) (okp := fun _ => True) ⟨_, rfl, Kd.R_nil _ _ _ _ _⟩ (fun _ hk => hk) trivial (dt_) (Nat.le_trans (Nat.mul_le_mul_right _ (dt_ : ji5.toNat ≤ 11728124029610)) (by omega)) (Below.refl _ _) (Nat.le_refl _) ?_; intro v247 w15 ho16 hb hg_ hnew_; clear hg_ hnew_; (first | rw [← Ny246.out] at ho16 | (simp only [Int.reduceToNat] at ho16; rw [← Ny246.out] at ho16)); have HO248 := aM (Kd.S_lower ho16 (below_size qz1)); replace HB := bS_ hb; clear hb ho16) | ((with_reducible refine gate_dst (N := 25) rfl ?_); refine Kd.R_make (Kd.int .i64) _ 3 rfl (N := 25) rfl 24 _ _ rfl ji9 rfl rfl Try.underlying24 (.int .i64 0) 8 info3 rfl (by decide) (by omega) 0 (ok := fun _ => True) (okp := fun _ => True) rfl (fun _ hk => hk) trivial (dt_) (Nat.le_trans (Nat.mul_le_mul_right _ (dt_ : ji9.toNat ≤ 35184372088832)) (by omega)) (Below.refl _ _) (Nat.le_refl _) ?_; intro v250 w17 ho18 hb hg_ hnew_; clear hg_ hnew_; (first | rw [← Ny249.out] at ho18 | (simp only [Int.reduceToNat] at ho18; rw [← Ny249.out] at ho18)); replace HO248 := aM (Kd.S_elder' (rs_ HO248.out) (Kd.R_base ho18) hb); have HO251 := aM (Kd.R_lower ho18 (below_size qz1)); replace HB := bS_ hb; clear hb ho18; have p14 : 0 ≤ ((l0.length : Int) : Int) := dt_; have q14 : ((l0.length : Int) : Int) < ((y246.length : Int) : Int) := dt_; obtain ⟨go14, co14, eo14, gb14, gl14, cl14, HG14⟩ := Kd.S_form HO248.out (by omega); (first | cases eo14 | (injection eo14 with ea_ en_ ec_; (first | subst ea_ | (injection ea_ with ea_; subst ea_)); subst ec_; clear en_)); have GB14 := aM gb14; have GG14 := aM HG14; clear gb14 gl14 HG14; obtain ⟨_, ce14, hcl14, hM14, hcc14, hfr14, _, _⟩ := Kd.S_elem HO248.out [] ((l0.length : Int) : Int) p14 q14; obtain ⟨ve14_0, rfl, ge14_0⟩ := hM14; have hx14_0 := hcc14 0 _ rfl; have hf14_0 := hfr14 0; (try simp only [show ((Kd.slice 3 (Kd.int .i64))).sz = 1 from rfl, Nat.mul_one, Nat.add_zero, Int.toNat_natCast] at hx14_0); (try simp only [show ((Kd.slice 3 (Kd.int .i64))).sz = 1 from rfl, Nat.mul_one, Nat.add_zero, Int.toNat_natCast] at hf14_0); clear hcl14 hcc14 hfr14; (try clear hM14); replace p14 := eq_true p14; replace q14 := eq_true q14; have n_ := aM (Kd.S_mono (ok' := (fun k_ => some k_ ≠ (v250 : Value).ownBlock)) HO248.out (fun k_ hk => hk.2)); clear HO248; have HO248 := n_; clear n_; have HX19 := aM (show Kd.S (Kd.slice 3 (Kd.int .i64)) 24 w17 w.heap.size (fun k_ => ((fun _ => True)) k_ ∧ ¬ ((fun k_ => some k_ = (v250 : Value).ownBlock)) k_) (.slice (some ⟨go14, 0, none⟩) y246.length co14) y246 from qz6); obtain ⟨oki19, ce19, hcl19, hM19, hcc19, hfr19, hoki19, hH19⟩ := Kd.S_elem HX19.out [] ((l0.length : Int) : Int) (dt_) (by have h_ : ((l0.length : Int) : Int) < ((y246.length : Int) : Int) := dt_; first | exact h_ | (have e_ := (Kd.S_reads' HO248.out).1; omega) | simpa using h_); obtain ⟨ve19_0, rfl, ge19_0⟩ := hM19; have HP19 := Kd.S_seg hH19 (dt_) (by have h_ : ((l0.length : Int) : Int) < ((y246.length : Int) : Int) := dt_; first | exact h_ | (have e_ := (Kd.S_reads' HO248.out).1; omega) | simpa using h_) (seg := [v250]) (j := 0) (show 1 ≤ 1 from by decide) (x' := y249) (Kd.M_row (Kd.R_mono (Kd.R_tight rfl (Kd.R_mono (ok' := fun k_ => ((fun _ => True)) k_ ∧ k_ ≠ go14) (Kd.R_apart' (HO251.out) (Kd.S_typed HO248.out) (by decide)) (fun k_ hk => ⟨trivial, fun e_ => (hk.2) (by rw [e_]; rfl)⟩))) (fun _ h_ => Or.inr (h_)))) (fun _ hk => hk) (fun k_ hk_ => ((Kd.R_mono (ok' := fun k_ => ((fun _ => True)) k_ ∧ k_ ≠ go14) (Kd.R_apart' (HO251.out) (Kd.S_typed HO248.out) (by decide)) (fun k_ hk => ⟨trivial, fun e_ => (hk.2) (by rw [e_]; rfl)⟩))).1 k_ hk_.symm); have hx19_0 := hcc19 0 _ rfl; (try simp only [show ((Kd.slice 3 (Kd.int .i64))).sz = 1 from rfl, Nat.mul_one, Nat.add_zero] at hx19_0); have hf19_0 := hfr19 0; (try simp only [show ((Kd.slice 3 (Kd.int .i64))).sz = 1 from rfl, Nat.mul_one, Nat.add_zero] at hf19_0); clear hcl19 hcc19 hfr19; (try clear hM19); clear hoki19 hH19; (try simp only [show ((Kd.slice 3 (Kd.int .i64))).sz = 1 from rfl, Nat.mul_one, Nat.add_zero, Int.toNat_natCast] at HP19)) | ((with_reducible refine gate_store (t := 24) (p := 26) rfl ?_); (try (rw [drewN_self w17]; generalize hq_ : World.drewN w17 _ = w17; replace HO248 := aM (Kd.S_at hq_ HO248.out); replace HB := aM (below_at hq_ HB.out); clear hq_; (try (have n_ := aM (Kd.S_mono (ok' := (fun k_ => some k_ ≠ (v250 : Value).ownBlock)) HO248.out (fun k_ hk => hk.2)); clear HO248; have HO248 := n_; clear n_)); (try (have HX19 := aM (show Kd.S (Kd.slice 3 (Kd.int .i64)) 24 w17 w.heap.size (fun k_ => ((fun _ => True)) k_ ∧ ¬ ((fun k_ => some k_ = (v250 : Value).ownBlock)) k_) (.slice (some ⟨go14, 0, none⟩) y246.length co14) y246 from qz6))); (try (obtain ⟨oki19, ce19, hcl19, hM19, hcc19, hfr19, hoki19, hH19⟩ := Kd.S_elem HX19.out [] ((l0.length : Int) : Int) (dt_) (by have h_ : ((l0.length : Int) : Int) < ((y246.length : Int) : Int) := dt_; first | exact h_ | (have e_ := (Kd.S_reads' HO248.out).1; omega) | simpa using h_))); (try (obtain ⟨ve19_0, rfl, ge19_0⟩ := hM19)); (try (have HP19 := Kd.S_seg hH19 (dt_) (by have h_ : ((l0.length : Int) : Int) < ((y246.length : Int) : Int) := dt_; first | exact h_ | (have e_ := (Kd.S_reads' HO248.out).1; omega) | simpa using h_) (seg := [v250]) (j := 0) (show 1 ≤ 1 from by decide) (x' := y249) (Kd.M_row (Kd.R_mono (Kd.R_tight rfl (Kd.R_mono (ok' := fun k_ => ((fun _ => True)) k_ ∧ k_ ≠ go14) (Kd.R_apart' (HO251.out) (Kd.S_typed HO248.out) (by decide)) (fun k_ hk => ⟨trivial, fun e_ => (hk.2) (by rw [e_]; rfl)⟩))) (fun _ h_ => Or.inr (h_)))) (fun _ hk => hk) (fun k_ hk_ => ((Kd.R_mono (ok' := fun k_ => ((fun _ => True)) k_ ∧ k_ ≠ go14) (Kd.R_apart' (HO251.out) (Kd.S_typed HO248.out) (by decide)) (fun k_ hk => ⟨trivial, fun e_ => (hk.2) (by rw [e_]; rfl)⟩))).1 k_ hk_.symm))); (try (have hx19_0 := hcc19 0 _ rfl)); (try (try simp only [show ((Kd.slice 3 (Kd.int .i64))).sz = 1 from rfl, Nat.mul_one, Nat.add_zero] at hx19_0)); (try (have hf19_0 := hfr19 0)); (try (try simp only [show ((Kd.slice 3 (Kd.int .i64))).sz = 1 from rfl, Nat.mul_one, Nat.add_zero] at hf19_0)); (try (clear hcl19 hcc19 hfr19; (try clear hM19); clear hoki19 hH19)); (try (try simp only [show ((Kd.slice 3 (Kd.int .i64))).sz = 1 from rfl, Nat.mul_one, Nat.add_zero, Int.toNat_natCast] at HP19)))); refine store_event (t := 24) (p := 26) (v := ?vo_w20) (w1 := (w17.setCell ⟨go14, ((l0.length : Int) : Int).toNat, none⟩ (v250))) ?hg ?ho ?hn ?hr ?_; (case ho => rfl); (case hg => rfl); (case hn => rfl); (case hr => first | (go_simp; done) | (go_simp; rfl) | (obtain ⟨A_, c_, e_⟩ := Kd.R_slice (show Kd.R _ _ _ _ _ v250 _ from Aside0.out (by assumption)); rw [e_]; go_simp; done)); intro w20 hw; have hg : w17.grownBy w20 (some go14) := (by rw [hw]; exact HP19.2); have hp_ : Kd.S (Kd.slice 3 (Kd.int .i64)) 24 w20 w.heap.size (fun _ => True) (.slice (some ⟨go14, 0, none⟩) y246.length co14) y252 := (by rw [hw, Ny252.out]; exact HP19.1); clear HP19; replace HO248 := aM (hp_); replace HB := aM ((by rw [hw]; exact below_set (HB.out) GB14.out : Below w.heap.size w w20)); clear HO251; clear hg hw hp_)); try go_wp2_with (first | ((with_reducible refine gate_dst (N := 19) rfl ?_); refine Kd.S_make (Kd.slice 3 (Kd.int .i64)) _ 24 rfl (N := 19) rfl 22 _ _ rfl ji5 rfl rfl Try.underlying22 (.slice none 0 0) 24 info24 rfl (by decide) (by omega) [] (ok := fun _ => True) (okp := fun _ => True) ⟨_, rfl, Kd.R_nil _ _ _ _ _⟩ (fun _ hk => hk) trivial (dt_) (Nat.le_trans (Nat.mul_le_mul_right _ (dt_ : ji5.toNat ≤ 11728124029610)) (by omega)) (Below.refl _ _) (Nat.le_refl _) ?_; intro v247 w15 ho16 hb hg_ hnew_; clear hg_ hnew_; (first | rw [← Ny246.out] at ho16 | (simp only [Int.reduceToNat] at ho16; rw [← Ny246.out] at ho16)); have HO248 := aM (Kd.S_lower ho16 (below_size qz1)); replace HB := bS_ hb; clear hb ho16) | ((with_reducible refine gate_dst (N := 25) rfl ?_); refine Kd.R_make (Kd.int .i64) _ 3 rfl (N := 25) rfl 24 _ _ rfl ji9 rfl rfl Try.underlying24 (.int .i64 0) 8 info3 rfl (by decide) (by omega) 0 (ok := fun _ => True) (okp := fun _ => True) rfl (fun _ hk => hk) trivial (dt_) (Nat.le_trans (Nat.mul_le_mul_right _ (dt_ : ji9.toNat ≤ 35184372088832)) (by omega)) (Below.refl _ _) (Nat.le_refl _) ?_; intro v250 w17 ho18 hb hg_ hnew_; clear hg_ hnew_; (first | rw [← Ny249.out] at ho18 | (simp only [Int.reduceToNat] at ho18; rw [← Ny249.out] at ho18)); replace HO248 := aM (Kd.S_elder' (rs_ HO248.out) (Kd.R_base ho18) hb); have HO251 := aM (Kd.R_lower ho18 (below_size qz1)); replace HB := bS_ hb; clear hb ho18; have p14 : 0 ≤ ((l0.length : Int) : Int) := dt_; have q14 : ((l0.length : Int) : Int) < ((y246.length : Int) : Int) := dt_; obtain ⟨go14, co14, eo14, gb14, gl14, cl14, HG14⟩ := Kd.S_form HO248.out (by omega); (first | cases eo14 | (injection eo14 with ea_ en_ ec_; (first | subst ea_ | (injection ea_ with ea_; subst ea_)); subst ec_; clear en_)); have GB14 := aM gb14; have GG14 := aM HG14; clear gb14 gl14 HG14; obtain ⟨_, ce14, hcl14, hM14, hcc14, hfr14, _, _⟩ := Kd.S_elem HO248.out [] ((l0.length : Int) : Int) p14 q14; obtain ⟨ve14_0, rfl, ge14_0⟩ := hM14; have hx14_0 := hcc14 0 _ rfl; have hf14_0 := hfr14 0; (try simp only [show ((Kd.slice 3 (Kd.int .i64))).sz = 1 from rfl, Nat.mul_one, Nat.add_zero, Int.toNat_natCast] at hx14_0); (try simp only [show ((Kd.slice 3 (Kd.int .i64))).sz = 1 from rfl, Nat.mul_one, Nat.add_zero, Int.toNat_natCast] at hf14_0); clear hcl14 hcc14 hfr14; (try clear hM14); replace p14 := eq_true p14; replace q14 := eq_true q14; have n_ := aM (Kd.S_mono (ok' := (fun k_ => some k_ ≠ (v250 : Value).ownBlock)) HO248.out (fun k_ hk => hk.2)); clear HO248; have HO248 := n_; clear n_; have HX19 := aM (show Kd.S (Kd.slice 3 (Kd.int .i64)) 24 w17 w.heap.size (fun k_ => ((fun _ => True)) k_ ∧ ¬ ((fun k_ => some k_ = (v250 : Value).ownBlock)) k_) (.slice (some ⟨go14, 0, none⟩) y246.length co14) y246 from qz6); obtain ⟨oki19, ce19, hcl19, hM19, hcc19, hfr19, hoki19, hH19⟩ := Kd.S_elem HX19.out [] ((l0.length : Int) : Int) (dt_) (by have h_ : ((l0.length : Int) : Int) < ((y246.length : Int) : Int) := dt_; first | exact h_ | (have e_ := (Kd.S_reads' HO248.out).1; omega) | simpa using h_); obtain ⟨ve19_0, rfl, ge19_0⟩ := hM19; have HP19 := Kd.S_seg hH19 (dt_) (by have h_ : ((l0.length : Int) : Int) < ((y246.length : Int) : Int) := dt_; first | exact h_ | (have e_ := (Kd.S_reads' HO248.out).1; omega) | simpa using h_) (seg := [v250]) (j := 0) (show 1 ≤ 1 from by decide) (x' := y249) (Kd.M_row (Kd.R_mono (Kd.R_tight rfl (Kd.R_mono (ok' := fun k_ => ((fun _ => True)) k_ ∧ k_ ≠ go14) (Kd.R_apart' (HO251.out) (Kd.S_typed HO248.out) (by decide)) (fun k_ hk => ⟨trivial, fun e_ => (hk.2) (by rw [e_]; rfl)⟩))) (fun _ h_ => Or.inr (h_)))) (fun _ hk => hk) (fun k_ hk_ => ((Kd.R_mono (ok' := fun k_ => ((fun _ => True)) k_ ∧ k_ ≠ go14) (Kd.R_apart' (HO251.out) (Kd.S_typed HO248.out) (by decide)) (fun k_ hk => ⟨trivial, fun e_ => (hk.2) (by rw [e_]; rfl)⟩))).1 k_ hk_.symm); have hx19_0 := hcc19 0 _ rfl; (try simp only [show ((Kd.slice 3 (Kd.int .i64))).sz = 1 from rfl, Nat.mul_one, Nat.add_zero] at hx19_0); have hf19_0 := hfr19 0; (try simp only [show ((Kd.slice 3 (Kd.int .i64))).sz = 1 from rfl, Nat.mul_one, Nat.add_zero] at hf19_0); clear hcl19 hcc19 hfr19; (try clear hM19); clear hoki19 hH19; (try simp only [show ((Kd.slice 3 (Kd.int .i64))).sz = 1 from rfl, Nat.mul_one, Nat.add_zero, Int.toNat_natCast] at HP19)) | ((with_reducible refine gate_store (t := 24) (p := 26) rfl ?_); (try (rw [drewN_self w17]; generalize hq_ : World.drewN w17 _ = w17; replace HO248 := aM (Kd.S_at hq_ HO248.out); replace HB := aM (below_at hq_ HB.out); clear hq_; (try (have n_ := aM (Kd.S_mono (ok' := (fun k_ => some k_ ≠ (v250 : Value).ownBlock)) HO248.out (fun k_ hk => hk.2)); clear HO248; have HO248 := n_; clear n_)); (try (have HX19 := aM (show Kd.S (Kd.slice 3 (Kd.int .i64)) 24 w17 w.heap.size (fun k_ => ((fun _ => True)) k_ ∧ ¬ ((fun k_ => some k_ = (v250 : Value).ownBlock)) k_) (.slice (some ⟨go14, 0, none⟩) y246.length co14) y246 from qz6))); (try (obtain ⟨oki19, ce19, hcl19, hM19, hcc19, hfr19, hoki19, hH19⟩ := Kd.S_elem HX19.out [] ((l0.length : Int) : Int) (dt_) (by have h_ : ((l0.length : Int) : Int) < ((y246.length : Int) : Int) := dt_; first | exact h_ | (have e_ := (Kd.S_reads' HO248.out).1; omega) | simpa using h_))); (try (obtain ⟨ve19_0, rfl, ge19_0⟩ := hM19)); (try (have HP19 := Kd.S_seg hH19 (dt_) (by have h_ : ((l0.length : Int) : Int) < ((y246.length : Int) : Int) := dt_; first | exact h_ | (have e_ := (Kd.S_reads' HO248.out).1; omega) | simpa using h_) (seg := [v250]) (j := 0) (show 1 ≤ 1 from by decide) (x' := y249) (Kd.M_row (Kd.R_mono (Kd.R_tight rfl (Kd.R_mono (ok' := fun k_ => ((fun _ => True)) k_ ∧ k_ ≠ go14) (Kd.R_apart' (HO251.out) (Kd.S_typed HO248.out) (by decide)) (fun k_ hk => ⟨trivial, fun e_ => (hk.2) (by rw [e_]; rfl)⟩))) (fun _ h_ => Or.inr (h_)))) (fun _ hk => hk) (fun k_ hk_ => ((Kd.R_mono (ok' := fun k_ => ((fun _ => True)) k_ ∧ k_ ≠ go14) (Kd.R_apart' (HO251.out) (Kd.S_typed HO248.out) (by decide)) (fun k_ hk => ⟨trivial, fun e_ => (hk.2) (by rw [e_]; rfl)⟩))).1 k_ hk_.symm))); (try (have hx19_0 := hcc19 0 _ rfl)); (try (try simp only [show ((Kd.slice 3 (Kd.int .i64))).sz = 1 from rfl, Nat.mul_one, Nat.add_zero] at hx19_0)); (try (have hf19_0 := hfr19 0)); (try (try simp only [show ((Kd.slice 3 (Kd.int .i64))).sz = 1 from rfl, Nat.mul_one, Nat.add_zero] at hf19_0)); (try (clear hcl19 hcc19 hfr19; (try clear hM19); clear hoki19 hH19)); (try (try simp only [show ((Kd.slice 3 (Kd.int .i64))).sz = 1 from rfl, Nat.mul_one, Nat.add_zero, Int.toNat_natCast] at HP19)))); refine store_event (t := 24) (p := 26) (v := ?vo_w20) (w1 := (w17.setCell ⟨go14, ((l0.length : Int) : Int).toNat, none⟩ (v250))) ?hg ?ho ?hn ?hr ?_; (case ho => rfl); (case hg => rfl); (case hn => rfl); (case hr => first | (go_simp; done) | (go_simp; rfl) | (obtain ⟨A_, c_, e_⟩ := Kd.R_slice (show Kd.R _ _ _ _ _ v250 _ from Aside0.out (by assumption)); rw [e_]; go_simp; done)); intro w20 hw; have hg : w17.grownBy w20 (some go14) := (by rw [hw]; exact HP19.2); have hp_ : Kd.S (Kd.slice 3 (Kd.int .i64)) 24 w20 w.heap.size (fun _ => True) (.slice (some ⟨go14, 0, none⟩) y246.length co14) y252 := (by rw [hw, Ny252.out]; exact HP19.1); clear HP19; replace HO248 := aM (hp_); replace HB := aM ((by rw [hw]; exact below_set (HB.out) GB14.out : Below w.heap.size w w20)); clear HO251; clear hg hw hp_)))
   go_loopg [5] kj1 (fun kq v5 w' => ∃ (x4_2 : List (List Int)) (x5_2 : Int), v5 = .int .i64 x5_2 ∧ Aside0 (impl_least.l0 kq l0 x3_1 x4_2 x5_2 = some r) ∧ Aside0 (kq ≤ kj1) ∧ Aside0 (Kd.S (Kd.slice 3 (Kd.int .i64)) 24 w' w.heap.size (fun _ => True) (.slice (some ⟨go14, 0, none⟩) y246.length co14) x4_2) ∧ Aside0 (Below w.heap.size w w'))
   case atStart => exact ⟨(y252), (wrap64 ((l0.length : Int) - 1)), qz3, H', ⟨Nat.le_refl _⟩, ⟨rs_ HO248.out⟩, ⟨qz1⟩⟩
   case round =>
    clear H'
    try clear c1
    try clear p1
    try clear q1
    try clear hx1
    try clear hf1
    try clear c2
    try clear p2
    try clear q2
    try clear hx2
    try clear qi2
    try clear c3
    try clear c3b0
    try clear c3b1
    try clear c4
    try clear c4b0
    try clear c4b1
    try clear c6
    try clear c6b0
    try clear c6b1
    try clear p6
    try clear c7
    try clear c7b0
    try clear c7b1
    try clear c8
    try clear c8b0
    try clear c8b1
    try clear c10
    try clear c10b0
    try clear c10b1
    try clear c11
    try clear c11b0
    try clear c11b1
    try clear c12
    try clear c12b0
    try clear c12b1
    try clear c13
    try clear c13b0
    try clear c13b1
    try clear c14
    try clear p14
    try clear q14
    try clear hx14
    try clear hf14
    try clear c19
    try clear hx19
    try clear hf19
    try clear hx14_0
    try clear hx19_0
    try clear hx245_0
    try clear p245
    try clear q245
    obtain ⟨x4_2, x5_2, rfl, HA, HK2, HO_4, HB⟩ := hrel
    have hl4_2 := (Kd.S_reads' HO_4.out).1
    rw [hl4_2] at HO_4
    (try simp only [hl4_2])
    cases gk with
    | zero => exact absurd HA.out (by simp [impl_least.l0])
    | succ k2 =>
     have H := HA.out
     clear HA
     simp only [impl_least.l0] at H
     by_cases c21 : x5_2 ≥ 0
     {
     rw [if_pos c21] at H
     have c21b0 := decide_eq_true c21
     clear c21
     by_cases c22 : 0 ≤ x3_1
     {
     rw [if_pos c22] at H
     have c22b0 := eq_true c22
     have c22b1 := decide_eq_true c22
     clear c22
     obtain ⟨ji23, hji23⟩ : ∃ j_ : Int, (shl .i64 1 x3_1) = j_ := ⟨_, rfl⟩
     obtain rfl : ji23 = ji9 := hji23.symm.trans hji9
     replace H : (if 0 ≤ (ji23) then (if (ji23 : Int).toNat ≤ 35184372088832 then (if 0 ≤ x5_2 then (if x5_2 < (x4_2.length : Int) then ((some (x4_2.set (x5_2 : Int).toNat (List.replicate (ji23 : Int).toNat 0) : List (List Int))).bind fun y256 => (impl_least.l1 k2 l0 x3_1 y256 x5_2 ((rd_L1 y256 x5_2).length : Int) 0)) else (none)) else (none)) else (none)) else (none)) = some r := by first | (rw [hji23] at H; exact H) | (simp only [hji23] at H ⊢; exact H)
     have hji23_ : (IntKind.i64.wrap (1 * 2 ^ min x3_1.toNat 64)) = ji23 := hji23
     have hji23z : x3_1 ≤ 64 → (IntKind.i64.wrap (1 * 2 ^ x3_1.toNat)) = ji23 := shl_small hji23
     have hji23u : (IntKind.i64.wrap (2 ^ min x3_1.toNat 64)) = ji23 := by have h_ := hji23_; rw [Int.one_mul] at h_; exact h_
     have hji23v : x3_1 ≤ 64 → (IntKind.i64.wrap (2 ^ x3_1.toNat)) = ji23 := fun hle_ => by have h_ := hji23z hle_; rw [Int.one_mul] at h_; exact h_
     have hji23y : (wrap64 (1 * 2 ^ min x3_1.toNat 64)) = ji23 := (i64_w _).symm.trans hji23_
     have hji23x : x3_1 ≤ 64 → (wrap64 (1 * 2 ^ x3_1.toNat)) = ji23 := fun h_ => (i64_w _).symm.trans (hji23z h_)
     by_cases c24 : 0 ≤ (ji23)
     {
     rw [if_pos c24] at H
     have c24b0 := eq_true c24
     have c24b1 := decide_eq_true c24
     clear c24
     by_cases c25 : (ji23 : Int).toNat ≤ 35184372088832
     {
     rw [if_pos c25] at H
     have c25b0 := eq_true c25
     have c25b1 := decide_eq_true c25
     clear c25
     obtain ⟨y253, hy253⟩ : ∃ y_ : List Int, y_ = (List.replicate (ji23 : Int).toNat 0) := ⟨_, rfl⟩
     replace H : (if 0 ≤ x5_2 then (if x5_2 < (x4_2.length : Int) then ((some (x4_2.set (x5_2 : Int).toNat y253 : List (List Int))).bind fun y256 => (impl_least.l1 k2 l0 x3_1 y256 x5_2 ((rd_L1 y256 x5_2).length : Int) 0)) else (none)) else (none)) = some r := by first | (rw [hy253]; with_reducible exact H) | (have H2_ := (Option.bind_some _ _).symm.trans H; rw [hy253]; with_reducible exact H2_) | (have H2_ := (Option.bind_some _ _).symm.trans H; with_reducible exact H2_) | with_reducible exact H | (rw [hy253]; exact H) | exact H
     have Ny253 := aM hy253
     clear hy253
     by_cases c26 : 0 ≤ x5_2
     {
     rw [if_pos c26] at H
     have c26b0 := decide_eq_true c26
     clear c26
     by_cases c27 : x5_2 < (x4_2.length : Int)
     {
     rw [if_pos c27] at H
     have c27b0 := decide_eq_true c27
     (try (have c27b0q4_2 := c27b0; simp only [hl4_2] at c27b0q4_2))
     clear c27
     obtain ⟨y256, hy256⟩ : ∃ y_ : List (List Int), y_ = (x4_2.set (x5_2 : Int).toNat y253) := ⟨_, rfl⟩
     replace H : (impl_least.l1 k2 l0 x3_1 y256 x5_2 ((rd_L1 y256 x5_2).length : Int) 0) = some r := by first | (rw [hy256]; with_reducible exact H) | (have H2_ := (Option.bind_some _ _).symm.trans H; rw [hy256]; with_reducible exact H2_) | (have H2_ := (Option.bind_some _ _).symm.trans H; with_reducible exact H2_) | with_reducible exact H | (rw [hy256]; exact H) | exact H
     have Ny256 := aM hy256
     clear hy256
     have H' := aM H
     clear H
     go_wp2_with (first | ((with_reducible refine gate_dst (N := 38) rfl ?_); refine Kd.R_make (Kd.int .i64) _ 3 rfl (N := 38) rfl 24 _ _ rfl ji23 rfl rfl Try.underlying24 (.int .i64 0) 8 info3 rfl (by decide) (by omega) 0 (ok := fun _ => True) (okp := fun _ => True) rfl (fun _ hk => hk) trivial (dt_) (Nat.le_trans (Nat.mul_le_mul_right _ (dt_ : ji23.toNat ≤ 35184372088832)) (by omega)) (Below.refl _ _) (Nat.le_refl _) ?_; intro v254 w29 ho30 hb hg_ hnew_; clear hg_ hnew_; (first | rw [← Ny253.out] at ho30 | (simp only [Int.reduceToNat] at ho30; rw [← Ny253.out] at ho30)); replace HO_4 := aM (Kd.S_elder' (rs_ HO_4.out) (Kd.R_base ho30) hb); have HO255 := aM (Kd.R_lower ho30 (below_size qz1)); replace HB := bS_ hb; clear hb ho30; have p28 : 0 ≤ (x5_2 : Int) := dt_; have q28 : (x5_2 : Int) < ((x4_2.length : Int) : Int) := dt_; obtain ⟨_, ce28, hcl28, hM28, hcc28, hfr28, _, _⟩ := Kd.S_elem HO_4.out [] (x5_2 : Int) p28 q28; obtain ⟨ve28_0, rfl, ge28_0⟩ := hM28; have hx28_0 := hcc28 0 _ rfl; have hf28_0 := hfr28 0; (try simp only [show ((Kd.slice 3 (Kd.int .i64))).sz = 1 from rfl, Nat.mul_one, Nat.add_zero, Int.toNat_natCast] at hx28_0); (try simp only [show ((Kd.slice 3 (Kd.int .i64))).sz = 1 from rfl, Nat.mul_one, Nat.add_zero, Int.toNat_natCast] at hf28_0); clear hcl28 hcc28 hfr28; (try clear hM28); replace p28 := eq_true p28; replace q28 := eq_true q28; have n_ := aM (Kd.S_mono (ok' := (fun k_ => some k_ ≠ (v254 : Value).ownBlock)) HO_4.out (fun k_ hk => hk.2)); clear HO_4; have HO_4 := n_; clear n_; have HX31 := aM (show Kd.S (Kd.slice 3 (Kd.int .i64)) 24 w29 w.heap.size (fun k_ => ((fun _ => True)) k_ ∧ ¬ ((fun k_ => some k_ = (v254 : Value).ownBlock)) k_) (.slice (some ⟨go14, 0, none⟩) x4_2.length co14) x4_2 from qz7); obtain ⟨oki31, ce31, hcl31, hM31, hcc31, hfr31, hoki31, hH31⟩ := Kd.S_elem HX31.out [] (x5_2 : Int) (dt_) (by have h_ : (x5_2 : Int) < ((x4_2.length : Int) : Int) := dt_; first | exact h_ | (have e_ := (Kd.S_reads' HO_4.out).1; omega) | simpa using h_); obtain ⟨ve31_0, rfl, ge31_0⟩ := hM31; have HP31 := Kd.S_seg hH31 (dt_) (by have h_ : (x5_2 : Int) < ((x4_2.length : Int) : Int) := dt_; first | exact h_ | (have e_ := (Kd.S_reads' HO_4.out).1; omega) | simpa using h_) (seg := [v254]) (j := 0) (show 1 ≤ 1 from by decide) (x' := y253) (Kd.M_row (Kd.R_mono (Kd.R_tight rfl (Kd.R_mono (ok' := fun k_ => ((fun _ => True)) k_ ∧ k_ ≠ go14) (Kd.R_apart' (HO255.out) (Kd.S_typed HO_4.out) (by decide)) (fun k_ hk => ⟨trivial, fun e_ => (hk.2) (by rw [e_]; rfl)⟩))) (fun _ h_ => Or.inr (h_)))) (fun _ hk => hk) (fun k_ hk_ => ((Kd.R_mono (ok' := fun k_ => ((fun _ => True)) k_ ∧ k_ ≠ go14) (Kd.R_apart' (HO255.out) (Kd.S_typed HO_4.out) (by decide)) (fun k_ hk => ⟨trivial, fun e_ => (hk.2) (by rw [e_]; rfl)⟩))).1 k_ hk_.symm); have hx31_0 := hcc31 0 _ rfl; (try simp only [show ((Kd.slice 3 (Kd.int .i64))).sz = 1 from rfl, Nat.mul_one, Nat.add_zero] at hx31_0); have hf31_0 := hfr31 0; (try simp only [show ((Kd.slice 3 (Kd.int .i64))).sz = 1 from rfl, Nat.mul_one, Nat.add_zero] at hf31_0); clear hcl31 hcc31 hfr31; (try clear hM31); clear hoki31 hH31; (try simp only [show ((Kd.slice 3 (Kd.int .i64))).sz = 1 from rfl, Nat.mul_one, Nat.add_zero, Int.toNat_natCast] at HP31)) | ((with_reducible refine gate_store (t := 24) (p := 39) rfl ?_); (try (rw [drewN_self w29]; generalize hq_ : World.drewN w29 _ = w29; replace HO_4 := aM (Kd.S_at hq_ HO_4.out); replace HB := aM (below_at hq_ HB.out); clear hq_; (try (have n_ := aM (Kd.S_mono (ok' := (fun k_ => some k_ ≠ (v254 : Value).ownBlock)) HO_4.out (fun k_ hk => hk.2)); clear HO_4; have HO_4 := n_; clear n_)); (try (have HX31 := aM (show Kd.S (Kd.slice 3 (Kd.int .i64)) 24 w29 w.heap.size (fun k_ => ((fun _ => True)) k_ ∧ ¬ ((fun k_ => some k_ = (v254 : Value).ownBlock)) k_) (.slice (some ⟨go14, 0, none⟩) x4_2.length co14) x4_2 from qz7))); (try (obtain ⟨oki31, ce31, hcl31, hM31, hcc31, hfr31, hoki31, hH31⟩ := Kd.S_elem HX31.out [] (x5_2 : Int) (dt_) (by have h_ : (x5_2 : Int) < ((x4_2.length : Int) : Int) := dt_; first | exact h_ | (have e_ := (Kd.S_reads' HO_4.out).1; omega) | simpa using h_))); (try (obtain ⟨ve31_0, rfl, ge31_0⟩ := hM31)); (try (have HP31 := Kd.S_seg hH31 (dt_) (by have h_ : (x5_2 : Int) < ((x4_2.length : Int) : Int) := dt_; first | exact h_ | (have e_ := (Kd.S_reads' HO_4.out).1; omega) | simpa using h_) (seg := [v254]) (j := 0) (show 1 ≤ 1 from by decide) (x' := y253) (Kd.M_row (Kd.R_mono (Kd.R_tight rfl (Kd.R_mono (ok' := fun k_ => ((fun _ => True)) k_ ∧ k_ ≠ go14) (Kd.R_apart' (HO255.out) (Kd.S_typed HO_4.out) (by decide)) (fun k_ hk => ⟨trivial, fun e_ => (hk.2) (by rw [e_]; rfl)⟩))) (fun _ h_ => Or.inr (h_)))) (fun _ hk => hk) (fun k_ hk_ => ((Kd.R_mono (ok' := fun k_ => ((fun _ => True)) k_ ∧ k_ ≠ go14) (Kd.R_apart' (HO255.out) (Kd.S_typed HO_4.out) (by decide)) (fun k_ hk => ⟨trivial, fun e_ => (hk.2) (by rw [e_]; rfl)⟩))).1 k_ hk_.symm))); (try (have hx31_0 := hcc31 0 _ rfl)); (try (try simp only [show ((Kd.slice 3 (Kd.int .i64))).sz = 1 from rfl, Nat.mul_one, Nat.add_zero] at hx31_0)); (try (have hf31_0 := hfr31 0)); (try (try simp only [show ((Kd.slice 3 (Kd.int .i64))).sz = 1 from rfl, Nat.mul_one, Nat.add_zero] at hf31_0)); (try (clear hcl31 hcc31 hfr31; (try clear hM31); clear hoki31 hH31)); (try (try simp only [show ((Kd.slice 3 (Kd.int .i64))).sz = 1 from rfl, Nat.mul_one, Nat.add_zero, Int.toNat_natCast] at HP31)))); refine store_event (t := 24) (p := 39) (v := ?vo_w32) (w1 := (w29.setCell ⟨go14, (x5_2 : Int).toNat, none⟩ (v254))) ?hg ?ho ?hn ?hr ?_; (case ho => rfl); (case hg => rfl); (case hn => rfl); (case hr => first | (go_simp; done) | (go_simp; rfl) | (obtain ⟨A_, c_, e_⟩ := Kd.R_slice (show Kd.R _ _ _ _ _ v254 _ from Aside0.out (by assumption)); rw [e_]; go_simp; done)); intro w32 hw; have hg : w29.grownBy w32 (some go14) := (by rw [hw]; exact HP31.2); have hp_ : Kd.S (Kd.slice 3 (Kd.int .i64)) 24 w32 w.heap.size (fun _ => True) (.slice (some ⟨go14, 0, none⟩) x4_2.length co14) y256 := (by rw [hw, Ny256.out]; exact HP31.1); clear HP31; replace HO_4 := aM (hp_); replace HB := aM ((by rw [hw]; exact below_set (HB.out) GB14.out : Below w.heap.size w w32)); clear HO255; clear hg hw hp_; have p257 : 0 ≤ (x5_2 : Int) := dt_; have q257 : x5_2 < (y256.length : Int) := (by have h_ : (x5_2 : Int) < ((x4_2.length : Int) : Int) := dt_; first | (have e_ := (Kd.S_reads' HO_4.out).1; omega) | simpa only [Ny256.out, List.length_set] using h_); have ql257 : ((x5_2 : Int) < ((x4_2.length : Int) : Int)) = True := eq_true (dt_); obtain ⟨ad257, A257_0, c257_0, e257, hx257_0, hl257_0, hi257_0⟩ := at_L1 (Kd.S_reads' HO_4.out).2.2 x5_2 p257 q257; obtain rfl : (⟨go14, 0, none⟩ : Addr) = ad257 := (by injection e257); obtain ⟨ce257, hce257, hMe257, hcc257⟩ := Kd.S_get HO_4.out [] x5_2 p257 (by first | exact q257 | exact dt_ | (have e_ := (Kd.S_reads' HO_4.out).1; omega)); obtain ⟨ve257_0, rfl, ge257_0⟩ := hMe257; have hv257_0 := hcc257 0 _ rfl; rw [Nat.add_zero, show ((Kd.slice 3 (Kd.int .i64))).sz = 1 from rfl, Nat.mul_one] at hv257_0; replace hv257_0 := Option.some.inj (hv257_0.symm.trans hx257_0); rw [hv257_0] at ge257_0; have HL257_0 := aM (show Kd.R (Kd.int .i64) 3 _ _ _ _ (rd_L1 y256 x5_2) from ge257_0); clear hv257_0 ge257_0; have HX257_0 := aM hx257_0; clear hcc257 hce257; (first | simp only [add_plain] at hx257_0 | simp only [add_at] at hx257_0 | simp only [Addr.add, Nat.zero_add] at hx257_0 | skip); have HR257_0 := aM hi257_0; have HC257_0 := aM hl257_0; clear hi257_0 hl257_0; replace p257 := eq_true p257; replace q257 := eq_true q257))
     repeat (go_quiet (first | ((with_reducible refine gate_dst (N := 38) rfl ?_); refine Kd.R_make (Kd.int .i64) _ 3 rfl (N := 38) rfl 24 _ _ rfl ji23 rfl rfl Try.underlying24 (.int .i64 0) 8 info3 rfl (by decide) (by omega) 0 (ok := fun _ => True) (okp := fun _ => True) rfl (fun _ hk => hk) trivial (dt_) (Nat.le_trans (Nat.mul_le_mul_right _ (dt_ : ji23.toNat ≤ 35184372088832)) (by omega)) (Below.refl _ _) (Nat.le_refl _) ?_; intro v254 w29 ho30 hb hg_ hnew_; clear hg_ hnew_; (first | rw [← Ny253.out] at ho30 | (simp only [Int.reduceToNat] at ho30; rw [← Ny253.out] at ho30)); replace HO_4 := aM (Kd.S_elder' (rs_ HO_4.out) (Kd.R_base ho30) hb); have HO255 := aM (Kd.R_lower ho30 (below_size qz1)); replace HB := bS_ hb; clear hb ho30; have p28 : 0 ≤ (x5_2 : Int) := dt_; have q28 : (x5_2 : Int) < ((x4_2.length : Int) : Int) := dt_; obtain ⟨_, ce28, hcl28, hM28, hcc28, hfr28, _, _⟩ := Kd.S_elem HO_4.out [] (x5_2 : Int) p28 q28; obtain ⟨ve28_0, rfl, ge28_0⟩ := hM28; have hx28_0 := hcc28 0 _ rfl; have hf28_0 := hfr28 0; (try simp only [show ((Kd.slice 3 (Kd.int .i64))).sz = 1 from rfl, Nat.mul_one, Nat.add_zero, Int.toNat_natCast] at hx28_0); (try simp only [show ((Kd.slice 3 (Kd.int .i64))).sz = 1 from rfl, Nat.mul_one, Nat.add_zero, Int.toNat_natCast] at hf28_0); clear hcl28 hcc28 hfr28; (try clear hM28); replace p28 := eq_true p28; replace q28 := eq_true q28; have n_ := aM (Kd.S_mono (ok' := (fun k_ => some k_ ≠ (v254 : Value).ownBlock)) HO_4.out (fun k_ hk => hk.2)); clear HO_4; have HO_4 := n_; clear n_; have HX31 := aM (show Kd.S (Kd.slice 3 (Kd.int .i64)) 24 w29 w.heap.size (fun k_ => ((fun _ => True)) k_ ∧ ¬ ((fun k_ => some k_ = (v254 : Value).ownBlock)) k_) (.slice (some ⟨go14, 0, none⟩) x4_2.length co14) x4_2 from qz7); obtain ⟨oki31, ce31, hcl31, hM31, hcc31, hfr31, hoki31, hH31⟩ := Kd.S_elem HX31.out [] (x5_2 : Int) (dt_) (by have h_ : (x5_2 : Int) < ((x4_2.length : Int) : Int) := dt_; first | exact h_ | (have e_ := (Kd.S_reads' HO_4.out).1; omega) | simpa using h_); obtain ⟨ve31_0, rfl, ge31_0⟩ := hM31; have HP31 := Kd.S_seg hH31 (dt_) (by have h_ : (x5_2 : Int) < ((x4_2.length : Int) : Int) := dt_; first | exact h_ | (have e_ := (Kd.S_reads' HO_4.out).1; omega) | simpa using h_) (seg := [v254]) (j := 0) (show 1 ≤ 1 from by decide) (x' := y253) (Kd.M_row (Kd.R_mono (Kd.R_tight rfl (Kd.R_mono (ok' := fun k_ => ((fun _ => True)) k_ ∧ k_ ≠ go14) (Kd.R_apart' (HO255.out) (Kd.S_typed HO_4.out) (by decide)) (fun k_ hk => ⟨trivial, fun e_ => (hk.2) (by rw [e_]; rfl)⟩))) (fun _ h_ => Or.inr (h_)))) (fun _ hk => hk) (fun k_ hk_ => ((Kd.R_mono (ok' := fun k_ => ((fun _ => True)) k_ ∧ k_ ≠ go14) (Kd.R_apart' (HO255.out) (Kd.S_typed HO_4.out) (by decide)) (fun k_ hk => ⟨trivial, fun e_ => (hk.2) (by rw [e_]; rfl)⟩))).1 k_ hk_.symm); have hx31_0 := hcc31 0 _ rfl; (try simp only [show ((Kd.slice 3 (Kd.int .i64))).sz = 1 from rfl, Nat.mul_one, Nat.add_zero] at hx31_0); have hf31_0 := hfr31 0; (try simp only [show ((Kd.slice 3 (Kd.int .i64))).sz = 1 from rfl, Nat.mul_one, Nat.add_zero] at hf31_0); clear hcl31 hcc31 hfr31; (try clear hM31); clear hoki31 hH31; (try simp only [show ((Kd.slice 3 (Kd.int .i64))).sz = 1 from rfl, Nat.mul_one, Nat.add_zero, Int.toNat_natCast] at HP31)) | ((with_reducible refine gate_store (t := 24) (p := 39) rfl ?_); (try (rw [drewN_self w29]; generalize hq_ : World.drewN w29 _ = w29; replace HO_4 := aM (Kd.S_at hq_ HO_4.out); replace HB := aM (below_at hq_ HB.out); clear hq_; (try (have n_ := aM (Kd.S_mono (ok' := (fun k_ => some k_ ≠ (v254 : Value).ownBlock)) HO_4.out (fun k_ hk => hk.2)); clear HO_4; have HO_4 := n_; clear n_)); (try (have HX31 := aM (show Kd.S (Kd.slice 3 (Kd.int .i64)) 24 w29 w.heap.size (fun k_ => ((fun _ => True)) k_ ∧ ¬ ((fun k_ => some k_ = (v254 : Value).ownBlock)) k_) (.slice (some ⟨go14, 0, none⟩) x4_2.length co14) x4_2 from qz7))); (try (obtain ⟨oki31, ce31, hcl31, hM31, hcc31, hfr31, hoki31, hH31⟩ := Kd.S_elem HX31.out [] (x5_2 : Int) (dt_) (by have h_ : (x5_2 : Int) < ((x4_2.length : Int) : Int) := dt_; first | exact h_ | (have e_ := (Kd.S_reads' HO_4.out).1; omega) | simpa using h_))); (try (obtain ⟨ve31_0, rfl, ge31_0⟩ := hM31)); (try (have HP31 := Kd.S_seg hH31 (dt_) (by have h_ : (x5_2 : Int) < ((x4_2.length : Int) : Int) := dt_; first | exact h_ | (have e_ := (Kd.S_reads' HO_4.out).1; omega) | simpa using h_) (seg := [v254]) (j := 0) (show 1 ≤ 1 from by decide) (x' := y253) (Kd.M_row (Kd.R_mono (Kd.R_tight rfl (Kd.R_mono (ok' := fun k_ => ((fun _ => True)) k_ ∧ k_ ≠ go14) (Kd.R_apart' (HO255.out) (Kd.S_typed HO_4.out) (by decide)) (fun k_ hk => ⟨trivial, fun e_ => (hk.2) (by rw [e_]; rfl)⟩))) (fun _ h_ => Or.inr (h_)))) (fun _ hk => hk) (fun k_ hk_ => ((Kd.R_mono (ok' := fun k_ => ((fun _ => True)) k_ ∧ k_ ≠ go14) (Kd.R_apart' (HO255.out) (Kd.S_typed HO_4.out) (by decide)) (fun k_ hk => ⟨trivial, fun e_ => (hk.2) (by rw [e_]; rfl)⟩))).1 k_ hk_.symm))); (try (have hx31_0 := hcc31 0 _ rfl)); (try (try simp only [show ((Kd.slice 3 (Kd.int .i64))).sz = 1 from rfl, Nat.mul_one, Nat.add_zero] at hx31_0)); (try (have hf31_0 := hfr31 0)); (try (try simp only [show ((Kd.slice 3 (Kd.int .i64))).sz = 1 from rfl, Nat.mul_one, Nat.add_zero] at hf31_0)); (try (clear hcl31 hcc31 hfr31; (try clear hM31); clear hoki31 hH31)); (try (try simp only [show ((Kd.slice 3 (Kd.int .i64))).sz = 1 from rfl, Nat.mul_one, Nat.add_zero, Int.toNat_natCast] at HP31)))); refine store_event (t := 24) (p := 39) (v := ?vo_w32) (w1 := (w29.setCell ⟨go14, (x5_2 : Int).toNat, none⟩ (v254))) ?hg ?ho ?hn ?hr ?_; (case ho => rfl); (case hg => rfl); (case hn => rfl); (case hr => first | (go_simp; done) | (go_simp; rfl) | (obtain ⟨A_, c_, e_⟩ := Kd.R_slice (show Kd.R _ _ _ _ _ v254 _ from Aside0.out (by assumption)); rw [e_]; go_simp; done)); intro w32 hw; have hg : w29.grownBy w32 (some go14) := (by rw [hw]; exact HP31.2); have hp_ : Kd.S (Kd.slice 3 (Kd.int .i64)) 24 w32 w.heap.size (fun _ => True) (.slice (some ⟨go14, 0, none⟩) x4_2.length co14) y256 := (by rw [hw, Ny256.out]; exact HP31.1); clear HP31; replace HO_4 := aM (hp_); replace HB := aM ((by rw [hw]; exact below_set (HB.out) GB14.out : Below w.heap.size w w32)); clear HO255; clear hg hw hp_; have p257 : 0 ≤ (x5_2 : Int) := dt_; have q257 : x5_2 < (y256.length : Int) := (by have h_ : (x5_2 : Int) < ((x4_2.length : Int) : Int) := dt_; first | (have e_ := (Kd.S_reads' HO_4.out).1; omega) | simpa only [Ny256.out, List.length_set] using h_); have ql257 : ((x5_2 : Int) < ((x4_2.length : Int) : Int)) = True := eq_true (dt_); obtain ⟨ad257, A257_0, c257_0, e257, hx257_0, hl257_0, hi257_0⟩ := at_L1 (Kd.S_reads' HO_4.out).2.2 x5_2 p257 q257; obtain rfl : (⟨go14, 0, none⟩ : Addr) = ad257 := (by injection e257); obtain ⟨ce257, hce257, hMe257, hcc257⟩ := Kd.S_get HO_4.out [] x5_2 p257 (by first | exact q257 | exact dt_ | (have e_ := (Kd.S_reads' HO_4.out).1; omega)); obtain ⟨ve257_0, rfl, ge257_0⟩ := hMe257; have hv257_0 := hcc257 0 _ rfl; rw [Nat.add_zero, show ((Kd.slice 3 (Kd.int .i64))).sz = 1 from rfl, Nat.mul_one] at hv257_0; replace hv257_0 := Option.some.inj (hv257_0.symm.trans hx257_0); rw [hv257_0] at ge257_0; have HL257_0 := aM (show Kd.R (Kd.int .i64) 3 _ _ _ _ (rd_L1 y256 x5_2) from ge257_0); clear hv257_0 ge257_0; have HX257_0 := aM hx257_0; clear hcc257 hce257; (first | simp only [add_plain] at hx257_0 | simp only [add_at] at hx257_0 | simp only [Addr.add, Nat.zero_add] at hx257_0 | skip); have HR257_0 := aM hi257_0; have HC257_0 := aM hl257_0; clear hi257_0 hl257_0; replace p257 := eq_true p257; replace q257 := eq_true q257)); try go_wp2_with (first | ((with_reducible refine gate_dst (N := 38) rfl ?_); refine Kd.R_make (Kd.int .i64) _ 3 rfl (N := 38) rfl 24 _ _ rfl ji23 rfl rfl Try.underlying24 (.int .i64 0) 8 info3 rfl (by decide) (by omega) 0 (ok := fun _ => True) (okp := fun _ => True) rfl (fun _ hk => hk) trivial (dt_) (Nat.le_trans (Nat.mul_le_mul_right _ (dt_ : ji23.toNat ≤ 35184372088832)) (by omega)) (Below.refl _ _) (Nat.le_refl _) ?_; intro v254 w29 ho30 hb hg_ hnew_; clear hg_ hnew_; (first | rw [← Ny253.out] at ho30 | (simp only [Int.reduceToNat] at ho30; rw [← Ny253.out] at ho30)); replace HO_4 := aM (Kd.S_elder' (rs_ HO_4.out) (Kd.R_base ho30) hb); have HO255 := aM (Kd.R_lower ho30 (below_size qz1)); replace HB := bS_ hb; clear hb ho30; have p28 : 0 ≤ (x5_2 : Int) := dt_; have q28 : (x5_2 : Int) < ((x4_2.length : Int) : Int) := dt_; obtain ⟨_, ce28, hcl28, hM28, hcc28, hfr28, _, _⟩ := Kd.S_elem HO_4.out [] (x5_2 : Int) p28 q28; obtain ⟨ve28_0, rfl, ge28_0⟩ := hM28; have hx28_0 := hcc28 0 _ rfl; have hf28_0 := hfr28 0; (try simp only [show ((Kd.slice 3 (Kd.int .i64))).sz = 1 from rfl, Nat.mul_one, Nat.add_zero, Int.toNat_natCast] at hx28_0); (try simp only [show ((Kd.slice 3 (Kd.int .i64))).sz = 1 from rfl, Nat.mul_one, Nat.add_zero, Int.toNat_natCast] at hf28_0); clear hcl28 hcc28 hfr28; (try clear hM28); replace p28 := eq_true p28; replace q28 := eq_true q28; have n_ := aM (Kd.S_mono (ok' := (fun k_ => some k_ ≠ (v254 : Value).ownBlock)) HO_4.out (fun k_ hk => hk.2)); clear HO_4; have HO_4 := n_; clear n_; have HX31 := aM (show Kd.S (Kd.slice 3 (Kd.int .i64)) 24 w29 w.heap.size (fun k_ => ((fun _ => True)) k_ ∧ ¬ ((fun k_ => some k_ = (v254 : Value).ownBlock)) k_) (.slice (some ⟨go14, 0, none⟩) x4_2.length co14) x4_2 from qz7); obtain ⟨oki31, ce31, hcl31, hM31, hcc31, hfr31, hoki31, hH31⟩ := Kd.S_elem HX31.out [] (x5_2 : Int) (dt_) (by have h_ : (x5_2 : Int) < ((x4_2.length : Int) : Int) := dt_; first | exact h_ | (have e_ := (Kd.S_reads' HO_4.out).1; omega) | simpa using h_); obtain ⟨ve31_0, rfl, ge31_0⟩ := hM31; have HP31 := Kd.S_seg hH31 (dt_) (by have h_ : (x5_2 : Int) < ((x4_2.length : Int) : Int) := dt_; first | exact h_ | (have e_ := (Kd.S_reads' HO_4.out).1; omega) | simpa using h_) (seg := [v254]) (j := 0) (show 1 ≤ 1 from by decide) (x' := y253) (Kd.M_row (Kd.R_mono (Kd.R_tight rfl (Kd.R_mono (ok' := fun k_ => ((fun _ => True)) k_ ∧ k_ ≠ go14) (Kd.R_apart' (HO255.out) (Kd.S_typed HO_4.out) (by decide)) (fun k_ hk => ⟨trivial, fun e_ => (hk.2) (by rw [e_]; rfl)⟩))) (fun _ h_ => Or.inr (h_)))) (fun _ hk => hk) (fun k_ hk_ => ((Kd.R_mono (ok' := fun k_ => ((fun _ => True)) k_ ∧ k_ ≠ go14) (Kd.R_apart' (HO255.out) (Kd.S_typed HO_4.out) (by decide)) (fun k_ hk => ⟨trivial, fun e_ => (hk.2) (by rw [e_]; rfl)⟩))).1 k_ hk_.symm); have hx31_0 := hcc31 0 _ rfl; (try simp only [show ((Kd.slice 3 (Kd.int .i64))).sz = 1 from rfl, Nat.mul_one, Nat.add_zero] at hx31_0); have hf31_0 := hfr31 0; (try simp only [show ((Kd.slice 3 (Kd.int .i64))).sz = 1 from rfl, Nat.mul_one, Nat.add_zero] at hf31_0); clear hcl31 hcc31 hfr31; (try clear hM31); clear hoki31 hH31; (try simp only [show ((Kd.slice 3 (Kd.int .i64))).sz = 1 from rfl, Nat.mul_one, Nat.add_zero, Int.toNat_natCast] at HP31)) | ((with_reducible refine gate_store (t := 24) (p := 39) rfl ?_); (try (rw [drewN_self w29]; generalize hq_ : World.drewN w29 _ = w29; replace HO_4 := aM (Kd.S_at hq_ HO_4.out); replace HB := aM (below_at hq_ HB.out); clear hq_; (try (have n_ := aM (Kd.S_mono (ok' := (fun k_ => some k_ ≠ (v254 : Value).ownBlock)) HO_4.out (fun k_ hk => hk.2)); clear HO_4; have HO_4 := n_; clear n_)); (try (have HX31 := aM (show Kd.S (Kd.slice 3 (Kd.int .i64)) 24 w29 w.heap.size (fun k_ => ((fun _ => True)) k_ ∧ ¬ ((fun k_ => some k_ = (v254 : Value).ownBlock)) k_) (.slice (some ⟨go14, 0, none⟩) x4_2.length co14) x4_2 from qz7))); (try (obtain ⟨oki31, ce31, hcl31, hM31, hcc31, hfr31, hoki31, hH31⟩ := Kd.S_elem HX31.out [] (x5_2 : Int) (dt_) (by have h_ : (x5_2 : Int) < ((x4_2.length : Int) : Int) := dt_; first | exact h_ | (have e_ := (Kd.S_reads' HO_4.out).1; omega) | simpa using h_))); (try (obtain ⟨ve31_0, rfl, ge31_0⟩ := hM31)); (try (have HP31 := Kd.S_seg hH31 (dt_) (by have h_ : (x5_2 : Int) < ((x4_2.length : Int) : Int) := dt_; first | exact h_ | (have e_ := (Kd.S_reads' HO_4.out).1; omega) | simpa using h_) (seg := [v254]) (j := 0) (show 1 ≤ 1 from by decide) (x' := y253) (Kd.M_row (Kd.R_mono (Kd.R_tight rfl (Kd.R_mono (ok' := fun k_ => ((fun _ => True)) k_ ∧ k_ ≠ go14) (Kd.R_apart' (HO255.out) (Kd.S_typed HO_4.out) (by decide)) (fun k_ hk => ⟨trivial, fun e_ => (hk.2) (by rw [e_]; rfl)⟩))) (fun _ h_ => Or.inr (h_)))) (fun _ hk => hk) (fun k_ hk_ => ((Kd.R_mono (ok' := fun k_ => ((fun _ => True)) k_ ∧ k_ ≠ go14) (Kd.R_apart' (HO255.out) (Kd.S_typed HO_4.out) (by decide)) (fun k_ hk => ⟨trivial, fun e_ => (hk.2) (by rw [e_]; rfl)⟩))).1 k_ hk_.symm))); (try (have hx31_0 := hcc31 0 _ rfl)); (try (try simp only [show ((Kd.slice 3 (Kd.int .i64))).sz = 1 from rfl, Nat.mul_one, Nat.add_zero] at hx31_0)); (try (have hf31_0 := hfr31 0)); (try (try simp only [show ((Kd.slice 3 (Kd.int .i64))).sz = 1 from rfl, Nat.mul_one, Nat.add_zero] at hf31_0)); (try (clear hcl31 hcc31 hfr31; (try clear hM31); clear hoki31 hH31)); (try (try simp only [show ((Kd.slice 3 (Kd.int .i64))).sz = 1 from rfl, Nat.mul_one, Nat.add_zero, Int.toNat_natCast] at HP31)))); refine store_event (t := 24) (p := 39) (v := ?vo_w32) (w1 := (w29.setCell ⟨go14, (x5_2 : Int).toNat, none⟩ (v254))) ?hg ?ho ?hn ?hr ?_; (case ho => rfl); (case hg => rfl); (case hn => rfl); (case hr => first | (go_simp; done) | (go_simp; rfl) | (obtain ⟨A_, c_, e_⟩ := Kd.R_slice (show Kd.R _ _ _ _ _ v254 _ from Aside0.out (by assumption)); rw [e_]; go_simp; done)); intro w32 hw; have hg : w29.grownBy w32 (some go14) := (by rw [hw]; exact HP31.2); have hp_ : Kd.S (Kd.slice 3 (Kd.int .i64)) 24 w32 w.heap.size (fun _ => True) (.slice (some ⟨go14, 0, none⟩) x4_2.length co14) y256 := (by rw [hw, Ny256.out]; exact HP31.1); clear HP31; replace HO_4 := aM (hp_); replace HB := aM ((by rw [hw]; exact below_set (HB.out) GB14.out : Below w.heap.size w w32)); clear HO255; clear hg hw hp_; have p257 : 0 ≤ (x5_2 : Int) := dt_; have q257 : x5_2 < (y256.length : Int) := (by have h_ : (x5_2 : Int) < ((x4_2.length : Int) : Int) := dt_; first | (have e_ := (Kd.S_reads' HO_4.out).1; omega) | simpa only [Ny256.out, List.length_set] using h_); have ql257 : ((x5_2 : Int) < ((x4_2.length : Int) : Int)) = True := eq_true (dt_); obtain ⟨ad257, A257_0, c257_0, e257, hx257_0, hl257_0, hi257_0⟩ := at_L1 (Kd.S_reads' HO_4.out).2.2 x5_2 p257 q257; obtain rfl : (⟨go14, 0, none⟩ : Addr) = ad257 := (by injection e257); obtain ⟨ce257, hce257, hMe257, hcc257⟩ := Kd.S_get HO_4.out [] x5_2 p257 (by first | exact q257 | exact dt_ | (have e_ := (Kd.S_reads' HO_4.out).1; omega)); obtain ⟨ve257_0, rfl, ge257_0⟩ := hMe257; have hv257_0 := hcc257 0 _ rfl; rw [Nat.add_zero, show ((Kd.slice 3 (Kd.int .i64))).sz = 1 from rfl, Nat.mul_one] at hv257_0; replace hv257_0 := Option.some.inj (hv257_0.symm.trans hx257_0); rw [hv257_0] at ge257_0; have HL257_0 := aM (show Kd.R (Kd.int .i64) 3 _ _ _ _ (rd_L1 y256 x5_2) from ge257_0); clear hv257_0 ge257_0; have HX257_0 := aM hx257_0; clear hcc257 hce257; (first | simp only [add_plain] at hx257_0 | simp only [add_at] at hx257_0 | simp only [Addr.add, Nat.zero_add] at hx257_0 | skip); have HR257_0 := aM hi257_0; have HC257_0 := aM hl257_0; clear hi257_0 hl257_0; replace p257 := eq_true p257; replace q257 := eq_true q257)))
     go_loopg [45] k2 (fun kq v45 w' => ∃ (x4_3 : List (List Int)) (x45_3 : Int), v45 = .int .i64 x45_3 ∧ Aside0 (impl_least.l1 kq l0 x3_1 x4_3 x5_2 ((rd_L1 y256 x5_2).length : Int) x45_3 = some r) ∧ Aside0 (kq ≤ k2) ∧ Aside0 (Kd.S (Kd.slice 3 (Kd.int .i64)) 24 w' w.heap.size (fun _ => True) (.slice (some ⟨go14, 0, none⟩) x4_2.length co14) x4_3) ∧ Aside0 (Below w.heap.size w w'))
     case atStart => exact ⟨(y256), (0), qz3, H', ⟨Nat.le_refl _⟩, ⟨by (try simp only [hl4_2]); exact rs_ HO_4.out⟩, ⟨qz1⟩⟩
     case round =>
      clear H'
      try clear c1
      try clear p1
      try clear q1
      try clear hx1
      try clear hf1
      try clear c2
      try clear p2
      try clear q2
      try clear hx2
      try clear qi2
      try clear hf2
      try clear c3
      try clear c3b0
      try clear c3b1
      try clear hx3
      try clear hf3
      try clear c4
      try clear c4b0
      try clear c4b1
      try clear c6
      try clear c6b0
      try clear c6b1
      try clear p6
      try clear c7
      try clear c7b0
      try clear c7b1
      try clear c8
      try clear c8b0
      try clear c8b1
      try clear c10
      try clear c10b0
      try clear c10b1
      try clear c11
      try clear c11b0
      try clear c11b1
      try clear c12
      try clear c12b0
      try clear c12b1
      try clear c13
      try clear c13b0
      try clear c13b1
      try clear c14
      try clear p14
      try clear q14
      try clear hx14
      try clear hf14
      try clear c19
      try clear hx19
      try clear hf19
      try clear c21
      try clear c21b0
      try clear c22
      try clear c22b0
      try clear c22b1
      try clear c24
      try clear c24b0
      try clear c24b1
      try clear p24
      try clear q24
      try clear hx24
      try clear qi24
      try clear c25
      try clear c25b0
      try clear c25b1
      try clear p25
      try clear q25
      try clear hx25
      try clear c26
      try clear c26b0
      try clear c27
      try clear c27b0
      try clear c28
      try clear p28
      try clear q28
      try clear hx28
      try clear hf28
      try clear c31
      try clear hx31
      try clear hf31
      try clear hx14_0
      try clear hx19_0
      try clear hx245_0
      try clear hx257_0
      try clear hx28_0
      try clear hx31_0
      try clear p245
      try clear p257
      try clear q245
      try clear q257
      obtain ⟨x4_3, x45_3, rfl, HA, HK3, HO_4, HB⟩ := hrel
      have hl4_3 := (Kd.S_reads' HO_4.out).1
      rw [hl4_3] at HO_4
      (try simp only [hl4_3])
      cases gk with
      | zero => exact absurd HA.out (by simp [impl_least.l1])
      | succ k3 =>
       have H := HA.out
       clear HA
       simp only [impl_least.l1] at H
       by_cases c33 : x45_3 < ((rd_L1 y256 x5_2).length : Int)
       {
       rw [if_pos c33] at H
       have c33b0 := decide_eq_true c33
       (try (have c33b0q4_2 := c33b0; simp only [hl4_2] at c33b0q4_2))
       (try (have c33b0q4_3 := c33b0; simp only [hl4_3] at c33b0q4_3))
       clear c33
       by_cases c34 : 0 ≤ x5_2
       {
       rw [if_pos c34] at H
       have c34b0 := decide_eq_true c34
       clear c34
       by_cases c35 : x5_2 < (x4_3.length : Int)
       {
       rw [if_pos c35] at H
       have c35b0 := decide_eq_true c35
       (try (have c35b0q4_2 := c35b0; simp only [hl4_2] at c35b0q4_2))
       (try (have c35b0q4_3 := c35b0; simp only [hl4_3] at c35b0q4_3))
       clear c35
       by_cases c36 : 0 ≤ x45_3
       {
       rw [if_pos c36] at H
       have c36b0 := decide_eq_true c36
       clear c36
       by_cases c37 : x45_3 < ((rd_L1 x4_3 x5_2).length : Int)
       {
       rw [if_pos c37] at H
       have c37b0 := decide_eq_true c37
       (try (have c37b0q4_2 := c37b0; simp only [hl4_2] at c37b0q4_2))
       (try (have c37b0q4_3 := c37b0; simp only [hl4_3] at c37b0q4_3))
       clear c37
       obtain ⟨y259, hy259⟩ : ∃ y_ : List Int, y_ = ((rd_L1 x4_3 x5_2).set (x45_3 : Int).toNat (-1)) := ⟨_, rfl⟩
       replace H : (impl_least.l2 k3 l0 x3_1 (x4_3.set (x5_2 : Int).toNat y259) x5_2 x45_3 ((rd_L1 y256 x5_2).length : Int) x45_3 x3_1 0) = some r := by first | (rw [hy259]; with_reducible exact H) | (have H2_ := (Option.bind_some _ _).symm.trans H; rw [hy259]; with_reducible exact H2_) | (have H2_ := (Option.bind_some _ _).symm.trans H; with_reducible exact H2_) | with_reducible exact H | (rw [hy259]; exact H) | exact H
       have Ny259 := aM hy259
       clear hy259
       obtain ⟨y261, hy261⟩ : ∃ y_ : List (List Int), y_ = (x4_3.set (x5_2 : Int).toNat y259) := ⟨_, rfl⟩
       replace H : (impl_least.l2 k3 l0 x3_1 y261 x5_2 x45_3 ((rd_L1 y256 x5_2).length : Int) x45_3 x3_1 0) = some r := by first | (rw [hy261]; with_reducible exact H) | (have H2_ := (Option.bind_some _ _).symm.trans H; rw [hy261]; with_reducible exact H2_) | (have H2_ := (Option.bind_some _ _).symm.trans H; with_reducible exact H2_) | with_reducible exact H | (rw [hy261]; exact H) | exact H
       have Ny261 := aM hy261
       clear hy261
       have H' := aM H
       clear H
       have p258 : 0 ≤ (x5_2 : Int) := dt_
       have q258 : x5_2 < (x4_3.length : Int) := dt_
       obtain ⟨ad258, A258_0, c258_0, e258, hx258_0, hl258_0, hi258_0⟩ := at_L1 (Kd.S_reads' HO_4.out).2.2 x5_2 p258 q258
       obtain rfl : (⟨go14, 0, none⟩ : Addr) = ad258 := (by injection e258)
       obtain ⟨ce258, hce258, hMe258, hcc258⟩ := Kd.S_get HO_4.out [] x5_2 p258 (by first | exact q258 | exact dt_ | (have e_ := (Kd.S_reads' HO_4.out).1; omega))
       obtain ⟨ve258_0, rfl, ge258_0⟩ := hMe258
       have hv258_0 := hcc258 0 _ rfl
       rw [Nat.add_zero, show ((Kd.slice 3 (Kd.int .i64))).sz = 1 from rfl, Nat.mul_one] at hv258_0
       replace hv258_0 := Option.some.inj (hv258_0.symm.trans hx258_0)
       rw [hv258_0] at ge258_0
       have HL258_0 := aM (show Kd.R (Kd.int .i64) 3 _ _ _ _ (rd_L1 x4_3 x5_2) from ge258_0)
       clear hv258_0 ge258_0
       have HX258_0 := aM hx258_0
       clear hcc258 hce258
       (first | simp only [add_plain] at hx258_0 | simp only [add_at] at hx258_0 | simp only [Addr.add, Nat.zero_add] at hx258_0 | skip)
       have HR258_0 := aM hi258_0
       have HC258_0 := aM hl258_0
       clear hi258_0 hl258_0
       replace p258 := eq_true p258
       replace q258 := eq_true q258
       have p38 : 0 ≤ (x45_3 : Int) := dt_
       have q38 : (x45_3 : Int) < (((rd_L1 x4_3 x5_2).length : Int) : Int) := dt_
       obtain ⟨go38, co38, eo38, gb38, gl38, cl38, HG38⟩ := Kd.R_form HL258_0.out (by omega)
       (first | cases eo38 | (injection eo38 with ea_ en_ ec_; (first | subst ea_ | (injection ea_ with ea_; subst ea_)); subst ec_; clear en_))
       have GB38 := aM gb38
       have GG38 := aM HG38
       clear gb38 gl38 HG38
       obtain ⟨hx38_0, hf38_0⟩ := Kd.R_celln 0 HL258_0.out (x45_3 : Int) p38 q38
       replace p38 := eq_true p38
       replace q38 := eq_true q38
       have hq39 : (x5_2 : Int) < (x4_3.length : Int) := (by have h_ : (x5_2 : Int) < ((x4_3.length : Int) : Int) := dt_; first | exact h_ | (have e_ := (Kd.S_reads' HO_4.out).1; omega) | simpa only [List.length_set, List.length_set] using h_)
       obtain ⟨oki39, ce39, hcl39, hM39, hcc39, hok39, hbk39⟩ := Kd.S_borrow HO_4.out [] (x5_2 : Int) (dt_) hq39
       obtain ⟨ve39_0, rfl, ge39_0⟩ := hM39
       have hv39 := hcc39 0 _ rfl
       rw [Nat.add_zero, show ((Kd.slice 3 (Kd.int .i64))).sz = 1 from rfl, Nat.mul_one] at hv39
       replace hv39 := Option.some.inj (hv39.symm.trans HX258_0.out)
       subst hv39
       clear hcc39 hcl39
       replace ge39_0 := (show Kd.R (Kd.int .i64) 3 _ _ _ _ (rd_L1 x4_3 x5_2) from ge39_0)
       have HP39 := Kd.R_putg ge39_0 (x45_3 : Int) (-1)
       go_wp2_with (first | ((with_reducible refine gate_store (t := 3) (p := 53) rfl ?_); (try (rw [drewN_self wr]; generalize hq_ : World.drewN wr _ = wr; replace HO_4 := aM (Kd.S_at hq_ HO_4.out); replace HB := aM (below_at hq_ HB.out); (try replace HX258_0 := aM (cellq_ hq_ HX258_0.out)); (try replace hx38_0 := cellq_ hq_ hx38_0); (try replace hf38_0 := frozq_ hq_ hf38_0); clear hq_; (try (have hq39 : (x5_2 : Int) < (x4_3.length : Int) := (by have h_ : (x5_2 : Int) < ((x4_3.length : Int) : Int) := dt_; first | exact h_ | (have e_ := (Kd.S_reads' HO_4.out).1; omega) | simpa only [List.length_set, List.length_set] using h_))); (try (obtain ⟨oki39, ce39, hcl39, hM39, hcc39, hok39, hbk39⟩ := Kd.S_borrow HO_4.out [] (x5_2 : Int) (dt_) hq39)); (try (obtain ⟨ve39_0, rfl, ge39_0⟩ := hM39)); (try (have hv39 := hcc39 0 _ rfl)); (try (rw [Nat.add_zero, show ((Kd.slice 3 (Kd.int .i64))).sz = 1 from rfl, Nat.mul_one] at hv39)); (try (replace hv39 := Option.some.inj (hv39.symm.trans HX258_0.out))); (try (subst hv39)); (try (clear hcc39 hcl39)); (try (replace ge39_0 := (show Kd.R (Kd.int .i64) 3 _ _ _ _ (rd_L1 x4_3 x5_2) from ge39_0))); (try (have HP39 := Kd.R_putg ge39_0 (x45_3 : Int) (-1))))); refine store_event (t := 3) (p := 53) (v := ?vo_w40) (w1 := (wr.setCell ⟨go38, (x45_3 : Int).toNat, none⟩ (.int .i64 (-1)))) ?hg ?ho ?hn ?hr ?_; (case ho => rfl); (case hg => rfl); (case hn => rfl); (case hr => exact qz8); intro w40 hw; have hg : wr.grownBy w40 (some go38) := (by rw [hw]; exact HP39.2); have hz_ : Kd.R (Kd.int .i64) 3 w40 w.heap.size oki39 (.slice (some ⟨go38, 0, none⟩) (rd_L1 x4_3 x5_2).length c258_0) y259 := (by rw [hw, Ny259.out]; exact HP39.1); have hp_ : Kd.S (Kd.slice 3 (Kd.int .i64)) 24 w40 w.heap.size (fun _ => True) (.slice (some ⟨go14, 0, none⟩) x4_3.length co14) y261 := qz33; have hm_ := Kd.R_mono hz_ hok39; clear HP39 hbk39; replace HO_4 := aM (hp_); replace HB := aM ((by rw [hw]; exact below_set (HB.out) GB38.out : Below w.heap.size w w40)); have HL280 := aM (hm_); have HC260 := aM ((Kd.R_reads' hm_).2.1); clear HL258_0; clear hg hw hp_ hz_ hm_ hok39))
       repeat (go_quiet (first | ((with_reducible refine gate_store (t := 3) (p := 53) rfl ?_); (try (rw [drewN_self wr]; generalize hq_ : World.drewN wr _ = wr; replace HO_4 := aM (Kd.S_at hq_ HO_4.out); replace HB := aM (below_at hq_ HB.out); (try replace HX258_0 := aM (cellq_ hq_ HX258_0.out)); (try replace hx38_0 := cellq_ hq_ hx38_0); (try replace hf38_0 := frozq_ hq_ hf38_0); clear hq_; (try (have hq39 : (x5_2 : Int) < (x4_3.length : Int) := (by have h_ : (x5_2 : Int) < ((x4_3.length : Int) : Int) := dt_; first | exact h_ | (have e_ := (Kd.S_reads' HO_4.out).1; omega) | simpa only [List.length_set, List.length_set] using h_))); (try (obtain ⟨oki39, ce39, hcl39, hM39, hcc39, hok39, hbk39⟩ := Kd.S_borrow HO_4.out [] (x5_2 : Int) (dt_) hq39)); (try (obtain ⟨ve39_0, rfl, ge39_0⟩ := hM39)); (try (have hv39 := hcc39 0 _ rfl)); (try (rw [Nat.add_zero, show ((Kd.slice 3 (Kd.int .i64))).sz = 1 from rfl, Nat.mul_one] at hv39)); (try (replace hv39 := Option.some.inj (hv39.symm.trans HX258_0.out))); (try (subst hv39)); (try (clear hcc39 hcl39)); (try (replace ge39_0 := (show Kd.R (Kd.int .i64) 3 _ _ _ _ (rd_L1 x4_3 x5_2) from ge39_0))); (try (have HP39 := Kd.R_putg ge39_0 (x45_3 : Int) (-1))))); refine store_event (t := 3) (p := 53) (v := ?vo_w40) (w1 := (wr.setCell ⟨go38, (x45_3 : Int).toNat, none⟩ (.int .i64 (-1)))) ?hg ?ho ?hn ?hr ?_; (case ho => rfl); (case hg => rfl); (case hn => rfl); (case hr => exact qz8); intro w40 hw; have hg : wr.grownBy w40 (some go38) := (by rw [hw]; exact HP39.2); have hz_ : Kd.R (Kd.int .i64) 3 w40 w.heap.size oki39 (.slice (some ⟨go38, 0, none⟩) (rd_L1 x4_3 x5_2).length c258_0) y259 := (by rw [hw, Ny259.out]; exact HP39.1); have hp_ : Kd.S (Kd.slice 3 (Kd.int .i64)) 24 w40 w.heap.size (fun _ => True) (.slice (some ⟨go14, 0, none⟩) x4_3.length co14) y261 := qz33; have hm_ := Kd.R_mono hz_ hok39; clear HP39 hbk39; replace HO_4 := aM (hp_); replace HB := aM ((by rw [hw]; exact below_set (HB.out) GB38.out : Below w.heap.size w w40)); have HL280 := aM (hm_); have HC260 := aM ((Kd.R_reads' hm_).2.1); clear HL258_0; clear hg hw hp_ hz_ hm_ hok39)); try go_wp2_with (first | ((with_reducible refine gate_store (t := 3) (p := 53) rfl ?_); (try (rw [drewN_self wr]; generalize hq_ : World.drewN wr _ = wr; replace HO_4 := aM (Kd.S_at hq_ HO_4.out); replace HB := aM (below_at hq_ HB.out); (try replace HX258_0 := aM (cellq_ hq_ HX258_0.out)); (try replace hx38_0 := cellq_ hq_ hx38_0); (try replace hf38_0 := frozq_ hq_ hf38_0); clear hq_; (try (have hq39 : (x5_2 : Int) < (x4_3.length : Int) := (by have h_ : (x5_2 : Int) < ((x4_3.length : Int) : Int) := dt_; first | exact h_ | (have e_ := (Kd.S_reads' HO_4.out).1; omega) | simpa only [List.length_set, List.length_set] using h_))); (try (obtain ⟨oki39, ce39, hcl39, hM39, hcc39, hok39, hbk39⟩ := Kd.S_borrow HO_4.out [] (x5_2 : Int) (dt_) hq39)); (try (obtain ⟨ve39_0, rfl, ge39_0⟩ := hM39)); (try (have hv39 := hcc39 0 _ rfl)); (try (rw [Nat.add_zero, show ((Kd.slice 3 (Kd.int .i64))).sz = 1 from rfl, Nat.mul_one] at hv39)); (try (replace hv39 := Option.some.inj (hv39.symm.trans HX258_0.out))); (try (subst hv39)); (try (clear hcc39 hcl39)); (try (replace ge39_0 := (show Kd.R (Kd.int .i64) 3 _ _ _ _ (rd_L1 x4_3 x5_2) from ge39_0))); (try (have HP39 := Kd.R_putg ge39_0 (x45_3 : Int) (-1))))); refine store_event (t := 3) (p := 53) (v := ?vo_w40) (w1 := (wr.setCell ⟨go38, (x45_3 : Int).toNat, none⟩ (.int .i64 (-1)))) ?hg ?ho ?hn ?hr ?_; (case ho => rfl); (case hg => rfl); (case hn => rfl); (case hr => exact qz8); intro w40 hw; have hg : wr.grownBy w40 (some go38) := (by rw [hw]; exact HP39.2); have hz_ : Kd.R (Kd.int .i64) 3 w40 w.heap.size oki39 (.slice (some ⟨go38, 0, none⟩) (rd_L1 x4_3 x5_2).length c258_0) y259 := (by rw [hw, Ny259.out]; exact HP39.1); have hp_ : Kd.S (Kd.slice 3 (Kd.int .i64)) 24 w40 w.heap.size (fun _ => True) (.slice (some ⟨go14, 0, none⟩) x4_3.length co14) y261 := qz33; have hm_ := Kd.R_mono hz_ hok39; clear HP39 hbk39; replace HO_4 := aM (hp_); replace HB := aM ((by rw [hw]; exact below_set (HB.out) GB38.out : Below w.heap.size w w40)); have HL280 := aM (hm_); have HC260 := aM ((Kd.R_reads' hm_).2.1); clear HL258_0; clear hg hw hp_ hz_ hm_ hok39)))
       go_loopg [55] k3 (fun kq v55 w' => ∃ (x4_4 : List (List Int)) (x55_4 : Int), v55 = .int .i64 x55_4 ∧ Aside0 (impl_least.l2 kq l0 x3_1 x4_4 x5_2 x45_3 ((rd_L1 y256 x5_2).length : Int) x45_3 x3_1 x55_4 = some r) ∧ Aside0 (kq ≤ k3) ∧ Aside0 (Kd.S (Kd.slice 3 (Kd.int .i64)) 24 w' w.heap.size (fun _ => True) (.slice (some ⟨go14, 0, none⟩) x4_3.length co14) x4_4) ∧ Aside0 (Below w.heap.size w w'))
       case atStart => exact ⟨(y261), (0), qz3, H', ⟨Nat.le_refl _⟩, ⟨by (try simp only [hl4_2]); (try simp only [hl4_3]); exact rs_ HO_4.out⟩, ⟨qz1⟩⟩
       case round =>
        clear H'
        try clear c1
        try clear p1
        try clear q1
        try clear hx1
        try clear hf1
        try clear c2
        try clear p2
        try clear q2
        try clear hx2
        try clear qi2
        try clear hf2
        try clear c3
        try clear c3b0
        try clear c3b1
        try clear p3
        try clear q3
        try clear hx3
        try clear hf3
        try clear c4
        try clear c4b0
        try clear c4b1
        try clear c6
        try clear c6b0
        try clear c6b1
        try clear p6
        try clear c7
        try clear c7b0
        try clear c7b1
        try clear c8
        try clear c8b0
        try clear c8b1
        try clear c10
        try clear c10b0
        try clear c10b1
        try clear c11
        try clear c11b0
        try clear c11b1
        try clear c12
        try clear c12b0
        try clear c12b1
        try clear c13
        try clear c13b0
        try clear c13b1
        try clear c14
        try clear p14
        try clear q14
        try clear hx14
        try clear hf14
        try clear c19
        try clear hx19
        try clear hf19
        try clear c21
        try clear c21b0
        try clear c22
        try clear c22b0
        try clear c22b1
        try clear c24
        try clear c24b0
        try clear c24b1
        try clear p24
        try clear q24
        try clear hx24
        try clear qi24
        try clear c25
        try clear c25b0
        try clear c25b1
        try clear p25
        try clear q25
        try clear hx25
        try clear c26
        try clear c26b0
        try clear c27
        try clear c27b0
        try clear c28
        try clear p28
        try clear q28
        try clear hx28
        try clear hf28
        try clear c31
        try clear hx31
        try clear hf31
        try clear c33
        try clear c33b0
        try clear c34
        try clear c34b0
        try clear c35
        try clear c35b0
        try clear c36
        try clear c36b0
        try clear c37
        try clear c37b0
        try clear c38
        try clear p38
        try clear q38
        try clear hx38
        try clear hf38
        try clear c39
        try clear q39
        try clear hx14_0
        try clear hx19_0
        try clear hx245_0
        try clear hx257_0
        try clear hx258_0
        try clear hx28_0
        try clear hx31_0
        try clear hx38_0
        try clear p245
        try clear p257
        try clear p258
        try clear q245
        try clear q257
        try clear q258
        obtain ⟨x4_4, x55_4, rfl, HA, HK4, HO_4, HB⟩ := hrel
        have hl4_4 := (Kd.S_reads' HO_4.out).1
        rw [hl4_4] at HO_4
        (try simp only [hl4_4])
        cases gk with
        | zero => exact absurd HA.out (by simp [impl_least.l2])
        | succ k4 =>
         have H := HA.out
         clear HA
         simp only [impl_least.l2] at H
         by_cases c41 : x55_4 < x3_1
         {
         rw [if_pos c41] at H
         have c41b0 := decide_eq_true c41
         clear c41
         have HC42 := aM H
         clear H
         go_upto_region 17 with (fail)
         repeat (go_quiet (fail); go_upto_region 17 with (fail))
         go_cut [76] (fun v76 wc => ∃ (kq : Nat) (x76_41 : Bool), v76 = .bool x76_41 ∧ Aside0 (impl_least.j4 kq l0 x3_1 x4_4 x5_2 x45_3 x55_4 ((rd_L1 y256 x5_2).length : Int) x45_3 x3_1 x55_4 x76_41 = some r) ∧ Aside0 (kq ≤ k4) ∧ Aside0 (Kd.S (Kd.slice 3 (Kd.int .i64)) 24 wc w.heap.size (fun _ => True) (.slice (some ⟨go14, 0, none⟩) x4_4.length co14) x4_4) ∧ Aside0 (Below w.heap.size w wc))
         case first =>
          have H := HC42.out
          clear HC42
          by_cases c43 : 0 ≤ x55_4
          {
          rw [if_pos c43] at H
          have c43b0 := eq_true c43
          have c43b1 := decide_eq_true c43
          clear c43
          obtain ⟨ji44, hji44⟩ : ∃ j_ : Int, (shr .i64 x45_3 x55_4) = j_ := ⟨_, rfl⟩
          replace H : (if (Go.bits .and .i64 (ji44) 1) = 1 then (impl_least.j4 k4 l0 x3_1 x4_4 x5_2 x45_3 x55_4 ((rd_L1 y256 x5_2).length : Int) x45_3 x3_1 x55_4 true) else (if 0 ≤ (wrap64 (x5_2 + 1)) then (if (wrap64 (x5_2 + 1)) < (x4_4.length : Int) then (if 0 ≤ (Go.bits .or .i64 x45_3 (shl .i64 1 x55_4)) then (if (Go.bits .or .i64 x45_3 (shl .i64 1 x55_4)) < ((rd_L1 x4_4 (wrap64 (x5_2 + 1))).length : Int) then (impl_least.j4 k4 l0 x3_1 x4_4 x5_2 x45_3 x55_4 ((rd_L1 y256 x5_2).length : Int) x45_3 x3_1 x55_4 (decide ((rd (rd_L1 x4_4 (wrap64 (x5_2 + 1))) (Go.bits .or .i64 x45_3 (shl .i64 1 x55_4))) < 0))) else (none)) else (none)) else (none)) else (none))) = some r := by first | (rw [hji44] at H; exact H) | (simp only [hji44] at H ⊢; exact H)
          have hji44_ : (x45_3 / 2 ^ min x55_4.toNat 64) = ji44 := hji44
          have hji44z : x55_4 ≤ 64 → (x45_3 / 2 ^ x55_4.toNat) = ji44 := shr_small hji44
          by_cases c45 : (Go.bits .and .i64 (ji44) 1) = 1
          {
          rw [if_pos c45] at H
          have c45b0 := beq_iff_eq.mpr c45
          have c45b1 := bne_eq_false_iff_eq.mpr c45
          clear c45
          (first | rw [c45b0] | (simp only [i64_w, i32_w]; rw [c45b0]) | rw [@decide_eq_true _ _ (of_decide_eq_true c45b0)] | rw [@decide_eq_true _ _ (of_decide_eq_true c45b1)] | skip)
          have H' := aM H
          clear H
          go_wp2
          repeat (go_quiet (fail); try go_wp2)
          go_meet
          case rel => exact ⟨_, (true), qz3, H', ⟨by have := HJ1.out; have := HK2.out; have := HK3.out; have := HK4.out; first | omega | exact Nat.le_refl _⟩, ⟨by (try simp only [hl4_2]); (try simp only [hl4_3]); (try simp only [hl4_4]); exact rm_ HO_4.out⟩, ⟨qz1⟩⟩
          }
          {
          rw [if_neg c45] at H
          have c45b0 := beq_eq_false_iff_ne.mpr c45
          have c45b1 := bne_iff_ne.mpr c45
          (first | rw [c45b0] | (simp only [i64_w, i32_w]; rw [c45b0]) | rw [@decide_eq_false _ _ (of_decide_eq_false c45b0)] | rw [@decide_eq_false _ _ (of_decide_eq_false c45b1)] | skip)
          obtain ⟨ji46, hji46⟩ : ∃ j_ : Int, (wrap64 (x5_2 + 1)) = j_ := ⟨_, rfl⟩
          replace H : (if 0 ≤ (ji46) then (if (ji46) < (x4_4.length : Int) then (if 0 ≤ (Go.bits .or .i64 x45_3 (shl .i64 1 x55_4)) then (if (Go.bits .or .i64 x45_3 (shl .i64 1 x55_4)) < ((rd_L1 x4_4 (ji46)).length : Int) then (impl_least.j4 k4 l0 x3_1 x4_4 x5_2 x45_3 x55_4 ((rd_L1 y256 x5_2).length : Int) x45_3 x3_1 x55_4 (decide ((rd (rd_L1 x4_4 (ji46)) (Go.bits .or .i64 x45_3 (shl .i64 1 x55_4))) < 0))) else (none)) else (none)) else (none)) else (none)) = some r := by first | (rw [hji46] at H; exact H) | (simp only [hji46] at H ⊢; exact H)
          have hji46w : (IntKind.i64.wrap (x5_2 + 1)) = ji46 := (i64_w _).trans hji46
          by_cases c47 : 0 ≤ (ji46)
          {
          rw [if_pos c47] at H
          have c47b0 := decide_eq_true c47
          clear c47
          by_cases c48 : (ji46) < (x4_4.length : Int)
          {
          rw [if_pos c48] at H
          have c48b0 := decide_eq_true c48
          (try (have c48b0q4_2 := c48b0; simp only [hl4_2] at c48b0q4_2))
          (try (have c48b0q4_3 := c48b0; simp only [hl4_3] at c48b0q4_3))
          (try (have c48b0q4_4 := c48b0; simp only [hl4_4] at c48b0q4_4))
          clear c48
          have c49b0 := eq_true (dt_ : 0 ≤ x55_4)
          obtain ⟨ji50, hji50⟩ : ∃ j_ : Int, (shl .i64 1 x55_4) = j_ := ⟨_, rfl⟩
          replace H : (if 0 ≤ (Go.bits .or .i64 x45_3 (ji50)) then (if (Go.bits .or .i64 x45_3 (ji50)) < ((rd_L1 x4_4 (ji46)).length : Int) then (impl_least.j4 k4 l0 x3_1 x4_4 x5_2 x45_3 x55_4 ((rd_L1 y256 x5_2).length : Int) x45_3 x3_1 x55_4 (decide ((rd (rd_L1 x4_4 (ji46)) (Go.bits .or .i64 x45_3 (ji50))) < 0))) else (none)) else (none)) = some r := by first | (rw [hji50] at H; exact H) | (simp only [hji50] at H ⊢; exact H)
          have hji50_ : (IntKind.i64.wrap (1 * 2 ^ min x55_4.toNat 64)) = ji50 := hji50
          have hji50z : x55_4 ≤ 64 → (IntKind.i64.wrap (1 * 2 ^ x55_4.toNat)) = ji50 := shl_small hji50
          have hji50u : (IntKind.i64.wrap (2 ^ min x55_4.toNat 64)) = ji50 := by have h_ := hji50_; rw [Int.one_mul] at h_; exact h_
          have hji50v : x55_4 ≤ 64 → (IntKind.i64.wrap (2 ^ x55_4.toNat)) = ji50 := fun hle_ => by have h_ := hji50z hle_; rw [Int.one_mul] at h_; exact h_
          have hji50y : (wrap64 (1 * 2 ^ min x55_4.toNat 64)) = ji50 := (i64_w _).symm.trans hji50_
          have hji50x : x55_4 ≤ 64 → (wrap64 (1 * 2 ^ x55_4.toNat)) = ji50 := fun h_ => (i64_w _).symm.trans (hji50z h_)
          by_cases c51 : 0 ≤ (Go.bits .or .i64 x45_3 (ji50))
          {
          rw [if_pos c51] at H
          have c51b0 := decide_eq_true c51
          clear c51
          by_cases c52 : (Go.bits .or .i64 x45_3 (ji50)) < ((rd_L1 x4_4 (ji46)).length : Int)
          {
          rw [if_pos c52] at H
          have c52b0 := decide_eq_true c52
          (try (have c52b0q4_2 := c52b0; simp only [hl4_2] at c52b0q4_2))
          (try (have c52b0q4_3 := c52b0; simp only [hl4_3] at c52b0q4_3))
          (try (have c52b0q4_4 := c52b0; simp only [hl4_4] at c52b0q4_4))
          clear c52
          have H' := aM H
          clear H
          have p262 : 0 ≤ ((ji46) : Int) := dt_
          have q262 : (ji46) < (x4_4.length : Int) := dt_
          obtain ⟨ad262, A262_0, c262_0, e262, hx262_0, hl262_0, hi262_0⟩ := at_L1 (Kd.S_reads' HO_4.out).2.2 (ji46) p262 q262
          obtain rfl : (⟨go14, 0, none⟩ : Addr) = ad262 := (by injection e262)
          obtain ⟨ce262, hce262, hMe262, hcc262⟩ := Kd.S_get HO_4.out [] (ji46) p262 (by first | exact q262 | exact dt_ | (have e_ := (Kd.S_reads' HO_4.out).1; omega))
          obtain ⟨ve262_0, rfl, ge262_0⟩ := hMe262
          have hv262_0 := hcc262 0 _ rfl
          rw [Nat.add_zero, show ((Kd.slice 3 (Kd.int .i64))).sz = 1 from rfl, Nat.mul_one] at hv262_0
          replace hv262_0 := Option.some.inj (hv262_0.symm.trans hx262_0)
          rw [hv262_0] at ge262_0
          have HL262_0 := aM (show Kd.R (Kd.int .i64) 3 _ _ _ _ (rd_L1 x4_4 (ji46)) from ge262_0)
          clear hv262_0 ge262_0
          have HX262_0 := aM hx262_0
          clear hcc262 hce262
          (first | simp only [add_plain] at hx262_0 | simp only [add_at] at hx262_0 | simp only [Addr.add, Nat.zero_add] at hx262_0 | skip)
          have HR262_0 := aM hi262_0
          have HC262_0 := aM hl262_0
          clear hi262_0 hl262_0
          replace p262 := eq_true p262
          replace q262 := eq_true q262
          have p263 : 0 ≤ ((Go.bits .or .i64 x45_3 (ji50)) : Int) := dt_
          have q263 : (Go.bits .or .i64 x45_3 (ji50)) < ((rd_L1 x4_4 (ji46)).length : Int) := dt_
          obtain ⟨ad263, e263, hx263_0⟩ := Kd.at_int (by repeat (first | (with_reducible exact HR262_0.out) | (with_reducible refine Kd.C_alloc ?_ _) | (with_reducible refine Kd.C_drewN ?_ _) | (with_reducible refine Kd.C_drew ?_) | exact HR262_0.out)) (Go.bits .or .i64 x45_3 (ji50)) p263 q263
          cases e263
          replace p263 := eq_true p263
          replace q263 := eq_true q263
          go_wp2
          repeat (go_quiet (fail); try go_wp2)
          go_meet
          case rel => exact ⟨_, (decide ((rd (rd_L1 x4_4 (ji46)) (Go.bits .or .i64 x45_3 (ji50))) < 0)), (by first | rfl | (simp; done) | (simp only [← hji46, ← hji50] <;> (first | rfl | simp)) | (simp [*]; done)), H', ⟨by have := HJ1.out; have := HK2.out; have := HK3.out; have := HK4.out; first | omega | exact Nat.le_refl _⟩, ⟨by (try simp only [hl4_2]); (try simp only [hl4_3]); (try simp only [hl4_4]); exact rm_ HO_4.out⟩, ⟨qz1⟩⟩
          }
          {
          exact an_ c52 H
          }
          }
          {
          exact an_ c51 H
          }
          }
          {
          exact an_ c48 H
          }
          }
          {
          exact an_ c47 H
          }
          }
          }
          {
          exact an_ c43 H
          }
         case rest =>
          clear HC42
          try clear c1
          try clear p1
          try clear q1
          try clear hx1
          try clear hf1
          try clear c2
          try clear p2
          try clear q2
          try clear hx2
          try clear qi2
          try clear hf2
          try clear c3
          try clear c3b0
          try clear c3b1
          try clear p3
          try clear q3
          try clear hx3
          try clear hf3
          try clear c4
          try clear c4b0
          try clear c4b1
          try clear c5
          try clear c6
          try clear c6b0
          try clear c6b1
          try clear p6
          try clear c7
          try clear c7b0
          try clear c7b1
          try clear c8
          try clear c8b0
          try clear c8b1
          try clear c10
          try clear c10b0
          try clear c10b1
          try clear c11
          try clear c11b0
          try clear c11b1
          try clear c12
          try clear c12b0
          try clear c12b1
          try clear c13
          try clear c13b0
          try clear c13b1
          try clear c14
          try clear p14
          try clear q14
          try clear hx14
          try clear hf14
          try clear c19
          try clear hx19
          try clear hf19
          try clear c21
          try clear c21b0
          try clear c22
          try clear c22b0
          try clear c22b1
          try clear c24
          try clear c24b0
          try clear c24b1
          try clear p24
          try clear q24
          try clear hx24
          try clear qi24
          try clear c25
          try clear c25b0
          try clear c25b1
          try clear p25
          try clear q25
          try clear hx25
          try clear c26
          try clear c26b0
          try clear p26
          try clear q26
          try clear hx26
          try clear c27
          try clear c27b0
          try clear c28
          try clear p28
          try clear q28
          try clear hx28
          try clear hf28
          try clear c31
          try clear hx31
          try clear hf31
          try clear c33
          try clear c33b0
          try clear c34
          try clear c34b0
          try clear c35
          try clear c35b0
          try clear c36
          try clear c36b0
          try clear c37
          try clear c37b0
          try clear c38
          try clear p38
          try clear q38
          try clear hx38
          try clear hf38
          try clear c39
          try clear q39
          try clear c41
          try clear c41b0
          try clear c43
          try clear c43b0
          try clear c43b1
          try clear c45
          try clear c45b0
          try clear c45b1
          try clear c47
          try clear c47b0
          try clear c48
          try clear c48b0
          try clear c49
          try clear c49b0
          try clear c51
          try clear c51b0
          try clear c52
          try clear c52b0
          try clear hx14_0
          try clear hx19_0
          try clear hx245_0
          try clear hx257_0
          try clear hx258_0
          try clear hx262_0
          try clear hx263_0
          try clear hx28_0
          try clear hx31_0
          try clear hx38_0
          try clear p245
          try clear p257
          try clear p258
          try clear p262
          try clear p263
          try clear q245
          try clear q257
          try clear q258
          try clear q262
          try clear q263
          obtain ⟨kq, x76_41, rfl, HA, HJ41, HO_4, HB⟩ := hcut
          cases kq with
          | zero => exact absurd HA.out (by simp [impl_least.j4])
          | succ kj41 =>
           have H := HA.out
           clear HA
           simp only [impl_least.j4] at H
           by_cases c53 : x76_41 = true
           {
           subst c53
           rw [if_pos rfl] at H
           have H' := aM H
           clear H
           go_wp2
           repeat (go_quiet (fail); try go_wp2)
           (try simp only [← hl4_4])
           go_roundg kj41
           case measure => have := HJ1.out; have := HK2.out; have := HK3.out; have := HK4.out; have := HJ41.out; omega
           case rel => exact ⟨(x4_4), (wrap64 (x55_4 + 1)), qz3, H', ⟨by have := HJ1.out; have := HK2.out; have := HK3.out; have := HK4.out; have := HJ41.out; omega⟩, ⟨by (try simp only [hl4_2]); (try simp only [hl4_3]); (try simp only [hl4_4]); exact rm_ HO_4.out⟩, ⟨qz1⟩⟩
           }
           {
           replace c53 := Bool.eq_false_iff.mpr c53
           subst c53
           rw [if_neg (show ¬ (false = true) by decide)] at H
           by_cases c54 : 0 ≤ x5_2
           {
           rw [if_pos c54] at H
           have c54b0 := decide_eq_true c54
           clear c54
           by_cases c55 : x5_2 < (l0.length : Int)
           {
           rw [if_pos c55] at H
           have c55b0 := decide_eq_true c55
           (try (have c55b0q4_2 := c55b0; simp only [hl4_2] at c55b0q4_2))
           (try (have c55b0q4_3 := c55b0; simp only [hl4_3] at c55b0q4_3))
           (try (have c55b0q4_4 := c55b0; simp only [hl4_4] at c55b0q4_4))
           clear c55
           by_cases c56 : 0 ≤ x55_4
           {
           rw [if_pos c56] at H
           have c56b0 := decide_eq_true c56
           clear c56
           by_cases c57 : x55_4 < ((rd_L1 l0 x5_2).length : Int)
           {
           rw [if_pos c57] at H
           have c57b0 := decide_eq_true c57
           (try (have c57b0q4_2 := c57b0; simp only [hl4_2] at c57b0q4_2))
           (try (have c57b0q4_3 := c57b0; simp only [hl4_3] at c57b0q4_3))
           (try (have c57b0q4_4 := c57b0; simp only [hl4_4] at c57b0q4_4))
           clear c57
           obtain ⟨ji58, hji58⟩ : ∃ j_ : Int, (wrap64 (x5_2 + 1)) = j_ := ⟨_, rfl⟩
           replace H : (if 0 ≤ (ji58) then (if (ji58) < (x4_4.length : Int) then (if 0 ≤ (Go.bits .or .i64 x45_3 (shl .i64 1 x55_4)) then (if (Go.bits .or .i64 x45_3 (shl .i64 1 x55_4)) < ((rd_L1 x4_4 (ji58)).length : Int) then (if x5_2 < (x4_4.length : Int) then (if 0 ≤ x45_3 then (if x45_3 < ((rd_L1 x4_4 x5_2).length : Int) then (if (rd (rd_L1 x4_4 x5_2) x45_3) < 0 then (impl_least.l2 kj41 l0 x3_1 (x4_4.set (x5_2 : Int).toNat ((rd_L1 x4_4 x5_2).set (x45_3 : Int).toNat (wrap64 ((rd (rd_L1 l0 x5_2) x55_4) + (rd (rd_L1 x4_4 (ji58)) (Go.bits .or .i64 x45_3 (shl .i64 1 x55_4))))))) x5_2 x45_3 ((rd_L1 y256 x5_2).length : Int) x45_3 x3_1 (wrap64 (x55_4 + 1))) else (if (wrap64 ((rd (rd_L1 l0 x5_2) x55_4) + (rd (rd_L1 x4_4 (ji58)) (Go.bits .or .i64 x45_3 (shl .i64 1 x55_4))))) < (rd (rd_L1 x4_4 x5_2) x45_3) then (impl_least.l2 kj41 l0 x3_1 (x4_4.set (x5_2 : Int).toNat ((rd_L1 x4_4 x5_2).set (x45_3 : Int).toNat (wrap64 ((rd (rd_L1 l0 x5_2) x55_4) + (rd (rd_L1 x4_4 (ji58)) (Go.bits .or .i64 x45_3 (shl .i64 1 x55_4))))))) x5_2 x45_3 ((rd_L1 y256 x5_2).length : Int) x45_3 x3_1 (wrap64 (x55_4 + 1))) else (impl_least.l2 kj41 l0 x3_1 x4_4 x5_2 x45_3 ((rd_L1 y256 x5_2).length : Int) x45_3 x3_1 (wrap64 (x55_4 + 1))))) else (none)) else (none)) else (none)) else (none)) else (none)) else (none)) else (none)) = some r := by first | (rw [hji58] at H; exact H) | (simp only [hji58] at H ⊢; exact H)
           have hji58w : (IntKind.i64.wrap (x5_2 + 1)) = ji58 := (i64_w _).trans hji58
           by_cases c59 : 0 ≤ (ji58)
           {
           rw [if_pos c59] at H
           have c59b0 := decide_eq_true c59
           clear c59
           by_cases c60 : (ji58) < (x4_4.length : Int)
           {
           rw [if_pos c60] at H
           have c60b0 := decide_eq_true c60
           (try (have c60b0q4_2 := c60b0; simp only [hl4_2] at c60b0q4_2))
           (try (have c60b0q4_3 := c60b0; simp only [hl4_3] at c60b0q4_3))
           (try (have c60b0q4_4 := c60b0; simp only [hl4_4] at c60b0q4_4))
           clear c60
           have c61b0 := eq_true (dt_ : 0 ≤ x55_4)
           obtain ⟨ji62, hji62⟩ : ∃ j_ : Int, (shl .i64 1 x55_4) = j_ := ⟨_, rfl⟩
           replace H : (if 0 ≤ (Go.bits .or .i64 x45_3 (ji62)) then (if (Go.bits .or .i64 x45_3 (ji62)) < ((rd_L1 x4_4 (ji58)).length : Int) then (if x5_2 < (x4_4.length : Int) then (if 0 ≤ x45_3 then (if x45_3 < ((rd_L1 x4_4 x5_2).length : Int) then (if (rd (rd_L1 x4_4 x5_2) x45_3) < 0 then (impl_least.l2 kj41 l0 x3_1 (x4_4.set (x5_2 : Int).toNat ((rd_L1 x4_4 x5_2).set (x45_3 : Int).toNat (wrap64 ((rd (rd_L1 l0 x5_2) x55_4) + (rd (rd_L1 x4_4 (ji58)) (Go.bits .or .i64 x45_3 (ji62))))))) x5_2 x45_3 ((rd_L1 y256 x5_2).length : Int) x45_3 x3_1 (wrap64 (x55_4 + 1))) else (if (wrap64 ((rd (rd_L1 l0 x5_2) x55_4) + (rd (rd_L1 x4_4 (ji58)) (Go.bits .or .i64 x45_3 (ji62))))) < (rd (rd_L1 x4_4 x5_2) x45_3) then (impl_least.l2 kj41 l0 x3_1 (x4_4.set (x5_2 : Int).toNat ((rd_L1 x4_4 x5_2).set (x45_3 : Int).toNat (wrap64 ((rd (rd_L1 l0 x5_2) x55_4) + (rd (rd_L1 x4_4 (ji58)) (Go.bits .or .i64 x45_3 (ji62))))))) x5_2 x45_3 ((rd_L1 y256 x5_2).length : Int) x45_3 x3_1 (wrap64 (x55_4 + 1))) else (impl_least.l2 kj41 l0 x3_1 x4_4 x5_2 x45_3 ((rd_L1 y256 x5_2).length : Int) x45_3 x3_1 (wrap64 (x55_4 + 1))))) else (none)) else (none)) else (none)) else (none)) else (none)) = some r := by first | (rw [hji62] at H; exact H) | (simp only [hji62] at H ⊢; exact H)
           have hji62_ : (IntKind.i64.wrap (1 * 2 ^ min x55_4.toNat 64)) = ji62 := hji62
           have hji62z : x55_4 ≤ 64 → (IntKind.i64.wrap (1 * 2 ^ x55_4.toNat)) = ji62 := shl_small hji62
           have hji62u : (IntKind.i64.wrap (2 ^ min x55_4.toNat 64)) = ji62 := by have h_ := hji62_; rw [Int.one_mul] at h_; exact h_
           have hji62v : x55_4 ≤ 64 → (IntKind.i64.wrap (2 ^ x55_4.toNat)) = ji62 := fun hle_ => by have h_ := hji62z hle_; rw [Int.one_mul] at h_; exact h_
           have hji62y : (wrap64 (1 * 2 ^ min x55_4.toNat 64)) = ji62 := (i64_w _).symm.trans hji62_
           have hji62x : x55_4 ≤ 64 → (wrap64 (1 * 2 ^ x55_4.toNat)) = ji62 := fun h_ => (i64_w _).symm.trans (hji62z h_)
           by_cases c63 : 0 ≤ (Go.bits .or .i64 x45_3 (ji62))
           {
           rw [if_pos c63] at H
           have c63b0 := decide_eq_true c63
           clear c63
           by_cases c64 : (Go.bits .or .i64 x45_3 (ji62)) < ((rd_L1 x4_4 (ji58)).length : Int)
           {
           rw [if_pos c64] at H
           have c64b0 := decide_eq_true c64
           (try (have c64b0q4_2 := c64b0; simp only [hl4_2] at c64b0q4_2))
           (try (have c64b0q4_3 := c64b0; simp only [hl4_3] at c64b0q4_3))
           (try (have c64b0q4_4 := c64b0; simp only [hl4_4] at c64b0q4_4))
           clear c64
           by_cases c65 : x5_2 < (x4_4.length : Int)
           {
           rw [if_pos c65] at H
           have c65b0 := decide_eq_true c65
           (try (have c65b0q4_2 := c65b0; simp only [hl4_2] at c65b0q4_2))
           (try (have c65b0q4_3 := c65b0; simp only [hl4_3] at c65b0q4_3))
           (try (have c65b0q4_4 := c65b0; simp only [hl4_4] at c65b0q4_4))
           clear c65
           by_cases c66 : 0 ≤ x45_3
           {
           rw [if_pos c66] at H
           have c66b0 := decide_eq_true c66
           clear c66
           by_cases c67 : x45_3 < ((rd_L1 x4_4 x5_2).length : Int)
           {
           rw [if_pos c67] at H
           have c67b0 := decide_eq_true c67
           (try (have c67b0q4_2 := c67b0; simp only [hl4_2] at c67b0q4_2))
           (try (have c67b0q4_3 := c67b0; simp only [hl4_3] at c67b0q4_3))
           (try (have c67b0q4_4 := c67b0; simp only [hl4_4] at c67b0q4_4))
           clear c67
           by_cases c68 : (rd (rd_L1 x4_4 x5_2) x45_3) < 0
           {
           rw [if_pos c68] at H
           have c68b0 := decide_eq_true c68
           clear c68
           obtain ⟨y271, hy271⟩ : ∃ y_ : List Int, y_ = ((rd_L1 x4_4 x5_2).set (x45_3 : Int).toNat (wrap64 ((rd (rd_L1 l0 x5_2) x55_4) + (rd (rd_L1 x4_4 (ji58)) (Go.bits .or .i64 x45_3 (ji62)))))) := ⟨_, rfl⟩
           replace H : (impl_least.l2 kj41 l0 x3_1 (x4_4.set (x5_2 : Int).toNat y271) x5_2 x45_3 ((rd_L1 y256 x5_2).length : Int) x45_3 x3_1 (wrap64 (x55_4 + 1))) = some r := by first | (rw [hy271]; with_reducible exact H) | (have H2_ := (Option.bind_some _ _).symm.trans H; rw [hy271]; with_reducible exact H2_) | (have H2_ := (Option.bind_some _ _).symm.trans H; with_reducible exact H2_) | with_reducible exact H | (rw [hy271]; exact H) | exact H
           have Ny271 := aM hy271
           clear hy271
           obtain ⟨y273, hy273⟩ : ∃ y_ : List (List Int), y_ = (x4_4.set (x5_2 : Int).toNat y271) := ⟨_, rfl⟩
           replace H : (impl_least.l2 kj41 l0 x3_1 y273 x5_2 x45_3 ((rd_L1 y256 x5_2).length : Int) x45_3 x3_1 (wrap64 (x55_4 + 1))) = some r := by first | (rw [hy273]; with_reducible exact H) | (have H2_ := (Option.bind_some _ _).symm.trans H; rw [hy273]; with_reducible exact H2_) | (have H2_ := (Option.bind_some _ _).symm.trans H; with_reducible exact H2_) | with_reducible exact H | (rw [hy273]; exact H) | exact H
           have Ny273 := aM hy273
           clear hy273
           have H' := aM H
           clear H
           have p264 : 0 ≤ (x5_2 : Int) := dt_
           have q264 : x5_2 < (l0.length : Int) := dt_
           obtain ⟨ad264, A264_0, c264_0, e264, hx264_0, hl264_0, hi264_0⟩ := at_L1 HR0.out x5_2 p264 q264
           cases e264
           replace hx264_0 := cB_ hx264_0
           have HR264_0 := aM hi264_0
           have HC264_0 := aM hl264_0
           clear hi264_0 hl264_0
           replace p264 := eq_true p264
           replace q264 := eq_true q264
           have p265 : 0 ≤ (x55_4 : Int) := dt_
           have q265 : x55_4 < ((rd_L1 l0 x5_2).length : Int) := dt_
           obtain ⟨ad265, e265, hx265_0⟩ := Kd.at_int HR264_0.out x55_4 p265 q265
           cases e265
           replace hx265_0 := cB_ hx265_0
           replace p265 := eq_true p265
           replace q265 := eq_true q265
           have p266 : 0 ≤ ((ji58) : Int) := dt_
           have q266 : (ji58) < (x4_4.length : Int) := dt_
           obtain ⟨ad266, A266_0, c266_0, e266, hx266_0, hl266_0, hi266_0⟩ := at_L1 (Kd.S_reads' HO_4.out).2.2 (ji58) p266 q266
           obtain rfl : (⟨go14, 0, none⟩ : Addr) = ad266 := (by injection e266)
           obtain ⟨ce266, hce266, hMe266, hcc266⟩ := Kd.S_get HO_4.out [] (ji58) p266 (by first | exact q266 | exact dt_ | (have e_ := (Kd.S_reads' HO_4.out).1; omega))
           obtain ⟨ve266_0, rfl, ge266_0⟩ := hMe266
           have hv266_0 := hcc266 0 _ rfl
           rw [Nat.add_zero, show ((Kd.slice 3 (Kd.int .i64))).sz = 1 from rfl, Nat.mul_one] at hv266_0
           replace hv266_0 := Option.some.inj (hv266_0.symm.trans hx266_0)
           rw [hv266_0] at ge266_0
           have HL266_0 := aM (show Kd.R (Kd.int .i64) 3 _ _ _ _ (rd_L1 x4_4 (ji58)) from ge266_0)
           clear hv266_0 ge266_0
           have HX266_0 := aM hx266_0
           clear hcc266 hce266
           (first | simp only [add_plain] at hx266_0 | simp only [add_at] at hx266_0 | simp only [Addr.add, Nat.zero_add] at hx266_0 | skip)
           have HR266_0 := aM hi266_0
           have HC266_0 := aM hl266_0
           clear hi266_0 hl266_0
           replace p266 := eq_true p266
           replace q266 := eq_true q266
           have p267 : 0 ≤ ((Go.bits .or .i64 x45_3 (ji62)) : Int) := dt_
           have q267 : (Go.bits .or .i64 x45_3 (ji62)) < ((rd_L1 x4_4 (ji58)).length : Int) := dt_
           obtain ⟨ad267, e267, hx267_0⟩ := Kd.at_int qz22 (Go.bits .or .i64 x45_3 (ji62)) p267 q267
           cases e267
           replace p267 := eq_true p267
           replace q267 := eq_true q267
           have p268 : 0 ≤ (x5_2 : Int) := dt_
           have q268 : x5_2 < (x4_4.length : Int) := dt_
           obtain ⟨ad268, A268_0, c268_0, e268, hx268_0, hl268_0, hi268_0⟩ := at_L1 (Kd.S_reads' HO_4.out).2.2 x5_2 p268 q268
           obtain rfl : (⟨go14, 0, none⟩ : Addr) = ad268 := (by injection e268)
           obtain ⟨ce268, hce268, hMe268, hcc268⟩ := Kd.S_get HO_4.out [] x5_2 p268 (by first | exact q268 | exact dt_ | (have e_ := (Kd.S_reads' HO_4.out).1; omega))
           obtain ⟨ve268_0, rfl, ge268_0⟩ := hMe268
           have hv268_0 := hcc268 0 _ rfl
           rw [Nat.add_zero, show ((Kd.slice 3 (Kd.int .i64))).sz = 1 from rfl, Nat.mul_one] at hv268_0
           replace hv268_0 := Option.some.inj (hv268_0.symm.trans hx268_0)
           rw [hv268_0] at ge268_0
           have HL268_0 := aM (show Kd.R (Kd.int .i64) 3 _ _ _ _ (rd_L1 x4_4 x5_2) from ge268_0)
           clear hv268_0 ge268_0
           have HX268_0 := aM hx268_0
           clear hcc268 hce268
           (first | simp only [add_plain] at hx268_0 | simp only [add_at] at hx268_0 | simp only [Addr.add, Nat.zero_add] at hx268_0 | skip)
           have HR268_0 := aM hi268_0
           have HC268_0 := aM hl268_0
           clear hi268_0 hl268_0
           replace p268 := eq_true p268
           replace q268 := eq_true q268
           have p269 : 0 ≤ (x45_3 : Int) := dt_
           have q269 : x45_3 < ((rd_L1 x4_4 x5_2).length : Int) := dt_
           obtain ⟨ad269, e269, hx269_0⟩ := Kd.at_int qz23 x45_3 p269 q269
           cases e269
           replace p269 := eq_true p269
           replace q269 := eq_true q269
           have p270 : 0 ≤ (x5_2 : Int) := dt_
           have q270 : x5_2 < (x4_4.length : Int) := dt_
           obtain ⟨ad270, A270_0, c270_0, e270, hx270_0, hl270_0, hi270_0⟩ := at_L1 (Kd.S_reads' HO_4.out).2.2 x5_2 p270 q270
           obtain rfl : (⟨go14, 0, none⟩ : Addr) = ad270 := (by injection e270)
           obtain ⟨ce270, hce270, hMe270, hcc270⟩ := Kd.S_get HO_4.out [] x5_2 p270 (by first | exact q270 | exact dt_ | (have e_ := (Kd.S_reads' HO_4.out).1; omega))
           obtain ⟨ve270_0, rfl, ge270_0⟩ := hMe270
           have hv270_0 := hcc270 0 _ rfl
           rw [Nat.add_zero, show ((Kd.slice 3 (Kd.int .i64))).sz = 1 from rfl, Nat.mul_one] at hv270_0
           replace hv270_0 := Option.some.inj (hv270_0.symm.trans hx270_0)
           rw [hv270_0] at ge270_0
           have HL270_0 := aM (show Kd.R (Kd.int .i64) 3 _ _ _ _ (rd_L1 x4_4 x5_2) from ge270_0)
           clear hv270_0 ge270_0
           have HX270_0 := aM hx270_0
           clear hcc270 hce270
           (first | simp only [add_plain] at hx270_0 | simp only [add_at] at hx270_0 | simp only [Addr.add, Nat.zero_add] at hx270_0 | skip)
           have HR270_0 := aM hi270_0
           have HC270_0 := aM hl270_0
           clear hi270_0 hl270_0
           replace p270 := eq_true p270
           replace q270 := eq_true q270
           have ea_ := Option.some.inj (hx268_0.symm.trans hx270_0)
           injection ea_ with ea_ en_ ec_
           subst ea_
           subst ec_
           clear en_
           have p69 : 0 ≤ (x45_3 : Int) := dt_
           have q69 : (x45_3 : Int) < (((rd_L1 x4_4 x5_2).length : Int) : Int) := dt_
           obtain ⟨go69, co69, eo69, gb69, gl69, cl69, HG69⟩ := Kd.R_form HL270_0.out (by omega)
           (first | cases eo69 | (injection eo69 with ea_ en_ ec_; (first | subst ea_ | (injection ea_ with ea_; subst ea_)); subst ec_; clear en_))
           have GB69 := aM gb69
           have GG69 := aM HG69
           clear gb69 gl69 HG69
           (first | simp only [add_plain] at hx269_0 | skip)
           obtain ⟨hx69_0, hf69_0⟩ := Kd.R_celln 0 HL270_0.out (x45_3 : Int) p69 q69
           replace p69 := eq_true p69
           replace q69 := eq_true q69
           have hq70 : (x5_2 : Int) < (x4_4.length : Int) := (by have h_ : (x5_2 : Int) < ((x4_4.length : Int) : Int) := dt_; first | exact h_ | (have e_ := (Kd.S_reads' HO_4.out).1; omega) | simpa only [List.length_set, List.length_set] using h_)
           obtain ⟨oki70, ce70, hcl70, hM70, hcc70, hok70, hbk70⟩ := Kd.S_borrow HO_4.out [] (x5_2 : Int) (dt_) hq70
           obtain ⟨ve70_0, rfl, ge70_0⟩ := hM70
           have hv70 := hcc70 0 _ rfl
           rw [Nat.add_zero, show ((Kd.slice 3 (Kd.int .i64))).sz = 1 from rfl, Nat.mul_one] at hv70
           replace hv70 := Option.some.inj (hv70.symm.trans HX270_0.out)
           subst hv70
           clear hcc70 hcl70
           replace ge70_0 := (show Kd.R (Kd.int .i64) 3 _ _ _ _ (rd_L1 x4_4 x5_2) from ge70_0)
           have HP70 := Kd.R_putg ge70_0 (x45_3 : Int) (wrap64 ((rd (rd_L1 l0 x5_2) x55_4) + (rd (rd_L1 x4_4 (ji58)) (Go.bits .or .i64 x45_3 (ji62)))))
           go_wp2_with (first | ((with_reducible refine gate_store (t := 3) (p := 121) rfl ?_); (try (rw [drewN_self wc]; generalize hq_ : World.drewN wc _ = wc; replace HO_4 := aM (Kd.S_at hq_ HO_4.out); replace HB := aM (below_at hq_ HB.out); (try replace HX270_0 := aM (cellq_ hq_ HX270_0.out)); (try replace hx69_0 := cellq_ hq_ hx69_0); (try replace hf69_0 := frozq_ hq_ hf69_0); clear hq_; (try (have hq70 : (x5_2 : Int) < (x4_4.length : Int) := (by have h_ : (x5_2 : Int) < ((x4_4.length : Int) : Int) := dt_; first | exact h_ | (have e_ := (Kd.S_reads' HO_4.out).1; omega) | simpa only [List.length_set, List.length_set] using h_))); (try (obtain ⟨oki70, ce70, hcl70, hM70, hcc70, hok70, hbk70⟩ := Kd.S_borrow HO_4.out [] (x5_2 : Int) (dt_) hq70)); (try (obtain ⟨ve70_0, rfl, ge70_0⟩ := hM70)); (try (have hv70 := hcc70 0 _ rfl)); (try (rw [Nat.add_zero, show ((Kd.slice 3 (Kd.int .i64))).sz = 1 from rfl, Nat.mul_one] at hv70)); (try (replace hv70 := Option.some.inj (hv70.symm.trans HX270_0.out))); (try (subst hv70)); (try (clear hcc70 hcl70)); (try (replace ge70_0 := (show Kd.R (Kd.int .i64) 3 _ _ _ _ (rd_L1 x4_4 x5_2) from ge70_0))); (try (have HP70 := Kd.R_putg ge70_0 (x45_3 : Int) (wrap64 ((rd (rd_L1 l0 x5_2) x55_4) + (rd (rd_L1 x4_4 (ji58)) (Go.bits .or .i64 x45_3 (ji62))))))))); refine store_event (t := 3) (p := 121) (v := ?vo_w71) (w1 := (wc.setCell ⟨go69, (x45_3 : Int).toNat, none⟩ (.int .i64 (wrap64 ((rd (rd_L1 l0 x5_2) x55_4) + (rd (rd_L1 x4_4 (ji58)) (Go.bits .or .i64 x45_3 (ji62)))))))) ?hg ?ho ?hn ?hr ?_; (case ho => rfl); (case hg => rfl); (case hn => rfl); (case hr => exact qz8); intro w71 hw; have hg : wc.grownBy w71 (some go69) := (by rw [hw]; exact HP70.2); have hz_ : Kd.R (Kd.int .i64) 3 w71 w.heap.size oki70 (.slice (some ⟨go69, 0, none⟩) (rd_L1 x4_4 x5_2).length c268_0) y271 := (by rw [hw, Ny271.out]; exact HP70.1); have hp_ : Kd.S (Kd.slice 3 (Kd.int .i64)) 24 w71 w.heap.size (fun _ => True) (.slice (some ⟨go14, 0, none⟩) x4_4.length co14) y273 := qz34; have hm_ := Kd.R_mono hz_ hok70; clear HP70 hbk70; replace HO_4 := aM (hp_); replace HB := aM ((by rw [hw]; exact below_set (HB.out) GB69.out : Below w.heap.size w w71)); have HL281 := aM (hm_); have HC272 := aM ((Kd.R_reads' hm_).2.1); clear HL266_0 HL268_0 HL270_0; clear hg hw hp_ hz_ hm_ hok70))
           repeat (go_quiet (first | ((with_reducible refine gate_store (t := 3) (p := 121) rfl ?_); (try (rw [drewN_self wc]; generalize hq_ : World.drewN wc _ = wc; replace HO_4 := aM (Kd.S_at hq_ HO_4.out); replace HB := aM (below_at hq_ HB.out); (try replace HX270_0 := aM (cellq_ hq_ HX270_0.out)); (try replace hx69_0 := cellq_ hq_ hx69_0); (try replace hf69_0 := frozq_ hq_ hf69_0); clear hq_; (try (have hq70 : (x5_2 : Int) < (x4_4.length : Int) := (by have h_ : (x5_2 : Int) < ((x4_4.length : Int) : Int) := dt_; first | exact h_ | (have e_ := (Kd.S_reads' HO_4.out).1; omega) | simpa only [List.length_set, List.length_set] using h_))); (try (obtain ⟨oki70, ce70, hcl70, hM70, hcc70, hok70, hbk70⟩ := Kd.S_borrow HO_4.out [] (x5_2 : Int) (dt_) hq70)); (try (obtain ⟨ve70_0, rfl, ge70_0⟩ := hM70)); (try (have hv70 := hcc70 0 _ rfl)); (try (rw [Nat.add_zero, show ((Kd.slice 3 (Kd.int .i64))).sz = 1 from rfl, Nat.mul_one] at hv70)); (try (replace hv70 := Option.some.inj (hv70.symm.trans HX270_0.out))); (try (subst hv70)); (try (clear hcc70 hcl70)); (try (replace ge70_0 := (show Kd.R (Kd.int .i64) 3 _ _ _ _ (rd_L1 x4_4 x5_2) from ge70_0))); (try (have HP70 := Kd.R_putg ge70_0 (x45_3 : Int) (wrap64 ((rd (rd_L1 l0 x5_2) x55_4) + (rd (rd_L1 x4_4 (ji58)) (Go.bits .or .i64 x45_3 (ji62))))))))); refine store_event (t := 3) (p := 121) (v := ?vo_w71) (w1 := (wc.setCell ⟨go69, (x45_3 : Int).toNat, none⟩ (.int .i64 (wrap64 ((rd (rd_L1 l0 x5_2) x55_4) + (rd (rd_L1 x4_4 (ji58)) (Go.bits .or .i64 x45_3 (ji62)))))))) ?hg ?ho ?hn ?hr ?_; (case ho => rfl); (case hg => rfl); (case hn => rfl); (case hr => exact qz8); intro w71 hw; have hg : wc.grownBy w71 (some go69) := (by rw [hw]; exact HP70.2); have hz_ : Kd.R (Kd.int .i64) 3 w71 w.heap.size oki70 (.slice (some ⟨go69, 0, none⟩) (rd_L1 x4_4 x5_2).length c268_0) y271 := (by rw [hw, Ny271.out]; exact HP70.1); have hp_ : Kd.S (Kd.slice 3 (Kd.int .i64)) 24 w71 w.heap.size (fun _ => True) (.slice (some ⟨go14, 0, none⟩) x4_4.length co14) y273 := qz34; have hm_ := Kd.R_mono hz_ hok70; clear HP70 hbk70; replace HO_4 := aM (hp_); replace HB := aM ((by rw [hw]; exact below_set (HB.out) GB69.out : Below w.heap.size w w71)); have HL281 := aM (hm_); have HC272 := aM ((Kd.R_reads' hm_).2.1); clear HL266_0 HL268_0 HL270_0; clear hg hw hp_ hz_ hm_ hok70)); try go_wp2_with (first | ((with_reducible refine gate_store (t := 3) (p := 121) rfl ?_); (try (rw [drewN_self wc]; generalize hq_ : World.drewN wc _ = wc; replace HO_4 := aM (Kd.S_at hq_ HO_4.out); replace HB := aM (below_at hq_ HB.out); (try replace HX270_0 := aM (cellq_ hq_ HX270_0.out)); (try replace hx69_0 := cellq_ hq_ hx69_0); (try replace hf69_0 := frozq_ hq_ hf69_0); clear hq_; (try (have hq70 : (x5_2 : Int) < (x4_4.length : Int) := (by have h_ : (x5_2 : Int) < ((x4_4.length : Int) : Int) := dt_; first | exact h_ | (have e_ := (Kd.S_reads' HO_4.out).1; omega) | simpa only [List.length_set, List.length_set] using h_))); (try (obtain ⟨oki70, ce70, hcl70, hM70, hcc70, hok70, hbk70⟩ := Kd.S_borrow HO_4.out [] (x5_2 : Int) (dt_) hq70)); (try (obtain ⟨ve70_0, rfl, ge70_0⟩ := hM70)); (try (have hv70 := hcc70 0 _ rfl)); (try (rw [Nat.add_zero, show ((Kd.slice 3 (Kd.int .i64))).sz = 1 from rfl, Nat.mul_one] at hv70)); (try (replace hv70 := Option.some.inj (hv70.symm.trans HX270_0.out))); (try (subst hv70)); (try (clear hcc70 hcl70)); (try (replace ge70_0 := (show Kd.R (Kd.int .i64) 3 _ _ _ _ (rd_L1 x4_4 x5_2) from ge70_0))); (try (have HP70 := Kd.R_putg ge70_0 (x45_3 : Int) (wrap64 ((rd (rd_L1 l0 x5_2) x55_4) + (rd (rd_L1 x4_4 (ji58)) (Go.bits .or .i64 x45_3 (ji62))))))))); refine store_event (t := 3) (p := 121) (v := ?vo_w71) (w1 := (wc.setCell ⟨go69, (x45_3 : Int).toNat, none⟩ (.int .i64 (wrap64 ((rd (rd_L1 l0 x5_2) x55_4) + (rd (rd_L1 x4_4 (ji58)) (Go.bits .or .i64 x45_3 (ji62)))))))) ?hg ?ho ?hn ?hr ?_; (case ho => rfl); (case hg => rfl); (case hn => rfl); (case hr => exact qz8); intro w71 hw; have hg : wc.grownBy w71 (some go69) := (by rw [hw]; exact HP70.2); have hz_ : Kd.R (Kd.int .i64) 3 w71 w.heap.size oki70 (.slice (some ⟨go69, 0, none⟩) (rd_L1 x4_4 x5_2).length c268_0) y271 := (by rw [hw, Ny271.out]; exact HP70.1); have hp_ : Kd.S (Kd.slice 3 (Kd.int .i64)) 24 w71 w.heap.size (fun _ => True) (.slice (some ⟨go14, 0, none⟩) x4_4.length co14) y273 := qz34; have hm_ := Kd.R_mono hz_ hok70; clear HP70 hbk70; replace HO_4 := aM (hp_); replace HB := aM ((by rw [hw]; exact below_set (HB.out) GB69.out : Below w.heap.size w w71)); have HL281 := aM (hm_); have HC272 := aM ((Kd.R_reads' hm_).2.1); clear HL266_0 HL268_0 HL270_0; clear hg hw hp_ hz_ hm_ hok70)))
           (try simp only [← hl4_4])
           go_roundg kj41
           case measure => have := HJ1.out; have := HK2.out; have := HK3.out; have := HK4.out; have := HJ41.out; omega
           case rel => exact ⟨(y273), (wrap64 (x55_4 + 1)), qz3, H', ⟨by have := HJ1.out; have := HK2.out; have := HK3.out; have := HK4.out; have := HJ41.out; omega⟩, ⟨by (try simp only [hl4_2]); (try simp only [hl4_3]); (try simp only [hl4_4]); exact rm_ HO_4.out⟩, ⟨qz1⟩⟩
           }
           {
           rw [if_neg c68] at H
           have c68b0 := decide_eq_false c68
           clear c68
           by_cases c72 : (wrap64 ((rd (rd_L1 l0 x5_2) x55_4) + (rd (rd_L1 x4_4 (ji58)) (Go.bits .or .i64 x45_3 (ji62))))) < (rd (rd_L1 x4_4 x5_2) x45_3)
           {
           rw [if_pos c72] at H
           have c72b0 := decide_eq_true c72
           clear c72
           obtain ⟨y277, hy277⟩ : ∃ y_ : List Int, y_ = ((rd_L1 x4_4 x5_2).set (x45_3 : Int).toNat (wrap64 ((rd (rd_L1 l0 x5_2) x55_4) + (rd (rd_L1 x4_4 (ji58)) (Go.bits .or .i64 x45_3 (ji62)))))) := ⟨_, rfl⟩
           replace H : (impl_least.l2 kj41 l0 x3_1 (x4_4.set (x5_2 : Int).toNat y277) x5_2 x45_3 ((rd_L1 y256 x5_2).length : Int) x45_3 x3_1 (wrap64 (x55_4 + 1))) = some r := by first | (rw [hy277]; with_reducible exact H) | (have H2_ := (Option.bind_some _ _).symm.trans H; rw [hy277]; with_reducible exact H2_) | (have H2_ := (Option.bind_some _ _).symm.trans H; with_reducible exact H2_) | with_reducible exact H | (rw [hy277]; exact H) | exact H
           have Ny277 := aM hy277
           clear hy277
           obtain ⟨y279, hy279⟩ : ∃ y_ : List (List Int), y_ = (x4_4.set (x5_2 : Int).toNat y277) := ⟨_, rfl⟩
           replace H : (impl_least.l2 kj41 l0 x3_1 y279 x5_2 x45_3 ((rd_L1 y256 x5_2).length : Int) x45_3 x3_1 (wrap64 (x55_4 + 1))) = some r := by first | (rw [hy279]; with_reducible exact H) | (have H2_ := (Option.bind_some _ _).symm.trans H; rw [hy279]; with_reducible exact H2_) | (have H2_ := (Option.bind_some _ _).symm.trans H; with_reducible exact H2_) | with_reducible exact H | (rw [hy279]; exact H) | exact H
           have Ny279 := aM hy279
           clear hy279
           have H' := aM H
           clear H
           have p264 : 0 ≤ (x5_2 : Int) := dt_
           have q264 : x5_2 < (l0.length : Int) := dt_
           obtain ⟨ad264, A264_0, c264_0, e264, hx264_0, hl264_0, hi264_0⟩ := at_L1 HR0.out x5_2 p264 q264
           cases e264
           replace hx264_0 := cB_ hx264_0
           have HR264_0 := aM hi264_0
           have HC264_0 := aM hl264_0
           clear hi264_0 hl264_0
           replace p264 := eq_true p264
           replace q264 := eq_true q264
           have p265 : 0 ≤ (x55_4 : Int) := dt_
           have q265 : x55_4 < ((rd_L1 l0 x5_2).length : Int) := dt_
           obtain ⟨ad265, e265, hx265_0⟩ := Kd.at_int HR264_0.out x55_4 p265 q265
           cases e265
           replace hx265_0 := cB_ hx265_0
           replace p265 := eq_true p265
           replace q265 := eq_true q265
           have p266 : 0 ≤ ((ji58) : Int) := dt_
           have q266 : (ji58) < (x4_4.length : Int) := dt_
           obtain ⟨ad266, A266_0, c266_0, e266, hx266_0, hl266_0, hi266_0⟩ := at_L1 (Kd.S_reads' HO_4.out).2.2 (ji58) p266 q266
           obtain rfl : (⟨go14, 0, none⟩ : Addr) = ad266 := (by injection e266)
           obtain ⟨ce266, hce266, hMe266, hcc266⟩ := Kd.S_get HO_4.out [] (ji58) p266 (by first | exact q266 | exact dt_ | (have e_ := (Kd.S_reads' HO_4.out).1; omega))
           obtain ⟨ve266_0, rfl, ge266_0⟩ := hMe266
           have hv266_0 := hcc266 0 _ rfl
           rw [Nat.add_zero, show ((Kd.slice 3 (Kd.int .i64))).sz = 1 from rfl, Nat.mul_one] at hv266_0
           replace hv266_0 := Option.some.inj (hv266_0.symm.trans hx266_0)
           rw [hv266_0] at ge266_0
           have HL266_0 := aM (show Kd.R (Kd.int .i64) 3 _ _ _ _ (rd_L1 x4_4 (ji58)) from ge266_0)
           clear hv266_0 ge266_0
           have HX266_0 := aM hx266_0
           clear hcc266 hce266
           (first | simp only [add_plain] at hx266_0 | simp only [add_at] at hx266_0 | simp only [Addr.add, Nat.zero_add] at hx266_0 | skip)
           have HR266_0 := aM hi266_0
           have HC266_0 := aM hl266_0
           clear hi266_0 hl266_0
           replace p266 := eq_true p266
           replace q266 := eq_true q266
           have p267 : 0 ≤ ((Go.bits .or .i64 x45_3 (ji62)) : Int) := dt_
           have q267 : (Go.bits .or .i64 x45_3 (ji62)) < ((rd_L1 x4_4 (ji58)).length : Int) := dt_
           obtain ⟨ad267, e267, hx267_0⟩ := Kd.at_int qz22 (Go.bits .or .i64 x45_3 (ji62)) p267 q267
           cases e267
           replace p267 := eq_true p267
           replace q267 := eq_true q267
           have p268 : 0 ≤ (x5_2 : Int) := dt_
           have q268 : x5_2 < (x4_4.length : Int) := dt_
           obtain ⟨ad268, A268_0, c268_0, e268, hx268_0, hl268_0, hi268_0⟩ := at_L1 (Kd.S_reads' HO_4.out).2.2 x5_2 p268 q268
           obtain rfl : (⟨go14, 0, none⟩ : Addr) = ad268 := (by injection e268)
           obtain ⟨ce268, hce268, hMe268, hcc268⟩ := Kd.S_get HO_4.out [] x5_2 p268 (by first | exact q268 | exact dt_ | (have e_ := (Kd.S_reads' HO_4.out).1; omega))
           obtain ⟨ve268_0, rfl, ge268_0⟩ := hMe268
           have hv268_0 := hcc268 0 _ rfl
           rw [Nat.add_zero, show ((Kd.slice 3 (Kd.int .i64))).sz = 1 from rfl, Nat.mul_one] at hv268_0
           replace hv268_0 := Option.some.inj (hv268_0.symm.trans hx268_0)
           rw [hv268_0] at ge268_0
           have HL268_0 := aM (show Kd.R (Kd.int .i64) 3 _ _ _ _ (rd_L1 x4_4 x5_2) from ge268_0)
           clear hv268_0 ge268_0
           have HX268_0 := aM hx268_0
           clear hcc268 hce268
           (first | simp only [add_plain] at hx268_0 | simp only [add_at] at hx268_0 | simp only [Addr.add, Nat.zero_add] at hx268_0 | skip)
           have HR268_0 := aM hi268_0
           have HC268_0 := aM hl268_0
           clear hi268_0 hl268_0
           replace p268 := eq_true p268
           replace q268 := eq_true q268
           have p269 : 0 ≤ (x45_3 : Int) := dt_
           have q269 : x45_3 < ((rd_L1 x4_4 x5_2).length : Int) := dt_
           obtain ⟨ad269, e269, hx269_0⟩ := Kd.at_int qz23 x45_3 p269 q269
           cases e269
           replace p269 := eq_true p269
           replace q269 := eq_true q269
           have p274 : 0 ≤ (x5_2 : Int) := dt_
           have q274 : x5_2 < (x4_4.length : Int) := dt_
           obtain ⟨ad274, A274_0, c274_0, e274, hx274_0, hl274_0, hi274_0⟩ := at_L1 (Kd.S_reads' HO_4.out).2.2 x5_2 p274 q274
           obtain rfl : (⟨go14, 0, none⟩ : Addr) = ad274 := (by injection e274)
           obtain ⟨ce274, hce274, hMe274, hcc274⟩ := Kd.S_get HO_4.out [] x5_2 p274 (by first | exact q274 | exact dt_ | (have e_ := (Kd.S_reads' HO_4.out).1; omega))
           obtain ⟨ve274_0, rfl, ge274_0⟩ := hMe274
           have hv274_0 := hcc274 0 _ rfl
           rw [Nat.add_zero, show ((Kd.slice 3 (Kd.int .i64))).sz = 1 from rfl, Nat.mul_one] at hv274_0
           replace hv274_0 := Option.some.inj (hv274_0.symm.trans hx274_0)
           rw [hv274_0] at ge274_0
           have HL274_0 := aM (show Kd.R (Kd.int .i64) 3 _ _ _ _ (rd_L1 x4_4 x5_2) from ge274_0)
           clear hv274_0 ge274_0
           have HX274_0 := aM hx274_0
           clear hcc274 hce274
           (first | simp only [add_plain] at hx274_0 | simp only [add_at] at hx274_0 | simp only [Addr.add, Nat.zero_add] at hx274_0 | skip)
           have HR274_0 := aM hi274_0
           have HC274_0 := aM hl274_0
           clear hi274_0 hl274_0
           replace p274 := eq_true p274
           replace q274 := eq_true q274
           have ea_ := Option.some.inj (hx268_0.symm.trans hx274_0)
           injection ea_ with ea_ en_ ec_
           subst ea_
           subst ec_
           clear en_
           have p275 : 0 ≤ (x45_3 : Int) := dt_
           have q275 : x45_3 < ((rd_L1 x4_4 x5_2).length : Int) := dt_
           obtain ⟨ad275, e275, hx275_0⟩ := Kd.at_int qz36 x45_3 p275 q275
           cases e275
           replace p275 := eq_true p275
           replace q275 := eq_true q275
           have p276 : 0 ≤ (x5_2 : Int) := dt_
           have q276 : x5_2 < (x4_4.length : Int) := dt_
           obtain ⟨ad276, A276_0, c276_0, e276, hx276_0, hl276_0, hi276_0⟩ := at_L1 (Kd.S_reads' HO_4.out).2.2 x5_2 p276 q276
           obtain rfl : (⟨go14, 0, none⟩ : Addr) = ad276 := (by injection e276)
           obtain ⟨ce276, hce276, hMe276, hcc276⟩ := Kd.S_get HO_4.out [] x5_2 p276 (by first | exact q276 | exact dt_ | (have e_ := (Kd.S_reads' HO_4.out).1; omega))
           obtain ⟨ve276_0, rfl, ge276_0⟩ := hMe276
           have hv276_0 := hcc276 0 _ rfl
           rw [Nat.add_zero, show ((Kd.slice 3 (Kd.int .i64))).sz = 1 from rfl, Nat.mul_one] at hv276_0
           replace hv276_0 := Option.some.inj (hv276_0.symm.trans hx276_0)
           rw [hv276_0] at ge276_0
           have HL276_0 := aM (show Kd.R (Kd.int .i64) 3 _ _ _ _ (rd_L1 x4_4 x5_2) from ge276_0)
           clear hv276_0 ge276_0
           have HX276_0 := aM hx276_0
           clear hcc276 hce276
           (first | simp only [add_plain] at hx276_0 | simp only [add_at] at hx276_0 | simp only [Addr.add, Nat.zero_add] at hx276_0 | skip)
           have HR276_0 := aM hi276_0
           have HC276_0 := aM hl276_0
           clear hi276_0 hl276_0
           replace p276 := eq_true p276
           replace q276 := eq_true q276
           have ea_ := Option.some.inj (hx268_0.symm.trans hx276_0)
           injection ea_ with ea_ en_ ec_
           subst ea_
           subst ec_
           clear en_
           have p73 : 0 ≤ (x45_3 : Int) := dt_
           have q73 : (x45_3 : Int) < (((rd_L1 x4_4 x5_2).length : Int) : Int) := dt_
           obtain ⟨go73, co73, eo73, gb73, gl73, cl73, HG73⟩ := Kd.R_form HL276_0.out (by omega)
           (first | cases eo73 | (injection eo73 with ea_ en_ ec_; (first | subst ea_ | (injection ea_ with ea_; subst ea_)); subst ec_; clear en_))
           have GB73 := aM gb73
           have GG73 := aM HG73
           clear gb73 gl73 HG73
           (first | simp only [add_plain] at hx275_0 | skip)
           obtain ⟨hx73_0, hf73_0⟩ := Kd.R_celln 0 HL276_0.out (x45_3 : Int) p73 q73
           replace p73 := eq_true p73
           replace q73 := eq_true q73
           have hq74 : (x5_2 : Int) < (x4_4.length : Int) := (by have h_ : (x5_2 : Int) < ((x4_4.length : Int) : Int) := dt_; first | exact h_ | (have e_ := (Kd.S_reads' HO_4.out).1; omega) | simpa only [List.length_set, List.length_set] using h_)
           obtain ⟨oki74, ce74, hcl74, hM74, hcc74, hok74, hbk74⟩ := Kd.S_borrow HO_4.out [] (x5_2 : Int) (dt_) hq74
           obtain ⟨ve74_0, rfl, ge74_0⟩ := hM74
           have hv74 := hcc74 0 _ rfl
           rw [Nat.add_zero, show ((Kd.slice 3 (Kd.int .i64))).sz = 1 from rfl, Nat.mul_one] at hv74
           replace hv74 := Option.some.inj (hv74.symm.trans HX276_0.out)
           subst hv74
           clear hcc74 hcl74
           replace ge74_0 := (show Kd.R (Kd.int .i64) 3 _ _ _ _ (rd_L1 x4_4 x5_2) from ge74_0)
           have HP74 := Kd.R_putg ge74_0 (x45_3 : Int) (wrap64 ((rd (rd_L1 l0 x5_2) x55_4) + (rd (rd_L1 x4_4 (ji58)) (Go.bits .or .i64 x45_3 (ji62)))))
           go_wp2_with (first | ((with_reducible refine gate_store (t := 3) (p := 121) rfl ?_); (try (rw [drewN_self wc]; generalize hq_ : World.drewN wc _ = wc; replace HO_4 := aM (Kd.S_at hq_ HO_4.out); replace HB := aM (below_at hq_ HB.out); (try replace HX276_0 := aM (cellq_ hq_ HX276_0.out)); (try replace hx73_0 := cellq_ hq_ hx73_0); (try replace hf73_0 := frozq_ hq_ hf73_0); clear hq_; (try (have hq74 : (x5_2 : Int) < (x4_4.length : Int) := (by have h_ : (x5_2 : Int) < ((x4_4.length : Int) : Int) := dt_; first | exact h_ | (have e_ := (Kd.S_reads' HO_4.out).1; omega) | simpa only [List.length_set, List.length_set] using h_))); (try (obtain ⟨oki74, ce74, hcl74, hM74, hcc74, hok74, hbk74⟩ := Kd.S_borrow HO_4.out [] (x5_2 : Int) (dt_) hq74)); (try (obtain ⟨ve74_0, rfl, ge74_0⟩ := hM74)); (try (have hv74 := hcc74 0 _ rfl)); (try (rw [Nat.add_zero, show ((Kd.slice 3 (Kd.int .i64))).sz = 1 from rfl, Nat.mul_one] at hv74)); (try (replace hv74 := Option.some.inj (hv74.symm.trans HX276_0.out))); (try (subst hv74)); (try (clear hcc74 hcl74)); (try (replace ge74_0 := (show Kd.R (Kd.int .i64) 3 _ _ _ _ (rd_L1 x4_4 x5_2) from ge74_0))); (try (have HP74 := Kd.R_putg ge74_0 (x45_3 : Int) (wrap64 ((rd (rd_L1 l0 x5_2) x55_4) + (rd (rd_L1 x4_4 (ji58)) (Go.bits .or .i64 x45_3 (ji62))))))))); refine store_event (t := 3) (p := 121) (v := ?vo_w75) (w1 := (wc.setCell ⟨go73, (x45_3 : Int).toNat, none⟩ (.int .i64 (wrap64 ((rd (rd_L1 l0 x5_2) x55_4) + (rd (rd_L1 x4_4 (ji58)) (Go.bits .or .i64 x45_3 (ji62)))))))) ?hg ?ho ?hn ?hr ?_; (case ho => rfl); (case hg => rfl); (case hn => rfl); (case hr => exact qz8); intro w75 hw; have hg : wc.grownBy w75 (some go73) := (by rw [hw]; exact HP74.2); have hz_ : Kd.R (Kd.int .i64) 3 w75 w.heap.size oki74 (.slice (some ⟨go73, 0, none⟩) (rd_L1 x4_4 x5_2).length c268_0) y277 := (by rw [hw, Ny277.out]; exact HP74.1); have hp_ : Kd.S (Kd.slice 3 (Kd.int .i64)) 24 w75 w.heap.size (fun _ => True) (.slice (some ⟨go14, 0, none⟩) x4_4.length co14) y279 := qz35; have hm_ := Kd.R_mono hz_ hok74; clear HP74 hbk74; replace HO_4 := aM (hp_); replace HB := aM ((by rw [hw]; exact below_set (HB.out) GB73.out : Below w.heap.size w w75)); have HL282 := aM (hm_); have HC278 := aM ((Kd.R_reads' hm_).2.1); clear HL266_0 HL268_0 HL274_0 HL276_0; clear hg hw hp_ hz_ hm_ hok74))
           repeat (go_quiet (first | ((with_reducible refine gate_store (t := 3) (p := 121) rfl ?_); (try (rw [drewN_self wc]; generalize hq_ : World.drewN wc _ = wc; replace HO_4 := aM (Kd.S_at hq_ HO_4.out); replace HB := aM (below_at hq_ HB.out); (try replace HX276_0 := aM (cellq_ hq_ HX276_0.out)); (try replace hx73_0 := cellq_ hq_ hx73_0); (try replace hf73_0 := frozq_ hq_ hf73_0); clear hq_; (try (have hq74 : (x5_2 : Int) < (x4_4.length : Int) := (by have h_ : (x5_2 : Int) < ((x4_4.length : Int) : Int) := dt_; first | exact h_ | (have e_ := (Kd.S_reads' HO_4.out).1; omega) | simpa only [List.length_set, List.length_set] using h_))); (try (obtain ⟨oki74, ce74, hcl74, hM74, hcc74, hok74, hbk74⟩ := Kd.S_borrow HO_4.out [] (x5_2 : Int) (dt_) hq74)); (try (obtain ⟨ve74_0, rfl, ge74_0⟩ := hM74)); (try (have hv74 := hcc74 0 _ rfl)); (try (rw [Nat.add_zero, show ((Kd.slice 3 (Kd.int .i64))).sz = 1 from rfl, Nat.mul_one] at hv74)); (try (replace hv74 := Option.some.inj (hv74.symm.trans HX276_0.out))); (try (subst hv74)); (try (clear hcc74 hcl74)); (try (replace ge74_0 := (show Kd.R (Kd.int .i64) 3 _ _ _ _ (rd_L1 x4_4 x5_2) from ge74_0))); (try (have HP74 := Kd.R_putg ge74_0 (x45_3 : Int) (wrap64 ((rd (rd_L1 l0 x5_2) x55_4) + (rd (rd_L1 x4_4 (ji58)) (Go.bits .or .i64 x45_3 (ji62))))))))); refine store_event (t := 3) (p := 121) (v := ?vo_w75) (w1 := (wc.setCell ⟨go73, (x45_3 : Int).toNat, none⟩ (.int .i64 (wrap64 ((rd (rd_L1 l0 x5_2) x55_4) + (rd (rd_L1 x4_4 (ji58)) (Go.bits .or .i64 x45_3 (ji62)))))))) ?hg ?ho ?hn ?hr ?_; (case ho => rfl); (case hg => rfl); (case hn => rfl); (case hr => exact qz8); intro w75 hw; have hg : wc.grownBy w75 (some go73) := (by rw [hw]; exact HP74.2); have hz_ : Kd.R (Kd.int .i64) 3 w75 w.heap.size oki74 (.slice (some ⟨go73, 0, none⟩) (rd_L1 x4_4 x5_2).length c268_0) y277 := (by rw [hw, Ny277.out]; exact HP74.1); have hp_ : Kd.S (Kd.slice 3 (Kd.int .i64)) 24 w75 w.heap.size (fun _ => True) (.slice (some ⟨go14, 0, none⟩) x4_4.length co14) y279 := qz35; have hm_ := Kd.R_mono hz_ hok74; clear HP74 hbk74; replace HO_4 := aM (hp_); replace HB := aM ((by rw [hw]; exact below_set (HB.out) GB73.out : Below w.heap.size w w75)); have HL282 := aM (hm_); have HC278 := aM ((Kd.R_reads' hm_).2.1); clear HL266_0 HL268_0 HL274_0 HL276_0; clear hg hw hp_ hz_ hm_ hok74)); try go_wp2_with (first | ((with_reducible refine gate_store (t := 3) (p := 121) rfl ?_); (try (rw [drewN_self wc]; generalize hq_ : World.drewN wc _ = wc; replace HO_4 := aM (Kd.S_at hq_ HO_4.out); replace HB := aM (below_at hq_ HB.out); (try replace HX276_0 := aM (cellq_ hq_ HX276_0.out)); (try replace hx73_0 := cellq_ hq_ hx73_0); (try replace hf73_0 := frozq_ hq_ hf73_0); clear hq_; (try (have hq74 : (x5_2 : Int) < (x4_4.length : Int) := (by have h_ : (x5_2 : Int) < ((x4_4.length : Int) : Int) := dt_; first | exact h_ | (have e_ := (Kd.S_reads' HO_4.out).1; omega) | simpa only [List.length_set, List.length_set] using h_))); (try (obtain ⟨oki74, ce74, hcl74, hM74, hcc74, hok74, hbk74⟩ := Kd.S_borrow HO_4.out [] (x5_2 : Int) (dt_) hq74)); (try (obtain ⟨ve74_0, rfl, ge74_0⟩ := hM74)); (try (have hv74 := hcc74 0 _ rfl)); (try (rw [Nat.add_zero, show ((Kd.slice 3 (Kd.int .i64))).sz = 1 from rfl, Nat.mul_one] at hv74)); (try (replace hv74 := Option.some.inj (hv74.symm.trans HX276_0.out))); (try (subst hv74)); (try (clear hcc74 hcl74)); (try (replace ge74_0 := (show Kd.R (Kd.int .i64) 3 _ _ _ _ (rd_L1 x4_4 x5_2) from ge74_0))); (try (have HP74 := Kd.R_putg ge74_0 (x45_3 : Int) (wrap64 ((rd (rd_L1 l0 x5_2) x55_4) + (rd (rd_L1 x4_4 (ji58)) (Go.bits .or .i64 x45_3 (ji62))))))))); refine store_event (t := 3) (p := 121) (v := ?vo_w75) (w1 := (wc.setCell ⟨go73, (x45_3 : Int).toNat, none⟩ (.int .i64 (wrap64 ((rd (rd_L1 l0 x5_2) x55_4) + (rd (rd_L1 x4_4 (ji58)) (Go.bits .or .i64 x45_3 (ji62)))))))) ?hg ?ho ?hn ?hr ?_; (case ho => rfl); (case hg => rfl); (case hn => rfl); (case hr => exact qz8); intro w75 hw; have hg : wc.grownBy w75 (some go73) := (by rw [hw]; exact HP74.2); have hz_ : Kd.R (Kd.int .i64) 3 w75 w.heap.size oki74 (.slice (some ⟨go73, 0, none⟩) (rd_L1 x4_4 x5_2).length c268_0) y277 := (by rw [hw, Ny277.out]; exact HP74.1); have hp_ : Kd.S (Kd.slice 3 (Kd.int .i64)) 24 w75 w.heap.size (fun _ => True) (.slice (some ⟨go14, 0, none⟩) x4_4.length co14) y279 := qz35; have hm_ := Kd.R_mono hz_ hok74; clear HP74 hbk74; replace HO_4 := aM (hp_); replace HB := aM ((by rw [hw]; exact below_set (HB.out) GB73.out : Below w.heap.size w w75)); have HL282 := aM (hm_); have HC278 := aM ((Kd.R_reads' hm_).2.1); clear HL266_0 HL268_0 HL274_0 HL276_0; clear hg hw hp_ hz_ hm_ hok74)))
           (try simp only [← hl4_4])
           go_roundg kj41
           case measure => have := HJ1.out; have := HK2.out; have := HK3.out; have := HK4.out; have := HJ41.out; omega
           case rel => exact ⟨(y279), (wrap64 (x55_4 + 1)), qz3, H', ⟨by have := HJ1.out; have := HK2.out; have := HK3.out; have := HK4.out; have := HJ41.out; omega⟩, ⟨by (try simp only [hl4_2]); (try simp only [hl4_3]); (try simp only [hl4_4]); exact rm_ HO_4.out⟩, ⟨qz1⟩⟩
           }
           {
           rw [if_neg c72] at H
           have c72b0 := decide_eq_false c72
           clear c72
           have H' := aM H
           clear H
           have p264 : 0 ≤ (x5_2 : Int) := dt_
           have q264 : x5_2 < (l0.length : Int) := dt_
           obtain ⟨ad264, A264_0, c264_0, e264, hx264_0, hl264_0, hi264_0⟩ := at_L1 HR0.out x5_2 p264 q264
           cases e264
           replace hx264_0 := cB_ hx264_0
           have HR264_0 := aM hi264_0
           have HC264_0 := aM hl264_0
           clear hi264_0 hl264_0
           replace p264 := eq_true p264
           replace q264 := eq_true q264
           have p265 : 0 ≤ (x55_4 : Int) := dt_
           have q265 : x55_4 < ((rd_L1 l0 x5_2).length : Int) := dt_
           obtain ⟨ad265, e265, hx265_0⟩ := Kd.at_int HR264_0.out x55_4 p265 q265
           cases e265
           replace hx265_0 := cB_ hx265_0
           replace p265 := eq_true p265
           replace q265 := eq_true q265
           have p266 : 0 ≤ ((ji58) : Int) := dt_
           have q266 : (ji58) < (x4_4.length : Int) := dt_
           obtain ⟨ad266, A266_0, c266_0, e266, hx266_0, hl266_0, hi266_0⟩ := at_L1 (Kd.S_reads' HO_4.out).2.2 (ji58) p266 q266
           obtain rfl : (⟨go14, 0, none⟩ : Addr) = ad266 := (by injection e266)
           obtain ⟨ce266, hce266, hMe266, hcc266⟩ := Kd.S_get HO_4.out [] (ji58) p266 (by first | exact q266 | exact dt_ | (have e_ := (Kd.S_reads' HO_4.out).1; omega))
           obtain ⟨ve266_0, rfl, ge266_0⟩ := hMe266
           have hv266_0 := hcc266 0 _ rfl
           rw [Nat.add_zero, show ((Kd.slice 3 (Kd.int .i64))).sz = 1 from rfl, Nat.mul_one] at hv266_0
           replace hv266_0 := Option.some.inj (hv266_0.symm.trans hx266_0)
           rw [hv266_0] at ge266_0
           have HL266_0 := aM (show Kd.R (Kd.int .i64) 3 _ _ _ _ (rd_L1 x4_4 (ji58)) from ge266_0)
           clear hv266_0 ge266_0
           have HX266_0 := aM hx266_0
           clear hcc266 hce266
           (first | simp only [add_plain] at hx266_0 | simp only [add_at] at hx266_0 | simp only [Addr.add, Nat.zero_add] at hx266_0 | skip)
           have HR266_0 := aM hi266_0
           have HC266_0 := aM hl266_0
           clear hi266_0 hl266_0
           replace p266 := eq_true p266
           replace q266 := eq_true q266
           have p267 : 0 ≤ ((Go.bits .or .i64 x45_3 (ji62)) : Int) := dt_
           have q267 : (Go.bits .or .i64 x45_3 (ji62)) < ((rd_L1 x4_4 (ji58)).length : Int) := dt_
           obtain ⟨ad267, e267, hx267_0⟩ := Kd.at_int qz22 (Go.bits .or .i64 x45_3 (ji62)) p267 q267
           cases e267
           replace p267 := eq_true p267
           replace q267 := eq_true q267
           have p268 : 0 ≤ (x5_2 : Int) := dt_
           have q268 : x5_2 < (x4_4.length : Int) := dt_
           obtain ⟨ad268, A268_0, c268_0, e268, hx268_0, hl268_0, hi268_0⟩ := at_L1 (Kd.S_reads' HO_4.out).2.2 x5_2 p268 q268
           obtain rfl : (⟨go14, 0, none⟩ : Addr) = ad268 := (by injection e268)
           obtain ⟨ce268, hce268, hMe268, hcc268⟩ := Kd.S_get HO_4.out [] x5_2 p268 (by first | exact q268 | exact dt_ | (have e_ := (Kd.S_reads' HO_4.out).1; omega))
           obtain ⟨ve268_0, rfl, ge268_0⟩ := hMe268
           have hv268_0 := hcc268 0 _ rfl
           rw [Nat.add_zero, show ((Kd.slice 3 (Kd.int .i64))).sz = 1 from rfl, Nat.mul_one] at hv268_0
           replace hv268_0 := Option.some.inj (hv268_0.symm.trans hx268_0)
           rw [hv268_0] at ge268_0
           have HL268_0 := aM (show Kd.R (Kd.int .i64) 3 _ _ _ _ (rd_L1 x4_4 x5_2) from ge268_0)
           clear hv268_0 ge268_0
           have HX268_0 := aM hx268_0
           clear hcc268 hce268
           (first | simp only [add_plain] at hx268_0 | simp only [add_at] at hx268_0 | simp only [Addr.add, Nat.zero_add] at hx268_0 | skip)
           have HR268_0 := aM hi268_0
           have HC268_0 := aM hl268_0
           clear hi268_0 hl268_0
           replace p268 := eq_true p268
           replace q268 := eq_true q268
           have p269 : 0 ≤ (x45_3 : Int) := dt_
           have q269 : x45_3 < ((rd_L1 x4_4 x5_2).length : Int) := dt_
           obtain ⟨ad269, e269, hx269_0⟩ := Kd.at_int qz23 x45_3 p269 q269
           cases e269
           replace p269 := eq_true p269
           replace q269 := eq_true q269
           have p274 : 0 ≤ (x5_2 : Int) := dt_
           have q274 : x5_2 < (x4_4.length : Int) := dt_
           obtain ⟨ad274, A274_0, c274_0, e274, hx274_0, hl274_0, hi274_0⟩ := at_L1 (Kd.S_reads' HO_4.out).2.2 x5_2 p274 q274
           obtain rfl : (⟨go14, 0, none⟩ : Addr) = ad274 := (by injection e274)
           obtain ⟨ce274, hce274, hMe274, hcc274⟩ := Kd.S_get HO_4.out [] x5_2 p274 (by first | exact q274 | exact dt_ | (have e_ := (Kd.S_reads' HO_4.out).1; omega))
           obtain ⟨ve274_0, rfl, ge274_0⟩ := hMe274
           have hv274_0 := hcc274 0 _ rfl
           rw [Nat.add_zero, show ((Kd.slice 3 (Kd.int .i64))).sz = 1 from rfl, Nat.mul_one] at hv274_0
           replace hv274_0 := Option.some.inj (hv274_0.symm.trans hx274_0)
           rw [hv274_0] at ge274_0
           have HL274_0 := aM (show Kd.R (Kd.int .i64) 3 _ _ _ _ (rd_L1 x4_4 x5_2) from ge274_0)
           clear hv274_0 ge274_0
           have HX274_0 := aM hx274_0
           clear hcc274 hce274
           (first | simp only [add_plain] at hx274_0 | simp only [add_at] at hx274_0 | simp only [Addr.add, Nat.zero_add] at hx274_0 | skip)
           have HR274_0 := aM hi274_0
           have HC274_0 := aM hl274_0
           clear hi274_0 hl274_0
           replace p274 := eq_true p274
           replace q274 := eq_true q274
           have ea_ := Option.some.inj (hx268_0.symm.trans hx274_0)
           injection ea_ with ea_ en_ ec_
           subst ea_
           subst ec_
           clear en_
           have p275 : 0 ≤ (x45_3 : Int) := dt_
           have q275 : x45_3 < ((rd_L1 x4_4 x5_2).length : Int) := dt_
           obtain ⟨ad275, e275, hx275_0⟩ := Kd.at_int qz36 x45_3 p275 q275
           cases e275
           replace p275 := eq_true p275
           replace q275 := eq_true q275
           go_wp2
           repeat (go_quiet (fail); try go_wp2)
           (try simp only [← hl4_4])
           go_roundg kj41
           case measure => have := HJ1.out; have := HK2.out; have := HK3.out; have := HK4.out; have := HJ41.out; omega
           case rel => exact ⟨(x4_4), (wrap64 (x55_4 + 1)), qz3, H', ⟨by have := HJ1.out; have := HK2.out; have := HK3.out; have := HK4.out; have := HJ41.out; omega⟩, ⟨by (try simp only [hl4_2]); (try simp only [hl4_3]); (try simp only [hl4_4]); exact rm_ HO_4.out⟩, ⟨qz1⟩⟩
           }
           }
           }
           {
           exact an_ c67 H
           }
           }
           {
           exact an_ c66 H
           }
           }
           {
           exact an_ c65 H
           }
           }
           {
           exact an_ c64 H
           }
           }
           {
           exact an_ c63 H
           }
           }
           {
           exact an_ c60 H
           }
           }
           {
           exact an_ c59 H
           }
           }
           {
           exact an_ c57 H
           }
           }
           {
           exact an_ c56 H
           }
           }
           {
           exact an_ c55 H
           }
           }
           {
           exact an_ c54 H
           }
           }
         }
         {
         rw [if_neg c41] at H
         have c41b0 := decide_eq_false c41
         clear c41
         have H' := aM H
         clear H
         go_wp2
         repeat (go_quiet (fail); try go_wp2)
         (try simp only [← hl4_3, ← hl4_4])
         go_roundg k4
         case measure => have := HJ1.out; have := HK2.out; have := HK3.out; have := HK4.out; omega
         case rel => exact ⟨(x4_4), (wrap64 (x45_3 + 1)), qz3, H', ⟨by have := HJ1.out; have := HK2.out; have := HK3.out; have := HK4.out; omega⟩, ⟨by (try simp only [hl4_2]); (try simp only [hl4_3]); (try simp only [hl4_4]); exact rm_ HO_4.out⟩, ⟨qz1⟩⟩
         }
       }
       {
       exact an_ c37 H
       }
       }
       {
       exact an_ c36 H
       }
       }
       {
       exact an_ c35 H
       }
       }
       {
       exact an_ c34 H
       }
       }
       {
       rw [if_neg c33] at H
       have c33b0 := decide_eq_false c33
       (try (have c33b0q4_2 := c33b0; simp only [hl4_2] at c33b0q4_2))
       (try (have c33b0q4_3 := c33b0; simp only [hl4_3] at c33b0q4_3))
       clear c33
       have H' := aM H
       clear H
       go_wp2
       repeat (go_quiet (fail); try go_wp2)
       (try simp only [← hl4_2, ← hl4_3])
       go_roundg k3
       case measure => have := HJ1.out; have := HK2.out; have := HK3.out; omega
       case rel => exact ⟨(x4_3), (wrap64 (x5_2 - 1)), qz3, H', ⟨by have := HJ1.out; have := HK2.out; have := HK3.out; omega⟩, ⟨by (try simp only [hl4_2]); (try simp only [hl4_3]); exact rm_ HO_4.out⟩, ⟨qz1⟩⟩
       }
     }
     {
     exact an_ c27 H
     }
     }
     {
     exact an_ c26 H
     }
     }
     {
     exact an_ c25 H
     }
     }
     {
     exact an_ c24 H
     }
     }
     {
     exact an_ c22 H
     }
     }
     {
     rw [if_neg c21] at H
     have c21b0 := decide_eq_false c21
     clear c21
     obtain rfl := Option.some.inj H
     simp only [Option.some.injEq, Prod.mk.injEq] at H
     obtain ⟨rfl⟩ := H
     go_wp2
     repeat (go_quiet (fail); try go_wp2)
     go_ret
     exact ⟨_, by first | rfl | (simp [errW_none, errW_some] <;> rfl) | (simp only [← hji5, ← hji9]; first | rfl | (simp [errW_none, errW_some] <;> rfl)) | (simp [*, errW_none, errW_some] <;> rfl), by (with_reducible repeat (first | apply Kd.S_alloc | apply Kd.S_drewN | apply Kd.S_drew)); exact HO_4.out, qz1⟩
     }
   }
   {
   exact an_ c13 H
   }
   }
   {
   exact an_ c12 H
   }
   }
   {
   exact an_ c11 H
   }
   }
   {
   exact an_ c10 H
   }
   }
   {
   exact an_ c8 H
   }
   }
   {
   exact an_ c7 H
   }
   }
   {
   exact an_ c6 H

   }
end Go.Proofs.Ytbebfhlejnidkaa.PFnExactMatch
