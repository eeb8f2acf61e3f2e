-- Made by a program of this session out of the translation. Lean checks it.
import Derived.Test.YtbebfhlejnidkaaPFnExactMatchx0
namespace Go.Proofs.Ytbebfhlejnidkaa.PFnExactMatch
open Go.RowKit Go.Proofs.YtbebfhlejnidkaaW.PrintWords Go.Proofs.YtbebfhlejnidkaaW.PrintLast Go.Proofs.YtbebfhlejnidkaaW.PrintMore
attribute [local go_sem] max2_int min2_int max_two min_two max_three min_three max_four min_four   -- for this text's walks alone
set_option linter.unusedVariables false
set_option linter.unusedSimpArgs false

/-! ### spec_l4Grow: function 67 -/
mutual
def spec_l4Grow.l0 : Nat → List (List Int) → List Int → List Int → List Int → Int → Int → List Int → List Int → List Bool → Int → Option (List Int × List Int × List Int)
 | 0, _, _, _, _, _, _, _, _, _, _ => none
 | k + 1, x0, x1, x2, x3, x4, x10, x11, x12, x13, x14 => if x14 ≤ x4 then (if 0 ≤ x14 then (if x14 < (x11.length : Int) then (spec_l4Grow.l0 k x0 x1 x2 x3 x4 x10 (x11.set (x14 : Int).toNat x10) x12 x13 (wrap64 (x14 + 1))) else (none)) else (none)) else (spec_l4Grow.l1 k x0 x1 x2 x3 x4 x10 x11 x12 x13 0)
def spec_l4Grow.l1 : Nat → List (List Int) → List Int → List Int → List Int → Int → Int → List Int → List Int → List Bool → Int → Option (List Int × List Int × List Int)
 | 0, _, _, _, _, _, _, _, _, _, _ => none
 | k + 1, x0, x1, x2, x3, x4, x10, x11, x12, x13, x15 => if 0 ≤ x15 then (if x15 < (x13.length : Int) then (if x15 < (x3.length : Int) then (spec_l4Grow.l2 k x0 x1 x2 x3 x4 x10 x11 x12 (x13.set (x15 : Int).toNat true) x15 (rd x3 x15) x10 0 1) else (none)) else (none)) else (none)
def spec_l4Grow.l2 : Nat → List (List Int) → List Int → List Int → List Int → Int → Int → List Int → List Int → List Bool → Int → Int → Int → Int → Int → Option (List Int × List Int × List Int)
 | 0, _, _, _, _, _, _, _, _, _, _, _, _, _, _ => none
 | k + 1, x0, x1, x2, x3, x4, x10, x11, x12, x13, x15, x16, x17, x18, x19 => if x19 ≤ x4 then (if 0 ≤ x19 then (if x19 < (x13.length : Int) then (if rdOf false x13 x19 = true then (spec_l4Grow.l2 k x0 x1 x2 x3 x4 x10 x11 x12 x13 x15 x16 x17 x18 (wrap64 (x19 + 1))) else (if 0 ≤ (wrap64 (x16 - 1)) then (if (wrap64 (x16 - 1)) < (x0.length : Int) then (if 0 ≤ (wrap64 (x19 - 1)) then (if (wrap64 (x19 - 1)) < ((rd_L1 x0 (wrap64 (x16 - 1))).length : Int) then (if 0 ≤ x16 then (if x16 < (x1.length : Int) then (if x19 < (x2.length : Int) then (if x19 < (x11.length : Int) then (if (wrap64 ((wrap64 ((rd (rd_L1 x0 (wrap64 (x16 - 1))) (wrap64 (x19 - 1))) - (rd x1 x16))) - (rd x2 x19))) < (rd x11 x19) then ((some (x11.set (x19 : Int).toNat (wrap64 ((wrap64 ((rd (rd_L1 x0 (wrap64 (x16 - 1))) (wrap64 (x19 - 1))) - (rd x1 x16))) - (rd x2 x19))) : List Int)).bind fun y129 => (if x19 < (x12.length : Int) then ((some (x12.set (x19 : Int).toNat x15 : List Int)).bind fun y130 => (if (rd y129 x19) < x17 then (spec_l4Grow.l2 k x0 x1 x2 x3 x4 x10 y129 y130 x13 x15 x16 (rd y129 x19) x19 (wrap64 (x19 + 1))) else (spec_l4Grow.l2 k x0 x1 x2 x3 x4 x10 y129 y130 x13 x15 x16 x17 x18 (wrap64 (x19 + 1))))) else (none))) else (if (rd x11 x19) < x17 then (spec_l4Grow.l2 k x0 x1 x2 x3 x4 x10 x11 x12 x13 x15 x16 (rd x11 x19) x19 (wrap64 (x19 + 1))) else (spec_l4Grow.l2 k x0 x1 x2 x3 x4 x10 x11 x12 x13 x15 x16 x17 x18 (wrap64 (x19 + 1))))) else (none)) else (none)) else (none)) else (none)) else (none)) else (none)) else (none)) else (none))) else (none)) else (none)) else (spec_l4Grow.l3 k x0 x1 x2 x3 x4 x10 x11 x12 x13 x17 x18 0)
def spec_l4Grow.l3 : Nat → List (List Int) → List Int → List Int → List Int → Int → Int → List Int → List Int → List Bool → Int → Int → Int → Option (List Int × List Int × List Int)
 | 0, _, _, _, _, _, _, _, _, _, _, _, _ => none
 | k + 1, x0, x1, x2, x3, x4, x10, x11, x12, x13, x17, x18, x21 => if x21 ≤ x4 then (if 0 ≤ x21 then (if x21 < (x13.length : Int) then (if rdOf false x13 x21 = true then (if x21 < (x3.length : Int) then (if 0 ≤ (rd x3 x21) then (if (rd x3 x21) < (x1.length : Int) then (if x21 < (x2.length : Int) then (spec_l4Grow.l3 k x0 (x1.set ((rd x3 x21) : Int).toNat (wrap64 ((rd x1 (rd x3 x21)) + x17))) (x2.set (x21 : Int).toNat (wrap64 ((rd x2 x21) - x17))) x3 x4 x10 x11 x12 x13 x17 x18 (wrap64 (x21 + 1))) else (none)) else (none)) else (none)) else (none)) else (if x21 < (x11.length : Int) then (spec_l4Grow.l3 k x0 x1 x2 x3 x4 x10 (x11.set (x21 : Int).toNat (wrap64 ((rd x11 x21) - x17))) x12 x13 x17 x18 (wrap64 (x21 + 1))) else (none))) else (none)) else (none)) else (if 0 ≤ x18 then (if x18 < (x3.length : Int) then (if (rd x3 x18) = 0 then (spec_l4Grow.l4 k x1 x2 x3 x12 x18) else (spec_l4Grow.l1 k x0 x1 x2 x3 x4 x10 x11 x12 x13 x18)) else (none)) else (none))
def spec_l4Grow.l4 : Nat → List Int → List Int → List Int → List Int → Int → Option (List Int × List Int × List Int)
 | 0, _, _, _, _, _ => none
 | k + 1, x1, x2, x3, x12, x15 => if x15 = 0 then (some (x1, x2, x3)) else (if 0 ≤ x15 then (if x15 < (x12.length : Int) then (if 0 ≤ (rd x12 x15) then (if (rd x12 x15) < (x3.length : Int) then (if x15 < (x3.length : Int) then (spec_l4Grow.l4 k x1 x2 (x3.set (x15 : Int).toNat (rd x3 (rd x12 x15))) x12 (rd x12 x15)) else (none)) else (none)) else (none)) else (none)) else (none))
end
def spec_l4Grow.f (k : Nat) (l0 : List (List Int)) (l1 : List Int) (l2 : List Int) (l3 : List Int) (a4 : Int) : Option (List Int × List Int × List Int) := if 0 ≤ (wrap64 (a4 + 1)) then (if (wrap64 (a4 + 1) : Int).toNat ≤ 35184372088832 then (if (wrap64 (a4 + 1) : Int).toNat ≤ 281474976710656 then (spec_l4Grow.l0 k l0 l1 l2 l3 a4 1099511627776 (List.replicate (wrap64 (a4 + 1) : Int).toNat 0) (List.replicate (wrap64 (a4 + 1) : Int).toNat 0) (List.replicate (wrap64 (a4 + 1) : Int).toNat false) 0) else (none)) else (none)) else (none)
theorem spec_l4Grow.mono_l : ∀ k, (∀ y0 y1 y2 y3 y4 y5 y6 y7 y8 y9, LeO (spec_l4Grow.l0 k y0 y1 y2 y3 y4 y5 y6 y7 y8 y9) (spec_l4Grow.l0 (k + 1) y0 y1 y2 y3 y4 y5 y6 y7 y8 y9)) ∧ (∀ y0 y1 y2 y3 y4 y5 y6 y7 y8 y9, LeO (spec_l4Grow.l1 k y0 y1 y2 y3 y4 y5 y6 y7 y8 y9) (spec_l4Grow.l1 (k + 1) y0 y1 y2 y3 y4 y5 y6 y7 y8 y9)) ∧ (∀ y0 y1 y2 y3 y4 y5 y6 y7 y8 y9 y10 y11 y12 y13, LeO (spec_l4Grow.l2 k y0 y1 y2 y3 y4 y5 y6 y7 y8 y9 y10 y11 y12 y13) (spec_l4Grow.l2 (k + 1) y0 y1 y2 y3 y4 y5 y6 y7 y8 y9 y10 y11 y12 y13)) ∧ (∀ y0 y1 y2 y3 y4 y5 y6 y7 y8 y9 y10 y11, LeO (spec_l4Grow.l3 k y0 y1 y2 y3 y4 y5 y6 y7 y8 y9 y10 y11) (spec_l4Grow.l3 (k + 1) y0 y1 y2 y3 y4 y5 y6 y7 y8 y9 y10 y11)) ∧ (∀ y0 y1 y2 y3 y4, LeO (spec_l4Grow.l4 k y0 y1 y2 y3 y4) (spec_l4Grow.l4 (k + 1) y0 y1 y2 y3 y4))
 | 0 => ⟨fun _ _ _ _ _ _ _ _ _ _ r h => by simp [spec_l4Grow.l0] at h, fun _ _ _ _ _ _ _ _ _ _ r h => by simp [spec_l4Grow.l1] at h, fun _ _ _ _ _ _ _ _ _ _ _ _ _ _ r h => by simp [spec_l4Grow.l2] at h, fun _ _ _ _ _ _ _ _ _ _ _ _ r h => by simp [spec_l4Grow.l3] at h, fun _ _ _ _ _ r h => by simp [spec_l4Grow.l4] at h⟩
 | k + 1 => by
  obtain ⟨ih0, ih1, ih2, ih3, ih4⟩ := spec_l4Grow.mono_l k
  refine ⟨?_, ?_, ?_, ?_, ?_⟩
  {
  intro y0 y1 y2 y3 y4 y5 y6 y7 y8 y9
  unfold spec_l4Grow.l0
  exact qL
  }
  {
  intro y0 y1 y2 y3 y4 y5 y6 y7 y8 y9
  unfold spec_l4Grow.l1
  exact qL
  }
  {
  intro y0 y1 y2 y3 y4 y5 y6 y7 y8 y9 y10 y11 y12 y13
  unfold spec_l4Grow.l2
  exact qL
  }
  {
  intro y0 y1 y2 y3 y4 y5 y6 y7 y8 y9 y10 y11
  unfold spec_l4Grow.l3
  exact qL
  }
  {
  intro y0 y1 y2 y3 y4
  unfold spec_l4Grow.l4
  exact qL
  }
theorem spec_l4Grow.mono : ∀ a0 a1 a2 a3 a4 k, LeO (spec_l4Grow.f k a0 a1 a2 a3 a4) (spec_l4Grow.f (k + 1) a0 a1 a2 a3 a4) := by
 intro a0 a1 a2 a3 a4 k
 obtain ⟨ih0, ih1, ih2, ih3, ih4⟩ := spec_l4Grow.mono_l k
 unfold spec_l4Grow.f
 exact qL
def spec_l4Grow.T17 : Bool × List (List Nat × List Nat) := (true, [([], []), ([], []), ([1], [1]), ([0, 2], [0, 2]), ([3], [3]), ([], []), ([5], [5]), ([4, 6], [4, 6]), ([7], [7]), ([], []), ([], []), ([9, 10], [9, 10]), ([11], [11]), ([8, 12], [8, 12]), ([], []), ([], []), ([14, 15], [14, 15]), ([16], [16]), ([13, 17], [13, 17]), ([18, 0, 1, 2, 3, 4, 5, 6, 7, 8, 9, 10, 11, 12, 13, 14, 15, 16, 17, 18], [18])])
def spec_l4Grow.B17 : List Nat := [0, 0, 2, 7, 15, 0, 32, 127, 255, 0, 0, 1536, 3584, 8191, 0, 0, 49152, 114688, 262143, 524287]
theorem spec_l4Grow.tab17 : rtab .any (opsOf Try.f67 17) = spec_l4Grow.T17 := by kernel_rfl
theorem spec_l4Grow.bits17 : waitsOk spec_l4Grow.T17.2 spec_l4Grow.B17 = true := by kernel_rfl
def spec_l4Grow.T28 : Bool × List (List Nat × List Nat) := (true, [([], []), ([], []), ([], []), ([1, 2], [1, 2]), ([3], [3]), ([], []), ([], []), ([], []), ([6, 7], [6, 7]), ([8], [8]), ([5, 9], [5, 9]), ([10], [10]), ([], []), ([11, 12], [11, 12]), ([0, 4, 0, 1, 2, 3, 4, 5, 6, 7, 8, 9, 10, 11, 12, 13], [0, 4]), ([14, 13, 0, 1, 2, 3, 4, 5, 6, 7, 8, 9, 10, 11, 12, 13], [13, 14])])
def spec_l4Grow.B28 : List Nat := [0, 0, 0, 6, 14, 0, 0, 0, 192, 448, 992, 2016, 0, 8160, 16383, 32767]
theorem spec_l4Grow.tab28 : rtab .any (opsOf Try.f67 28) = spec_l4Grow.T28 := by kernel_rfl
theorem spec_l4Grow.bits28 : waitsOk spec_l4Grow.T28.2 spec_l4Grow.B28 = true := by kernel_rfl
set_option maxHeartbeats 8000000 in
set_option maxRecDepth 100000 in
theorem spec_l4Grow.calls (k : Nat) (A0 : Option Addr) (c0 : Nat) (l0 : List (List Int)) (P1_ : Nat → Prop) (u9000_ : Value) (l1 : List Int) (P2_ : Nat → Prop) (u9001_ : Value) (l2 : List Int) (P3_ : Nat → Prop) (u9002_ : Value) (l3 : List Int) (a4 : Int) (r1 : List Int) (r2 : List Int) (r3 : List Int) (w0 w : World) (hB : Below w0.heap.size w0 w) (hr0 : ∀ W_, Kept w W_ (fun k_ => P1_ k_ ∨ P2_ k_ ∨ P3_ k_) → Kd.C (Kd.slice 3 (Kd.int .i64)) W_ A0 l0.length l0) (hc0 : l0.length ≤ c0) (ho1 : Kd.R (Kd.int .i64) 3 w w0.heap.size P1_ u9000_ l1) (hp1_2 : ∀ k_, P1_ k_ → ¬ P2_ k_) (hp1_3 : ∀ k_, P1_ k_ → ¬ P3_ k_) (ho2 : Kd.R (Kd.int .i64) 3 w w0.heap.size P2_ u9001_ l2) (hp2_1 : ∀ k_, P2_ k_ → ¬ P1_ k_) (hp2_3 : ∀ k_, P2_ k_ → ¬ P3_ k_) (ho3 : Kd.R (Kd.int .i64) 3 w w0.heap.size P3_ u9002_ l3) (hp3_1 : ∀ k_, P3_ k_ → ¬ P1_ k_) (hp3_2 : ∀ k_, P3_ k_ → ¬ P2_ k_) (h : spec_l4Grow.f k l0 l1 l2 l3 a4 = some (r1, r2, r3)) :
  Calls Try.prog 67 #[.slice A0 l0.length c0, u9000_, u9001_, u9002_, .int .i64 a4] w fun e w' => e = .returned (.tuple #[]) ∧ Kd.R (Kd.int .i64) 3 w' w0.heap.size (fun k_ => ((P1_ k_ ∨ P2_ k_ ∨ P3_ k_) ∨ w.heap.size ≤ k_)) u9000_ r1 ∧ Kd.R (Kd.int .i64) 3 w' w0.heap.size (fun k_ => ((P1_ k_ ∨ P2_ k_ ∨ P3_ k_) ∨ w.heap.size ≤ k_)) u9001_ r2 ∧ Kd.R (Kd.int .i64) 3 w' w0.heap.size (fun k_ => ((P1_ k_ ∨ P2_ k_ ∨ P3_ k_) ∨ w.heap.size ≤ k_)) u9002_ r3 ∧ Below w0.heap.size w0 w' ∧ Kept w w' (fun k_ => P1_ k_ ∨ P2_ k_ ∨ P3_ k_) := by
 have HR0 := aM hr0
 have HC0 := aM hc0
 clear hr0 hc0
 have HO1 := aM (show Kd.R (Kd.int .i64) 3 w w0.heap.size (fun k_ => ((P1_ k_ ∨ P2_ k_ ∨ P3_ k_) ∨ w.heap.size ≤ k_) ∧ some k_ ≠ (u9001_ : Value).ownBlock ∧ some k_ ≠ (u9002_ : Value).ownBlock) u9000_ l1 from Kd.R_mono ho1 (fun k_ hk => ⟨(.inl (.inl hk)), fun e_ => hp1_2 k_ hk (ho2.1 k_ e_.symm), fun e_ => hp1_3 k_ hk (ho3.1 k_ e_.symm)⟩))
 have HO2 := aM (show Kd.R (Kd.int .i64) 3 w w0.heap.size (fun k_ => ((P1_ k_ ∨ P2_ k_ ∨ P3_ k_) ∨ w.heap.size ≤ k_) ∧ some k_ ≠ (u9000_ : Value).ownBlock ∧ some k_ ≠ (u9002_ : Value).ownBlock) u9001_ l2 from Kd.R_mono ho2 (fun k_ hk => ⟨(.inl (.inr (.inl hk))), fun e_ => hp2_1 k_ hk (ho1.1 k_ e_.symm), fun e_ => hp2_3 k_ hk (ho3.1 k_ e_.symm)⟩))
 have HO3 := aM (show Kd.R (Kd.int .i64) 3 w w0.heap.size (fun k_ => ((P1_ k_ ∨ P2_ k_ ∨ P3_ k_) ∨ w.heap.size ≤ k_) ∧ some k_ ≠ (u9000_ : Value).ownBlock ∧ some k_ ≠ (u9001_ : Value).ownBlock) u9002_ l3 from Kd.R_mono ho3 (fun k_ hk => ⟨(.inl (.inr (.inr hk))), fun e_ => hp3_1 k_ hk (ho1.1 k_ e_.symm), fun e_ => hp3_2 k_ hk (ho2.1 k_ e_.symm)⟩))
 have HK := aM (Kept.refl w (fun k_ => P1_ k_ ∨ P2_ k_ ∨ P3_ k_))
 have HW0 := aM hB.size
 have HB := aM hB
 clear hB
 have H : (if 0 ≤ (wrap64 (a4 + 1)) then (if (wrap64 (a4 + 1) : Int).toNat ≤ 35184372088832 then (if (wrap64 (a4 + 1) : Int).toNat ≤ 281474976710656 then (spec_l4Grow.l0 k l0 l1 l2 l3 a4 1099511627776 (List.replicate (wrap64 (a4 + 1) : Int).toNat 0) (List.replicate (wrap64 (a4 + 1) : Int).toNat 0) (List.replicate (wrap64 (a4 + 1) : Int).toNat false) 0) else (none)) else (none)) else (none)) = some (r1, r2, r3) := h
 clear h
 obtain ⟨ji6, hji6⟩ : ∃ j_ : Int, (wrap64 (a4 + 1)) = j_ := ⟨_, rfl⟩
 replace H : (if 0 ≤ (ji6) then (if (ji6 : Int).toNat ≤ 35184372088832 then (if (ji6 : Int).toNat ≤ 281474976710656 then (spec_l4Grow.l0 k l0 l1 l2 l3 a4 1099511627776 (List.replicate (ji6 : Int).toNat 0) (List.replicate (ji6 : Int).toNat 0) (List.replicate (ji6 : Int).toNat false) 0) else (none)) else (none)) else (none)) = some (r1, r2, r3) := by first | (rw [hji6] at H; exact H) | (simp only [hji6] at H ⊢; exact H)
 have hji6w : (IntKind.i64.wrap (a4 + 1)) = ji6 := (i64_w _).trans hji6
 by_cases c7 : 0 ≤ (ji6)
 {
 rw [if_pos c7] at H
 have c7b0 := eq_true c7
 have c7b1 := decide_eq_true c7
 clear c7
 by_cases c8 : (ji6 : Int).toNat ≤ 35184372088832
 {
 rw [if_pos c8] at H
 have c8b0 := eq_true c8
 have c8b1 := decide_eq_true c8
 clear c8
 obtain ⟨y111, hy111⟩ : ∃ y_ : List Int, y_ = (List.replicate (ji6 : Int).toNat 0) := ⟨_, rfl⟩
 replace H : (if (ji6 : Int).toNat ≤ 281474976710656 then (spec_l4Grow.l0 k l0 l1 l2 l3 a4 1099511627776 y111 (List.replicate (ji6 : Int).toNat 0) (List.replicate (ji6 : Int).toNat false) 0) else (none)) = some (r1, r2, r3) := by first | (rw [hy111]; with_reducible exact H) | (have H2_ := (Option.bind_some _ _).symm.trans H; rw [hy111]; with_reducible exact H2_) | (have H2_ := (Option.bind_some _ _).symm.trans H; with_reducible exact H2_) | with_reducible exact H | (rw [hy111]; exact H) | exact H
 have Ny111 := aM hy111
 clear hy111
 obtain ⟨y114, hy114⟩ : ∃ y_ : List Int, y_ = (List.replicate (ji6 : Int).toNat 0) := ⟨_, rfl⟩
 replace H : (if (ji6 : Int).toNat ≤ 281474976710656 then (spec_l4Grow.l0 k l0 l1 l2 l3 a4 1099511627776 y111 y114 (List.replicate (ji6 : Int).toNat false) 0) else (none)) = some (r1, r2, r3) := by first | (rw [hy114]; with_reducible exact H) | (have H2_ := (Option.bind_some _ _).symm.trans H; rw [hy114]; with_reducible exact H2_) | (have H2_ := (Option.bind_some _ _).symm.trans H; with_reducible exact H2_) | with_reducible exact H | (rw [hy114]; exact H) | exact H
 have Ny114 := aM hy114
 clear hy114
 by_cases c9 : (ji6 : Int).toNat ≤ 281474976710656
 {
 rw [if_pos c9] at H
 have c9b0 := eq_true c9
 have c9b1 := decide_eq_true c9
 clear c9
 obtain ⟨y117, hy117⟩ : ∃ y_ : List Bool, y_ = (List.replicate (ji6 : Int).toNat false) := ⟨_, rfl⟩
 replace H : (spec_l4Grow.l0 k l0 l1 l2 l3 a4 1099511627776 y111 y114 y117 0) = some (r1, r2, r3) := by first | (rw [hy117]; with_reducible exact H) | (have H2_ := (Option.bind_some _ _).symm.trans H; rw [hy117]; with_reducible exact H2_) | (have H2_ := (Option.bind_some _ _).symm.trans H; with_reducible exact H2_) | with_reducible exact H | (rw [hy117]; exact H) | exact H
 have Ny117 := aM hy117
 clear hy117
 have H' := aM H
 clear H
 go_enter Try.func67, Try.ntmps67
 go_wp2_with (first | ((with_reducible refine gate_dst (N := 25) rfl ?_); refine Kd.R_make (Kd.int .i64) _ 3 rfl (N := 25) rfl 24 _ _ rfl ji6 rfl rfl Try.underlying24 (.int .i64 0) 8 info3 rfl (by decide) (by omega) 0 (ok := fun _ => True) (okp := fun _ => True) rfl (fun _ hk => hk) trivial (dt_) (Nat.le_trans (Nat.mul_le_mul_right _ (dt_ : ji6.toNat ≤ 35184372088832)) (by omega)) (Below.refl _ _) (Nat.le_refl _) ?_; intro v112 w10 ho11 hb hg_ hnew_; clear hg_ hnew_; (first | rw [← Ny111.out] at ho11 | (simp only [Int.reduceToNat] at ho11; rw [← Ny111.out] at ho11)); have HO113 := aM (Kd.R_lower (Kd.R_new' (Kd.R_new' (Kd.R_new' (Kd.R_newM (M := fun k_ => ((P1_ k_ ∨ P2_ k_ ∨ P3_ k_) ∨ w.heap.size ≤ k_)) ho11 qz46 (fun k_ h_ => .inr h_)) (Kd.R_lt (rr_ HO1.out))) (Kd.R_lt (rr_ HO2.out))) (Kd.R_lt (rr_ HO3.out))) (below_size qz1)); replace HO1 := aM (Kd.R_elder' (rr_ HO1.out) (Kd.R_base ho11) hb); replace HO2 := aM (Kd.R_elder' (rr_ HO2.out) (Kd.R_base ho11) hb); replace HO3 := aM (Kd.R_elder' (rr_ HO3.out) (Kd.R_base ho11) hb); replace HK := aM (Kept.below (S := (fun k_ => P1_ k_ ∨ P2_ k_ ∨ P3_ k_)) qz2 hb); replace HB := bS_ hb; clear hb ho11) | ((with_reducible refine gate_dst (N := 28) rfl ?_); refine Kd.R_make (Kd.int .i64) _ 3 rfl (N := 28) rfl 24 _ _ rfl ji6 rfl rfl Try.underlying24 (.int .i64 0) 8 info3 rfl (by decide) (by omega) 0 (ok := fun _ => True) (okp := fun _ => True) rfl (fun _ hk => hk) trivial (dt_) (Nat.le_trans (Nat.mul_le_mul_right _ (dt_ : ji6.toNat ≤ 35184372088832)) (by omega)) (Below.refl _ _) (Nat.le_refl _) ?_; intro v115 w12 ho13 hb hg_ hnew_; clear hg_ hnew_; (first | rw [← Ny114.out] at ho13 | (simp only [Int.reduceToNat] at ho13; rw [← Ny114.out] at ho13)); have HO116 := aM (Kd.R_lower (Kd.R_new' (Kd.R_new' (Kd.R_new' (Kd.R_new' (Kd.R_newM (M := fun k_ => ((P1_ k_ ∨ P2_ k_ ∨ P3_ k_) ∨ w.heap.size ≤ k_)) ho13 qz46 (fun k_ h_ => .inr h_)) (Kd.R_lt (rr_ HO1.out))) (Kd.R_lt (rr_ HO2.out))) (Kd.R_lt (rr_ HO3.out))) (Kd.R_lt (rr_ HO113.out))) (below_size qz1)); replace HO1 := aM (Kd.R_elder' (rr_ HO1.out) (Kd.R_base ho13) hb); replace HO2 := aM (Kd.R_elder' (rr_ HO2.out) (Kd.R_base ho13) hb); replace HO3 := aM (Kd.R_elder' (rr_ HO3.out) (Kd.R_base ho13) hb); replace HO113 := aM (Kd.R_elder' (rr_ HO113.out) (Kd.R_base ho13) hb); replace HK := aM (Kept.below (S := (fun k_ => P1_ k_ ∨ P2_ k_ ∨ P3_ k_)) qz2 hb); replace HB := bS_ hb; clear hb ho13) | ((with_reducible refine gate_dst (N := 31) rfl ?_); refine Kd.R_make Kd.bool _ 4 rfl (N := 31) rfl 36 _ _ rfl ji6 rfl rfl Try.underlying36 (.bool false) 1 info4 rfl (by decide) (by omega) false (ok := fun _ => True) (okp := fun _ => True) rfl (fun _ hk => hk) trivial (dt_) (Nat.le_trans (Nat.mul_le_mul_right _ (dt_ : ji6.toNat ≤ 281474976710656)) (by omega)) (Below.refl _ _) (Nat.le_refl _) ?_; intro v118 w14 ho15 hb hg_ hnew_; clear hg_ hnew_; (first | rw [← Ny117.out] at ho15 | (simp only [Int.reduceToNat] at ho15; rw [← Ny117.out] at ho15)); replace HO1 := aM (Kd.R_below (rr_ HO1.out) hb); replace HO2 := aM (Kd.R_below (rr_ HO2.out) hb); replace HO3 := aM (Kd.R_below (rr_ HO3.out) hb); replace HO113 := aM (Kd.R_below (rr_ HO113.out) hb); replace HO116 := aM (Kd.R_below (rr_ HO116.out) hb); have HO119 := aM (Kd.R_lower (Kd.R_newM (M := fun k_ => ((P1_ k_ ∨ P2_ k_ ∨ P3_ k_) ∨ w.heap.size ≤ k_)) ho15 qz46 (fun k_ h_ => .inr h_)) (below_size qz1)); replace HK := aM (Kept.below (S := (fun k_ => P1_ k_ ∨ P2_ k_ ∨ P3_ k_)) qz2 hb); replace HB := bS_ hb; clear hb ho15))
 go_loopg [14] k (fun kq v14 w' => ∃ (x11_1 : List Int) (x14_1 : Int), v14 = .int .i64 x14_1 ∧ Aside0 (spec_l4Grow.l0 kq l0 l1 l2 l3 a4 1099511627776 x11_1 y114 y117 x14_1 = some (r1, r2, r3)) ∧ Aside0 (kq ≤ k) ∧ Aside0 (Kd.R (Kd.int .i64) 3 w' w0.heap.size (fun k_ => ((P1_ k_ ∨ P2_ k_ ∨ P3_ k_) ∨ w.heap.size ≤ k_) ∧ some k_ ≠ (u9001_ : Value).ownBlock ∧ some k_ ≠ (u9002_ : Value).ownBlock ∧ some k_ ≠ (v112 : Value).ownBlock ∧ some k_ ≠ (v115 : Value).ownBlock) u9000_ l1) ∧ Aside0 (Kd.R (Kd.int .i64) 3 w' w0.heap.size (fun k_ => ((P1_ k_ ∨ P2_ k_ ∨ P3_ k_) ∨ w.heap.size ≤ k_) ∧ some k_ ≠ (u9000_ : Value).ownBlock ∧ some k_ ≠ (u9002_ : Value).ownBlock ∧ some k_ ≠ (v112 : Value).ownBlock ∧ some k_ ≠ (v115 : Value).ownBlock) u9001_ l2) ∧ Aside0 (Kd.R (Kd.int .i64) 3 w' w0.heap.size (fun k_ => ((P1_ k_ ∨ P2_ k_ ∨ P3_ k_) ∨ w.heap.size ≤ k_) ∧ some k_ ≠ (u9000_ : Value).ownBlock ∧ some k_ ≠ (u9001_ : Value).ownBlock ∧ some k_ ≠ (v112 : Value).ownBlock ∧ some k_ ≠ (v115 : Value).ownBlock) u9002_ l3) ∧ Aside0 (Kd.R (Kd.int .i64) 3 w' w0.heap.size (fun k_ => ((P1_ k_ ∨ P2_ k_ ∨ P3_ k_) ∨ w.heap.size ≤ k_) ∧ some k_ ≠ (u9000_ : Value).ownBlock ∧ some k_ ≠ (u9001_ : Value).ownBlock ∧ some k_ ≠ (u9002_ : Value).ownBlock ∧ some k_ ≠ (v115 : Value).ownBlock) v112 x11_1) ∧ Aside0 (Kd.R (Kd.int .i64) 3 w' w0.heap.size (fun k_ => ((P1_ k_ ∨ P2_ k_ ∨ P3_ k_) ∨ w.heap.size ≤ k_) ∧ some k_ ≠ (u9000_ : Value).ownBlock ∧ some k_ ≠ (u9001_ : Value).ownBlock ∧ some k_ ≠ (u9002_ : Value).ownBlock ∧ some k_ ≠ (v112 : Value).ownBlock) v115 y114) ∧ Aside0 (Kd.R Kd.bool 4 w' w0.heap.size (fun k_ => ((P1_ k_ ∨ P2_ k_ ∨ P3_ k_) ∨ w.heap.size ≤ k_)) v118 y117) ∧ Aside0 (Kept w w' (fun k_ => P1_ k_ ∨ P2_ k_ ∨ P3_ k_)) ∧ Aside0 (Below w0.heap.size w0 w'))
 case atStart => exact ⟨(y111), (0), qz3, H', ⟨Nat.le_refl _⟩, ⟨by (with_reducible repeat (first | apply Kd.R_alloc | apply Kd.R_drewN | apply Kd.R_drew)); exact Kd.R_mono HO1.out (fun _ hk => ⟨hk.1.1.1, ⟨hk.1.1.2.1, ⟨hk.1.1.2.2, ⟨hk.1.2, hk.2⟩⟩⟩⟩)⟩, ⟨by (with_reducible repeat (first | apply Kd.R_alloc | apply Kd.R_drewN | apply Kd.R_drew)); exact Kd.R_mono HO2.out (fun _ hk => ⟨hk.1.1.1, ⟨hk.1.1.2.1, ⟨hk.1.1.2.2, ⟨hk.1.2, hk.2⟩⟩⟩⟩)⟩, ⟨by (with_reducible repeat (first | apply Kd.R_alloc | apply Kd.R_drewN | apply Kd.R_drew)); exact Kd.R_mono HO3.out (fun _ hk => ⟨hk.1.1.1, ⟨hk.1.1.2.1, ⟨hk.1.1.2.2, ⟨hk.1.2, hk.2⟩⟩⟩⟩)⟩, ⟨by (with_reducible repeat (first | apply Kd.R_alloc | apply Kd.R_drewN | apply Kd.R_drew)); exact Kd.R_mono HO113.out (fun _ hk => ⟨hk.1.1.1.1.1, ⟨hk.1.1.1.2, ⟨hk.1.1.2, ⟨hk.1.2, hk.2⟩⟩⟩⟩)⟩, ⟨by (with_reducible repeat (first | apply Kd.R_alloc | apply Kd.R_drewN | apply Kd.R_drew)); exact Kd.R_mono HO116.out (fun _ hk => ⟨hk.1.1.1.1.1, ⟨hk.1.1.1.2, ⟨hk.1.1.2, ⟨hk.1.2, hk.2⟩⟩⟩⟩)⟩, ⟨by (with_reducible repeat (first | apply Kd.R_alloc | apply Kd.R_drewN | apply Kd.R_drew)); exact Kd.R_mono HO119.out (fun _ hk => hk.1)⟩, ⟨qz2⟩, ⟨qz1⟩⟩
 case round =>
  clear H'
  try clear p1
  try clear p2
  try clear p3
  try clear c6
  try clear p6
  try clear c7
  try clear c7b0
  try clear c7b1
  try clear c8
  try clear c8b0
  try clear c8b1
  try clear c9
  try clear c9b0
  try clear c9b1
  obtain ⟨x11_1, x14_1, rfl, HA, HK1, HO_1, HO_2, HO_3, HO_11, HO_12, HO_13, HK, HB⟩ := hrel
  cases gk with
  | zero => exact absurd HA.out (by simp [spec_l4Grow.l0])
  | succ k1 =>
   have H := HA.out
   clear HA
   simp only [spec_l4Grow.l0] at H
   by_cases c16 : x14_1 ≤ a4
   {
   rw [if_pos c16] at H
   have c16b0 := decide_eq_true c16
   clear c16
   by_cases c17 : 0 ≤ x14_1
   {
   rw [if_pos c17] at H
   have c17b0 := decide_eq_true c17
   clear c17
   by_cases c18 : x14_1 < (x11_1.length : Int)
   {
   rw [if_pos c18] at H
   have c18b0 := decide_eq_true c18
   clear c18
   obtain ⟨y120, hy120⟩ : ∃ y_ : List Int, y_ = (x11_1.set (x14_1 : Int).toNat 1099511627776) := ⟨_, rfl⟩
   replace H : (spec_l4Grow.l0 k1 l0 l1 l2 l3 a4 1099511627776 y120 y114 y117 (wrap64 (x14_1 + 1))) = some (r1, r2, r3) := by first | (rw [hy120]; with_reducible exact H) | (have H2_ := (Option.bind_some _ _).symm.trans H; rw [hy120]; with_reducible exact H2_) | (have H2_ := (Option.bind_some _ _).symm.trans H; with_reducible exact H2_) | with_reducible exact H | (rw [hy120]; exact H) | exact H
   have Ny120 := aM hy120
   clear hy120
   have H' := aM H
   clear H
   have p19 : 0 ≤ (x14_1 : Int) := dt_
   have q19 : (x14_1 : Int) < ((x11_1.length : Int) : Int) := dt_
   obtain ⟨go19, co19, eo19, gb19, gl19, cl19, HG19⟩ := Kd.R_form HO_11.out (by omega)
   (first | cases eo19 | (injection eo19 with ea_ en_ ec_; (first | subst ea_ | (injection ea_ with ea_; subst ea_)); subst ec_; clear en_))
   have GB19 := aM gb19
   have GG19 := aM HG19
   clear gb19 gl19 HG19
   have HMgo19 := aM (show ((P1_ go19 ∨ P2_ go19 ∨ P3_ go19) ∨ w.heap.size ≤ go19) from (HO_11.out.1 _ rfl).1)
   obtain ⟨hx19_0, hf19_0⟩ := Kd.R_celln 0 HO_11.out (x14_1 : Int) p19 q19
   replace p19 := eq_true p19
   replace q19 := eq_true q19
   obtain ⟨hy20_, hz20_⟩ := Kd.R_celln 0 HO_11.out (x14_1 : Int) (dt_) (dt_)
   have HP20 := Kd.R_putg HO_11.out (x14_1 : Int) 1099511627776
   go_wp2_with (first | ((with_reducible refine gate_store (t := 3) (p := 40) rfl ?_); refine store_event (t := 3) (p := 40) (v := ?vo_w21) (w1 := (wr.setCell ⟨go19, (x14_1 : Int).toNat, none⟩ (.int .i64 1099511627776))) ?hg ?ho ?hn ?hr ?_; (case ho => rfl); (case hg => rfl); (case hn => rfl); (case hr => exact qz8); intro w21 hw; have hg : wr.grownBy w21 (some go19) := (by rw [hw]; exact HP20.2); have hp_ : Kd.R (Kd.int .i64) 3 w21 w0.heap.size (fun k_ => ((P1_ k_ ∨ P2_ k_ ∨ P3_ k_) ∨ w.heap.size ≤ k_) ∧ some k_ ≠ (u9000_ : Value).ownBlock ∧ some k_ ≠ (u9001_ : Value).ownBlock ∧ some k_ ≠ (u9002_ : Value).ownBlock ∧ some k_ ≠ (v115 : Value).ownBlock) (.slice (some ⟨go19, 0, none⟩) x11_1.length co19) y120 := (by rw [hw, Ny120.out]; exact HP20.1); clear HP20; replace HO_1 := aM (Kd.R_after (v := (.slice (some ⟨go19, 0, none⟩) x11_1.length co19)) (v1 := (.slice (some ⟨go19, 0, none⟩) x11_1.length co19)) (ok := (fun k_ => ((P1_ k_ ∨ P2_ k_ ∨ P3_ k_) ∨ w.heap.size ≤ k_) ∧ some k_ ≠ (u9001_ : Value).ownBlock ∧ some k_ ≠ (u9002_ : Value).ownBlock ∧ some k_ ≠ (v115 : Value).ownBlock)) qz15 hg (.inl rfl)); replace HO_2 := aM (Kd.R_after (v := (.slice (some ⟨go19, 0, none⟩) x11_1.length co19)) (v1 := (.slice (some ⟨go19, 0, none⟩) x11_1.length co19)) (ok := (fun k_ => ((P1_ k_ ∨ P2_ k_ ∨ P3_ k_) ∨ w.heap.size ≤ k_) ∧ some k_ ≠ (u9000_ : Value).ownBlock ∧ some k_ ≠ (u9002_ : Value).ownBlock ∧ some k_ ≠ (v115 : Value).ownBlock)) qz16 hg (.inl rfl)); replace HO_3 := aM (Kd.R_after (v := (.slice (some ⟨go19, 0, none⟩) x11_1.length co19)) (v1 := (.slice (some ⟨go19, 0, none⟩) x11_1.length co19)) (ok := (fun k_ => ((P1_ k_ ∨ P2_ k_ ∨ P3_ k_) ∨ w.heap.size ≤ k_) ∧ some k_ ≠ (u9000_ : Value).ownBlock ∧ some k_ ≠ (u9001_ : Value).ownBlock ∧ some k_ ≠ (v115 : Value).ownBlock)) qz17 hg (.inl rfl)); replace HO_12 := aM (Kd.R_after (v := (.slice (some ⟨go19, 0, none⟩) x11_1.length co19)) (v1 := (.slice (some ⟨go19, 0, none⟩) x11_1.length co19)) (ok := (fun k_ => ((P1_ k_ ∨ P2_ k_ ∨ P3_ k_) ∨ w.heap.size ≤ k_) ∧ some k_ ≠ (u9000_ : Value).ownBlock ∧ some k_ ≠ (u9001_ : Value).ownBlock ∧ some k_ ≠ (u9002_ : Value).ownBlock)) qz14 hg (.inl rfl)); replace HO_13 := aM (Kd.R_over' (v := (.slice (some ⟨go19, 0, none⟩) x11_1.length co19)) (rr_ HO_13.out) (Kd.R_typed HO_11.out) (by decide) hg); replace HB := aM ((by rw [hw]; exact below_set (HB.out) GB19.out : Below w0.heap.size w0 w21)); replace HK := aM (Kept.of_grown (S := (fun k_ => P1_ k_ ∨ P2_ k_ ∨ P3_ k_)) hg qz2 (fun k_ e_ => (HO_11.out.1 k_ e_).1)); replace HO_11 := aM (hp_); clear hg hw hp_))
   go_roundg k1
   case measure => have := HK1.out; omega
   case rel => exact ⟨(y120), (wrap64 (x14_1 + 1)), qz3, H', ⟨by have := HK1.out; omega⟩, ⟨by (with_reducible repeat (first | apply Kd.R_alloc | apply Kd.R_drewN | apply Kd.R_drew)); exact Kd.R_mono HO_1.out (fun _ hk => ⟨hk.1.1, ⟨hk.1.2.1, ⟨hk.1.2.2.1, ⟨hk.2, hk.1.2.2.2⟩⟩⟩⟩)⟩, ⟨by (with_reducible repeat (first | apply Kd.R_alloc | apply Kd.R_drewN | apply Kd.R_drew)); exact Kd.R_mono HO_2.out (fun _ hk => ⟨hk.1.1, ⟨hk.1.2.1, ⟨hk.1.2.2.1, ⟨hk.2, hk.1.2.2.2⟩⟩⟩⟩)⟩, ⟨by (with_reducible repeat (first | apply Kd.R_alloc | apply Kd.R_drewN | apply Kd.R_drew)); exact Kd.R_mono HO_3.out (fun _ hk => ⟨hk.1.1, ⟨hk.1.2.1, ⟨hk.1.2.2.1, ⟨hk.2, hk.1.2.2.2⟩⟩⟩⟩)⟩, ⟨rm_ HO_11.out⟩, ⟨by (with_reducible repeat (first | apply Kd.R_alloc | apply Kd.R_drewN | apply Kd.R_drew)); exact Kd.R_mono HO_12.out (fun _ hk => ⟨hk.1.1, ⟨hk.1.2.1, ⟨hk.1.2.2.1, ⟨hk.1.2.2.2, hk.2⟩⟩⟩⟩)⟩, ⟨rm_ HO_13.out⟩, ⟨qz2⟩, ⟨qz1⟩⟩
   }
   {
   exact an_ c18 H
   }
   }
   {
   exact an_ c17 H
   }
   }
   {
   rw [if_neg c16] at H
   have c16b0 := decide_eq_false c16
   clear c16
   have H' := aM H
   clear H
   go_wp2
   go_loopg [15] k1 (fun kq v15 w' => ∃ (x1_2 : List Int) (x2_2 : List Int) (x11_2 : List Int) (x12_2 : List Int) (x13_2 : List Bool) (x15_2 : Int), v15 = .int .i64 x15_2 ∧ Aside0 (spec_l4Grow.l1 kq l0 x1_2 x2_2 l3 a4 1099511627776 x11_2 x12_2 x13_2 x15_2 = some (r1, r2, r3)) ∧ Aside0 (kq ≤ k1) ∧ Aside0 (Kd.R (Kd.int .i64) 3 w' w0.heap.size (fun k_ => ((P1_ k_ ∨ P2_ k_ ∨ P3_ k_) ∨ w.heap.size ≤ k_) ∧ some k_ ≠ (u9001_ : Value).ownBlock ∧ some k_ ≠ (u9002_ : Value).ownBlock ∧ some k_ ≠ (v112 : Value).ownBlock ∧ some k_ ≠ (v115 : Value).ownBlock) u9000_ x1_2) ∧ Aside0 (Kd.R (Kd.int .i64) 3 w' w0.heap.size (fun k_ => ((P1_ k_ ∨ P2_ k_ ∨ P3_ k_) ∨ w.heap.size ≤ k_) ∧ some k_ ≠ (u9000_ : Value).ownBlock ∧ some k_ ≠ (u9002_ : Value).ownBlock ∧ some k_ ≠ (v112 : Value).ownBlock ∧ some k_ ≠ (v115 : Value).ownBlock) u9001_ x2_2) ∧ Aside0 (Kd.R (Kd.int .i64) 3 w' w0.heap.size (fun k_ => ((P1_ k_ ∨ P2_ k_ ∨ P3_ k_) ∨ w.heap.size ≤ k_) ∧ some k_ ≠ (u9000_ : Value).ownBlock ∧ some k_ ≠ (u9001_ : Value).ownBlock ∧ some k_ ≠ (v112 : Value).ownBlock ∧ some k_ ≠ (v115 : Value).ownBlock) u9002_ l3) ∧ Aside0 (Kd.R (Kd.int .i64) 3 w' w0.heap.size (fun k_ => ((P1_ k_ ∨ P2_ k_ ∨ P3_ k_) ∨ w.heap.size ≤ k_) ∧ some k_ ≠ (u9000_ : Value).ownBlock ∧ some k_ ≠ (u9001_ : Value).ownBlock ∧ some k_ ≠ (u9002_ : Value).ownBlock ∧ some k_ ≠ (v115 : Value).ownBlock) v112 x11_2) ∧ Aside0 (Kd.R (Kd.int .i64) 3 w' w0.heap.size (fun k_ => ((P1_ k_ ∨ P2_ k_ ∨ P3_ k_) ∨ w.heap.size ≤ k_) ∧ some k_ ≠ (u9000_ : Value).ownBlock ∧ some k_ ≠ (u9001_ : Value).ownBlock ∧ some k_ ≠ (u9002_ : Value).ownBlock ∧ some k_ ≠ (v112 : Value).ownBlock) v115 x12_2) ∧ Aside0 (Kd.R Kd.bool 4 w' w0.heap.size (fun k_ => ((P1_ k_ ∨ P2_ k_ ∨ P3_ k_) ∨ w.heap.size ≤ k_)) v118 x13_2) ∧ Aside0 (Kept w w' (fun k_ => P1_ k_ ∨ P2_ k_ ∨ P3_ k_)) ∧ Aside0 (Below w0.heap.size w0 w'))
   case atStart => exact ⟨(l1), (l2), (x11_1), (y114), (y117), (0), qz3, H', ⟨Nat.le_refl _⟩, ⟨rr_ HO_1.out⟩, ⟨rr_ HO_2.out⟩, ⟨rr_ HO_3.out⟩, ⟨rr_ HO_11.out⟩, ⟨rr_ HO_12.out⟩, ⟨rr_ HO_13.out⟩, ⟨qz2⟩, ⟨qz1⟩⟩
   case round =>
    clear H'
    try clear c1
    try clear p1
    try clear q1
    try clear hx1
    try clear p2
    try clear p3
    try clear c6
    try clear p6
    try clear c7
    try clear c7b0
    try clear c7b1
    try clear c8
    try clear c8b0
    try clear c8b1
    try clear c9
    try clear c9b0
    try clear c9b1
    try clear c16
    try clear c16b0
    try clear c17
    try clear c17b0
    try clear c18
    try clear c18b0
    try clear p19
    try clear q19
    try clear hx19
    try clear hf19
    try clear hx19_0
    obtain ⟨x1_2, x2_2, x11_2, x12_2, x13_2, x15_2, rfl, HA, HK2, HO_1, HO_2, HO_3, HO_11, HO_12, HO_13, HK, HB⟩ := hrel
    cases gk with
    | zero => exact absurd HA.out (by simp [spec_l4Grow.l1])
    | succ k2 =>
     have H := HA.out
     clear HA
     simp only [spec_l4Grow.l1] at H
     by_cases c22 : 0 ≤ x15_2
     {
     rw [if_pos c22] at H
     have c22b0 := decide_eq_true c22
     clear c22
     by_cases c23 : x15_2 < (x13_2.length : Int)
     {
     rw [if_pos c23] at H
     have c23b0 := decide_eq_true c23
     clear c23
     obtain ⟨y121, hy121⟩ : ∃ y_ : List Bool, y_ = (x13_2.set (x15_2 : Int).toNat true) := ⟨_, rfl⟩
     replace H : (if x15_2 < (l3.length : Int) then (spec_l4Grow.l2 k2 l0 x1_2 x2_2 l3 a4 1099511627776 x11_2 x12_2 y121 x15_2 (rd l3 x15_2) 1099511627776 0 1) else (none)) = some (r1, r2, r3) := by first | (rw [hy121]; with_reducible exact H) | (have H2_ := (Option.bind_some _ _).symm.trans H; rw [hy121]; with_reducible exact H2_) | (have H2_ := (Option.bind_some _ _).symm.trans H; with_reducible exact H2_) | with_reducible exact H | (rw [hy121]; exact H) | exact H
     have Ny121 := aM hy121
     clear hy121
     by_cases c25 : x15_2 < (l3.length : Int)
     {
     rw [if_pos c25] at H
     have c25b0 := decide_eq_true c25
     clear c25
     have H' := aM H
     clear H
     have p24 : 0 ≤ (x15_2 : Int) := dt_
     have q24 : (x15_2 : Int) < ((x13_2.length : Int) : Int) := dt_
     obtain ⟨go24, co24, eo24, gb24, gl24, cl24, HG24⟩ := Kd.R_form HO_13.out (by omega)
     (first | cases eo24 | (injection eo24 with ea_ en_ ec_; (first | subst ea_ | (injection ea_ with ea_; subst ea_)); subst ec_; clear en_))
     have GB24 := aM gb24
     have GG24 := aM HG24
     clear gb24 gl24 HG24
     have HMgo24 := aM (show ((P1_ go24 ∨ P2_ go24 ∨ P3_ go24) ∨ w.heap.size ≤ go24) from (HO_13.out.1 _ rfl))
     obtain ⟨hx24_0, hf24_0⟩ := Kd.R_celln false HO_13.out (x15_2 : Int) p24 q24
     replace p24 := eq_true p24
     replace q24 := eq_true q24
     obtain ⟨hy26_, hz26_⟩ := Kd.R_celln false HO_13.out (x15_2 : Int) (dt_) (dt_)
     have HP26 := Kd.R_putg HO_13.out (x15_2 : Int) true
     go_wp2_with (first | ((with_reducible refine gate_store (t := 4) (p := 43) rfl ?_); refine store_event (t := 4) (p := 43) (v := ?vo_w27) (w1 := (wr.setCell ⟨go24, (x15_2 : Int).toNat, none⟩ (.bool true))) ?hg ?ho ?hn ?hr ?_; (case ho => rfl); (case hg => rfl); (case hn => rfl); (case hr => exact qz8); intro w27 hw; have hg : wr.grownBy w27 (some go24) := (by rw [hw]; exact HP26.2); have hp_ : Kd.R Kd.bool 4 w27 w0.heap.size (fun k_ => ((P1_ k_ ∨ P2_ k_ ∨ P3_ k_) ∨ w.heap.size ≤ k_)) (.slice (some ⟨go24, 0, none⟩) x13_2.length co24) y121 := (by rw [hw, Ny121.out]; exact HP26.1); clear HP26; replace HO_1 := aM (Kd.R_over' (v := (.slice (some ⟨go24, 0, none⟩) x13_2.length co24)) (rr_ HO_1.out) (Kd.R_typed HO_13.out) (by decide) hg); replace HO_2 := aM (Kd.R_over' (v := (.slice (some ⟨go24, 0, none⟩) x13_2.length co24)) (rr_ HO_2.out) (Kd.R_typed HO_13.out) (by decide) hg); replace HO_3 := aM (Kd.R_over' (v := (.slice (some ⟨go24, 0, none⟩) x13_2.length co24)) (rr_ HO_3.out) (Kd.R_typed HO_13.out) (by decide) hg); replace HO_11 := aM (Kd.R_over' (v := (.slice (some ⟨go24, 0, none⟩) x13_2.length co24)) (rr_ HO_11.out) (Kd.R_typed HO_13.out) (by decide) hg); replace HO_12 := aM (Kd.R_over' (v := (.slice (some ⟨go24, 0, none⟩) x13_2.length co24)) (rr_ HO_12.out) (Kd.R_typed HO_13.out) (by decide) hg); replace HB := aM ((by rw [hw]; exact below_set (HB.out) GB24.out : Below w0.heap.size w0 w27)); replace HK := aM (Kept.of_grown (S := (fun k_ => P1_ k_ ∨ P2_ k_ ∨ P3_ k_)) hg qz2 (fun k_ e_ => (HO_13.out.1 k_ e_))); replace HO_13 := aM (hp_); clear hg hw hp_; obtain ⟨Ao28, co28, eo28⟩ := Kd.R_slice HO_3.out; subst eo28; have p122 : 0 ≤ (x15_2 : Int) := dt_; have q122 : x15_2 < (l3.length : Int) := dt_; obtain ⟨ad122, e122, hx122_0⟩ := Kd.at_int (Kd.R_reads' HO_3.out).2.2 x15_2 p122 q122; cases e122; replace p122 := eq_true p122; replace q122 := eq_true q122))
     go_loopg [17, 18, 19] k2 (fun kq v17 v18 v19 w' => ∃ (x11_3 : List Int) (x12_3 : List Int) (x17_3 : Int) (x18_3 : Int) (x19_3 : Int), v17 = .int .i64 x17_3 ∧ v18 = .int .i64 x18_3 ∧ v19 = .int .i64 x19_3 ∧ Aside0 (spec_l4Grow.l2 kq l0 x1_2 x2_2 l3 a4 1099511627776 x11_3 x12_3 y121 x15_2 (rd l3 x15_2) x17_3 x18_3 x19_3 = some (r1, r2, r3)) ∧ Aside0 (kq ≤ k2) ∧ Aside0 (Kd.R (Kd.int .i64) 3 w' w0.heap.size (fun k_ => ((P1_ k_ ∨ P2_ k_ ∨ P3_ k_) ∨ w.heap.size ≤ k_) ∧ some k_ ≠ (u9001_ : Value).ownBlock ∧ some k_ ≠ ((.slice (some ad122) l3.length co28) : Value).ownBlock ∧ some k_ ≠ (v112 : Value).ownBlock ∧ some k_ ≠ (v115 : Value).ownBlock) u9000_ x1_2) ∧ Aside0 (Kd.R (Kd.int .i64) 3 w' w0.heap.size (fun k_ => ((P1_ k_ ∨ P2_ k_ ∨ P3_ k_) ∨ w.heap.size ≤ k_) ∧ some k_ ≠ (u9000_ : Value).ownBlock ∧ some k_ ≠ ((.slice (some ad122) l3.length co28) : Value).ownBlock ∧ some k_ ≠ (v112 : Value).ownBlock ∧ some k_ ≠ (v115 : Value).ownBlock) u9001_ x2_2) ∧ Aside0 (Kd.R (Kd.int .i64) 3 w' w0.heap.size (fun k_ => ((P1_ k_ ∨ P2_ k_ ∨ P3_ k_) ∨ w.heap.size ≤ k_) ∧ some k_ ≠ (u9000_ : Value).ownBlock ∧ some k_ ≠ (u9001_ : Value).ownBlock ∧ some k_ ≠ (v112 : Value).ownBlock ∧ some k_ ≠ (v115 : Value).ownBlock) (.slice (some ad122) l3.length co28) l3) ∧ Aside0 (Kd.R (Kd.int .i64) 3 w' w0.heap.size (fun k_ => ((P1_ k_ ∨ P2_ k_ ∨ P3_ k_) ∨ w.heap.size ≤ k_) ∧ some k_ ≠ (u9000_ : Value).ownBlock ∧ some k_ ≠ (u9001_ : Value).ownBlock ∧ some k_ ≠ ((.slice (some ad122) l3.length co28) : Value).ownBlock ∧ some k_ ≠ (v115 : Value).ownBlock) v112 x11_3) ∧ Aside0 (Kd.R (Kd.int .i64) 3 w' w0.heap.size (fun k_ => ((P1_ k_ ∨ P2_ k_ ∨ P3_ k_) ∨ w.heap.size ≤ k_) ∧ some k_ ≠ (u9000_ : Value).ownBlock ∧ some k_ ≠ (u9001_ : Value).ownBlock ∧ some k_ ≠ ((.slice (some ad122) l3.length co28) : Value).ownBlock ∧ some k_ ≠ (v112 : Value).ownBlock) v115 x12_3) ∧ Aside0 (Kd.R Kd.bool 4 w' w0.heap.size (fun k_ => ((P1_ k_ ∨ P2_ k_ ∨ P3_ k_) ∨ w.heap.size ≤ k_)) (.slice (some ⟨go24, 0, none⟩) x13_2.length co24) y121) ∧ Aside0 (Kept w w' (fun k_ => P1_ k_ ∨ P2_ k_ ∨ P3_ k_)) ∧ Aside0 (Below w0.heap.size w0 w'))
     case atStart => exact ⟨(x11_2), (x12_2), (1099511627776), (0), (1), qz3, qz3, qz3, H', ⟨Nat.le_refl _⟩, ⟨rr_ HO_1.out⟩, ⟨rr_ HO_2.out⟩, ⟨rr_ HO_3.out⟩, ⟨rr_ HO_11.out⟩, ⟨rr_ HO_12.out⟩, ⟨rr_ HO_13.out⟩, ⟨qz2⟩, ⟨qz1⟩⟩
     case round =>
      clear H'
      try clear c1
      try clear p1
      try clear q1
      try clear hx1
      try clear c2
      try clear p2
      try clear q2
      try clear hx2
      try clear p3
      try clear c6
      try clear p6
      try clear c7
      try clear c7b0
      try clear c7b1
      try clear c8
      try clear c8b0
      try clear c8b1
      try clear c9
      try clear c9b0
      try clear c9b1
      try clear p12
      try clear q12
      try clear hx12
      try clear c16
      try clear c16b0
      try clear c17
      try clear c17b0
      try clear c18
      try clear c18b0
      try clear p19
      try clear q19
      try clear hx19
      try clear hf19
      try clear c22
      try clear c22b0
      try clear c23
      try clear c23b0
      try clear p24
      try clear q24
      try clear hx24
      try clear hf24
      try clear c25
      try clear c25b0
      try clear hx122_0
      try clear hx19_0
      try clear hx24_0
      try clear p122
      try clear q122
      obtain ⟨x11_3, x12_3, x17_3, x18_3, x19_3, rfl, rfl, rfl, HA, HK3, HO_1, HO_2, HO_3, HO_11, HO_12, HO_13, HK, HB⟩ := hrel
      have hl13_3 := (Kd.R_reads' HO_13.out).1
      rw [hl13_3] at HO_13
      (try simp only [hl13_3])
      (try simp only [hl13_3] at HO_1)
      (try simp only [hl13_3] at HO_2)
      (try simp only [hl13_3] at HO_3)
      (try simp only [hl13_3] at HO_11)
      (try simp only [hl13_3] at HO_12)
      cases gk with
      | zero => exact absurd HA.out (by simp [spec_l4Grow.l2])
      | succ k3 =>
       have H := HA.out
       clear HA
       simp only [spec_l4Grow.l2] at H
       by_cases c29 : x19_3 ≤ a4
       {
       rw [if_pos c29] at H
       have c29b0 := decide_eq_true c29
       clear c29
       by_cases c30 : 0 ≤ x19_3
       {
       rw [if_pos c30] at H
       have c30b0 := decide_eq_true c30
       clear c30
       by_cases c31 : x19_3 < (y121.length : Int)
       {
       rw [if_pos c31] at H
       have c31b0 := decide_eq_true c31
       (try (have c31b0q13_3 := c31b0; simp only [hl13_3] at c31b0q13_3))
       clear c31
       obtain ⟨bq32, hbq32⟩ : ∃ b_ : Bool, b_ = (rdOf false y121 x19_3) := ⟨_, rfl⟩
       replace H : (if bq32 = true then (spec_l4Grow.l2 k3 l0 x1_2 x2_2 l3 a4 1099511627776 x11_3 x12_3 y121 x15_2 (rd l3 x15_2) x17_3 x18_3 (wrap64 (x19_3 + 1))) else (if 0 ≤ (wrap64 ((rd l3 x15_2) - 1)) then (if (wrap64 ((rd l3 x15_2) - 1)) < (l0.length : Int) then (if 0 ≤ (wrap64 (x19_3 - 1)) then (if (wrap64 (x19_3 - 1)) < ((rd_L1 l0 (wrap64 ((rd l3 x15_2) - 1))).length : Int) then (if 0 ≤ (rd l3 x15_2) then (if (rd l3 x15_2) < (x1_2.length : Int) then (if x19_3 < (x2_2.length : Int) then (if x19_3 < (x11_3.length : Int) then (if (wrap64 ((wrap64 ((rd (rd_L1 l0 (wrap64 ((rd l3 x15_2) - 1))) (wrap64 (x19_3 - 1))) - (rd x1_2 (rd l3 x15_2)))) - (rd x2_2 x19_3))) < (rd x11_3 x19_3) then ((some (x11_3.set (x19_3 : Int).toNat (wrap64 ((wrap64 ((rd (rd_L1 l0 (wrap64 ((rd l3 x15_2) - 1))) (wrap64 (x19_3 - 1))) - (rd x1_2 (rd l3 x15_2)))) - (rd x2_2 x19_3))) : List Int)).bind fun y129 => (if x19_3 < (x12_3.length : Int) then ((some (x12_3.set (x19_3 : Int).toNat x15_2 : List Int)).bind fun y130 => (if (rd y129 x19_3) < x17_3 then (spec_l4Grow.l2 k3 l0 x1_2 x2_2 l3 a4 1099511627776 y129 y130 y121 x15_2 (rd l3 x15_2) (rd y129 x19_3) x19_3 (wrap64 (x19_3 + 1))) else (spec_l4Grow.l2 k3 l0 x1_2 x2_2 l3 a4 1099511627776 y129 y130 y121 x15_2 (rd l3 x15_2) x17_3 x18_3 (wrap64 (x19_3 + 1))))) else (none))) else (if (rd x11_3 x19_3) < x17_3 then (spec_l4Grow.l2 k3 l0 x1_2 x2_2 l3 a4 1099511627776 x11_3 x12_3 y121 x15_2 (rd l3 x15_2) (rd x11_3 x19_3) x19_3 (wrap64 (x19_3 + 1))) else (spec_l4Grow.l2 k3 l0 x1_2 x2_2 l3 a4 1099511627776 x11_3 x12_3 y121 x15_2 (rd l3 x15_2) x17_3 x18_3 (wrap64 (x19_3 + 1))))) else (none)) else (none)) else (none)) else (none)) else (none)) else (none)) else (none)) else (none))) = some (r1, r2, r3) := by rw [← hbq32] at H; exact H
       have Nbq32 := aM hbq32
       clear hbq32
       by_cases c33 : bq32 = true
       {
       subst c33
       rw [if_pos rfl] at H
       have H' := aM H
       clear H
       have p123 : 0 ≤ (x19_3 : Int) := dt_
       have q123 : x19_3 < (y121.length : Int) := dt_
       obtain ⟨ad123, e123, hx123_0⟩ := Kd.at_bool (Kd.R_reads' HO_13.out).2.2 x19_3 p123 q123
       (try rw [← Nbq32.out] at hx123_0)
       obtain rfl : (⟨go24, 0, none⟩ : Addr) = ad123 := (by injection e123)
       (first | simp only [add_plain] at hx123_0 | simp only [add_at] at hx123_0 | simp only [Addr.add, Nat.zero_add] at hx123_0 | skip)
       replace p123 := eq_true p123
       replace q123 := eq_true q123
       go_wp2
       (try simp only [← hl13_3])
       go_roundg k3
       case measure => have := HK1.out; have := HK2.out; have := HK3.out; omega
       case rel => exact ⟨(x11_3), (x12_3), (x17_3), (x18_3), (wrap64 (x19_3 + 1)), qz3, qz3, qz3, H', ⟨by have := HK1.out; have := HK2.out; have := HK3.out; omega⟩, ⟨by (try simp only [hl13_3]); exact rm_ HO_1.out⟩, ⟨by (try simp only [hl13_3]); exact rm_ HO_2.out⟩, ⟨by (try simp only [hl13_3]); exact rm_ HO_3.out⟩, ⟨by (try simp only [hl13_3]); exact rm_ HO_11.out⟩, ⟨by (try simp only [hl13_3]); exact rm_ HO_12.out⟩, ⟨by (try simp only [hl13_3]); exact rm_ HO_13.out⟩, ⟨qz2⟩, ⟨qz1⟩⟩
       }
       {
       replace c33 := Bool.eq_false_iff.mpr c33
       subst c33
       rw [if_neg (show ¬ (false = true) by decide)] at H
       obtain ⟨ji34, hji34⟩ : ∃ j_ : Int, (wrap64 ((rd l3 x15_2) - 1)) = j_ := ⟨_, rfl⟩
       replace H : (if 0 ≤ (ji34) then (if (ji34) < (l0.length : Int) then (if 0 ≤ (wrap64 (x19_3 - 1)) then (if (wrap64 (x19_3 - 1)) < ((rd_L1 l0 (ji34)).length : Int) then (if 0 ≤ (rd l3 x15_2) then (if (rd l3 x15_2) < (x1_2.length : Int) then (if x19_3 < (x2_2.length : Int) then (if x19_3 < (x11_3.length : Int) then (if (wrap64 ((wrap64 ((rd (rd_L1 l0 (ji34)) (wrap64 (x19_3 - 1))) - (rd x1_2 (rd l3 x15_2)))) - (rd x2_2 x19_3))) < (rd x11_3 x19_3) then ((some (x11_3.set (x19_3 : Int).toNat (wrap64 ((wrap64 ((rd (rd_L1 l0 (ji34)) (wrap64 (x19_3 - 1))) - (rd x1_2 (rd l3 x15_2)))) - (rd x2_2 x19_3))) : List Int)).bind fun y129 => (if x19_3 < (x12_3.length : Int) then ((some (x12_3.set (x19_3 : Int).toNat x15_2 : List Int)).bind fun y130 => (if (rd y129 x19_3) < x17_3 then (spec_l4Grow.l2 k3 l0 x1_2 x2_2 l3 a4 1099511627776 y129 y130 y121 x15_2 (rd l3 x15_2) (rd y129 x19_3) x19_3 (wrap64 (x19_3 + 1))) else (spec_l4Grow.l2 k3 l0 x1_2 x2_2 l3 a4 1099511627776 y129 y130 y121 x15_2 (rd l3 x15_2) x17_3 x18_3 (wrap64 (x19_3 + 1))))) else (none))) else (if (rd x11_3 x19_3) < x17_3 then (spec_l4Grow.l2 k3 l0 x1_2 x2_2 l3 a4 1099511627776 x11_3 x12_3 y121 x15_2 (rd l3 x15_2) (rd x11_3 x19_3) x19_3 (wrap64 (x19_3 + 1))) else (spec_l4Grow.l2 k3 l0 x1_2 x2_2 l3 a4 1099511627776 x11_3 x12_3 y121 x15_2 (rd l3 x15_2) x17_3 x18_3 (wrap64 (x19_3 + 1))))) else (none)) else (none)) else (none)) else (none)) else (none)) else (none)) else (none)) else (none)) = some (r1, r2, r3) := by first | (rw [hji34] at H; exact H) | (simp only [hji34] at H ⊢; exact H)
       have hji34w : (IntKind.i64.wrap ((rd l3 x15_2) - 1)) = ji34 := (i64_w _).trans hji34
       by_cases c35 : 0 ≤ (ji34)
       {
       rw [if_pos c35] at H
       have c35b0 := decide_eq_true c35
       clear c35
       by_cases c36 : (ji34) < (l0.length : Int)
       {
       rw [if_pos c36] at H
       have c36b0 := decide_eq_true c36
       (try (have c36b0q13_3 := c36b0; simp only [hl13_3] at c36b0q13_3))
       clear c36
       obtain ⟨ji37, hji37⟩ : ∃ j_ : Int, (wrap64 (x19_3 - 1)) = j_ := ⟨_, rfl⟩
       replace H : (if 0 ≤ (ji37) then (if (ji37) < ((rd_L1 l0 (ji34)).length : Int) then (if 0 ≤ (rd l3 x15_2) then (if (rd l3 x15_2) < (x1_2.length : Int) then (if x19_3 < (x2_2.length : Int) then (if x19_3 < (x11_3.length : Int) then (if (wrap64 ((wrap64 ((rd (rd_L1 l0 (ji34)) (ji37)) - (rd x1_2 (rd l3 x15_2)))) - (rd x2_2 x19_3))) < (rd x11_3 x19_3) then ((some (x11_3.set (x19_3 : Int).toNat (wrap64 ((wrap64 ((rd (rd_L1 l0 (ji34)) (ji37)) - (rd x1_2 (rd l3 x15_2)))) - (rd x2_2 x19_3))) : List Int)).bind fun y129 => (if x19_3 < (x12_3.length : Int) then ((some (x12_3.set (x19_3 : Int).toNat x15_2 : List Int)).bind fun y130 => (if (rd y129 x19_3) < x17_3 then (spec_l4Grow.l2 k3 l0 x1_2 x2_2 l3 a4 1099511627776 y129 y130 y121 x15_2 (rd l3 x15_2) (rd y129 x19_3) x19_3 (wrap64 (x19_3 + 1))) else (spec_l4Grow.l2 k3 l0 x1_2 x2_2 l3 a4 1099511627776 y129 y130 y121 x15_2 (rd l3 x15_2) x17_3 x18_3 (wrap64 (x19_3 + 1))))) else (none))) else (if (rd x11_3 x19_3) < x17_3 then (spec_l4Grow.l2 k3 l0 x1_2 x2_2 l3 a4 1099511627776 x11_3 x12_3 y121 x15_2 (rd l3 x15_2) (rd x11_3 x19_3) x19_3 (wrap64 (x19_3 + 1))) else (spec_l4Grow.l2 k3 l0 x1_2 x2_2 l3 a4 1099511627776 x11_3 x12_3 y121 x15_2 (rd l3 x15_2) x17_3 x18_3 (wrap64 (x19_3 + 1))))) else (none)) else (none)) else (none)) else (none)) else (none)) else (none)) = some (r1, r2, r3) := by first | (rw [hji37] at H; exact H) | (simp only [hji37] at H ⊢; exact H)
       have hji37w : (IntKind.i64.wrap (x19_3 - 1)) = ji37 := (i64_w _).trans hji37
       by_cases c38 : 0 ≤ (ji37)
       {
       rw [if_pos c38] at H
       have c38b0 := decide_eq_true c38
       clear c38
       by_cases c39 : (ji37) < ((rd_L1 l0 (ji34)).length : Int)
       {
       rw [if_pos c39] at H
       have c39b0 := decide_eq_true c39
       (try (have c39b0q13_3 := c39b0; simp only [hl13_3] at c39b0q13_3))
       clear c39
       by_cases c40 : 0 ≤ (rd l3 x15_2)
       {
       rw [if_pos c40] at H
       have c40b0 := decide_eq_true c40
       clear c40
       by_cases c41 : (rd l3 x15_2) < (x1_2.length : Int)
       {
       rw [if_pos c41] at H
       have c41b0 := decide_eq_true c41
       (try (have c41b0q13_3 := c41b0; simp only [hl13_3] at c41b0q13_3))
       clear c41
       by_cases c42 : x19_3 < (x2_2.length : Int)
       {
       rw [if_pos c42] at H
       have c42b0 := decide_eq_true c42
       (try (have c42b0q13_3 := c42b0; simp only [hl13_3] at c42b0q13_3))
       clear c42
       by_cases c43 : x19_3 < (x11_3.length : Int)
       {
       rw [if_pos c43] at H
       have c43b0 := decide_eq_true c43
       (try (have c43b0q13_3 := c43b0; simp only [hl13_3] at c43b0q13_3))
       clear c43
       by_cases c44 : (wrap64 ((wrap64 ((rd (rd_L1 l0 (ji34)) (ji37)) - (rd x1_2 (rd l3 x15_2)))) - (rd x2_2 x19_3))) < (rd x11_3 x19_3)
       {
       rw [if_pos c44] at H
       have c44b0 := decide_eq_true c44
       clear c44
       obtain ⟨y129, hy129⟩ : ∃ y_ : List Int, y_ = (x11_3.set (x19_3 : Int).toNat (wrap64 ((wrap64 ((rd (rd_L1 l0 (ji34)) (ji37)) - (rd x1_2 (rd l3 x15_2)))) - (rd x2_2 x19_3)))) := ⟨_, rfl⟩
       replace H : (if x19_3 < (x12_3.length : Int) then ((some (x12_3.set (x19_3 : Int).toNat x15_2 : List Int)).bind fun y130 => (if (rd y129 x19_3) < x17_3 then (spec_l4Grow.l2 k3 l0 x1_2 x2_2 l3 a4 1099511627776 y129 y130 y121 x15_2 (rd l3 x15_2) (rd y129 x19_3) x19_3 (wrap64 (x19_3 + 1))) else (spec_l4Grow.l2 k3 l0 x1_2 x2_2 l3 a4 1099511627776 y129 y130 y121 x15_2 (rd l3 x15_2) x17_3 x18_3 (wrap64 (x19_3 + 1))))) else (none)) = some (r1, r2, r3) := by first | (rw [hy129]; with_reducible exact H) | (have H2_ := (Option.bind_some _ _).symm.trans H; rw [hy129]; with_reducible exact H2_) | (have H2_ := (Option.bind_some _ _).symm.trans H; with_reducible exact H2_) | with_reducible exact H | (rw [hy129]; exact H) | exact H
       have Ny129 := aM hy129
       clear hy129
       by_cases c46 : x19_3 < (x12_3.length : Int)
       {
       rw [if_pos c46] at H
       have c46b0 := decide_eq_true c46
       (try (have c46b0q13_3 := c46b0; simp only [hl13_3] at c46b0q13_3))
       clear c46
       obtain ⟨y130, hy130⟩ : ∃ y_ : List Int, y_ = (x12_3.set (x19_3 : Int).toNat x15_2) := ⟨_, rfl⟩
       replace H : (if (rd y129 x19_3) < x17_3 then (spec_l4Grow.l2 k3 l0 x1_2 x2_2 l3 a4 1099511627776 y129 y130 y121 x15_2 (rd l3 x15_2) (rd y129 x19_3) x19_3 (wrap64 (x19_3 + 1))) else (spec_l4Grow.l2 k3 l0 x1_2 x2_2 l3 a4 1099511627776 y129 y130 y121 x15_2 (rd l3 x15_2) x17_3 x18_3 (wrap64 (x19_3 + 1)))) = some (r1, r2, r3) := by first | (rw [hy130]; with_reducible exact H) | (have H2_ := (Option.bind_some _ _).symm.trans H; rw [hy130]; with_reducible exact H2_) | (have H2_ := (Option.bind_some _ _).symm.trans H; with_reducible exact H2_) | with_reducible exact H | (rw [hy130]; exact H) | exact H
       have Ny130 := aM hy130
       clear hy130
       by_cases c48 : (rd y129 x19_3) < x17_3
       {
       rw [if_pos c48] at H
       have c48b0 := decide_eq_true c48
       clear c48
       have H' := aM H
       clear H
       have p123 : 0 ≤ (x19_3 : Int) := dt_
       have q123 : x19_3 < (y121.length : Int) := dt_
       obtain ⟨ad123, e123, hx123_0⟩ := Kd.at_bool (Kd.R_reads' HO_13.out).2.2 x19_3 p123 q123
       (try rw [← Nbq32.out] at hx123_0)
       obtain rfl : (⟨go24, 0, none⟩ : Addr) = ad123 := (by injection e123)
       (first | simp only [add_plain] at hx123_0 | simp only [add_at] at hx123_0 | simp only [Addr.add, Nat.zero_add] at hx123_0 | skip)
       replace p123 := eq_true p123
       replace q123 := eq_true q123
       try go_wp2
       replace HO_1 := aM (Kd.R_drew HO_1.out)
       replace HO_2 := aM (Kd.R_drew HO_2.out)
       replace HO_3 := aM (Kd.R_drew HO_3.out)
       replace HO_11 := aM (Kd.R_drew HO_11.out)
       replace HO_12 := aM (Kd.R_drew HO_12.out)
       replace HO_13 := aM (Kd.R_drew HO_13.out)
       replace HK := aM (Kept.drew HK.out)
       replace HB := aM (below_drew1 HB.out)
       have p124 : 0 ≤ ((ji34) : Int) := dt_
       have q124 : (ji34) < (l0.length : Int) := dt_
       obtain ⟨ad124, A124_0, c124_0, e124, hx124_0, hl124_0, hi124_0⟩ := at_L1 (Kd.C_kept_now HR0.out HK.out) (ji34) p124 q124
       have hw124_0 := hx124_0
       cases e124
       have HR124_0 := aM hi124_0
       have HC124_0 := aM hl124_0
       clear hi124_0 hl124_0
       replace p124 := eq_true p124
       replace q124 := eq_true q124
       have p125 : 0 ≤ ((ji37) : Int) := dt_
       have q125 : (ji37) < ((rd_L1 l0 (ji34)).length : Int) := dt_
       obtain ⟨ad125, e125, hx125_0⟩ := Kd.at_int qz13 (ji37) p125 q125
       cases e125
       replace p125 := eq_true p125
       replace q125 := eq_true q125
       obtain ⟨Ao50, co50, eo50⟩ := Kd.R_slice HO_1.out
       (first | subst eo50 | (injection eo50 with f1_ f2_ f3_; have f4_ := f1_.symm; have f5_ := f3_.symm; clear f1_ f2_ f3_; subst f4_; subst f5_))
       have p126 : 0 ≤ ((rd l3 x15_2) : Int) := dt_
       have q126 : (rd l3 x15_2) < (x1_2.length : Int) := dt_
       obtain ⟨ad126, e126, hx126_0⟩ := Kd.at_int (Kd.R_reads' HO_1.out).2.2 (rd l3 x15_2) p126 q126
       cases e126
       replace p126 := eq_true p126
       replace q126 := eq_true q126
       obtain ⟨Ao51, co51, eo51⟩ := Kd.R_slice HO_2.out
       (first | subst eo51 | (injection eo51 with f1_ f2_ f3_; have f4_ := f1_.symm; have f5_ := f3_.symm; clear f1_ f2_ f3_; subst f4_; subst f5_))
       have p127 : 0 ≤ (x19_3 : Int) := dt_
       have q127 : x19_3 < (x2_2.length : Int) := dt_
       obtain ⟨ad127, e127, hx127_0⟩ := Kd.at_int (Kd.R_reads' HO_2.out).2.2 x19_3 p127 q127
       cases e127
       replace p127 := eq_true p127
       replace q127 := eq_true q127
       refine start_ (n := 20) (S := fun w' => w'.cell? (ad124.add ((ji34)).toNat) = some (.slice (some ad125) (rd_L1 l0 (ji34)).length c124_0) ∧ w'.cell? (ad125.add ((ji37)).toNat) = some (.int .i64 (rd (rd_L1 l0 (ji34)) (ji37))) ∧ w'.cell? (ad126.add ((rd l3 x15_2)).toNat) = some (.int .i64 (rd x1_2 (rd l3 x15_2))) ∧ w'.cell? (ad127.add (x19_3).toNat) = some (.int .i64 (rd x2_2 x19_3))) (ds := []) #[false, false, false, false, false, false, false, false, false, false, false, false, false, false, false, false, false, false, false, false] (by kernel_rfl) rfl rfl ⟨hx124_0, hx125_0, hx126_0, hx127_0⟩ (fun hHeld => ?_); refine with_tabW spec_l4Grow.tab17 spec_l4Grow.bits17 (fun HT_ HW_ => ?_)
       generalize wr.drew = w49 at HO_1 HO_2 HO_3 HO_11 HO_12 HO_13 HK HB HR124_0 hx124_0 hx125_0 hx126_0 hx127_0 hHeld ⊢
       refine pI_ 0 58 (bqz 20 1) ?_
       refine jI_ 1 59 ?_
       refine jI_ 2 60 ?_
       refine jI_ 3 61 ?_
       refine jI_ 5 63 ?_
       refine jI_ 6 64 ?_
       refine jI_ 9 67 ?_
       refine jI_ 10 68 ?_
       refine jI_ 11 69 ?_
       refine jI_ 14 72 ?_
       refine jI_ 15 73 ?_
       refine jI_ 16 74 ?_
       refine sI4_ 4 62 ?_
       refine jI_ 7 65 ?_
       refine sI4_ 8 66 ?_
       refine sI4_ 12 70 ?_
       refine jI_ 13 71 ?_
       refine sI4_ 17 75 ?_
       refine jI_ 18 76 ?_
       refine jI_ 19 20 ?_
       refine done_ (done_of HT_.out (by kernel_rfl)) ?_
       obtain ⟨Ao52, co52, eo52⟩ := Kd.R_slice HO_11.out
       subst eo52
       have p128 : 0 ≤ (x19_3 : Int) := dt_
       have q128 : x19_3 < (x11_3.length : Int) := dt_
       obtain ⟨ad128, e128, hx128_0⟩ := Kd.at_int (Kd.R_reads' HO_11.out).2.2 x19_3 p128 q128
       cases e128
       replace p128 := eq_true p128
       replace q128 := eq_true q128
       have p45 : 0 ≤ (x19_3 : Int) := dt_
       have q45 : (x19_3 : Int) < ((x11_3.length : Int) : Int) := dt_
       obtain ⟨go45, co45, eo45, gb45, gl45, cl45, HG45⟩ := Kd.R_form HO_11.out (by omega)
       (first | cases eo45 | (injection eo45 with ea_ en_ ec_; (first | subst ea_ | (injection ea_ with ea_; subst ea_)); subst ec_; clear en_))
       have GB45 := aM gb45
       have GG45 := aM HG45
       clear gb45 gl45 HG45
       have HMgo45 := aM (show ((P1_ go45 ∨ P2_ go45 ∨ P3_ go45) ∨ w.heap.size ≤ go45) from (HO_11.out.1 _ rfl).1)
       (first | simp only [add_plain] at hx128_0 | skip)
       obtain ⟨hx45_0, hf45_0⟩ := Kd.R_celln 0 HO_11.out (x19_3 : Int) p45 q45
       replace p45 := eq_true p45
       replace q45 := eq_true q45
       obtain ⟨hy53_, hz53_⟩ := Kd.R_celln 0 HO_11.out (x19_3 : Int) (dt_) (dt_)
       have HP53 := Kd.R_putg HO_11.out (x19_3 : Int) (wrap64 ((wrap64 ((rd (rd_L1 l0 (ji34)) (ji37)) - (rd x1_2 (rd l3 x15_2)))) - (rd x2_2 x19_3)))
       try go_wp2_with (first | ((with_reducible refine gate_store (t := 3) (p := 86) rfl ?_); refine store_event (t := 3) (p := 86) (v := ?vo_w54) (w1 := (w49.setCell ⟨go45, (x19_3 : Int).toNat, none⟩ (.int .i64 (wrap64 ((wrap64 ((rd (rd_L1 l0 (ji34)) (ji37)) - (rd x1_2 (rd l3 x15_2)))) - (rd x2_2 x19_3)))))) ?hg ?ho ?hn ?hr ?_; (case ho => rfl); (case hg => rfl); (case hn => rfl); (case hr => exact qz8); intro w54 hw; have hg : w49.grownBy w54 (some go45) := (by rw [hw]; exact HP53.2); have hp_ : Kd.R (Kd.int .i64) 3 w54 w0.heap.size (fun k_ => ((P1_ k_ ∨ P2_ k_ ∨ P3_ k_) ∨ w.heap.size ≤ k_) ∧ some k_ ≠ (.slice (some ad126) x1_2.length co50 : Value).ownBlock ∧ some k_ ≠ (.slice (some ad127) x2_2.length co51 : Value).ownBlock ∧ some k_ ≠ (.slice (some ad122) l3.length co28 : Value).ownBlock ∧ some k_ ≠ (v115 : Value).ownBlock) (.slice (some ⟨go45, 0, none⟩) x11_3.length co52) y129 := (by rw [hw, Ny129.out]; exact HP53.1); clear HP53; replace HO_1 := aM (Kd.R_after (v := (.slice (some ⟨go45, 0, none⟩) x11_3.length co52)) (v1 := (.slice (some ⟨go45, 0, none⟩) x11_3.length co52)) (ok := (fun k_ => ((P1_ k_ ∨ P2_ k_ ∨ P3_ k_) ∨ w.heap.size ≤ k_) ∧ some k_ ≠ (.slice (some ad127) x2_2.length co51 : Value).ownBlock ∧ some k_ ≠ (.slice (some ad122) l3.length co28 : Value).ownBlock ∧ some k_ ≠ (v115 : Value).ownBlock)) qz15 hg (.inl rfl)); replace HO_2 := aM (Kd.R_after (v := (.slice (some ⟨go45, 0, none⟩) x11_3.length co52)) (v1 := (.slice (some ⟨go45, 0, none⟩) x11_3.length co52)) (ok := (fun k_ => ((P1_ k_ ∨ P2_ k_ ∨ P3_ k_) ∨ w.heap.size ≤ k_) ∧ some k_ ≠ (.slice (some ad126) x1_2.length co50 : Value).ownBlock ∧ some k_ ≠ (.slice (some ad122) l3.length co28 : Value).ownBlock ∧ some k_ ≠ (v115 : Value).ownBlock)) qz16 hg (.inl rfl)); replace HO_3 := aM (Kd.R_after (v := (.slice (some ⟨go45, 0, none⟩) x11_3.length co52)) (v1 := (.slice (some ⟨go45, 0, none⟩) x11_3.length co52)) (ok := (fun k_ => ((P1_ k_ ∨ P2_ k_ ∨ P3_ k_) ∨ w.heap.size ≤ k_) ∧ some k_ ≠ (.slice (some ad126) x1_2.length co50 : Value).ownBlock ∧ some k_ ≠ (.slice (some ad127) x2_2.length co51 : Value).ownBlock ∧ some k_ ≠ (v115 : Value).ownBlock)) qz17 hg (.inl rfl)); replace HO_12 := aM (Kd.R_after (v := (.slice (some ⟨go45, 0, none⟩) x11_3.length co52)) (v1 := (.slice (some ⟨go45, 0, none⟩) x11_3.length co52)) (ok := (fun k_ => ((P1_ k_ ∨ P2_ k_ ∨ P3_ k_) ∨ w.heap.size ≤ k_) ∧ some k_ ≠ (.slice (some ad126) x1_2.length co50 : Value).ownBlock ∧ some k_ ≠ (.slice (some ad127) x2_2.length co51 : Value).ownBlock ∧ some k_ ≠ (.slice (some ad122) l3.length co28 : Value).ownBlock)) qz14 hg (.inl rfl)); replace HO_13 := aM (Kd.R_over' (v := (.slice (some ⟨go45, 0, none⟩) x11_3.length co52)) (rr_ HO_13.out) (Kd.R_typed HO_11.out) (by decide) hg); replace HB := aM ((by rw [hw]; exact below_set (HB.out) GB45.out : Below w0.heap.size w0 w54)); replace HK := aM (Kept.of_grown (S := (fun k_ => P1_ k_ ∨ P2_ k_ ∨ P3_ k_)) hg qz2 (fun k_ e_ => (HO_11.out.1 k_ e_).1)); replace HO_11 := aM (hp_); clear hg hw hp_; have p47 : 0 ≤ (x19_3 : Int) := dt_; have q47 : (x19_3 : Int) < ((x12_3.length : Int) : Int) := dt_; obtain ⟨go47, co47, eo47, gb47, gl47, cl47, HG47⟩ := Kd.R_form HO_12.out (by omega); (first | cases eo47 | (injection eo47 with ea_ en_ ec_; (first | subst ea_ | (injection ea_ with ea_; subst ea_)); subst ec_; clear en_)); have GB47 := aM gb47; have GG47 := aM HG47; clear gb47 gl47 HG47; have HMgo47 := aM (show ((P1_ go47 ∨ P2_ go47 ∨ P3_ go47) ∨ w.heap.size ≤ go47) from (HO_12.out.1 _ rfl).1.1); obtain ⟨hx47_0, hf47_0⟩ := Kd.R_celln 0 HO_12.out (x19_3 : Int) p47 q47; replace p47 := eq_true p47; replace q47 := eq_true q47; have n_ := aM (Kd.R_mono (ok' := (fun k_ => ((P1_ k_ ∨ P2_ k_ ∨ P3_ k_) ∨ w.heap.size ≤ k_) ∧ some k_ ≠ (.slice (some ad126) x1_2.length co50 : Value).ownBlock ∧ some k_ ≠ (.slice (some ad127) x2_2.length co51 : Value).ownBlock ∧ some k_ ≠ (.slice (some ad122) l3.length co28 : Value).ownBlock ∧ some k_ ≠ (.slice (some ⟨go45, 0, none⟩) x11_3.length co52 : Value).ownBlock)) HO_12.out (fun k_ hk => ⟨hk.1.1, ⟨hk.1.2.1, ⟨hk.1.2.2.1, ⟨hk.1.2.2.2, hk.2⟩⟩⟩⟩)); clear HO_12; have HO_12 := n_; clear n_; obtain ⟨hy55_, hz55_⟩ := Kd.R_celln 0 HO_12.out (x19_3 : Int) (dt_) (dt_); have HP55 := Kd.R_putg HO_12.out (x19_3 : Int) x15_2) | ((with_reducible refine gate_store (t := 3) (p := 90) rfl ?_); refine store_event (t := 3) (p := 90) (v := ?vo_w56) (w1 := (w54.setCell ⟨go47, (x19_3 : Int).toNat, none⟩ (.int .i64 x15_2))) ?hg ?ho ?hn ?hr ?_; (case ho => rfl); (case hg => rfl); (case hn => rfl); (case hr => exact qz8); intro w56 hw; have hg : w54.grownBy w56 (some go47) := (by rw [hw]; exact HP55.2); have hp_ : Kd.R (Kd.int .i64) 3 w56 w0.heap.size (fun k_ => ((P1_ k_ ∨ P2_ k_ ∨ P3_ k_) ∨ w.heap.size ≤ k_) ∧ some k_ ≠ (.slice (some ad126) x1_2.length co50 : Value).ownBlock ∧ some k_ ≠ (.slice (some ad127) x2_2.length co51 : Value).ownBlock ∧ some k_ ≠ (.slice (some ad122) l3.length co28 : Value).ownBlock ∧ some k_ ≠ (.slice (some ⟨go45, 0, none⟩) x11_3.length co52 : Value).ownBlock) (.slice (some ⟨go47, 0, none⟩) x12_3.length co47) y130 := (by rw [hw, Ny130.out]; exact HP55.1); clear HP55; replace HO_1 := aM (Kd.R_after (v := (.slice (some ⟨go47, 0, none⟩) x12_3.length co47)) (v1 := (.slice (some ⟨go47, 0, none⟩) x12_3.length co47)) (ok := (fun k_ => ((P1_ k_ ∨ P2_ k_ ∨ P3_ k_) ∨ w.heap.size ≤ k_) ∧ some k_ ≠ (.slice (some ad127) x2_2.length co51 : Value).ownBlock ∧ some k_ ≠ (.slice (some ad122) l3.length co28 : Value).ownBlock ∧ some k_ ≠ (.slice (some ⟨go45, 0, none⟩) x11_3.length co52 : Value).ownBlock)) qz43 hg (.inl rfl)); replace HO_2 := aM (Kd.R_after (v := (.slice (some ⟨go47, 0, none⟩) x12_3.length co47)) (v1 := (.slice (some ⟨go47, 0, none⟩) x12_3.length co47)) (ok := (fun k_ => ((P1_ k_ ∨ P2_ k_ ∨ P3_ k_) ∨ w.heap.size ≤ k_) ∧ some k_ ≠ (.slice (some ad126) x1_2.length co50 : Value).ownBlock ∧ some k_ ≠ (.slice (some ad122) l3.length co28 : Value).ownBlock ∧ some k_ ≠ (.slice (some ⟨go45, 0, none⟩) x11_3.length co52 : Value).ownBlock)) qz44 hg (.inl rfl)); replace HO_3 := aM (Kd.R_after (v := (.slice (some ⟨go47, 0, none⟩) x12_3.length co47)) (v1 := (.slice (some ⟨go47, 0, none⟩) x12_3.length co47)) (ok := (fun k_ => ((P1_ k_ ∨ P2_ k_ ∨ P3_ k_) ∨ w.heap.size ≤ k_) ∧ some k_ ≠ (.slice (some ad126) x1_2.length co50 : Value).ownBlock ∧ some k_ ≠ (.slice (some ad127) x2_2.length co51 : Value).ownBlock ∧ some k_ ≠ (.slice (some ⟨go45, 0, none⟩) x11_3.length co52 : Value).ownBlock)) qz45 hg (.inl rfl)); replace HO_11 := aM (Kd.R_after (v := (.slice (some ⟨go47, 0, none⟩) x12_3.length co47)) (v1 := (.slice (some ⟨go47, 0, none⟩) x12_3.length co47)) (ok := (fun k_ => ((P1_ k_ ∨ P2_ k_ ∨ P3_ k_) ∨ w.heap.size ≤ k_) ∧ some k_ ≠ (.slice (some ad126) x1_2.length co50 : Value).ownBlock ∧ some k_ ≠ (.slice (some ad127) x2_2.length co51 : Value).ownBlock ∧ some k_ ≠ (.slice (some ad122) l3.length co28 : Value).ownBlock)) qz42 hg (.inl rfl)); replace HO_13 := aM (Kd.R_over' (v := (.slice (some ⟨go47, 0, none⟩) x12_3.length co47)) (rr_ HO_13.out) (Kd.R_typed HO_12.out) (by decide) hg); replace HB := aM ((by rw [hw]; exact below_set (HB.out) GB47.out : Below w0.heap.size w0 w56)); replace HK := aM (Kept.of_grown (S := (fun k_ => P1_ k_ ∨ P2_ k_ ∨ P3_ k_)) hg qz2 (fun k_ e_ => (HO_12.out.1 k_ e_).1)); replace HO_12 := aM (hp_); clear hg hw hp_; have p131 : 0 ≤ (x19_3 : Int) := dt_; have q131 : x19_3 < (y129.length : Int) := (by have h_ : (x19_3 : Int) < ((x11_3.length : Int) : Int) := dt_; first | (have e_ := (Kd.R_reads' HO_11.out).1; omega) | simpa only [Ny129.out, List.length_set] using h_); have ql131 : ((x19_3 : Int) < ((x11_3.length : Int) : Int)) = True := eq_true (dt_); obtain ⟨ad131, e131, hx131_0⟩ := Kd.at_int (Kd.R_reads' HO_11.out).2.2 x19_3 p131 q131; obtain rfl : (⟨go45, 0, none⟩ : Addr) = ad131 := (by injection e131); (first | simp only [add_plain] at hx131_0 | simp only [add_at] at hx131_0 | simp only [Addr.add, Nat.zero_add] at hx131_0 | skip); replace p131 := eq_true p131; replace q131 := eq_true q131; have p132 : 0 ≤ (x19_3 : Int) := dt_; have q132 : x19_3 < (y129.length : Int) := (by have h_ : (x19_3 : Int) < ((x11_3.length : Int) : Int) := dt_; first | (have e_ := (Kd.R_reads' HO_11.out).1; omega) | simpa only [Ny129.out, List.length_set] using h_); have ql132 : ((x19_3 : Int) < ((x11_3.length : Int) : Int)) = True := eq_true (dt_); obtain ⟨ad132, e132, hx132_0⟩ := Kd.at_int (Kd.R_reads' HO_11.out).2.2 x19_3 p132 q132; obtain rfl : (⟨go45, 0, none⟩ : Addr) = ad132 := (by injection e132); (first | simp only [add_plain] at hx132_0 | simp only [add_at] at hx132_0 | simp only [Addr.add, Nat.zero_add] at hx132_0 | skip); replace p132 := eq_true p132; replace q132 := eq_true q132))
       (try simp only [← hl13_3])
       go_roundg k3
       case measure => have := HK1.out; have := HK2.out; have := HK3.out; omega
       case rel => exact ⟨(y129), (y130), (rd y129 x19_3), (x19_3), (wrap64 (x19_3 + 1)), qz3, qz3, qz3, H', ⟨by have := HK1.out; have := HK2.out; have := HK3.out; omega⟩, ⟨by (try simp only [hl13_3]); (with_reducible repeat (first | apply Kd.R_alloc | apply Kd.R_drewN | apply Kd.R_drew)); exact Kd.R_mono HO_1.out (fun _ hk => ⟨hk.1.1, ⟨hk.1.2.1, ⟨hk.1.2.2.1, ⟨hk.1.2.2.2, hk.2⟩⟩⟩⟩)⟩, ⟨by (try simp only [hl13_3]); (with_reducible repeat (first | apply Kd.R_alloc | apply Kd.R_drewN | apply Kd.R_drew)); exact Kd.R_mono HO_2.out (fun _ hk => ⟨hk.1.1, ⟨hk.1.2.1, ⟨hk.1.2.2.1, ⟨hk.1.2.2.2, hk.2⟩⟩⟩⟩)⟩, ⟨by (try simp only [hl13_3]); (with_reducible repeat (first | apply Kd.R_alloc | apply Kd.R_drewN | apply Kd.R_drew)); exact Kd.R_mono HO_3.out (fun _ hk => ⟨hk.1.1, ⟨hk.1.2.1, ⟨hk.1.2.2.1, ⟨hk.1.2.2.2, hk.2⟩⟩⟩⟩)⟩, ⟨by (try simp only [hl13_3]); (with_reducible repeat (first | apply Kd.R_alloc | apply Kd.R_drewN | apply Kd.R_drew)); exact Kd.R_mono HO_11.out (fun _ hk => ⟨hk.1.1, ⟨hk.1.2.1, ⟨hk.1.2.2.1, ⟨hk.1.2.2.2, hk.2⟩⟩⟩⟩)⟩, ⟨by (try simp only [hl13_3]); exact rm_ HO_12.out⟩, ⟨by (try simp only [hl13_3]); exact rm_ HO_13.out⟩, ⟨qz2⟩, ⟨qz1⟩⟩
       }
       {
       rw [if_neg c48] at H
       have c48b0 := decide_eq_false c48
       clear c48
       have H' := aM H
       clear H
       have p123 : 0 ≤ (x19_3 : Int) := dt_
       have q123 : x19_3 < (y121.length : Int) := dt_
       obtain ⟨ad123, e123, hx123_0⟩ := Kd.at_bool (Kd.R_reads' HO_13.out).2.2 x19_3 p123 q123
       (try rw [← Nbq32.out] at hx123_0)
       obtain rfl : (⟨go24, 0, none⟩ : Addr) = ad123 := (by injection e123)
       (first | simp only [add_plain] at hx123_0 | simp only [add_at] at hx123_0 | simp only [Addr.add, Nat.zero_add] at hx123_0 | skip)
       replace p123 := eq_true p123
       replace q123 := eq_true q123
       try go_wp2
       replace HO_1 := aM (Kd.R_drew HO_1.out)
       replace HO_2 := aM (Kd.R_drew HO_2.out)
       replace HO_3 := aM (Kd.R_drew HO_3.out)
       replace HO_11 := aM (Kd.R_drew HO_11.out)
       replace HO_12 := aM (Kd.R_drew HO_12.out)
       replace HO_13 := aM (Kd.R_drew HO_13.out)
       replace HK := aM (Kept.drew HK.out)
       replace HB := aM (below_drew1 HB.out)
       have p124 : 0 ≤ ((ji34) : Int) := dt_
       have q124 : (ji34) < (l0.length : Int) := dt_
       obtain ⟨ad124, A124_0, c124_0, e124, hx124_0, hl124_0, hi124_0⟩ := at_L1 (Kd.C_kept_now HR0.out HK.out) (ji34) p124 q124
       have hw124_0 := hx124_0
       cases e124
       have HR124_0 := aM hi124_0
       have HC124_0 := aM hl124_0
       clear hi124_0 hl124_0
       replace p124 := eq_true p124
       replace q124 := eq_true q124
       have p125 : 0 ≤ ((ji37) : Int) := dt_
       have q125 : (ji37) < ((rd_L1 l0 (ji34)).length : Int) := dt_
       obtain ⟨ad125, e125, hx125_0⟩ := Kd.at_int qz13 (ji37) p125 q125
       cases e125
       replace p125 := eq_true p125
       replace q125 := eq_true q125
       obtain ⟨Ao58, co58, eo58⟩ := Kd.R_slice HO_1.out
       (first | subst eo58 | (injection eo58 with f1_ f2_ f3_; have f4_ := f1_.symm; have f5_ := f3_.symm; clear f1_ f2_ f3_; subst f4_; subst f5_))
       have p126 : 0 ≤ ((rd l3 x15_2) : Int) := dt_
       have q126 : (rd l3 x15_2) < (x1_2.length : Int) := dt_
       obtain ⟨ad126, e126, hx126_0⟩ := Kd.at_int (Kd.R_reads' HO_1.out).2.2 (rd l3 x15_2) p126 q126
       cases e126
       replace p126 := eq_true p126
       replace q126 := eq_true q126
       obtain ⟨Ao59, co59, eo59⟩ := Kd.R_slice HO_2.out
       (first | subst eo59 | (injection eo59 with f1_ f2_ f3_; have f4_ := f1_.symm; have f5_ := f3_.symm; clear f1_ f2_ f3_; subst f4_; subst f5_))
       have p127 : 0 ≤ (x19_3 : Int) := dt_
       have q127 : x19_3 < (x2_2.length : Int) := dt_
       obtain ⟨ad127, e127, hx127_0⟩ := Kd.at_int (Kd.R_reads' HO_2.out).2.2 x19_3 p127 q127
       cases e127
       replace p127 := eq_true p127
       replace q127 := eq_true q127
       refine start_ (n := 20) (S := fun w' => w'.cell? (ad124.add ((ji34)).toNat) = some (.slice (some ad125) (rd_L1 l0 (ji34)).length c124_0) ∧ w'.cell? (ad125.add ((ji37)).toNat) = some (.int .i64 (rd (rd_L1 l0 (ji34)) (ji37))) ∧ w'.cell? (ad126.add ((rd l3 x15_2)).toNat) = some (.int .i64 (rd x1_2 (rd l3 x15_2))) ∧ w'.cell? (ad127.add (x19_3).toNat) = some (.int .i64 (rd x2_2 x19_3))) (ds := []) #[false, false, false, false, false, false, false, false, false, false, false, false, false, false, false, false, false, false, false, false] (by kernel_rfl) rfl rfl ⟨hx124_0, hx125_0, hx126_0, hx127_0⟩ (fun hHeld => ?_); refine with_tabW spec_l4Grow.tab17 spec_l4Grow.bits17 (fun HT_ HW_ => ?_)
       generalize wr.drew = w57 at HO_1 HO_2 HO_3 HO_11 HO_12 HO_13 HK HB HR124_0 hx124_0 hx125_0 hx126_0 hx127_0 hHeld ⊢
       refine pI_ 0 58 (bqz 20 1) ?_
       refine jI_ 1 59 ?_
       refine jI_ 2 60 ?_
       refine jI_ 3 61 ?_
       refine jI_ 5 63 ?_
       refine jI_ 6 64 ?_
       refine jI_ 9 67 ?_
       refine jI_ 10 68 ?_
       refine jI_ 11 69 ?_
       refine jI_ 14 72 ?_
       refine jI_ 15 73 ?_
       refine jI_ 16 74 ?_
       refine sI4_ 4 62 ?_
       refine jI_ 7 65 ?_
       refine sI4_ 8 66 ?_
       refine sI4_ 12 70 ?_
       refine jI_ 13 71 ?_
       refine sI4_ 17 75 ?_
       refine jI_ 18 76 ?_
       refine jI_ 19 20 ?_
       refine done_ (done_of HT_.out (by kernel_rfl)) ?_
       obtain ⟨Ao60, co60, eo60⟩ := Kd.R_slice HO_11.out
       subst eo60
       have p128 : 0 ≤ (x19_3 : Int) := dt_
       have q128 : x19_3 < (x11_3.length : Int) := dt_
       obtain ⟨ad128, e128, hx128_0⟩ := Kd.at_int (Kd.R_reads' HO_11.out).2.2 x19_3 p128 q128
       cases e128
       replace p128 := eq_true p128
       replace q128 := eq_true q128
       have p45 : 0 ≤ (x19_3 : Int) := dt_
       have q45 : (x19_3 : Int) < ((x11_3.length : Int) : Int) := dt_
       obtain ⟨go45, co45, eo45, gb45, gl45, cl45, HG45⟩ := Kd.R_form HO_11.out (by omega)
       (first | cases eo45 | (injection eo45 with ea_ en_ ec_; (first | subst ea_ | (injection ea_ with ea_; subst ea_)); subst ec_; clear en_))
       have GB45 := aM gb45
       have GG45 := aM HG45
       clear gb45 gl45 HG45
       have HMgo45 := aM (show ((P1_ go45 ∨ P2_ go45 ∨ P3_ go45) ∨ w.heap.size ≤ go45) from (HO_11.out.1 _ rfl).1)
       (first | simp only [add_plain] at hx128_0 | skip)
       obtain ⟨hx45_0, hf45_0⟩ := Kd.R_celln 0 HO_11.out (x19_3 : Int) p45 q45
       replace p45 := eq_true p45
       replace q45 := eq_true q45
       obtain ⟨hy61_, hz61_⟩ := Kd.R_celln 0 HO_11.out (x19_3 : Int) (dt_) (dt_)
       have HP61 := Kd.R_putg HO_11.out (x19_3 : Int) (wrap64 ((wrap64 ((rd (rd_L1 l0 (ji34)) (ji37)) - (rd x1_2 (rd l3 x15_2)))) - (rd x2_2 x19_3)))
       try go_wp2_with (first | ((with_reducible refine gate_store (t := 3) (p := 86) rfl ?_); refine store_event (t := 3) (p := 86) (v := ?vo_w62) (w1 := (w57.setCell ⟨go45, (x19_3 : Int).toNat, none⟩ (.int .i64 (wrap64 ((wrap64 ((rd (rd_L1 l0 (ji34)) (ji37)) - (rd x1_2 (rd l3 x15_2)))) - (rd x2_2 x19_3)))))) ?hg ?ho ?hn ?hr ?_; (case ho => rfl); (case hg => rfl); (case hn => rfl); (case hr => exact qz8); intro w62 hw; have hg : w57.grownBy w62 (some go45) := (by rw [hw]; exact HP61.2); have hp_ : Kd.R (Kd.int .i64) 3 w62 w0.heap.size (fun k_ => ((P1_ k_ ∨ P2_ k_ ∨ P3_ k_) ∨ w.heap.size ≤ k_) ∧ some k_ ≠ (.slice (some ad126) x1_2.length co58 : Value).ownBlock ∧ some k_ ≠ (.slice (some ad127) x2_2.length co59 : Value).ownBlock ∧ some k_ ≠ (.slice (some ad122) l3.length co28 : Value).ownBlock ∧ some k_ ≠ (v115 : Value).ownBlock) (.slice (some ⟨go45, 0, none⟩) x11_3.length co60) y129 := (by rw [hw, Ny129.out]; exact HP61.1); clear HP61; replace HO_1 := aM (Kd.R_after (v := (.slice (some ⟨go45, 0, none⟩) x11_3.length co60)) (v1 := (.slice (some ⟨go45, 0, none⟩) x11_3.length co60)) (ok := (fun k_ => ((P1_ k_ ∨ P2_ k_ ∨ P3_ k_) ∨ w.heap.size ≤ k_) ∧ some k_ ≠ (.slice (some ad127) x2_2.length co59 : Value).ownBlock ∧ some k_ ≠ (.slice (some ad122) l3.length co28 : Value).ownBlock ∧ some k_ ≠ (v115 : Value).ownBlock)) qz15 hg (.inl rfl)); replace HO_2 := aM (Kd.R_after (v := (.slice (some ⟨go45, 0, none⟩) x11_3.length co60)) (v1 := (.slice (some ⟨go45, 0, none⟩) x11_3.length co60)) (ok := (fun k_ => ((P1_ k_ ∨ P2_ k_ ∨ P3_ k_) ∨ w.heap.size ≤ k_) ∧ some k_ ≠ (.slice (some ad126) x1_2.length co58 : Value).ownBlock ∧ some k_ ≠ (.slice (some ad122) l3.length co28 : Value).ownBlock ∧ some k_ ≠ (v115 : Value).ownBlock)) qz16 hg (.inl rfl)); replace HO_3 := aM (Kd.R_after (v := (.slice (some ⟨go45, 0, none⟩) x11_3.length co60)) (v1 := (.slice (some ⟨go45, 0, none⟩) x11_3.length co60)) (ok := (fun k_ => ((P1_ k_ ∨ P2_ k_ ∨ P3_ k_) ∨ w.heap.size ≤ k_) ∧ some k_ ≠ (.slice (some ad126) x1_2.length co58 : Value).ownBlock ∧ some k_ ≠ (.slice (some ad127) x2_2.length co59 : Value).ownBlock ∧ some k_ ≠ (v115 : Value).ownBlock)) qz17 hg (.inl rfl)); replace HO_12 := aM (Kd.R_after (v := (.slice (some ⟨go45, 0, none⟩) x11_3.length co60)) (v1 := (.slice (some ⟨go45, 0, none⟩) x11_3.length co60)) (ok := (fun k_ => ((P1_ k_ ∨ P2_ k_ ∨ P3_ k_) ∨ w.heap.size ≤ k_) ∧ some k_ ≠ (.slice (some ad126) x1_2.length co58 : Value).ownBlock ∧ some k_ ≠ (.slice (some ad127) x2_2.length co59 : Value).ownBlock ∧ some k_ ≠ (.slice (some ad122) l3.length co28 : Value).ownBlock)) qz14 hg (.inl rfl)); replace HO_13 := aM (Kd.R_over' (v := (.slice (some ⟨go45, 0, none⟩) x11_3.length co60)) (rr_ HO_13.out) (Kd.R_typed HO_11.out) (by decide) hg); replace HB := aM ((by rw [hw]; exact below_set (HB.out) GB45.out : Below w0.heap.size w0 w62)); replace HK := aM (Kept.of_grown (S := (fun k_ => P1_ k_ ∨ P2_ k_ ∨ P3_ k_)) hg qz2 (fun k_ e_ => (HO_11.out.1 k_ e_).1)); replace HO_11 := aM (hp_); clear hg hw hp_; have p47 : 0 ≤ (x19_3 : Int) := dt_; have q47 : (x19_3 : Int) < ((x12_3.length : Int) : Int) := dt_; obtain ⟨go47, co47, eo47, gb47, gl47, cl47, HG47⟩ := Kd.R_form HO_12.out (by omega); (first | cases eo47 | (injection eo47 with ea_ en_ ec_; (first | subst ea_ | (injection ea_ with ea_; subst ea_)); subst ec_; clear en_)); have GB47 := aM gb47; have GG47 := aM HG47; clear gb47 gl47 HG47; have HMgo47 := aM (show ((P1_ go47 ∨ P2_ go47 ∨ P3_ go47) ∨ w.heap.size ≤ go47) from (HO_12.out.1 _ rfl).1.1); obtain ⟨hx47_0, hf47_0⟩ := Kd.R_celln 0 HO_12.out (x19_3 : Int) p47 q47; replace p47 := eq_true p47; replace q47 := eq_true q47; have n_ := aM (Kd.R_mono (ok' := (fun k_ => ((P1_ k_ ∨ P2_ k_ ∨ P3_ k_) ∨ w.heap.size ≤ k_) ∧ some k_ ≠ (.slice (some ad126) x1_2.length co58 : Value).ownBlock ∧ some k_ ≠ (.slice (some ad127) x2_2.length co59 : Value).ownBlock ∧ some k_ ≠ (.slice (some ad122) l3.length co28 : Value).ownBlock ∧ some k_ ≠ (.slice (some ⟨go45, 0, none⟩) x11_3.length co60 : Value).ownBlock)) HO_12.out (fun k_ hk => ⟨hk.1.1, ⟨hk.1.2.1, ⟨hk.1.2.2.1, ⟨hk.1.2.2.2, hk.2⟩⟩⟩⟩)); clear HO_12; have HO_12 := n_; clear n_; obtain ⟨hy63_, hz63_⟩ := Kd.R_celln 0 HO_12.out (x19_3 : Int) (dt_) (dt_); have HP63 := Kd.R_putg HO_12.out (x19_3 : Int) x15_2) | ((with_reducible refine gate_store (t := 3) (p := 90) rfl ?_); refine store_event (t := 3) (p := 90) (v := ?vo_w64) (w1 := (w62.setCell ⟨go47, (x19_3 : Int).toNat, none⟩ (.int .i64 x15_2))) ?hg ?ho ?hn ?hr ?_; (case ho => rfl); (case hg => rfl); (case hn => rfl); (case hr => exact qz8); intro w64 hw; have hg : w62.grownBy w64 (some go47) := (by rw [hw]; exact HP63.2); have hp_ : Kd.R (Kd.int .i64) 3 w64 w0.heap.size (fun k_ => ((P1_ k_ ∨ P2_ k_ ∨ P3_ k_) ∨ w.heap.size ≤ k_) ∧ some k_ ≠ (.slice (some ad126) x1_2.length co58 : Value).ownBlock ∧ some k_ ≠ (.slice (some ad127) x2_2.length co59 : Value).ownBlock ∧ some k_ ≠ (.slice (some ad122) l3.length co28 : Value).ownBlock ∧ some k_ ≠ (.slice (some ⟨go45, 0, none⟩) x11_3.length co60 : Value).ownBlock) (.slice (some ⟨go47, 0, none⟩) x12_3.length co47) y130 := (by rw [hw, Ny130.out]; exact HP63.1); clear HP63; replace HO_1 := aM (Kd.R_after (v := (.slice (some ⟨go47, 0, none⟩) x12_3.length co47)) (v1 := (.slice (some ⟨go47, 0, none⟩) x12_3.length co47)) (ok := (fun k_ => ((P1_ k_ ∨ P2_ k_ ∨ P3_ k_) ∨ w.heap.size ≤ k_) ∧ some k_ ≠ (.slice (some ad127) x2_2.length co59 : Value).ownBlock ∧ some k_ ≠ (.slice (some ad122) l3.length co28 : Value).ownBlock ∧ some k_ ≠ (.slice (some ⟨go45, 0, none⟩) x11_3.length co60 : Value).ownBlock)) qz43 hg (.inl rfl)); replace HO_2 := aM (Kd.R_after (v := (.slice (some ⟨go47, 0, none⟩) x12_3.length co47)) (v1 := (.slice (some ⟨go47, 0, none⟩) x12_3.length co47)) (ok := (fun k_ => ((P1_ k_ ∨ P2_ k_ ∨ P3_ k_) ∨ w.heap.size ≤ k_) ∧ some k_ ≠ (.slice (some ad126) x1_2.length co58 : Value).ownBlock ∧ some k_ ≠ (.slice (some ad122) l3.length co28 : Value).ownBlock ∧ some k_ ≠ (.slice (some ⟨go45, 0, none⟩) x11_3.length co60 : Value).ownBlock)) qz44 hg (.inl rfl)); replace HO_3 := aM (Kd.R_after (v := (.slice (some ⟨go47, 0, none⟩) x12_3.length co47)) (v1 := (.slice (some ⟨go47, 0, none⟩) x12_3.length co47)) (ok := (fun k_ => ((P1_ k_ ∨ P2_ k_ ∨ P3_ k_) ∨ w.heap.size ≤ k_) ∧ some k_ ≠ (.slice (some ad126) x1_2.length co58 : Value).ownBlock ∧ some k_ ≠ (.slice (some ad127) x2_2.length co59 : Value).ownBlock ∧ some k_ ≠ (.slice (some ⟨go45, 0, none⟩) x11_3.length co60 : Value).ownBlock)) qz45 hg (.inl rfl)); replace HO_11 := aM (Kd.R_after (v := (.slice (some ⟨go47, 0, none⟩) x12_3.length co47)) (v1 := (.slice (some ⟨go47, 0, none⟩) x12_3.length co47)) (ok := (fun k_ => ((P1_ k_ ∨ P2_ k_ ∨ P3_ k_) ∨ w.heap.size ≤ k_) ∧ some k_ ≠ (.slice (some ad126) x1_2.length co58 : Value).ownBlock ∧ some k_ ≠ (.slice (some ad127) x2_2.length co59 : Value).ownBlock ∧ some k_ ≠ (.slice (some ad122) l3.length co28 : Value).ownBlock)) qz42 hg (.inl rfl)); replace HO_13 := aM (Kd.R_over' (v := (.slice (some ⟨go47, 0, none⟩) x12_3.length co47)) (rr_ HO_13.out) (Kd.R_typed HO_12.out) (by decide) hg); replace HB := aM ((by rw [hw]; exact below_set (HB.out) GB47.out : Below w0.heap.size w0 w64)); replace HK := aM (Kept.of_grown (S := (fun k_ => P1_ k_ ∨ P2_ k_ ∨ P3_ k_)) hg qz2 (fun k_ e_ => (HO_12.out.1 k_ e_).1)); replace HO_12 := aM (hp_); clear hg hw hp_; have p131 : 0 ≤ (x19_3 : Int) := dt_; have q131 : x19_3 < (y129.length : Int) := (by have h_ : (x19_3 : Int) < ((x11_3.length : Int) : Int) := dt_; first | (have e_ := (Kd.R_reads' HO_11.out).1; omega) | simpa only [Ny129.out, List.length_set] using h_); have ql131 : ((x19_3 : Int) < ((x11_3.length : Int) : Int)) = True := eq_true (dt_); obtain ⟨ad131, e131, hx131_0⟩ := Kd.at_int (Kd.R_reads' HO_11.out).2.2 x19_3 p131 q131; obtain rfl : (⟨go45, 0, none⟩ : Addr) = ad131 := (by injection e131); (first | simp only [add_plain] at hx131_0 | simp only [add_at] at hx131_0 | simp only [Addr.add, Nat.zero_add] at hx131_0 | skip); replace p131 := eq_true p131; replace q131 := eq_true q131))
       (try simp only [← hl13_3])
       go_roundg k3
       case measure => have := HK1.out; have := HK2.out; have := HK3.out; omega
       case rel => exact ⟨(y129), (y130), (x17_3), (x18_3), (wrap64 (x19_3 + 1)), qz3, qz3, qz3, H', ⟨by have := HK1.out; have := HK2.out; have := HK3.out; omega⟩, ⟨by (try simp only [hl13_3]); (with_reducible repeat (first | apply Kd.R_alloc | apply Kd.R_drewN | apply Kd.R_drew)); exact Kd.R_mono HO_1.out (fun _ hk => ⟨hk.1.1, ⟨hk.1.2.1, ⟨hk.1.2.2.1, ⟨hk.1.2.2.2, hk.2⟩⟩⟩⟩)⟩, ⟨by (try simp only [hl13_3]); (with_reducible repeat (first | apply Kd.R_alloc | apply Kd.R_drewN | apply Kd.R_drew)); exact Kd.R_mono HO_2.out (fun _ hk => ⟨hk.1.1, ⟨hk.1.2.1, ⟨hk.1.2.2.1, ⟨hk.1.2.2.2, hk.2⟩⟩⟩⟩)⟩, ⟨by (try simp only [hl13_3]); (with_reducible repeat (first | apply Kd.R_alloc | apply Kd.R_drewN | apply Kd.R_drew)); exact Kd.R_mono HO_3.out (fun _ hk => ⟨hk.1.1, ⟨hk.1.2.1, ⟨hk.1.2.2.1, ⟨hk.1.2.2.2, hk.2⟩⟩⟩⟩)⟩, ⟨by (try simp only [hl13_3]); (with_reducible repeat (first | apply Kd.R_alloc | apply Kd.R_drewN | apply Kd.R_drew)); exact Kd.R_mono HO_11.out (fun _ hk => ⟨hk.1.1, ⟨hk.1.2.1, ⟨hk.1.2.2.1, ⟨hk.1.2.2.2, hk.2⟩⟩⟩⟩)⟩, ⟨by (try simp only [hl13_3]); exact rm_ HO_12.out⟩, ⟨by (try simp only [hl13_3]); exact rm_ HO_13.out⟩, ⟨qz2⟩, ⟨qz1⟩⟩
       }
       }
       {
       exact an_ c46 H
       }
       }
       {
       rw [if_neg c44] at H
       have c44b0 := decide_eq_false c44
       clear c44
       by_cases c65 : (rd x11_3 x19_3) < x17_3
       {
       rw [if_pos c65] at H
       have c65b0 := decide_eq_true c65
       clear c65
       have H' := aM H
       clear H
       have p123 : 0 ≤ (x19_3 : Int) := dt_
       have q123 : x19_3 < (y121.length : Int) := dt_
       obtain ⟨ad123, e123, hx123_0⟩ := Kd.at_bool (Kd.R_reads' HO_13.out).2.2 x19_3 p123 q123
       (try rw [← Nbq32.out] at hx123_0)
       obtain rfl : (⟨go24, 0, none⟩ : Addr) = ad123 := (by injection e123)
       (first | simp only [add_plain] at hx123_0 | simp only [add_at] at hx123_0 | simp only [Addr.add, Nat.zero_add] at hx123_0 | skip)
       replace p123 := eq_true p123
       replace q123 := eq_true q123
       try go_wp2
       replace HO_1 := aM (Kd.R_drew HO_1.out)
       replace HO_2 := aM (Kd.R_drew HO_2.out)
       replace HO_3 := aM (Kd.R_drew HO_3.out)
       replace HO_11 := aM (Kd.R_drew HO_11.out)
       replace HO_12 := aM (Kd.R_drew HO_12.out)
       replace HO_13 := aM (Kd.R_drew HO_13.out)
       replace HK := aM (Kept.drew HK.out)
       replace HB := aM (below_drew1 HB.out)
       have p124 : 0 ≤ ((ji34) : Int) := dt_
       have q124 : (ji34) < (l0.length : Int) := dt_
       obtain ⟨ad124, A124_0, c124_0, e124, hx124_0, hl124_0, hi124_0⟩ := at_L1 (Kd.C_kept_now HR0.out HK.out) (ji34) p124 q124
       have hw124_0 := hx124_0
       cases e124
       have HR124_0 := aM hi124_0
       have HC124_0 := aM hl124_0
       clear hi124_0 hl124_0
       replace p124 := eq_true p124
       replace q124 := eq_true q124
       have p125 : 0 ≤ ((ji37) : Int) := dt_
       have q125 : (ji37) < ((rd_L1 l0 (ji34)).length : Int) := dt_
       obtain ⟨ad125, e125, hx125_0⟩ := Kd.at_int qz13 (ji37) p125 q125
       cases e125
       replace p125 := eq_true p125
       replace q125 := eq_true q125
       obtain ⟨Ao67, co67, eo67⟩ := Kd.R_slice HO_1.out
       (first | subst eo67 | (injection eo67 with f1_ f2_ f3_; have f4_ := f1_.symm; have f5_ := f3_.symm; clear f1_ f2_ f3_; subst f4_; subst f5_))
       have p126 : 0 ≤ ((rd l3 x15_2) : Int) := dt_
       have q126 : (rd l3 x15_2) < (x1_2.length : Int) := dt_
       obtain ⟨ad126, e126, hx126_0⟩ := Kd.at_int (Kd.R_reads' HO_1.out).2.2 (rd l3 x15_2) p126 q126
       cases e126
       replace p126 := eq_true p126
       replace q126 := eq_true q126
       obtain ⟨Ao68, co68, eo68⟩ := Kd.R_slice HO_2.out
       (first | subst eo68 | (injection eo68 with f1_ f2_ f3_; have f4_ := f1_.symm; have f5_ := f3_.symm; clear f1_ f2_ f3_; subst f4_; subst f5_))
       have p127 : 0 ≤ (x19_3 : Int) := dt_
       have q127 : x19_3 < (x2_2.length : Int) := dt_
       obtain ⟨ad127, e127, hx127_0⟩ := Kd.at_int (Kd.R_reads' HO_2.out).2.2 x19_3 p127 q127
       cases e127
       replace p127 := eq_true p127
       replace q127 := eq_true q127
       refine start_ (n := 20) (S := fun w' => w'.cell? (ad124.add ((ji34)).toNat) = some (.slice (some ad125) (rd_L1 l0 (ji34)).length c124_0) ∧ w'.cell? (ad125.add ((ji37)).toNat) = some (.int .i64 (rd (rd_L1 l0 (ji34)) (ji37))) ∧ w'.cell? (ad126.add ((rd l3 x15_2)).toNat) = some (.int .i64 (rd x1_2 (rd l3 x15_2))) ∧ w'.cell? (ad127.add (x19_3).toNat) = some (.int .i64 (rd x2_2 x19_3))) (ds := []) #[false, false, false, false, false, false, false, false, false, false, false, false, false, false, false, false, false, false, false, false] (by kernel_rfl) rfl rfl ⟨hx124_0, hx125_0, hx126_0, hx127_0⟩ (fun hHeld => ?_); refine with_tabW spec_l4Grow.tab17 spec_l4Grow.bits17 (fun HT_ HW_ => ?_)
       generalize wr.drew = w66 at HO_1 HO_2 HO_3 HO_11 HO_12 HO_13 HK HB HR124_0 hx124_0 hx125_0 hx126_0 hx127_0 hHeld ⊢
       refine pI_ 0 58 (bqz 20 1) ?_
       refine jI_ 1 59 ?_
       refine jI_ 2 60 ?_
       refine jI_ 3 61 ?_
       refine jI_ 5 63 ?_
       refine jI_ 6 64 ?_
       refine jI_ 9 67 ?_
       refine jI_ 10 68 ?_
       refine jI_ 11 69 ?_
       refine jI_ 14 72 ?_
       refine jI_ 15 73 ?_
       refine jI_ 16 74 ?_
       refine sI4_ 4 62 ?_
       refine jI_ 7 65 ?_
       refine sI4_ 8 66 ?_
       refine sI4_ 12 70 ?_
       refine jI_ 13 71 ?_
       refine sI4_ 17 75 ?_
       refine jI_ 18 76 ?_
       refine jI_ 19 20 ?_
       refine done_ (done_of HT_.out (by kernel_rfl)) ?_
       obtain ⟨Ao69, co69, eo69⟩ := Kd.R_slice HO_11.out
       subst eo69
       have p128 : 0 ≤ (x19_3 : Int) := dt_
       have q128 : x19_3 < (x11_3.length : Int) := dt_
       obtain ⟨ad128, e128, hx128_0⟩ := Kd.at_int (Kd.R_reads' HO_11.out).2.2 x19_3 p128 q128
       cases e128
       replace p128 := eq_true p128
       replace q128 := eq_true q128
       have p133 : 0 ≤ (x19_3 : Int) := dt_
       have q133 : x19_3 < (x11_3.length : Int) := dt_
       obtain ⟨ad133, e133, hx133_0⟩ := Kd.at_int (Kd.R_reads' HO_11.out).2.2 x19_3 p133 q133
       obtain rfl : ad128 = ad133 := (by injection e133)
       replace p133 := eq_true p133
       replace q133 := eq_true q133
       have p134 : 0 ≤ (x19_3 : Int) := dt_
       have q134 : x19_3 < (x11_3.length : Int) := dt_
       obtain ⟨ad134, e134, hx134_0⟩ := Kd.at_int (Kd.R_reads' HO_11.out).2.2 x19_3 p134 q134
       obtain rfl : ad128 = ad134 := (by injection e134)
       replace p134 := eq_true p134
       replace q134 := eq_true q134
       try go_wp2
       (try simp only [← hl13_3])
       go_roundg k3
       case measure => have := HK1.out; have := HK2.out; have := HK3.out; omega
       case rel => exact ⟨(x11_3), (x12_3), (rd x11_3 x19_3), (x19_3), (wrap64 (x19_3 + 1)), qz3, qz3, qz3, H', ⟨by have := HK1.out; have := HK2.out; have := HK3.out; omega⟩, ⟨by (try simp only [hl13_3]); exact rm_ HO_1.out⟩, ⟨by (try simp only [hl13_3]); exact rm_ HO_2.out⟩, ⟨by (try simp only [hl13_3]); exact rm_ HO_3.out⟩, ⟨by (try simp only [hl13_3]); exact rm_ HO_11.out⟩, ⟨by (try simp only [hl13_3]); exact rm_ HO_12.out⟩, ⟨by (try simp only [hl13_3]); exact rm_ HO_13.out⟩, ⟨qz2⟩, ⟨qz1⟩⟩
       }
       {
       rw [if_neg c65] at H
       have c65b0 := decide_eq_false c65
       clear c65
       have H' := aM H
       clear H
       have p123 : 0 ≤ (x19_3 : Int) := dt_
       have q123 : x19_3 < (y121.length : Int) := dt_
       obtain ⟨ad123, e123, hx123_0⟩ := Kd.at_bool (Kd.R_reads' HO_13.out).2.2 x19_3 p123 q123
       (try rw [← Nbq32.out] at hx123_0)
       obtain rfl : (⟨go24, 0, none⟩ : Addr) = ad123 := (by injection e123)
       (first | simp only [add_plain] at hx123_0 | simp only [add_at] at hx123_0 | simp only [Addr.add, Nat.zero_add] at hx123_0 | skip)
       replace p123 := eq_true p123
       replace q123 := eq_true q123
       try go_wp2
       replace HO_1 := aM (Kd.R_drew HO_1.out)
       replace HO_2 := aM (Kd.R_drew HO_2.out)
       replace HO_3 := aM (Kd.R_drew HO_3.out)
       replace HO_11 := aM (Kd.R_drew HO_11.out)
       replace HO_12 := aM (Kd.R_drew HO_12.out)
       replace HO_13 := aM (Kd.R_drew HO_13.out)
       replace HK := aM (Kept.drew HK.out)
       replace HB := aM (below_drew1 HB.out)
       have p124 : 0 ≤ ((ji34) : Int) := dt_
       have q124 : (ji34) < (l0.length : Int) := dt_
       obtain ⟨ad124, A124_0, c124_0, e124, hx124_0, hl124_0, hi124_0⟩ := at_L1 (Kd.C_kept_now HR0.out HK.out) (ji34) p124 q124
       have hw124_0 := hx124_0
       cases e124
       have HR124_0 := aM hi124_0
       have HC124_0 := aM hl124_0
       clear hi124_0 hl124_0
       replace p124 := eq_true p124
       replace q124 := eq_true q124
       have p125 : 0 ≤ ((ji37) : Int) := dt_
       have q125 : (ji37) < ((rd_L1 l0 (ji34)).length : Int) := dt_
       obtain ⟨ad125, e125, hx125_0⟩ := Kd.at_int qz13 (ji37) p125 q125
       cases e125
       replace p125 := eq_true p125
       replace q125 := eq_true q125
       obtain ⟨Ao71, co71, eo71⟩ := Kd.R_slice HO_1.out
       (first | subst eo71 | (injection eo71 with f1_ f2_ f3_; have f4_ := f1_.symm; have f5_ := f3_.symm; clear f1_ f2_ f3_; subst f4_; subst f5_))
       have p126 : 0 ≤ ((rd l3 x15_2) : Int) := dt_
       have q126 : (rd l3 x15_2) < (x1_2.length : Int) := dt_
       obtain ⟨ad126, e126, hx126_0⟩ := Kd.at_int (Kd.R_reads' HO_1.out).2.2 (rd l3 x15_2) p126 q126
       cases e126
       replace p126 := eq_true p126
       replace q126 := eq_true q126
       obtain ⟨Ao72, co72, eo72⟩ := Kd.R_slice HO_2.out
       (first | subst eo72 | (injection eo72 with f1_ f2_ f3_; have f4_ := f1_.symm; have f5_ := f3_.symm; clear f1_ f2_ f3_; subst f4_; subst f5_))
       have p127 : 0 ≤ (x19_3 : Int) := dt_
       have q127 : x19_3 < (x2_2.length : Int) := dt_
       obtain ⟨ad127, e127, hx127_0⟩ := Kd.at_int (Kd.R_reads' HO_2.out).2.2 x19_3 p127 q127
       cases e127
       replace p127 := eq_true p127
       replace q127 := eq_true q127
       refine start_ (n := 20) (S := fun w' => w'.cell? (ad124.add ((ji34)).toNat) = some (.slice (some ad125) (rd_L1 l0 (ji34)).length c124_0) ∧ w'.cell? (ad125.add ((ji37)).toNat) = some (.int .i64 (rd (rd_L1 l0 (ji34)) (ji37))) ∧ w'.cell? (ad126.add ((rd l3 x15_2)).toNat) = some (.int .i64 (rd x1_2 (rd l3 x15_2))) ∧ w'.cell? (ad127.add (x19_3).toNat) = some (.int .i64 (rd x2_2 x19_3))) (ds := []) #[false, false, false, false, false, false, false, false, false, false, false, false, false, false, false, false, false, false, false, false] (by kernel_rfl) rfl rfl ⟨hx124_0, hx125_0, hx126_0, hx127_0⟩ (fun hHeld => ?_); refine with_tabW spec_l4Grow.tab17 spec_l4Grow.bits17 (fun HT_ HW_ => ?_)
       generalize wr.drew = w70 at HO_1 HO_2 HO_3 HO_11 HO_12 HO_13 HK HB HR124_0 hx124_0 hx125_0 hx126_0 hx127_0 hHeld ⊢
       refine pI_ 0 58 (bqz 20 1) ?_
       refine jI_ 1 59 ?_
       refine jI_ 2 60 ?_
       refine jI_ 3 61 ?_
       refine jI_ 5 63 ?_
       refine jI_ 6 64 ?_
       refine jI_ 9 67 ?_
       refine jI_ 10 68 ?_
       refine jI_ 11 69 ?_
       refine jI_ 14 72 ?_
       refine jI_ 15 73 ?_
       refine jI_ 16 74 ?_
       refine sI4_ 4 62 ?_
       refine jI_ 7 65 ?_
       refine sI4_ 8 66 ?_
       refine sI4_ 12 70 ?_
       refine jI_ 13 71 ?_
       refine sI4_ 17 75 ?_
       refine jI_ 18 76 ?_
       refine jI_ 19 20 ?_
       refine done_ (done_of HT_.out (by kernel_rfl)) ?_
       obtain ⟨Ao73, co73, eo73⟩ := Kd.R_slice HO_11.out
       subst eo73
       have p128 : 0 ≤ (x19_3 : Int) := dt_
       have q128 : x19_3 < (x11_3.length : Int) := dt_
       obtain ⟨ad128, e128, hx128_0⟩ := Kd.at_int (Kd.R_reads' HO_11.out).2.2 x19_3 p128 q128
       cases e128
       replace p128 := eq_true p128
       replace q128 := eq_true q128
       have p133 : 0 ≤ (x19_3 : Int) := dt_
       have q133 : x19_3 < (x11_3.length : Int) := dt_
       obtain ⟨ad133, e133, hx133_0⟩ := Kd.at_int (Kd.R_reads' HO_11.out).2.2 x19_3 p133 q133
       obtain rfl : ad128 = ad133 := (by injection e133)
       replace p133 := eq_true p133
       replace q133 := eq_true q133
       try go_wp2
       (try simp only [← hl13_3])
       go_roundg k3
       case measure => have := HK1.out; have := HK2.out; have := HK3.out; omega
       case rel => exact ⟨(x11_3), (x12_3), (x17_3), (x18_3), (wrap64 (x19_3 + 1)), qz3, qz3, qz3, H', ⟨by have := HK1.out; have := HK2.out; have := HK3.out; omega⟩, ⟨by (try simp only [hl13_3]); exact rm_ HO_1.out⟩, ⟨by (try simp only [hl13_3]); exact rm_ HO_2.out⟩, ⟨by (try simp only [hl13_3]); exact rm_ HO_3.out⟩, ⟨by (try simp only [hl13_3]); exact rm_ HO_11.out⟩, ⟨by (try simp only [hl13_3]); exact rm_ HO_12.out⟩, ⟨by (try simp only [hl13_3]); exact rm_ HO_13.out⟩, ⟨qz2⟩, ⟨qz1⟩⟩
       }
       }
       }
       {
       exact an_ c43 H
       }
       }
       {
       exact an_ c42 H
       }
       }
       {
       exact an_ c41 H
       }
       }
       {
       exact an_ c40 H
       }
       }
       {
       exact an_ c39 H
       }
       }
       {
       exact an_ c38 H
       }
       }
       {
       exact an_ c36 H
       }
       }
       {
       exact an_ c35 H
       }
       }
       }
       {
       exact an_ c31 H
       }
       }
       {
       exact an_ c30 H
       }
       }
       {
       rw [if_neg c29] at H
       have c29b0 := decide_eq_false c29
       clear c29
       have H' := aM H
       clear H
       go_wp2
       go_loopg [21] k3 (fun kq v21 w' => ∃ (x1_4 : List Int) (x2_4 : List Int) (x11_4 : List Int) (x21_4 : Int), v21 = .int .i64 x21_4 ∧ Aside0 (spec_l4Grow.l3 kq l0 x1_4 x2_4 l3 a4 1099511627776 x11_4 x12_3 y121 x17_3 x18_3 x21_4 = some (r1, r2, r3)) ∧ Aside0 (kq ≤ k3) ∧ Aside0 (Kd.R (Kd.int .i64) 3 w' w0.heap.size (fun k_ => ((P1_ k_ ∨ P2_ k_ ∨ P3_ k_) ∨ w.heap.size ≤ k_) ∧ some k_ ≠ (u9001_ : Value).ownBlock ∧ some k_ ≠ ((.slice (some ad122) l3.length co28) : Value).ownBlock ∧ some k_ ≠ (v112 : Value).ownBlock ∧ some k_ ≠ (v115 : Value).ownBlock) u9000_ x1_4) ∧ Aside0 (Kd.R (Kd.int .i64) 3 w' w0.heap.size (fun k_ => ((P1_ k_ ∨ P2_ k_ ∨ P3_ k_) ∨ w.heap.size ≤ k_) ∧ some k_ ≠ (u9000_ : Value).ownBlock ∧ some k_ ≠ ((.slice (some ad122) l3.length co28) : Value).ownBlock ∧ some k_ ≠ (v112 : Value).ownBlock ∧ some k_ ≠ (v115 : Value).ownBlock) u9001_ x2_4) ∧ Aside0 (Kd.R (Kd.int .i64) 3 w' w0.heap.size (fun k_ => ((P1_ k_ ∨ P2_ k_ ∨ P3_ k_) ∨ w.heap.size ≤ k_) ∧ some k_ ≠ (u9000_ : Value).ownBlock ∧ some k_ ≠ (u9001_ : Value).ownBlock ∧ some k_ ≠ (v112 : Value).ownBlock ∧ some k_ ≠ (v115 : Value).ownBlock) (.slice (some ad122) l3.length co28) l3) ∧ Aside0 (Kd.R (Kd.int .i64) 3 w' w0.heap.size (fun k_ => ((P1_ k_ ∨ P2_ k_ ∨ P3_ k_) ∨ w.heap.size ≤ k_) ∧ some k_ ≠ (u9000_ : Value).ownBlock ∧ some k_ ≠ (u9001_ : Value).ownBlock ∧ some k_ ≠ ((.slice (some ad122) l3.length co28) : Value).ownBlock ∧ some k_ ≠ (v115 : Value).ownBlock) v112 x11_4) ∧ Aside0 (Kd.R (Kd.int .i64) 3 w' w0.heap.size (fun k_ => ((P1_ k_ ∨ P2_ k_ ∨ P3_ k_) ∨ w.heap.size ≤ k_) ∧ some k_ ≠ (u9000_ : Value).ownBlock ∧ some k_ ≠ (u9001_ : Value).ownBlock ∧ some k_ ≠ ((.slice (some ad122) l3.length co28) : Value).ownBlock ∧ some k_ ≠ (v112 : Value).ownBlock) v115 x12_3) ∧ Aside0 (Kd.R Kd.bool 4 w' w0.heap.size (fun k_ => ((P1_ k_ ∨ P2_ k_ ∨ P3_ k_) ∨ w.heap.size ≤ k_)) (.slice (some ⟨go24, 0, none⟩) y121.length co24) y121) ∧ Aside0 (Kept w w' (fun k_ => P1_ k_ ∨ P2_ k_ ∨ P3_ k_)) ∧ Aside0 (Below w0.heap.size w0 w'))
       case atStart => exact ⟨(x1_2), (x2_2), (x11_3), (0), qz3, H', ⟨Nat.le_refl _⟩, ⟨by (try simp only [hl13_3]); exact rr_ HO_1.out⟩, ⟨by (try simp only [hl13_3]); exact rr_ HO_2.out⟩, ⟨by (try simp only [hl13_3]); exact rr_ HO_3.out⟩, ⟨by (try simp only [hl13_3]); exact rr_ HO_11.out⟩, ⟨by (try simp only [hl13_3]); exact rr_ HO_12.out⟩, ⟨by (try simp only [hl13_3]); exact rr_ HO_13.out⟩, ⟨qz2⟩, ⟨qz1⟩⟩
       case round =>
        clear H'
        try clear c1
        try clear p1
        try clear q1
        try clear hx1
        try clear c2
        try clear p2
        try clear c3
        try clear q3
        try clear c4
        try clear p4
        try clear q4
        try clear hx4
        try clear c6
        try clear p6
        try clear c12
        try clear p12
        try clear q12
        try clear hx12
        try clear p13
        try clear q13
        try clear hx13
        try clear c29
        try clear c29b0
        try clear c30
        try clear c31
        try clear q32
        try clear c35
        try clear c36
        try clear c38
        try clear c39
        try clear c40
        try clear c41
        try clear c42
        try clear c43
        try clear c44
        try clear c44b0
        try clear p45
        try clear q45
        try clear hx45
        try clear hf45
        try clear c46
        try clear p47
        try clear q47
        try clear hx47
        try clear hf47
        try clear p64
        try clear c65
        try clear c65b0
        try clear hx123_0
        try clear hx124_0
        try clear hx125_0
        try clear hx126_0
        try clear hx127_0
        try clear hx128_0
        try clear hx131_0
        try clear hx133_0
        try clear hx134_0
        try clear hx45_0
        try clear hx47_0
        try clear p123
        try clear p124
        try clear p125
        try clear p126
        try clear p127
        try clear p128
        try clear p131
        try clear p133
        try clear p134
        try clear q123
        try clear q124
        try clear q125
        try clear q126
        try clear q127
        try clear q128
        try clear q131
        try clear q133
        try clear q134
        obtain ⟨x1_4, x2_4, x11_4, x21_4, rfl, HA, HK4, HO_1, HO_2, HO_3, HO_11, HO_12, HO_13, HK, HB⟩ := hrel
        cases gk with
        | zero => exact absurd HA.out (by simp [spec_l4Grow.l3])
        | succ k4 =>
         have H := HA.out
         clear HA
         simp only [spec_l4Grow.l3] at H
         by_cases c74 : x21_4 ≤ a4
         {
         rw [if_pos c74] at H
         have c74b0 := decide_eq_true c74
         clear c74
         by_cases c75 : 0 ≤ x21_4
         {
         rw [if_pos c75] at H
         have c75b0 := decide_eq_true c75
         clear c75
         by_cases c76 : x21_4 < (y121.length : Int)
         {
         rw [if_pos c76] at H
         have c76b0 := decide_eq_true c76
         (try (have c76b0q13_3 := c76b0; simp only [hl13_3] at c76b0q13_3))
         clear c76
         obtain ⟨bq77, hbq77⟩ : ∃ b_ : Bool, b_ = (rdOf false y121 x21_4) := ⟨_, rfl⟩
         replace H : (if bq77 = true then (if x21_4 < (l3.length : Int) then (if 0 ≤ (rd l3 x21_4) then (if (rd l3 x21_4) < (x1_4.length : Int) then (if x21_4 < (x2_4.length : Int) then (spec_l4Grow.l3 k4 l0 (x1_4.set ((rd l3 x21_4) : Int).toNat (wrap64 ((rd x1_4 (rd l3 x21_4)) + x17_3))) (x2_4.set (x21_4 : Int).toNat (wrap64 ((rd x2_4 x21_4) - x17_3))) l3 a4 1099511627776 x11_4 x12_3 y121 x17_3 x18_3 (wrap64 (x21_4 + 1))) else (none)) else (none)) else (none)) else (none)) else (if x21_4 < (x11_4.length : Int) then (spec_l4Grow.l3 k4 l0 x1_4 x2_4 l3 a4 1099511627776 (x11_4.set (x21_4 : Int).toNat (wrap64 ((rd x11_4 x21_4) - x17_3))) x12_3 y121 x17_3 x18_3 (wrap64 (x21_4 + 1))) else (none))) = some (r1, r2, r3) := by rw [← hbq77] at H; exact H
         have Nbq77 := aM hbq77
         clear hbq77
         by_cases c78 : bq77 = true
         {
         subst c78
         rw [if_pos rfl] at H
         by_cases c79 : x21_4 < (l3.length : Int)
         {
         rw [if_pos c79] at H
         have c79b0 := decide_eq_true c79
         (try (have c79b0q13_3 := c79b0; simp only [hl13_3] at c79b0q13_3))
         clear c79
         by_cases c80 : 0 ≤ (rd l3 x21_4)
         {
         rw [if_pos c80] at H
         have c80b0 := decide_eq_true c80
         clear c80
         by_cases c81 : (rd l3 x21_4) < (x1_4.length : Int)
         {
         rw [if_pos c81] at H
         have c81b0 := decide_eq_true c81
         (try (have c81b0q13_3 := c81b0; simp only [hl13_3] at c81b0q13_3))
         clear c81
         obtain ⟨y139, hy139⟩ : ∃ y_ : List Int, y_ = (x1_4.set ((rd l3 x21_4) : Int).toNat (wrap64 ((rd x1_4 (rd l3 x21_4)) + x17_3))) := ⟨_, rfl⟩
         replace H : (if x21_4 < (x2_4.length : Int) then (spec_l4Grow.l3 k4 l0 y139 (x2_4.set (x21_4 : Int).toNat (wrap64 ((rd x2_4 x21_4) - x17_3))) l3 a4 1099511627776 x11_4 x12_3 y121 x17_3 x18_3 (wrap64 (x21_4 + 1))) else (none)) = some (r1, r2, r3) := by first | (rw [hy139]; with_reducible exact H) | (have H2_ := (Option.bind_some _ _).symm.trans H; rw [hy139]; with_reducible exact H2_) | (have H2_ := (Option.bind_some _ _).symm.trans H; with_reducible exact H2_) | with_reducible exact H | (rw [hy139]; exact H) | exact H
         have Ny139 := aM hy139
         clear hy139
         by_cases c83 : x21_4 < (x2_4.length : Int)
         {
         rw [if_pos c83] at H
         have c83b0 := decide_eq_true c83
         (try (have c83b0q13_3 := c83b0; simp only [hl13_3] at c83b0q13_3))
         clear c83
         obtain ⟨y141, hy141⟩ : ∃ y_ : List Int, y_ = (x2_4.set (x21_4 : Int).toNat (wrap64 ((rd x2_4 x21_4) - x17_3))) := ⟨_, rfl⟩
         replace H : (spec_l4Grow.l3 k4 l0 y139 y141 l3 a4 1099511627776 x11_4 x12_3 y121 x17_3 x18_3 (wrap64 (x21_4 + 1))) = some (r1, r2, r3) := by first | (rw [hy141]; with_reducible exact H) | (have H2_ := (Option.bind_some _ _).symm.trans H; rw [hy141]; with_reducible exact H2_) | (have H2_ := (Option.bind_some _ _).symm.trans H; with_reducible exact H2_) | with_reducible exact H | (rw [hy141]; exact H) | exact H
         have Ny141 := aM hy141
         clear hy141
         have H' := aM H
         clear H
         have p135 : 0 ≤ (x21_4 : Int) := dt_
         have q135 : x21_4 < (y121.length : Int) := dt_
         obtain ⟨ad135, e135, hx135_0⟩ := Kd.at_bool (Kd.R_reads' HO_13.out).2.2 x21_4 p135 q135
         (try rw [← Nbq77.out] at hx135_0)
         obtain rfl : (⟨go24, 0, none⟩ : Addr) = ad135 := (by injection e135)
         (first | simp only [add_plain] at hx135_0 | simp only [add_at] at hx135_0 | simp only [Addr.add, Nat.zero_add] at hx135_0 | skip)
         replace p135 := eq_true p135
         replace q135 := eq_true q135
         try go_wp2
         replace HO_1 := aM (Kd.R_drew HO_1.out)
         replace HO_2 := aM (Kd.R_drew HO_2.out)
         replace HO_3 := aM (Kd.R_drew HO_3.out)
         replace HO_11 := aM (Kd.R_drew HO_11.out)
         replace HO_12 := aM (Kd.R_drew HO_12.out)
         replace HO_13 := aM (Kd.R_drew HO_13.out)
         replace HK := aM (Kept.drew HK.out)
         replace HB := aM (below_drew1 HB.out)
         have p136 : 0 ≤ (x21_4 : Int) := dt_
         have q136 : x21_4 < (l3.length : Int) := dt_
         obtain ⟨ad136, e136, hx136_0⟩ := Kd.at_int (Kd.R_reads' HO_3.out).2.2 x21_4 p136 q136
         obtain rfl : ad122 = ad136 := (by injection e136)
         replace p136 := eq_true p136
         replace q136 := eq_true q136
         have p137 : 0 ≤ (x21_4 : Int) := dt_
         have q137 : x21_4 < (l3.length : Int) := dt_
         obtain ⟨ad137, e137, hx137_0⟩ := Kd.at_int (Kd.R_reads' HO_3.out).2.2 x21_4 p137 q137
         obtain rfl : ad122 = ad137 := (by injection e137)
         replace p137 := eq_true p137
         replace q137 := eq_true q137
         obtain ⟨Ao86, co86, eo86⟩ := Kd.R_slice HO_1.out
         (first | subst eo86 | (injection eo86 with f1_ f2_ f3_; have f4_ := f1_.symm; have f5_ := f3_.symm; clear f1_ f2_ f3_; subst f4_; subst f5_))
         have p138 : 0 ≤ ((rd l3 x21_4) : Int) := dt_
         have q138 : (rd l3 x21_4) < (x1_4.length : Int) := dt_
         obtain ⟨ad138, e138, hx138_0⟩ := Kd.at_int (Kd.R_reads' HO_1.out).2.2 (rd l3 x21_4) p138 q138
         cases e138
         replace p138 := eq_true p138
         replace q138 := eq_true q138
         have p82 : 0 ≤ ((rd l3 x21_4) : Int) := dt_
         have q82 : ((rd l3 x21_4) : Int) < ((x1_4.length : Int) : Int) := dt_
         obtain ⟨go82, co82, eo82, gb82, gl82, cl82, HG82⟩ := Kd.R_form HO_1.out (by omega)
         (first | cases eo82 | (injection eo82 with ea_ en_ ec_; (first | subst ea_ | (injection ea_ with ea_; subst ea_)); subst ec_; clear en_))
         have GB82 := aM gb82
         have GG82 := aM HG82
         clear gb82 gl82 HG82
         have HMgo82 := aM (show ((P1_ go82 ∨ P2_ go82 ∨ P3_ go82) ∨ w.heap.size ≤ go82) from (HO_1.out.1 _ rfl).1)
         (first | simp only [add_plain] at hx138_0 | skip)
         obtain ⟨hx82_0, hf82_0⟩ := Kd.R_celln 0 HO_1.out ((rd l3 x21_4) : Int) p82 q82
         replace p82 := eq_true p82
         replace q82 := eq_true q82
         have HP87 := Kd.R_putn HO_1.out ((rd l3 x21_4) : Int) (wrap64 ((rd x1_4 (rd l3 x21_4)) + x17_3))
         rw [← Ny139.out] at HP87
         have HQ87 := aM HP87
         clear HP87
         refine start_ (n := 16) (S := fun w' => w'.cell? (ad122.add (x21_4).toNat) = some (.int .i64 (rd l3 x21_4)) ∧ w'.cell? (ad122.add (x21_4).toNat) = some (.int .i64 (rd l3 x21_4)) ∧ w'.cell? ⟨go82, ((rd l3 x21_4)).toNat, none⟩ = some (.int .i64 (rd x1_4 (rd l3 x21_4)))) (ds := [15]) #[false, false, false, false, false, false, false, false, false, false, false, false, false, false, false, false] (by kernel_rfl) rfl rfl ⟨hx136_0, hx137_0, hx138_0⟩ (fun hHeld => ?_); refine with_tabW spec_l4Grow.tab28 spec_l4Grow.bits28 (fun HT_ HW_ => ?_)
         generalize wr.drew = w85 at HO_1 HO_2 HO_3 HO_11 HO_12 HO_13 HK HB GG82 HQ87 hf82_0 hx136_0 hx137_0 hx138_0 hx82_0 hHeld ⊢
         refine pI_ 0 111 (bqz 16 1) ?_
         refine jI_ 1 112 ?_
         refine jI_ 2 113 ?_
         refine jI_ 3 114 ?_
         refine jI_ 5 116 ?_
         refine jI_ 6 117 ?_
         refine jI_ 7 118 ?_
         refine jI_ 8 119 ?_
         refine jI_ 12 123 ?_
         refine sI3_ 4 115 ?_
         refine sI3_ 9 120 ?_
         refine jI_ 10 121 ?_
         refine sI3_ 11 122 ?_
         refine jI_ 13 124 ?_
         refine jI_ 14 125 ?_
         refine last_ (i := 15) (N := none) (bqz 16 65535) rfl rfl qzc (by decide) (fun K hK => ?_)
         refine sk_ ?_
         refine hK.out _ _ ?_
         clear hK K
         refine done_ (done_of HT_.out (by kernel_rfl)) ?_
         generalize hq_ : (w85.setCell ⟨go82, ((rd l3 x21_4) : Int).toNat, none⟩ (.int .i64 (wrap64 ((rd x1_4 (rd l3 x21_4)) + x17_3)))) = w88
         replace HO_1 : Aside0 (Kd.R (Kd.int .i64) 3 w88 w0.heap.size (fun k_ => ((P1_ k_ ∨ P2_ k_ ∨ P3_ k_) ∨ w.heap.size ≤ k_) ∧ some k_ ≠ (u9001_ : Value).ownBlock ∧ some k_ ≠ (.slice (some ad122) l3.length co28 : Value).ownBlock ∧ some k_ ≠ (v112 : Value).ownBlock ∧ some k_ ≠ (v115 : Value).ownBlock) (.slice (some ⟨go82, 0, none⟩) x1_4.length co86) y139) := ⟨by rw [← hq_]; exact (rr_ HQ87.out)⟩
         replace HO_2 : Aside0 (Kd.R (Kd.int .i64) 3 w88 w0.heap.size (fun k_ => ((P1_ k_ ∨ P2_ k_ ∨ P3_ k_) ∨ w.heap.size ≤ k_) ∧ some k_ ≠ (.slice (some ⟨go82, 0, none⟩) x1_4.length co86 : Value).ownBlock ∧ some k_ ≠ (.slice (some ad122) l3.length co28 : Value).ownBlock ∧ some k_ ≠ (v112 : Value).ownBlock ∧ some k_ ≠ (v115 : Value).ownBlock) u9001_ x2_4) := ⟨by rw [← hq_]; exact (by (with_reducible repeat (first | apply Kd.R_alloc | apply Kd.R_drewN | apply Kd.R_drew)); exact Kd.R_mono (Kd.R_far (p := ⟨go82, ((rd l3 x21_4) : Int).toNat, none⟩) (Kd.R_mono HO_2.out (fun k_ hk => (⟨hk, fun e_ => hk.2.1 (by rw [e_]; rfl)⟩ : _ ∧ k_ ≠ go82))) (fun _ hk => hk.2) (.int .i64 (wrap64 ((rd x1_4 (rd l3 x21_4)) + x17_3)))) (fun _ hk => ⟨hk.1.1, ⟨hk.1.2.1, ⟨hk.1.2.2.1, ⟨hk.1.2.2.2.1, hk.1.2.2.2.2⟩⟩⟩⟩))⟩
         replace HO_3 : Aside0 (Kd.R (Kd.int .i64) 3 w88 w0.heap.size (fun k_ => ((P1_ k_ ∨ P2_ k_ ∨ P3_ k_) ∨ w.heap.size ≤ k_) ∧ some k_ ≠ (.slice (some ⟨go82, 0, none⟩) x1_4.length co86 : Value).ownBlock ∧ some k_ ≠ (u9001_ : Value).ownBlock ∧ some k_ ≠ (v112 : Value).ownBlock ∧ some k_ ≠ (v115 : Value).ownBlock) (.slice (some ad122) l3.length co28) l3) := ⟨by rw [← hq_]; exact (by (with_reducible repeat (first | apply Kd.R_alloc | apply Kd.R_drewN | apply Kd.R_drew)); exact Kd.R_mono (Kd.R_far (p := ⟨go82, ((rd l3 x21_4) : Int).toNat, none⟩) (Kd.R_mono HO_3.out (fun k_ hk => (⟨hk, fun e_ => hk.2.1 (by rw [e_]; rfl)⟩ : _ ∧ k_ ≠ go82))) (fun _ hk => hk.2) (.int .i64 (wrap64 ((rd x1_4 (rd l3 x21_4)) + x17_3)))) (fun _ hk => ⟨hk.1.1, ⟨hk.1.2.1, ⟨hk.1.2.2.1, ⟨hk.1.2.2.2.1, hk.1.2.2.2.2⟩⟩⟩⟩))⟩
         replace HO_11 : Aside0 (Kd.R (Kd.int .i64) 3 w88 w0.heap.size (fun k_ => ((P1_ k_ ∨ P2_ k_ ∨ P3_ k_) ∨ w.heap.size ≤ k_) ∧ some k_ ≠ (.slice (some ⟨go82, 0, none⟩) x1_4.length co86 : Value).ownBlock ∧ some k_ ≠ (u9001_ : Value).ownBlock ∧ some k_ ≠ (.slice (some ad122) l3.length co28 : Value).ownBlock ∧ some k_ ≠ (v115 : Value).ownBlock) v112 x11_4) := ⟨by rw [← hq_]; exact (by (with_reducible repeat (first | apply Kd.R_alloc | apply Kd.R_drewN | apply Kd.R_drew)); exact Kd.R_mono (Kd.R_far (p := ⟨go82, ((rd l3 x21_4) : Int).toNat, none⟩) (Kd.R_mono HO_11.out (fun k_ hk => (⟨hk, fun e_ => hk.2.1 (by rw [e_]; rfl)⟩ : _ ∧ k_ ≠ go82))) (fun _ hk => hk.2) (.int .i64 (wrap64 ((rd x1_4 (rd l3 x21_4)) + x17_3)))) (fun _ hk => ⟨hk.1.1, ⟨hk.1.2.1, ⟨hk.1.2.2.1, ⟨hk.1.2.2.2.1, hk.1.2.2.2.2⟩⟩⟩⟩))⟩
         replace HO_12 : Aside0 (Kd.R (Kd.int .i64) 3 w88 w0.heap.size (fun k_ => ((P1_ k_ ∨ P2_ k_ ∨ P3_ k_) ∨ w.heap.size ≤ k_) ∧ some k_ ≠ (.slice (some ⟨go82, 0, none⟩) x1_4.length co86 : Value).ownBlock ∧ some k_ ≠ (u9001_ : Value).ownBlock ∧ some k_ ≠ (.slice (some ad122) l3.length co28 : Value).ownBlock ∧ some k_ ≠ (v112 : Value).ownBlock) v115 x12_3) := ⟨by rw [← hq_]; exact (by (with_reducible repeat (first | apply Kd.R_alloc | apply Kd.R_drewN | apply Kd.R_drew)); exact Kd.R_mono (Kd.R_far (p := ⟨go82, ((rd l3 x21_4) : Int).toNat, none⟩) (Kd.R_mono HO_12.out (fun k_ hk => (⟨hk, fun e_ => hk.2.1 (by rw [e_]; rfl)⟩ : _ ∧ k_ ≠ go82))) (fun _ hk => hk.2) (.int .i64 (wrap64 ((rd x1_4 (rd l3 x21_4)) + x17_3)))) (fun _ hk => ⟨hk.1.1, ⟨hk.1.2.1, ⟨hk.1.2.2.1, ⟨hk.1.2.2.2.1, hk.1.2.2.2.2⟩⟩⟩⟩))⟩
         replace HO_13 : Aside0 (Kd.R Kd.bool 4 w88 w0.heap.size (fun k_ => ((P1_ k_ ∨ P2_ k_ ∨ P3_ k_) ∨ w.heap.size ≤ k_)) (.slice (some ⟨go24, 0, none⟩) y121.length co24) y121) := ⟨by rw [← hq_]; exact (by (with_reducible repeat (first | apply Kd.R_alloc | apply Kd.R_drewN | apply Kd.R_drew)); exact Kd.R_mono (Kd.R_far (p := ⟨go82, ((rd l3 x21_4) : Int).toNat, none⟩) (Kd.R_types HO_13.out GG82.out (by decide)) (fun _ hk => hk.2) (.int .i64 (wrap64 ((rd x1_4 (rd l3 x21_4)) + x17_3)))) (fun _ hk => hk.1))⟩
         replace HK : Aside0 (Kept w w88 (fun k_ => P1_ k_ ∨ P2_ k_ ∨ P3_ k_)) := ⟨by rw [← hq_]; exact qz2⟩
         replace HB : Aside0 (Below w0.heap.size w0 w88) := ⟨by rw [← hq_]; exact qz1⟩
         clear hq_
         obtain ⟨Ao89, co89, eo89⟩ := Kd.R_slice HO_2.out
         subst eo89
         have p140 : 0 ≤ (x21_4 : Int) := dt_
         have q140 : x21_4 < (x2_4.length : Int) := dt_
         obtain ⟨ad140, e140, hx140_0⟩ := Kd.at_int (Kd.R_reads' HO_2.out).2.2 x21_4 p140 q140
         cases e140
         replace p140 := eq_true p140
         replace q140 := eq_true q140
         have p84 : 0 ≤ (x21_4 : Int) := dt_
         have q84 : (x21_4 : Int) < ((x2_4.length : Int) : Int) := dt_
         obtain ⟨go84, co84, eo84, gb84, gl84, cl84, HG84⟩ := Kd.R_form HO_2.out (by omega)
         (first | cases eo84 | (injection eo84 with ea_ en_ ec_; (first | subst ea_ | (injection ea_ with ea_; subst ea_)); subst ec_; clear en_))
         have GB84 := aM gb84
         have GG84 := aM HG84
         clear gb84 gl84 HG84
         have HMgo84 := aM (show ((P1_ go84 ∨ P2_ go84 ∨ P3_ go84) ∨ w.heap.size ≤ go84) from (HO_2.out.1 _ rfl).1)
         (first | simp only [add_plain] at hx140_0 | skip)
         obtain ⟨hx84_0, hf84_0⟩ := Kd.R_celln 0 HO_2.out (x21_4 : Int) p84 q84
         replace p84 := eq_true p84
         replace q84 := eq_true q84
         obtain ⟨hy90_, hz90_⟩ := Kd.R_celln 0 HO_2.out (x21_4 : Int) (dt_) (dt_)
         have HP90 := Kd.R_putg HO_2.out (x21_4 : Int) (wrap64 ((rd x2_4 x21_4) - x17_3))
         try go_wp2_with (first | ((with_reducible refine gate_store (t := 3) (p := 134) rfl ?_); refine store_event (t := 3) (p := 134) (v := ?vo_w91) (w1 := (w88.setCell ⟨go84, (x21_4 : Int).toNat, none⟩ (.int .i64 (wrap64 ((rd x2_4 x21_4) - x17_3))))) ?hg ?ho ?hn ?hr ?_; (case ho => rfl); (case hg => rfl); (case hn => rfl); (case hr => exact qz8); intro w91 hw; have hg : w88.grownBy w91 (some go84) := (by rw [hw]; exact HP90.2); have hp_ : Kd.R (Kd.int .i64) 3 w91 w0.heap.size (fun k_ => ((P1_ k_ ∨ P2_ k_ ∨ P3_ k_) ∨ w.heap.size ≤ k_) ∧ some k_ ≠ (.slice (some ⟨go82, 0, none⟩) x1_4.length co86 : Value).ownBlock ∧ some k_ ≠ (.slice (some ad122) l3.length co28 : Value).ownBlock ∧ some k_ ≠ (v112 : Value).ownBlock ∧ some k_ ≠ (v115 : Value).ownBlock) (.slice (some ⟨go84, 0, none⟩) x2_4.length co89) y141 := (by rw [hw, Ny141.out]; exact HP90.1); clear HP90; replace HO_1 := aM (Kd.R_after (v := (.slice (some ⟨go84, 0, none⟩) x2_4.length co89)) (v1 := (.slice (some ⟨go84, 0, none⟩) x2_4.length co89)) (ok := (fun k_ => ((P1_ k_ ∨ P2_ k_ ∨ P3_ k_) ∨ w.heap.size ≤ k_) ∧ some k_ ≠ (.slice (some ad122) l3.length co28 : Value).ownBlock ∧ some k_ ≠ (v112 : Value).ownBlock ∧ some k_ ≠ (v115 : Value).ownBlock)) (by (with_reducible repeat (first | apply Kd.R_alloc | apply Kd.R_drewN | apply Kd.R_drew)); exact Kd.R_mono HO_1.out (fun _ hk => ⟨⟨hk.1, ⟨hk.2.2.1, ⟨hk.2.2.2.1, hk.2.2.2.2⟩⟩⟩, hk.2.1⟩)) hg (.inl rfl)); replace HO_3 := aM (Kd.R_after (v := (.slice (some ⟨go84, 0, none⟩) x2_4.length co89)) (v1 := (.slice (some ⟨go84, 0, none⟩) x2_4.length co89)) (ok := (fun k_ => ((P1_ k_ ∨ P2_ k_ ∨ P3_ k_) ∨ w.heap.size ≤ k_) ∧ some k_ ≠ (.slice (some ⟨go82, 0, none⟩) x1_4.length co86 : Value).ownBlock ∧ some k_ ≠ (v112 : Value).ownBlock ∧ some k_ ≠ (v115 : Value).ownBlock)) (by (with_reducible repeat (first | apply Kd.R_alloc | apply Kd.R_drewN | apply Kd.R_drew)); exact Kd.R_mono HO_3.out (fun _ hk => ⟨⟨hk.1, ⟨hk.2.1, ⟨hk.2.2.2.1, hk.2.2.2.2⟩⟩⟩, hk.2.2.1⟩)) hg (.inl rfl)); replace HO_11 := aM (Kd.R_after (v := (.slice (some ⟨go84, 0, none⟩) x2_4.length co89)) (v1 := (.slice (some ⟨go84, 0, none⟩) x2_4.length co89)) (ok := (fun k_ => ((P1_ k_ ∨ P2_ k_ ∨ P3_ k_) ∨ w.heap.size ≤ k_) ∧ some k_ ≠ (.slice (some ⟨go82, 0, none⟩) x1_4.length co86 : Value).ownBlock ∧ some k_ ≠ (.slice (some ad122) l3.length co28 : Value).ownBlock ∧ some k_ ≠ (v115 : Value).ownBlock)) (by (with_reducible repeat (first | apply Kd.R_alloc | apply Kd.R_drewN | apply Kd.R_drew)); exact Kd.R_mono HO_11.out (fun _ hk => ⟨⟨hk.1, ⟨hk.2.1, ⟨hk.2.2.2.1, hk.2.2.2.2⟩⟩⟩, hk.2.2.1⟩)) hg (.inl rfl)); replace HO_12 := aM (Kd.R_after (v := (.slice (some ⟨go84, 0, none⟩) x2_4.length co89)) (v1 := (.slice (some ⟨go84, 0, none⟩) x2_4.length co89)) (ok := (fun k_ => ((P1_ k_ ∨ P2_ k_ ∨ P3_ k_) ∨ w.heap.size ≤ k_) ∧ some k_ ≠ (.slice (some ⟨go82, 0, none⟩) x1_4.length co86 : Value).ownBlock ∧ some k_ ≠ (.slice (some ad122) l3.length co28 : Value).ownBlock ∧ some k_ ≠ (v112 : Value).ownBlock)) (by (with_reducible repeat (first | apply Kd.R_alloc | apply Kd.R_drewN | apply Kd.R_drew)); exact Kd.R_mono HO_12.out (fun _ hk => ⟨⟨hk.1, ⟨hk.2.1, ⟨hk.2.2.2.1, hk.2.2.2.2⟩⟩⟩, hk.2.2.1⟩)) hg (.inl rfl)); replace HO_13 := aM (Kd.R_over' (v := (.slice (some ⟨go84, 0, none⟩) x2_4.length co89)) (rr_ HO_13.out) (Kd.R_typed HO_2.out) (by decide) hg); replace HB := aM ((by rw [hw]; exact below_set (HB.out) GB84.out : Below w0.heap.size w0 w91)); replace HK := aM (Kept.of_grown (S := (fun k_ => P1_ k_ ∨ P2_ k_ ∨ P3_ k_)) hg qz2 (fun k_ e_ => (HO_2.out.1 k_ e_).1)); replace HO_2 := aM (hp_); clear hg hw hp_))
         go_roundg k4
         case measure => have := HK1.out; have := HK2.out; have := HK3.out; have := HK4.out; omega
         case rel => exact ⟨(y139), (y141), (x11_4), (wrap64 (x21_4 + 1)), qz3, H', ⟨by have := HK1.out; have := HK2.out; have := HK3.out; have := HK4.out; omega⟩, ⟨by (try simp only [hl13_3]); (with_reducible repeat (first | apply Kd.R_alloc | apply Kd.R_drewN | apply Kd.R_drew)); exact Kd.R_mono HO_1.out (fun _ hk => ⟨hk.1.1, ⟨hk.2, ⟨hk.1.2.1, ⟨hk.1.2.2.1, hk.1.2.2.2⟩⟩⟩⟩)⟩, ⟨by (try simp only [hl13_3]); exact rm_ HO_2.out⟩, ⟨by (try simp only [hl13_3]); (with_reducible repeat (first | apply Kd.R_alloc | apply Kd.R_drewN | apply Kd.R_drew)); exact Kd.R_mono HO_3.out (fun _ hk => ⟨hk.1.1, ⟨hk.1.2.1, ⟨hk.2, ⟨hk.1.2.2.1, hk.1.2.2.2⟩⟩⟩⟩)⟩, ⟨by (try simp only [hl13_3]); (with_reducible repeat (first | apply Kd.R_alloc | apply Kd.R_drewN | apply Kd.R_drew)); exact Kd.R_mono HO_11.out (fun _ hk => ⟨hk.1.1, ⟨hk.1.2.1, ⟨hk.2, ⟨hk.1.2.2.1, hk.1.2.2.2⟩⟩⟩⟩)⟩, ⟨by (try simp only [hl13_3]); (with_reducible repeat (first | apply Kd.R_alloc | apply Kd.R_drewN | apply Kd.R_drew)); exact Kd.R_mono HO_12.out (fun _ hk => ⟨hk.1.1, ⟨hk.1.2.1, ⟨hk.2, ⟨hk.1.2.2.1, hk.1.2.2.2⟩⟩⟩⟩)⟩, ⟨by (try simp only [hl13_3]); exact rm_ HO_13.out⟩, ⟨qz2⟩, ⟨qz1⟩⟩
         }
         {
         exact an_ c83 H
         }
         }
         {
         exact an_ c81 H
         }
         }
         {
         exact an_ c80 H
         }
         }
         {
         exact an_ c79 H
         }
         }
         {
         replace c78 := Bool.eq_false_iff.mpr c78
         subst c78
         rw [if_neg (show ¬ (false = true) by decide)] at H
         by_cases c92 : x21_4 < (x11_4.length : Int)
         {
         rw [if_pos c92] at H
         have c92b0 := decide_eq_true c92
         (try (have c92b0q13_3 := c92b0; simp only [hl13_3] at c92b0q13_3))
         clear c92
         obtain ⟨y143, hy143⟩ : ∃ y_ : List Int, y_ = (x11_4.set (x21_4 : Int).toNat (wrap64 ((rd x11_4 x21_4) - x17_3))) := ⟨_, rfl⟩
         replace H : (spec_l4Grow.l3 k4 l0 x1_4 x2_4 l3 a4 1099511627776 y143 x12_3 y121 x17_3 x18_3 (wrap64 (x21_4 + 1))) = some (r1, r2, r3) := by first | (rw [hy143]; with_reducible exact H) | (have H2_ := (Option.bind_some _ _).symm.trans H; rw [hy143]; with_reducible exact H2_) | (have H2_ := (Option.bind_some _ _).symm.trans H; with_reducible exact H2_) | with_reducible exact H | (rw [hy143]; exact H) | exact H
         have Ny143 := aM hy143
         clear hy143
         have H' := aM H
         clear H
         have p135 : 0 ≤ (x21_4 : Int) := dt_
         have q135 : x21_4 < (y121.length : Int) := dt_
         obtain ⟨ad135, e135, hx135_0⟩ := Kd.at_bool (Kd.R_reads' HO_13.out).2.2 x21_4 p135 q135
         (try rw [← Nbq77.out] at hx135_0)
         obtain rfl : (⟨go24, 0, none⟩ : Addr) = ad135 := (by injection e135)
         (first | simp only [add_plain] at hx135_0 | simp only [add_at] at hx135_0 | simp only [Addr.add, Nat.zero_add] at hx135_0 | skip)
         replace p135 := eq_true p135
         replace q135 := eq_true q135
         obtain ⟨Ao94, co94, eo94⟩ := Kd.R_slice HO_11.out
         subst eo94
         have p142 : 0 ≤ (x21_4 : Int) := dt_
         have q142 : x21_4 < (x11_4.length : Int) := dt_
         obtain ⟨ad142, e142, hx142_0⟩ := Kd.at_int (Kd.R_reads' HO_11.out).2.2 x21_4 p142 q142
         cases e142
         replace p142 := eq_true p142
         replace q142 := eq_true q142
         have p93 : 0 ≤ (x21_4 : Int) := dt_
         have q93 : (x21_4 : Int) < ((x11_4.length : Int) : Int) := dt_
         obtain ⟨go93, co93, eo93, gb93, gl93, cl93, HG93⟩ := Kd.R_form HO_11.out (by omega)
         (first | cases eo93 | (injection eo93 with ea_ en_ ec_; (first | subst ea_ | (injection ea_ with ea_; subst ea_)); subst ec_; clear en_))
         have GB93 := aM gb93
         have GG93 := aM HG93
         clear gb93 gl93 HG93
         have HMgo93 := aM (show ((P1_ go93 ∨ P2_ go93 ∨ P3_ go93) ∨ w.heap.size ≤ go93) from (HO_11.out.1 _ rfl).1)
         (first | simp only [add_plain] at hx142_0 | skip)
         obtain ⟨hx93_0, hf93_0⟩ := Kd.R_celln 0 HO_11.out (x21_4 : Int) p93 q93
         replace p93 := eq_true p93
         replace q93 := eq_true q93
         obtain ⟨hy95_, hz95_⟩ := Kd.R_celln 0 HO_11.out (x21_4 : Int) (dt_) (dt_)
         have HP95 := Kd.R_putg HO_11.out (x21_4 : Int) (wrap64 ((rd x11_4 x21_4) - x17_3))
         go_wp2_with (first | ((with_reducible refine gate_store (t := 3) (p := 143) rfl ?_); refine store_event (t := 3) (p := 143) (v := ?vo_w96) (w1 := (wr.setCell ⟨go93, (x21_4 : Int).toNat, none⟩ (.int .i64 (wrap64 ((rd x11_4 x21_4) - x17_3))))) ?hg ?ho ?hn ?hr ?_; (case ho => rfl); (case hg => rfl); (case hn => rfl); (case hr => exact qz8); intro w96 hw; have hg : wr.grownBy w96 (some go93) := (by rw [hw]; exact HP95.2); have hp_ : Kd.R (Kd.int .i64) 3 w96 w0.heap.size (fun k_ => ((P1_ k_ ∨ P2_ k_ ∨ P3_ k_) ∨ w.heap.size ≤ k_) ∧ some k_ ≠ (u9000_ : Value).ownBlock ∧ some k_ ≠ (u9001_ : Value).ownBlock ∧ some k_ ≠ (.slice (some ad122) l3.length co28 : Value).ownBlock ∧ some k_ ≠ (v115 : Value).ownBlock) (.slice (some ⟨go93, 0, none⟩) x11_4.length co94) y143 := (by rw [hw, Ny143.out]; exact HP95.1); clear HP95; replace HO_1 := aM (Kd.R_after (v := (.slice (some ⟨go93, 0, none⟩) x11_4.length co94)) (v1 := (.slice (some ⟨go93, 0, none⟩) x11_4.length co94)) (ok := (fun k_ => ((P1_ k_ ∨ P2_ k_ ∨ P3_ k_) ∨ w.heap.size ≤ k_) ∧ some k_ ≠ (u9001_ : Value).ownBlock ∧ some k_ ≠ (.slice (some ad122) l3.length co28 : Value).ownBlock ∧ some k_ ≠ (v115 : Value).ownBlock)) qz15 hg (.inl rfl)); replace HO_2 := aM (Kd.R_after (v := (.slice (some ⟨go93, 0, none⟩) x11_4.length co94)) (v1 := (.slice (some ⟨go93, 0, none⟩) x11_4.length co94)) (ok := (fun k_ => ((P1_ k_ ∨ P2_ k_ ∨ P3_ k_) ∨ w.heap.size ≤ k_) ∧ some k_ ≠ (u9000_ : Value).ownBlock ∧ some k_ ≠ (.slice (some ad122) l3.length co28 : Value).ownBlock ∧ some k_ ≠ (v115 : Value).ownBlock)) qz16 hg (.inl rfl)); replace HO_3 := aM (Kd.R_after (v := (.slice (some ⟨go93, 0, none⟩) x11_4.length co94)) (v1 := (.slice (some ⟨go93, 0, none⟩) x11_4.length co94)) (ok := (fun k_ => ((P1_ k_ ∨ P2_ k_ ∨ P3_ k_) ∨ w.heap.size ≤ k_) ∧ some k_ ≠ (u9000_ : Value).ownBlock ∧ some k_ ≠ (u9001_ : Value).ownBlock ∧ some k_ ≠ (v115 : Value).ownBlock)) qz17 hg (.inl rfl)); replace HO_12 := aM (Kd.R_after (v := (.slice (some ⟨go93, 0, none⟩) x11_4.length co94)) (v1 := (.slice (some ⟨go93, 0, none⟩) x11_4.length co94)) (ok := (fun k_ => ((P1_ k_ ∨ P2_ k_ ∨ P3_ k_) ∨ w.heap.size ≤ k_) ∧ some k_ ≠ (u9000_ : Value).ownBlock ∧ some k_ ≠ (u9001_ : Value).ownBlock ∧ some k_ ≠ (.slice (some ad122) l3.length co28 : Value).ownBlock)) qz14 hg (.inl rfl)); replace HO_13 := aM (Kd.R_over' (v := (.slice (some ⟨go93, 0, none⟩) x11_4.length co94)) (rr_ HO_13.out) (Kd.R_typed HO_11.out) (by decide) hg); replace HB := aM ((by rw [hw]; exact below_set (HB.out) GB93.out : Below w0.heap.size w0 w96)); replace HK := aM (Kept.of_grown (S := (fun k_ => P1_ k_ ∨ P2_ k_ ∨ P3_ k_)) hg qz2 (fun k_ e_ => (HO_11.out.1 k_ e_).1)); replace HO_11 := aM (hp_); clear hg hw hp_))
         go_roundg k4
         case measure => have := HK1.out; have := HK2.out; have := HK3.out; have := HK4.out; omega
         case rel => exact ⟨(x1_4), (x2_4), (y143), (wrap64 (x21_4 + 1)), qz3, H', ⟨by have := HK1.out; have := HK2.out; have := HK3.out; have := HK4.out; omega⟩, ⟨by (try simp only [hl13_3]); (with_reducible repeat (first | apply Kd.R_alloc | apply Kd.R_drewN | apply Kd.R_drew)); exact Kd.R_mono HO_1.out (fun _ hk => ⟨hk.1.1, ⟨hk.1.2.1, ⟨hk.1.2.2.1, ⟨hk.2, hk.1.2.2.2⟩⟩⟩⟩)⟩, ⟨by (try simp only [hl13_3]); (with_reducible repeat (first | apply Kd.R_alloc | apply Kd.R_drewN | apply Kd.R_drew)); exact Kd.R_mono HO_2.out (fun _ hk => ⟨hk.1.1, ⟨hk.1.2.1, ⟨hk.1.2.2.1, ⟨hk.2, hk.1.2.2.2⟩⟩⟩⟩)⟩, ⟨by (try simp only [hl13_3]); (with_reducible repeat (first | apply Kd.R_alloc | apply Kd.R_drewN | apply Kd.R_drew)); exact Kd.R_mono HO_3.out (fun _ hk => ⟨hk.1.1, ⟨hk.1.2.1, ⟨hk.1.2.2.1, ⟨hk.2, hk.1.2.2.2⟩⟩⟩⟩)⟩, ⟨by (try simp only [hl13_3]); exact rm_ HO_11.out⟩, ⟨by (try simp only [hl13_3]); (with_reducible repeat (first | apply Kd.R_alloc | apply Kd.R_drewN | apply Kd.R_drew)); exact Kd.R_mono HO_12.out (fun _ hk => ⟨hk.1.1, ⟨hk.1.2.1, ⟨hk.1.2.2.1, ⟨hk.1.2.2.2, hk.2⟩⟩⟩⟩)⟩, ⟨by (try simp only [hl13_3]); exact rm_ HO_13.out⟩, ⟨qz2⟩, ⟨qz1⟩⟩
         }
         {
         exact an_ c92 H
         }
         }
         }
         {
         exact an_ c76 H
         }
         }
         {
         exact an_ c75 H
         }
         }
         {
         rw [if_neg c74] at H
         have c74b0 := decide_eq_false c74
         clear c74
         by_cases c97 : 0 ≤ x18_3
         {
         rw [if_pos c97] at H
         have c97b0 := decide_eq_true c97
         clear c97
         by_cases c98 : x18_3 < (l3.length : Int)
         {
         rw [if_pos c98] at H
         have c98b0 := decide_eq_true c98
         (try (have c98b0q13_3 := c98b0; simp only [hl13_3] at c98b0q13_3))
         clear c98
         by_cases c99 : (rd l3 x18_3) = 0
         {
         rw [if_pos c99] at H
         have c99b0 := beq_iff_eq.mpr c99
         have c99b1 := bne_eq_false_iff_eq.mpr c99
         clear c99
         have H' := aM H
         clear H
         have p144 : 0 ≤ (x18_3 : Int) := dt_
         have q144 : x18_3 < (l3.length : Int) := dt_
         obtain ⟨ad144, e144, hx144_0⟩ := Kd.at_int (Kd.R_reads' HO_3.out).2.2 x18_3 p144 q144
         obtain rfl : ad122 = ad144 := (by injection e144)
         replace p144 := eq_true p144
         replace q144 := eq_true q144
         go_wp2
         go_loopg [15] k4 (fun kq v15 w' => ∃ (x3_5 : List Int) (x15_5 : Int), v15 = .int .i64 x15_5 ∧ Aside0 (spec_l4Grow.l4 kq x1_4 x2_4 x3_5 x12_3 x15_5 = some (r1, r2, r3)) ∧ Aside0 (kq ≤ k4) ∧ Aside0 (Kd.R (Kd.int .i64) 3 w' w0.heap.size (fun k_ => ((P1_ k_ ∨ P2_ k_ ∨ P3_ k_) ∨ w.heap.size ≤ k_) ∧ some k_ ≠ (u9001_ : Value).ownBlock ∧ some k_ ≠ ((.slice (some ad122) l3.length co28) : Value).ownBlock ∧ some k_ ≠ (v115 : Value).ownBlock) u9000_ x1_4) ∧ Aside0 (Kd.R (Kd.int .i64) 3 w' w0.heap.size (fun k_ => ((P1_ k_ ∨ P2_ k_ ∨ P3_ k_) ∨ w.heap.size ≤ k_) ∧ some k_ ≠ (u9000_ : Value).ownBlock ∧ some k_ ≠ ((.slice (some ad122) l3.length co28) : Value).ownBlock ∧ some k_ ≠ (v115 : Value).ownBlock) u9001_ x2_4) ∧ Aside0 (Kd.R (Kd.int .i64) 3 w' w0.heap.size (fun k_ => ((P1_ k_ ∨ P2_ k_ ∨ P3_ k_) ∨ w.heap.size ≤ k_) ∧ some k_ ≠ (u9000_ : Value).ownBlock ∧ some k_ ≠ (u9001_ : Value).ownBlock ∧ some k_ ≠ (v115 : Value).ownBlock) (.slice (some ad122) l3.length co28) x3_5) ∧ Aside0 (Kd.R (Kd.int .i64) 3 w' w0.heap.size (fun k_ => ((P1_ k_ ∨ P2_ k_ ∨ P3_ k_) ∨ w.heap.size ≤ k_) ∧ some k_ ≠ (u9000_ : Value).ownBlock ∧ some k_ ≠ (u9001_ : Value).ownBlock ∧ some k_ ≠ ((.slice (some ad122) l3.length co28) : Value).ownBlock) v115 x12_3) ∧ Aside0 (Kept w w' (fun k_ => P1_ k_ ∨ P2_ k_ ∨ P3_ k_)) ∧ Aside0 (Below w0.heap.size w0 w'))
         case atStart => exact ⟨(l3), (x18_3), qz3, H', ⟨Nat.le_refl _⟩, ⟨by (try simp only [hl13_3]); (with_reducible repeat (first | apply Kd.R_alloc | apply Kd.R_drewN | apply Kd.R_drew)); exact Kd.R_mono HO_1.out (fun _ hk => ⟨hk.1, ⟨hk.2.1, ⟨hk.2.2.1, hk.2.2.2.2⟩⟩⟩)⟩, ⟨by (try simp only [hl13_3]); (with_reducible repeat (first | apply Kd.R_alloc | apply Kd.R_drewN | apply Kd.R_drew)); exact Kd.R_mono HO_2.out (fun _ hk => ⟨hk.1, ⟨hk.2.1, ⟨hk.2.2.1, hk.2.2.2.2⟩⟩⟩)⟩, ⟨by (try simp only [hl13_3]); (with_reducible repeat (first | apply Kd.R_alloc | apply Kd.R_drewN | apply Kd.R_drew)); exact Kd.R_mono HO_3.out (fun _ hk => ⟨hk.1, ⟨hk.2.1, ⟨hk.2.2.1, hk.2.2.2.2⟩⟩⟩)⟩, ⟨by (try simp only [hl13_3]); (with_reducible repeat (first | apply Kd.R_alloc | apply Kd.R_drewN | apply Kd.R_drew)); exact Kd.R_mono HO_12.out (fun _ hk => ⟨hk.1, ⟨hk.2.1, ⟨hk.2.2.1, hk.2.2.2.1⟩⟩⟩)⟩, ⟨qz2⟩, ⟨qz1⟩⟩
         case round =>
          clear H'
          try clear c1
          try clear p1
          try clear q1
          try clear hx1
          try clear c2
          try clear p2
          try clear c3
          try clear q3
          try clear c4
          try clear p4
          try clear q4
          try clear hx4
          try clear c6
          try clear p6
          try clear c7
          try clear q7
          try clear c8
          try clear p8
          try clear q8
          try clear hx8
          try clear hf8
          try clear c9
          try clear p9
          try clear q9
          try clear hx9
          try clear hf9
          try clear c12
          try clear p12
          try clear q12
          try clear hx12
          try clear p13
          try clear q13
          try clear hx13
          try clear p14
          try clear q14
          try clear hx14
          try clear c29
          try clear c29b0
          try clear c30
          try clear c31
          try clear q32
          try clear c35
          try clear c36
          try clear c38
          try clear c39
          try clear c40
          try clear c41
          try clear c42
          try clear c43
          try clear c44
          try clear c44b0
          try clear p45
          try clear q45
          try clear hx45
          try clear hf45
          try clear c46
          try clear p47
          try clear q47
          try clear hx47
          try clear hf47
          try clear p64
          try clear c65
          try clear c65b0
          try clear c74
          try clear c74b0
          try clear c75
          try clear c75b0
          try clear c76
          try clear c76b0
          try clear q77
          try clear c78
          try clear c79
          try clear c79b0
          try clear c80
          try clear c80b0
          try clear c81
          try clear c81b0
          try clear p82
          try clear q82
          try clear hx82
          try clear hf82
          try clear c83
          try clear c83b0
          try clear p84
          try clear q84
          try clear hx84
          try clear hf84
          try clear c92
          try clear c92b0
          try clear p93
          try clear q93
          try clear hx93
          try clear hf93
          try clear c97
          try clear c97b0
          try clear c98
          try clear c98b0
          try clear c99
          try clear c99b0
          try clear c99b1
          try clear hx123_0
          try clear hx124_0
          try clear hx125_0
          try clear hx126_0
          try clear hx127_0
          try clear hx128_0
          try clear hx131_0
          try clear hx133_0
          try clear hx134_0
          try clear hx135_0
          try clear hx136_0
          try clear hx137_0
          try clear hx138_0
          try clear hx140_0
          try clear hx142_0
          try clear hx144_0
          try clear hx45_0
          try clear hx47_0
          try clear hx82_0
          try clear hx84_0
          try clear hx93_0
          try clear p123
          try clear p124
          try clear p125
          try clear p126
          try clear p127
          try clear p128
          try clear p131
          try clear p133
          try clear p134
          try clear p135
          try clear p136
          try clear p137
          try clear p138
          try clear p140
          try clear p142
          try clear p144
          try clear q123
          try clear q124
          try clear q125
          try clear q126
          try clear q127
          try clear q128
          try clear q131
          try clear q133
          try clear q134
          try clear q135
          try clear q136
          try clear q137
          try clear q138
          try clear q140
          try clear q142
          try clear q144
          obtain ⟨x3_5, x15_5, rfl, HA, HK5, HO_1, HO_2, HO_3, HO_12, HK, HB⟩ := hrel
          have hl3_5 := (Kd.R_reads' HO_3.out).1
          rw [hl3_5] at HO_3
          (try simp only [hl3_5])
          (try simp only [hl3_5] at HO_1)
          (try simp only [hl3_5] at HO_2)
          (try simp only [hl3_5] at HO_12)
          cases gk with
          | zero => exact absurd HA.out (by simp [spec_l4Grow.l4])
          | succ k5 =>
           have H := HA.out
           clear HA
           simp only [spec_l4Grow.l4] at H
           by_cases c100 : x15_5 = 0
           {
           rw [if_pos c100] at H
           have c100b0 := beq_iff_eq.mpr c100
           have c100b1 := bne_eq_false_iff_eq.mpr c100
           clear c100
           simp only [Option.some.injEq, Prod.mk.injEq] at H
           obtain ⟨rfl, rfl, rfl⟩ := H
           go_wp2
           first | go_end0 | ((try simp only [Exit.inBlock, Exit.then]); refine bodyPost_ret (results_none rfl _ _ _) rfl ?_)
           exact ⟨by first | rfl | (simp [errW_none, errW_some] <;> rfl) | (simp only [← hji6]; first | rfl | (simp [errW_none, errW_some] <;> rfl)) | (simp [*, errW_none, errW_some] <;> rfl), (by first | exact (by (with_reducible repeat (first | apply Kd.R_alloc | apply Kd.R_drewN | apply Kd.R_drew)); exact Kd.R_mono HO_1.out (fun _ hk => hk.1)) | (simp only [hl13_3, hl3_5]; exact (by (with_reducible repeat (first | apply Kd.R_alloc | apply Kd.R_drewN | apply Kd.R_drew)); exact Kd.R_mono HO_1.out (fun _ hk => hk.1)))), (by first | exact (by (with_reducible repeat (first | apply Kd.R_alloc | apply Kd.R_drewN | apply Kd.R_drew)); exact Kd.R_mono HO_2.out (fun _ hk => hk.1)) | (simp only [hl13_3, hl3_5]; exact (by (with_reducible repeat (first | apply Kd.R_alloc | apply Kd.R_drewN | apply Kd.R_drew)); exact Kd.R_mono HO_2.out (fun _ hk => hk.1)))), (by first | exact (by (with_reducible repeat (first | apply Kd.R_alloc | apply Kd.R_drewN | apply Kd.R_drew)); exact Kd.R_mono HO_3.out (fun _ hk => hk.1)) | (simp only [hl13_3, hl3_5]; exact (by (with_reducible repeat (first | apply Kd.R_alloc | apply Kd.R_drewN | apply Kd.R_drew)); exact Kd.R_mono HO_3.out (fun _ hk => hk.1)))), qz1, qz2⟩
           }
           {
           rw [if_neg c100] at H
           have c100b0 := beq_eq_false_iff_ne.mpr c100
           have c100b1 := bne_iff_ne.mpr c100
           by_cases c101 : 0 ≤ x15_5
           {
           rw [if_pos c101] at H
           have c101b0 := decide_eq_true c101
           clear c101
           by_cases c102 : x15_5 < (x12_3.length : Int)
           {
           rw [if_pos c102] at H
           have c102b0 := decide_eq_true c102
           (try (have c102b0q13_3 := c102b0; simp only [hl13_3] at c102b0q13_3))
           (try (have c102b0q3_5 := c102b0; simp only [hl3_5] at c102b0q3_5))
           clear c102
           by_cases c103 : 0 ≤ (rd x12_3 x15_5)
           {
           rw [if_pos c103] at H
           have c103b0 := decide_eq_true c103
           clear c103
           by_cases c104 : (rd x12_3 x15_5) < (x3_5.length : Int)
           {
           rw [if_pos c104] at H
           have c104b0 := decide_eq_true c104
           (try (have c104b0q13_3 := c104b0; simp only [hl13_3] at c104b0q13_3))
           (try (have c104b0q3_5 := c104b0; simp only [hl3_5] at c104b0q3_5))
           clear c104
           by_cases c105 : x15_5 < (x3_5.length : Int)
           {
           rw [if_pos c105] at H
           have c105b0 := decide_eq_true c105
           (try (have c105b0q13_3 := c105b0; simp only [hl13_3] at c105b0q13_3))
           (try (have c105b0q3_5 := c105b0; simp only [hl3_5] at c105b0q3_5))
           clear c105
           obtain ⟨y147, hy147⟩ : ∃ y_ : List Int, y_ = (x3_5.set (x15_5 : Int).toNat (rd x3_5 (rd x12_3 x15_5))) := ⟨_, rfl⟩
           replace H : (spec_l4Grow.l4 k5 x1_4 x2_4 y147 x12_3 (rd x12_3 x15_5)) = some (r1, r2, r3) := by first | (rw [hy147]; with_reducible exact H) | (have H2_ := (Option.bind_some _ _).symm.trans H; rw [hy147]; with_reducible exact H2_) | (have H2_ := (Option.bind_some _ _).symm.trans H; with_reducible exact H2_) | with_reducible exact H | (rw [hy147]; exact H) | exact H
           have Ny147 := aM hy147
           clear hy147
           have H' := aM H
           clear H
           obtain ⟨Ao107, co107, eo107⟩ := Kd.R_slice HO_12.out
           subst eo107
           have p145 : 0 ≤ (x15_5 : Int) := dt_
           have q145 : x15_5 < (x12_3.length : Int) := dt_
           obtain ⟨ad145, e145, hx145_0⟩ := Kd.at_int (Kd.R_reads' HO_12.out).2.2 x15_5 p145 q145
           cases e145
           replace p145 := eq_true p145
           replace q145 := eq_true q145
           have p146 : 0 ≤ ((rd x12_3 x15_5) : Int) := dt_
           have q146 : (rd x12_3 x15_5) < (x3_5.length : Int) := dt_
           obtain ⟨ad146, e146, hx146_0⟩ := Kd.at_int (Kd.R_reads' HO_3.out).2.2 (rd x12_3 x15_5) p146 q146
           obtain rfl : ad122 = ad146 := (by injection e146)
           replace p146 := eq_true p146
           replace q146 := eq_true q146
           have p106 : 0 ≤ (x15_5 : Int) := dt_
           have q106 : (x15_5 : Int) < ((x3_5.length : Int) : Int) := dt_
           obtain ⟨go106, co106, eo106, gb106, gl106, cl106, HG106⟩ := Kd.R_form HO_3.out (by omega)
           (first | cases eo106 | (injection eo106 with ea_ en_ ec_; (first | subst ea_ | (injection ea_ with ea_; subst ea_)); subst ec_; clear en_))
           have GB106 := aM gb106
           have GG106 := aM HG106
           clear gb106 gl106 HG106
           have HMgo106 := aM (show ((P1_ go106 ∨ P2_ go106 ∨ P3_ go106) ∨ w.heap.size ≤ go106) from (HO_3.out.1 _ rfl).1)
           (first | simp only [add_plain] at hx122_0 | skip)
           (first | simp only [add_plain] at hx136_0 | skip)
           (first | simp only [add_plain] at hx137_0 | skip)
           (first | simp only [add_plain] at hx144_0 | skip)
           (first | simp only [add_plain] at hx146_0 | skip)
           obtain ⟨hx106_0, hf106_0⟩ := Kd.R_celln 0 HO_3.out (x15_5 : Int) p106 q106
           replace p106 := eq_true p106
           replace q106 := eq_true q106
           obtain ⟨hy108_, hz108_⟩ := Kd.R_celln 0 HO_3.out (x15_5 : Int) (dt_) (dt_)
           have HP108 := Kd.R_putg HO_3.out (x15_5 : Int) (rd x3_5 (rd x12_3 x15_5))
           go_wp2_with (first | ((with_reducible refine gate_store (t := 3) (p := 162) rfl ?_); refine store_event (t := 3) (p := 162) (v := ?vo_w109) (w1 := (wr.setCell ⟨go106, (x15_5 : Int).toNat, none⟩ (.int .i64 (rd x3_5 (rd x12_3 x15_5))))) ?hg ?ho ?hn ?hr ?_; (case ho => rfl); (case hg => rfl); (case hn => rfl); (case hr => exact qz8); intro w109 hw; have hg : wr.grownBy w109 (some go106) := (by rw [hw]; exact HP108.2); have hp_ : Kd.R (Kd.int .i64) 3 w109 w0.heap.size (fun k_ => ((P1_ k_ ∨ P2_ k_ ∨ P3_ k_) ∨ w.heap.size ≤ k_) ∧ some k_ ≠ (u9000_ : Value).ownBlock ∧ some k_ ≠ (u9001_ : Value).ownBlock ∧ some k_ ≠ (.slice (some ad145) x12_3.length co107 : Value).ownBlock) (.slice (some ⟨go106, 0, none⟩) x3_5.length co28) y147 := (by rw [hw, Ny147.out]; exact HP108.1); clear HP108; replace HO_1 := aM (Kd.R_after (v := (.slice (some ⟨go106, 0, none⟩) x3_5.length co28)) (v1 := (.slice (some ⟨go106, 0, none⟩) x3_5.length co28)) (ok := (fun k_ => ((P1_ k_ ∨ P2_ k_ ∨ P3_ k_) ∨ w.heap.size ≤ k_) ∧ some k_ ≠ (u9001_ : Value).ownBlock ∧ some k_ ≠ (.slice (some ad145) x12_3.length co107 : Value).ownBlock)) (by (with_reducible repeat (first | apply Kd.R_alloc | apply Kd.R_drewN | apply Kd.R_drew)); exact Kd.R_mono HO_1.out (fun _ hk => ⟨⟨hk.1, ⟨hk.2.1, hk.2.2.2⟩⟩, hk.2.2.1⟩)) hg (.inl rfl)); replace HO_2 := aM (Kd.R_after (v := (.slice (some ⟨go106, 0, none⟩) x3_5.length co28)) (v1 := (.slice (some ⟨go106, 0, none⟩) x3_5.length co28)) (ok := (fun k_ => ((P1_ k_ ∨ P2_ k_ ∨ P3_ k_) ∨ w.heap.size ≤ k_) ∧ some k_ ≠ (u9000_ : Value).ownBlock ∧ some k_ ≠ (.slice (some ad145) x12_3.length co107 : Value).ownBlock)) (by (with_reducible repeat (first | apply Kd.R_alloc | apply Kd.R_drewN | apply Kd.R_drew)); exact Kd.R_mono HO_2.out (fun _ hk => ⟨⟨hk.1, ⟨hk.2.1, hk.2.2.2⟩⟩, hk.2.2.1⟩)) hg (.inl rfl)); replace HO_12 := aM (Kd.R_after (v := (.slice (some ⟨go106, 0, none⟩) x3_5.length co28)) (v1 := (.slice (some ⟨go106, 0, none⟩) x3_5.length co28)) (ok := (fun k_ => ((P1_ k_ ∨ P2_ k_ ∨ P3_ k_) ∨ w.heap.size ≤ k_) ∧ some k_ ≠ (u9000_ : Value).ownBlock ∧ some k_ ≠ (u9001_ : Value).ownBlock)) (by (with_reducible repeat (first | apply Kd.R_alloc | apply Kd.R_drewN | apply Kd.R_drew)); exact Kd.R_mono HO_12.out (fun _ hk => ⟨⟨hk.1, ⟨hk.2.1, hk.2.2.1⟩⟩, hk.2.2.2⟩)) hg (.inl rfl)); replace HB := aM ((by rw [hw]; exact below_set (HB.out) GB106.out : Below w0.heap.size w0 w109)); replace HK := aM (Kept.of_grown (S := (fun k_ => P1_ k_ ∨ P2_ k_ ∨ P3_ k_)) hg qz2 (fun k_ e_ => (HO_3.out.1 k_ e_).1)); replace HO_3 := aM (hp_); clear hg hw hp_))
           (try simp only [← hl3_5])
           (try simp only [add_plain] at *)
           go_roundg k5
           case measure => have := HK1.out; have := HK2.out; have := HK3.out; have := HK4.out; have := HK5.out; omega
           case rel => exact ⟨(y147), (rd x12_3 x15_5), qz3, H', ⟨by have := HK1.out; have := HK2.out; have := HK3.out; have := HK4.out; have := HK5.out; omega⟩, ⟨by (try simp only [hl13_3]); (try simp only [hl3_5]); (with_reducible repeat (first | apply Kd.R_alloc | apply Kd.R_drewN | apply Kd.R_drew)); exact Kd.R_mono HO_1.out (fun _ hk => ⟨hk.1.1, ⟨hk.1.2.1, ⟨hk.2, hk.1.2.2⟩⟩⟩)⟩, ⟨by (try simp only [hl13_3]); (try simp only [hl3_5]); (with_reducible repeat (first | apply Kd.R_alloc | apply Kd.R_drewN | apply Kd.R_drew)); exact Kd.R_mono HO_2.out (fun _ hk => ⟨hk.1.1, ⟨hk.1.2.1, ⟨hk.2, hk.1.2.2⟩⟩⟩)⟩, ⟨by (try simp only [hl13_3]); (try simp only [hl3_5]); exact rm_ HO_3.out⟩, ⟨by (try simp only [hl13_3]); (try simp only [hl3_5]); (with_reducible repeat (first | apply Kd.R_alloc | apply Kd.R_drewN | apply Kd.R_drew)); exact Kd.R_mono HO_12.out (fun _ hk => ⟨hk.1.1, ⟨hk.1.2.1, ⟨hk.1.2.2, hk.2⟩⟩⟩)⟩, ⟨qz2⟩, ⟨qz1⟩⟩
           }
           {
           exact an_ c105 H
           }
           }
           {
           exact an_ c104 H
           }
           }
           {
           exact an_ c103 H
           }
           }
           {
           exact an_ c102 H
           }
           }
           {
           exact an_ c101 H
           }
           }
         }
         {
         rw [if_neg c99] at H
         have c99b0 := beq_eq_false_iff_ne.mpr c99
         have c99b1 := bne_iff_ne.mpr c99
         have H' := aM H
         clear H
         have p144 : 0 ≤ (x18_3 : Int) := dt_
         have q144 : x18_3 < (l3.length : Int) := dt_
         obtain ⟨ad144, e144, hx144_0⟩ := Kd.at_int (Kd.R_reads' HO_3.out).2.2 x18_3 p144 q144
         obtain rfl : ad122 = ad144 := (by injection e144)
         replace p144 := eq_true p144
         replace q144 := eq_true q144
         go_wp2
         (try simp only [← hl13_3])
         go_roundg k4
         case measure => have := HK1.out; have := HK2.out; have := HK3.out; have := HK4.out; omega
         case rel => exact ⟨(x1_4), (x2_4), (x11_4), (x12_3), (y121), (x18_3), qz3, H', ⟨by have := HK1.out; have := HK2.out; have := HK3.out; have := HK4.out; omega⟩, ⟨by (try simp only [hl13_3]); exact rm_ HO_1.out⟩, ⟨by (try simp only [hl13_3]); exact rm_ HO_2.out⟩, ⟨by (try simp only [hl13_3]); exact rm_ HO_3.out⟩, ⟨by (try simp only [hl13_3]); exact rm_ HO_11.out⟩, ⟨by (try simp only [hl13_3]); exact rm_ HO_12.out⟩, ⟨by (try simp only [hl13_3]); exact rm_ HO_13.out⟩, ⟨qz2⟩, ⟨qz1⟩⟩
         }
         }
         {
         exact an_ c98 H
         }
         }
         {
         exact an_ c97 H
         }
         }
       }
     }
     {
     exact an_ c25 H
     }
     }
     {
     exact an_ c23 H
     }
     }
     {
     exact an_ c22 H
     }
   }
 }
 {
 exact an_ c9 H
 }
 }
 {
 exact an_ c8 H
 }
 }
 {
 exact an_ c7 H

 }
end Go.Proofs.Ytbebfhlejnidkaa.PFnExactMatch
