-- Made by a program of this session out of the translation. Lean checks it.
import Derived.Test.YtbebfhlejnidkaaPFnMatchedx0
namespace Go.Proofs.Ytbebfhlejnidkaa.PFnMatched
open Go.RowKit Go.Proofs.YtbebfhlejnidkaaW.PrintWords Go.Proofs.YtbebfhlejnidkaaW.PrintLast Go.Proofs.YtbebfhlejnidkaaW.PrintMore
attribute [local go_sem] max2_int min2_int max_two min_two max_three min_three max_four min_four   -- for this text's walks alone
set_option linter.unusedVariables false
set_option linter.unusedSimpArgs false

/-! ### spec_l4Grow: function 67 -/
mutual
def spec_l4Grow.l0 : Nat → List (List Int) → List Int → List Int → List Int → Int → Int → List Int → List Int → List Bool → Int → Option (List Int × List Int × List Int)
 | 0, _, _, _, _, _, _, _, _, _, _ => none
 | k + 1, x0, x1, x2, x3, x4, x10, x11, x12, x13, x14 => if x14 ≤ x4 then (if 0 ≤ x14 then (if x14 < (x11.length : Int) then (spec_l4Grow.l0 k x0 x1 x2 x3 x4 x10 (x11.set (x14 : Int).toNat x10) x12 x13 (wrap64 (x14 + 1))) else (none)) else (none)) else (spec_l4Grow.l1 k x0 x1 x2 x3 x4 x10 x11 x12 x13 0)
def spec_l4Grow.l1 : Nat → List (List Int) → List Int → List Int → List Int → Int → Int → List Int → List Int → List Bool → Int → Option (List Int × List Int × List Int)
 | 0, _, _, _, _, _, _, _, _, _, _ => none
 | k + 1, x0, x1, x2, x3, x4, x10, x11, x12, x13, x15 => if 0 ≤ x15 then (if x15 < (x13.length : Int) then (if x15 < (x3.length : Int) then (spec_l4Grow.l2 k x0 x1 x2 x3 x4 x10 x11 x12 (x13.set (x15 : Int).toNat true) x15 (rd x3 x15) x10 0 1) else (none)) else (none)) else (none)
def spec_l4Grow.l2 : Nat → List (List Int) → List Int → List Int → List Int → Int → Int → List Int → List Int → List Bool → Int → Int → Int → Int → Int → Option (List Int × List Int × List Int)
 | 0, _, _, _, _, _, _, _, _, _, _, _, _, _, _ => none
 | k + 1, x0, x1, x2, x3, x4, x10, x11, x12, x13, x15, x16, x17, x18, x19 => if x19 ≤ x4 then (if 0 ≤ x19 then (if x19 < (x13.length : Int) then (if rdOf false x13 x19 = true then (spec_l4Grow.l2 k x0 x1 x2 x3 x4 x10 x11 x12 x13 x15 x16 x17 x18 (wrap64 (x19 + 1))) else (if 0 ≤ (wrap64 (x16 - 1)) then (if (wrap64 (x16 - 1)) < (x0.length : Int) then (if 0 ≤ (wrap64 (x19 - 1)) then (if (wrap64 (x19 - 1)) < ((rd_L1 x0 (wrap64 (x16 - 1))).length : Int) then (if 0 ≤ x16 then (if x16 < (x1.length : Int) then (if x19 < (x2.length : Int) then (if x19 < (x11.length : Int) then (if (wrap64 ((wrap64 ((rd (rd_L1 x0 (wrap64 (x16 - 1))) (wrap64 (x19 - 1))) - (rd x1 x16))) - (rd x2 x19))) < (rd x11 x19) then ((some (x11.set (x19 : Int).toNat (wrap64 ((wrap64 ((rd (rd_L1 x0 (wrap64 (x16 - 1))) (wrap64 (x19 - 1))) - (rd x1 x16))) - (rd x2 x19))) : List Int)).bind fun y226 => (if x19 < (x12.length : Int) then ((some (x12.set (x19 : Int).toNat x15 : List Int)).bind fun y227 => (if (rd y226 x19) < x17 then (spec_l4Grow.l2 k x0 x1 x2 x3 x4 x10 y226 y227 x13 x15 x16 (rd y226 x19) x19 (wrap64 (x19 + 1))) else (spec_l4Grow.l2 k x0 x1 x2 x3 x4 x10 y226 y227 x13 x15 x16 x17 x18 (wrap64 (x19 + 1))))) else (none))) else (if (rd x11 x19) < x17 then (spec_l4Grow.l2 k x0 x1 x2 x3 x4 x10 x11 x12 x13 x15 x16 (rd x11 x19) x19 (wrap64 (x19 + 1))) else (spec_l4Grow.l2 k x0 x1 x2 x3 x4 x10 x11 x12 x13 x15 x16 x17 x18 (wrap64 (x19 + 1))))) else (none)) else (none)) else (none)) else (none)) else (none)) else (none)) else (none)) else (none))) else (none)) else (none)) else (spec_l4Grow.l3 k x0 x1 x2 x3 x4 x10 x11 x12 x13 x17 x18 0)
def spec_l4Grow.l3 : Nat → List (List Int) → List Int → List Int → List Int → Int → Int → List Int → List Int → List Bool → Int → Int → Int → Option (List Int × List Int × List Int)
 | 0, _, _, _, _, _, _, _, _, _, _, _, _ => none
 | k + 1, x0, x1, x2, x3, x4, x10, x11, x12, x13, x17, x18, x21 => if x21 ≤ x4 then (if 0 ≤ x21 then (if x21 < (x13.length : Int) then (if rdOf false x13 x21 = true then (if x21 < (x3.length : Int) then (if 0 ≤ (rd x3 x21) then (if (rd x3 x21) < (x1.length : Int) then (if x21 < (x2.length : Int) then (spec_l4Grow.l3 k x0 (x1.set ((rd x3 x21) : Int).toNat (wrap64 ((rd x1 (rd x3 x21)) + x17))) (x2.set (x21 : Int).toNat (wrap64 ((rd x2 x21) - x17))) x3 x4 x10 x11 x12 x13 x17 x18 (wrap64 (x21 + 1))) else (none)) else (none)) else (none)) else (none)) else (if x21 < (x11.length : Int) then (spec_l4Grow.l3 k x0 x1 x2 x3 x4 x10 (x11.set (x21 : Int).toNat (wrap64 ((rd x11 x21) - x17))) x12 x13 x17 x18 (wrap64 (x21 + 1))) else (none))) else (none)) else (none)) else (if 0 ≤ x18 then (if x18 < (x3.length : Int) then (if (rd x3 x18) = 0 then (spec_l4Grow.l4 k x1 x2 x3 x12 x18) else (spec_l4Grow.l1 k x0 x1 x2 x3 x4 x10 x11 x12 x13 x18)) else (none)) else (none))
def spec_l4Grow.l4 : Nat → List Int → List Int → List Int → List Int → Int → Option (List Int × List Int × List Int)
 | 0, _, _, _, _, _ => none
 | k + 1, x1, x2, x3, x12, x15 => if x15 = 0 then (some (x1, x2, x3)) else (if 0 ≤ x15 then (if x15 < (x12.length : Int) then (if 0 ≤ (rd x12 x15) then (if (rd x12 x15) < (x3.length : Int) then (if x15 < (x3.length : Int) then (spec_l4Grow.l4 k x1 x2 (x3.set (x15 : Int).toNat (rd x3 (rd x12 x15))) x12 (rd x12 x15)) else (none)) else (none)) else (none)) else (none)) else (none))
end
def spec_l4Grow.f (k : Nat) (l0 : List (List Int)) (l1 : List Int) (l2 : List Int) (l3 : List Int) (a4 : Int) : Option (List Int × List Int × List Int) := if 0 ≤ (wrap64 (a4 + 1)) then (if (wrap64 (a4 + 1) : Int).toNat ≤ 35184372088832 then (if (wrap64 (a4 + 1) : Int).toNat ≤ 281474976710656 then (spec_l4Grow.l0 k l0 l1 l2 l3 a4 1099511627776 (List.replicate (wrap64 (a4 + 1) : Int).toNat 0) (List.replicate (wrap64 (a4 + 1) : Int).toNat 0) (List.replicate (wrap64 (a4 + 1) : Int).toNat false) 0) else (none)) else (none)) else (none)
theorem spec_l4Grow.mono_l : ∀ k, (∀ y0 y1 y2 y3 y4 y5 y6 y7 y8 y9, LeO (spec_l4Grow.l0 k y0 y1 y2 y3 y4 y5 y6 y7 y8 y9) (spec_l4Grow.l0 (k + 1) y0 y1 y2 y3 y4 y5 y6 y7 y8 y9)) ∧ (∀ y0 y1 y2 y3 y4 y5 y6 y7 y8 y9, LeO (spec_l4Grow.l1 k y0 y1 y2 y3 y4 y5 y6 y7 y8 y9) (spec_l4Grow.l1 (k + 1) y0 y1 y2 y3 y4 y5 y6 y7 y8 y9)) ∧ (∀ y0 y1 y2 y3 y4 y5 y6 y7 y8 y9 y10 y11 y12 y13, LeO (spec_l4Grow.l2 k y0 y1 y2 y3 y4 y5 y6 y7 y8 y9 y10 y11 y12 y13) (spec_l4Grow.l2 (k + 1) y0 y1 y2 y3 y4 y5 y6 y7 y8 y9 y10 y11 y12 y13)) ∧ (∀ y0 y1 y2 y3 y4 y5 y6 y7 y8 y9 y10 y11, LeO (spec_l4Grow.l3 k y0 y1 y2 y3 y4 y5 y6 y7 y8 y9 y10 y11) (spec_l4Grow.l3 (k + 1) y0 y1 y2 y3 y4 y5 y6 y7 y8 y9 y10 y11)) ∧ (∀ y0 y1 y2 y3 y4, LeO (spec_l4Grow.l4 k y0 y1 y2 y3 y4) (spec_l4Grow.l4 (k + 1) y0 y1 y2 y3 y4))
 | 0 => ⟨fun _ _ _ _ _ _ _ _ _ _ r h => by simp [spec_l4Grow.l0] at h, fun _ _ _ _ _ _ _ _ _ _ r h => by simp [spec_l4Grow.l1] at h, fun _ _ _ _ _ _ _ _ _ _ _ _ _ _ r h => by simp [spec_l4Grow.l2] at h, fun _ _ _ _ _ _ _ _ _ _ _ _ r h => by simp [spec_l4Grow.l3] at h, fun _ _ _ _ _ r h => by simp [spec_l4Grow.l4] at h⟩
 | k + 1 => by
  obtain ⟨ih0, ih1, ih2, ih3, ih4⟩ := spec_l4Grow.mono_l k
  refine ⟨?_, ?_, ?_, ?_, ?_⟩
  {
  intro y0 y1 y2 y3 y4 y5 y6 y7 y8 y9
  unfold spec_l4Grow.l0
  exact qL
  }
  {
  intro y0 y1 y2 y3 y4 y5 y6 y7 y8 y9
  unfold spec_l4Grow.l1
  exact qL
  }
  {
  intro y0 y1 y2 y3 y4 y5 y6 y7 y8 y9 y10 y11 y12 y13
  unfold spec_l4Grow.l2
  exact qL
  }
  {
  intro y0 y1 y2 y3 y4 y5 y6 y7 y8 y9 y10 y11
  unfold spec_l4Grow.l3
  exact qL
  }
  {
  intro y0 y1 y2 y3 y4
  unfold spec_l4Grow.l4
  exact qL
  }
theorem spec_l4Grow.mono : ∀ a0 a1 a2 a3 a4 k, LeO (spec_l4Grow.f k a0 a1 a2 a3 a4) (spec_l4Grow.f (k + 1) a0 a1 a2 a3 a4) := by
 intro a0 a1 a2 a3 a4 k
 obtain ⟨ih0, ih1, ih2, ih3, ih4⟩ := spec_l4Grow.mono_l k
 unfold spec_l4Grow.f
 exact qL
def spec_l4Grow.T17 : Bool × List (List Nat × List Nat) := (true, [([], []), ([], []), ([1], [1]), ([0, 2], [0, 2]), ([3], [3]), ([], []), ([5], [5]), ([4, 6], [4, 6]), ([7], [7]), ([], []), ([], []), ([9, 10], [9, 10]), ([11], [11]), ([8, 12], [8, 12]), ([], []), ([], []), ([14, 15], [14, 15]), ([16], [16]), ([13, 17], [13, 17]), ([18, 0, 1, 2, 3, 4, 5, 6, 7, 8, 9, 10, 11, 12, 13, 14, 15, 16, 17, 18], [18])])
def spec_l4Grow.B17 : List Nat := [0, 0, 2, 7, 15, 0, 32, 127, 255, 0, 0, 1536, 3584, 8191, 0, 0, 49152, 114688, 262143, 524287]
theorem spec_l4Grow.tab17 : rtab .any (opsOf Try.f67 17) = spec_l4Grow.T17 := by kernel_rfl
theorem spec_l4Grow.bits17 : waitsOk spec_l4Grow.T17.2 spec_l4Grow.B17 = true := by kernel_rfl
def spec_l4Grow.T28 : Bool × List (List Nat × List Nat) := (true, [([], []), ([], []), ([], []), ([1, 2], [1, 2]), ([3], [3]), ([], []), ([], []), ([], []), ([6, 7], [6, 7]), ([8], [8]), ([5, 9], [5, 9]), ([10], [10]), ([], []), ([11, 12], [11, 12]), ([0, 4, 0, 1, 2, 3, 4, 5, 6, 7, 8, 9, 10, 11, 12, 13], [0, 4]), ([14, 13, 0, 1, 2, 3, 4, 5, 6, 7, 8, 9, 10, 11, 12, 13], [13, 14])])
def spec_l4Grow.B28 : List Nat := [0, 0, 0, 6, 14, 0, 0, 0, 192, 448, 992, 2016, 0, 8160, 16383, 32767]
theorem spec_l4Grow.tab28 : rtab .any (opsOf Try.f67 28) = spec_l4Grow.T28 := by kernel_rfl
theorem spec_l4Grow.bits28 : waitsOk spec_l4Grow.T28.2 spec_l4Grow.B28 = true := by kernel_rfl
set_option maxHeartbeats 8000000 in
set_option maxRecDepth 100000 in
theorem spec_l4Grow.calls (k : Nat) (A0 : Option Addr) (c0 : Nat) (l0 : List (List Int)) (P1_ : Nat → Prop) (u9000_ : Value) (l1 : List Int) (P2_ : Nat → Prop) (u9001_ : Value) (l2 : List Int) (P3_ : Nat → Prop) (u9002_ : Value) (l3 : List Int) (a4 : Int) (r1 : List Int) (r2 : List Int) (r3 : List Int) (w0 w : World) (hB : Below w0.heap.size w0 w) (hr0 : ∀ W_, Kept w W_ (fun k_ => P1_ k_ ∨ P2_ k_ ∨ P3_ k_) → Kd.C (Kd.slice 3 (Kd.int .i64)) W_ A0 l0.length l0) (hc0 : l0.length ≤ c0) (ho1 : Kd.R (Kd.int .i64) 3 w w0.heap.size P1_ u9000_ l1) (hp1_2 : ∀ k_, P1_ k_ → ¬ P2_ k_) (hp1_3 : ∀ k_, P1_ k_ → ¬ P3_ k_) (ho2 : Kd.R (Kd.int .i64) 3 w w0.heap.size P2_ u9001_ l2) (hp2_1 : ∀ k_, P2_ k_ → ¬ P1_ k_) (hp2_3 : ∀ k_, P2_ k_ → ¬ P3_ k_) (ho3 : Kd.R (Kd.int .i64) 3 w w0.heap.size P3_ u9002_ l3) (hp3_1 : ∀ k_, P3_ k_ → ¬ P1_ k_) (hp3_2 : ∀ k_, P3_ k_ → ¬ P2_ k_) (h : spec_l4Grow.f k l0 l1 l2 l3 a4 = some (r1, r2, r3)) :
  Calls Try.prog 67 #[.slice A0 l0.length c0, u9000_, u9001_, u9002_, .int .i64 a4] w fun e w' => e = .returned (.tuple #[]) ∧ Kd.R (Kd.int .i64) 3 w' w0.heap.size (fun k_ => ((P1_ k_ ∨ P2_ k_ ∨ P3_ k_) ∨ w.heap.size ≤ k_)) u9000_ r1 ∧ Kd.R (Kd.int .i64) 3 w' w0.heap.size (fun k_ => ((P1_ k_ ∨ P2_ k_ ∨ P3_ k_) ∨ w.heap.size ≤ k_)) u9001_ r2 ∧ Kd.R (Kd.int .i64) 3 w' w0.heap.size (fun k_ => ((P1_ k_ ∨ P2_ k_ ∨ P3_ k_) ∨ w.heap.size ≤ k_)) u9002_ r3 ∧ Below w0.heap.size w0 w' ∧ Kept w w' (fun k_ => P1_ k_ ∨ P2_ k_ ∨ P3_ k_) := by
 have HR0 := aM hr0
 have HC0 := aM hc0
 clear hr0 hc0
 have HO1 := aM (show Kd.R (Kd.int .i64) 3 w w0.heap.size (fun k_ => ((P1_ k_ ∨ P2_ k_ ∨ P3_ k_) ∨ w.heap.size ≤ k_) ∧ some k_ ≠ (u9001_ : Value).ownBlock ∧ some k_ ≠ (u9002_ : Value).ownBlock) u9000_ l1 from Kd.R_mono ho1 (fun k_ hk => ⟨(.inl (.inl hk)), fun e_ => hp1_2 k_ hk (ho2.1 k_ e_.symm), fun e_ => hp1_3 k_ hk (ho3.1 k_ e_.symm)⟩))
 have HO2 := aM (show Kd.R (Kd.int .i64) 3 w w0.heap.size (fun k_ => ((P1_ k_ ∨ P2_ k_ ∨ P3_ k_) ∨ w.heap.size ≤ k_) ∧ some k_ ≠ (u9000_ : Value).ownBlock ∧ some k_ ≠ (u9002_ : Value).ownBlock) u9001_ l2 from Kd.R_mono ho2 (fun k_ hk => ⟨(.inl (.inr (.inl hk))), fun e_ => hp2_1 k_ hk (ho1.1 k_ e_.symm), fun e_ => hp2_3 k_ hk (ho3.1 k_ e_.symm)⟩))
 have HO3 := aM (show Kd.R (Kd.int .i64) 3 w w0.heap.size (fun k_ => ((P1_ k_ ∨ P2_ k_ ∨ P3_ k_) ∨ w.heap.size ≤ k_) ∧ some k_ ≠ (u9000_ : Value).ownBlock ∧ some k_ ≠ (u9001_ : Value).ownBlock) u9002_ l3 from Kd.R_mono ho3 (fun k_ hk => ⟨(.inl (.inr (.inr hk))), fun e_ => hp3_1 k_ hk (ho1.1 k_ e_.symm), fun e_ => hp3_2 k_ hk (ho2.1 k_ e_.symm)⟩))
 have HK := aM (Kept.refl w (fun k_ => P1_ k_ ∨ P2_ k_ ∨ P3_ k_))
 have HW0 := aM hB.size
 have HB := aM hB
 clear hB
 unfold spec_l4Grow.f at h
 have H := h
 clear h
 obtain ⟨ji6, hji6⟩ : ∃ j_ : Int, (wrap64 (a4 + 1)) = j_ := ⟨_, rfl⟩
 replace H : (if 0 ≤ (ji6) then (if (ji6 : Int).toNat ≤ 35184372088832 then (if (ji6 : Int).toNat ≤ 281474976710656 then (spec_l4Grow.l0 k l0 l1 l2 l3 a4 1099511627776 (List.replicate (ji6 : Int).toNat 0) (List.replicate (ji6 : Int).toNat 0) (List.replicate (ji6 : Int).toNat false) 0) else (none)) else (none)) else (none)) = some (r1, r2, r3) := by first | (rw [hji6] at H; exact H) | (simp only [hji6] at H ⊢; exact H)
 have hji6w : (IntKind.i64.wrap (a4 + 1)) = ji6 := (i64_w _).trans hji6
 replace H := iN_ H
 obtain ⟨c7, H⟩ := H
 have c7b0 := eq_true c7
 have c7b1 := decide_eq_true c7
 clear c7
 replace H := iN_ H
 obtain ⟨c8, H⟩ := H
 have c8b0 := eq_true c8
 have c8b1 := decide_eq_true c8
 clear c8
 obtain ⟨y208, hy208⟩ : ∃ y_ : List Int, y_ = (List.replicate (ji6 : Int).toNat 0) := ⟨_, rfl⟩
 replace H : (if (ji6 : Int).toNat ≤ 281474976710656 then (spec_l4Grow.l0 k l0 l1 l2 l3 a4 1099511627776 y208 (List.replicate (ji6 : Int).toNat 0) (List.replicate (ji6 : Int).toNat false) 0) else (none)) = some (r1, r2, r3) := by first | (rw [hy208]; exact H) | exact H
 have Ny208 := aM hy208
 clear hy208
 obtain ⟨y211, hy211⟩ : ∃ y_ : List Int, y_ = (List.replicate (ji6 : Int).toNat 0) := ⟨_, rfl⟩
 replace H : (if (ji6 : Int).toNat ≤ 281474976710656 then (spec_l4Grow.l0 k l0 l1 l2 l3 a4 1099511627776 y208 y211 (List.replicate (ji6 : Int).toNat false) 0) else (none)) = some (r1, r2, r3) := by first | (rw [hy211]; exact H) | exact H
 have Ny211 := aM hy211
 clear hy211
 replace H := iN_ H
 obtain ⟨c9, H⟩ := H
 have c9b0 := eq_true c9
 have c9b1 := decide_eq_true c9
 clear c9
 obtain ⟨y214, hy214⟩ : ∃ y_ : List Bool, y_ = (List.replicate (ji6 : Int).toNat false) := ⟨_, rfl⟩
 replace H : (spec_l4Grow.l0 k l0 l1 l2 l3 a4 1099511627776 y208 y211 y214 0) = some (r1, r2, r3) := by first | (rw [hy214]; exact H) | exact H
 have Ny214 := aM hy214
 clear hy214
 have H' := aM H
 clear H
 go_enter Try.func67, Try.ntmps67
 go_wp2_with (first | ((with_reducible refine gate_dst (N := 25) rfl ?_); refine Kd.R_make (Kd.int .i64) _ 3 rfl (N := 25) rfl 24 _ _ rfl ji6 rfl rfl Try.underlying24 (.int .i64 0) 8 info3 rfl (by decide) (by omega) 0 (ok := fun _ => True) (okp := fun _ => True) rfl (fun _ hk => hk) trivial (dt_) (Nat.le_trans (Nat.mul_le_mul_right _ (dt_ : ji6.toNat ≤ 35184372088832)) (by omega)) (Below.refl _ _) (Nat.le_refl _) ?_; intro v209 w10 ho11 hb hg_ hnew_; clear hg_ hnew_; (first | rw [← Ny208.out] at ho11 | (simp only [Int.reduceToNat] at ho11; rw [← Ny208.out] at ho11)); have HO210 := aM (Kd.R_lower (Kd.R_new' (Kd.R_new' (Kd.R_new' (Kd.R_newM (M := fun k_ => ((P1_ k_ ∨ P2_ k_ ∨ P3_ k_) ∨ w.heap.size ≤ k_)) ho11 qz33 (fun k_ h_ => .inr h_)) (Kd.R_lt (rr_ HO1.out))) (Kd.R_lt (rr_ HO2.out))) (Kd.R_lt (rr_ HO3.out))) (below_size qz1)); replace HO1 := aM (Kd.R_elder' (rr_ HO1.out) (Kd.R_base ho11) hb); replace HO2 := aM (Kd.R_elder' (rr_ HO2.out) (Kd.R_base ho11) hb); replace HO3 := aM (Kd.R_elder' (rr_ HO3.out) (Kd.R_base ho11) hb); replace HK := aM (Kept.below (S := (fun k_ => P1_ k_ ∨ P2_ k_ ∨ P3_ k_)) qz2 hb); replace HB := bS_ hb; clear hb ho11) | ((with_reducible refine gate_dst (N := 28) rfl ?_); refine Kd.R_make (Kd.int .i64) _ 3 rfl (N := 28) rfl 24 _ _ rfl ji6 rfl rfl Try.underlying24 (.int .i64 0) 8 info3 rfl (by decide) (by omega) 0 (ok := fun _ => True) (okp := fun _ => True) rfl (fun _ hk => hk) trivial (dt_) (Nat.le_trans (Nat.mul_le_mul_right _ (dt_ : ji6.toNat ≤ 35184372088832)) (by omega)) (Below.refl _ _) (Nat.le_refl _) ?_; intro v212 w12 ho13 hb hg_ hnew_; clear hg_ hnew_; (first | rw [← Ny211.out] at ho13 | (simp only [Int.reduceToNat] at ho13; rw [← Ny211.out] at ho13)); have HO213 := aM (Kd.R_lower (Kd.R_new' (Kd.R_new' (Kd.R_new' (Kd.R_new' (Kd.R_newM (M := fun k_ => ((P1_ k_ ∨ P2_ k_ ∨ P3_ k_) ∨ w.heap.size ≤ k_)) ho13 qz33 (fun k_ h_ => .inr h_)) (Kd.R_lt (rr_ HO1.out))) (Kd.R_lt (rr_ HO2.out))) (Kd.R_lt (rr_ HO3.out))) (Kd.R_lt (rr_ HO210.out))) (below_size qz1)); replace HO1 := aM (Kd.R_elder' (rr_ HO1.out) (Kd.R_base ho13) hb); replace HO2 := aM (Kd.R_elder' (rr_ HO2.out) (Kd.R_base ho13) hb); replace HO3 := aM (Kd.R_elder' (rr_ HO3.out) (Kd.R_base ho13) hb); replace HO210 := aM (Kd.R_elder' (rr_ HO210.out) (Kd.R_base ho13) hb); replace HK := aM (Kept.below (S := (fun k_ => P1_ k_ ∨ P2_ k_ ∨ P3_ k_)) qz2 hb); replace HB := bS_ hb; clear hb ho13) | ((with_reducible refine gate_dst (N := 31) rfl ?_); refine Kd.R_make Kd.bool _ 4 rfl (N := 31) rfl 36 _ _ rfl ji6 rfl rfl Try.underlying36 (.bool false) 1 info4 rfl (by decide) (by omega) false (ok := fun _ => True) (okp := fun _ => True) rfl (fun _ hk => hk) trivial (dt_) (Nat.le_trans (Nat.mul_le_mul_right _ (dt_ : ji6.toNat ≤ 281474976710656)) (by omega)) (Below.refl _ _) (Nat.le_refl _) ?_; intro v215 w14 ho15 hb hg_ hnew_; clear hg_ hnew_; (first | rw [← Ny214.out] at ho15 | (simp only [Int.reduceToNat] at ho15; rw [← Ny214.out] at ho15)); replace HO1 := aM (Kd.R_below (rr_ HO1.out) hb); replace HO2 := aM (Kd.R_below (rr_ HO2.out) hb); replace HO3 := aM (Kd.R_below (rr_ HO3.out) hb); replace HO210 := aM (Kd.R_below (rr_ HO210.out) hb); replace HO213 := aM (Kd.R_below (rr_ HO213.out) hb); have HO216 := aM (Kd.R_lower (Kd.R_newM (M := fun k_ => ((P1_ k_ ∨ P2_ k_ ∨ P3_ k_) ∨ w.heap.size ≤ k_)) ho15 qz33 (fun k_ h_ => .inr h_)) (below_size qz1)); replace HK := aM (Kept.below (S := (fun k_ => P1_ k_ ∨ P2_ k_ ∨ P3_ k_)) qz2 hb); replace HB := bS_ hb; clear hb ho15))
 go_loopg [14] k (fun kq v14 w' => ∃ (x11_1 : List Int) (x14_1 : Int), v14 = .int .i64 x14_1 ∧ Aside0 (spec_l4Grow.l0 kq l0 l1 l2 l3 a4 1099511627776 x11_1 y211 y214 x14_1 = some (r1, r2, r3)) ∧ Aside0 (kq ≤ k) ∧ Aside0 (Kd.R (Kd.int .i64) 3 w' w0.heap.size (fun k_ => ((P1_ k_ ∨ P2_ k_ ∨ P3_ k_) ∨ w.heap.size ≤ k_) ∧ some k_ ≠ (u9001_ : Value).ownBlock ∧ some k_ ≠ (u9002_ : Value).ownBlock ∧ some k_ ≠ (v209 : Value).ownBlock ∧ some k_ ≠ (v212 : Value).ownBlock) u9000_ l1) ∧ Aside0 (Kd.R (Kd.int .i64) 3 w' w0.heap.size (fun k_ => ((P1_ k_ ∨ P2_ k_ ∨ P3_ k_) ∨ w.heap.size ≤ k_) ∧ some k_ ≠ (u9000_ : Value).ownBlock ∧ some k_ ≠ (u9002_ : Value).ownBlock ∧ some k_ ≠ (v209 : Value).ownBlock ∧ some k_ ≠ (v212 : Value).ownBlock) u9001_ l2) ∧ Aside0 (Kd.R (Kd.int .i64) 3 w' w0.heap.size (fun k_ => ((P1_ k_ ∨ P2_ k_ ∨ P3_ k_) ∨ w.heap.size ≤ k_) ∧ some k_ ≠ (u9000_ : Value).ownBlock ∧ some k_ ≠ (u9001_ : Value).ownBlock ∧ some k_ ≠ (v209 : Value).ownBlock ∧ some k_ ≠ (v212 : Value).ownBlock) u9002_ l3) ∧ Aside0 (Kd.R (Kd.int .i64) 3 w' w0.heap.size (fun k_ => ((P1_ k_ ∨ P2_ k_ ∨ P3_ k_) ∨ w.heap.size ≤ k_) ∧ some k_ ≠ (u9000_ : Value).ownBlock ∧ some k_ ≠ (u9001_ : Value).ownBlock ∧ some k_ ≠ (u9002_ : Value).ownBlock ∧ some k_ ≠ (v212 : Value).ownBlock) v209 x11_1) ∧ Aside0 (Kd.R (Kd.int .i64) 3 w' w0.heap.size (fun k_ => ((P1_ k_ ∨ P2_ k_ ∨ P3_ k_) ∨ w.heap.size ≤ k_) ∧ some k_ ≠ (u9000_ : Value).ownBlock ∧ some k_ ≠ (u9001_ : Value).ownBlock ∧ some k_ ≠ (u9002_ : Value).ownBlock ∧ some k_ ≠ (v209 : Value).ownBlock) v212 y211) ∧ Aside0 (Kd.R Kd.bool 4 w' w0.heap.size (fun k_ => ((P1_ k_ ∨ P2_ k_ ∨ P3_ k_) ∨ w.heap.size ≤ k_)) v215 y214) ∧ Aside0 (Kept w w' (fun k_ => P1_ k_ ∨ P2_ k_ ∨ P3_ k_)) ∧ Aside0 (Below w0.heap.size w0 w'))
 case atStart => exact ⟨(y208), (0), qz3, H', ⟨Nat.le_refl _⟩, ⟨by (with_reducible repeat (first | apply Kd.R_alloc | apply Kd.R_drewN | apply Kd.R_drew)); exact Kd.R_mono HO1.out (fun _ hk => ⟨hk.1.1.1, ⟨hk.1.1.2.1, ⟨hk.1.1.2.2, ⟨hk.1.2, hk.2⟩⟩⟩⟩)⟩, ⟨by (with_reducible repeat (first | apply Kd.R_alloc | apply Kd.R_drewN | apply Kd.R_drew)); exact Kd.R_mono HO2.out (fun _ hk => ⟨hk.1.1.1, ⟨hk.1.1.2.1, ⟨hk.1.1.2.2, ⟨hk.1.2, hk.2⟩⟩⟩⟩)⟩, ⟨by (with_reducible repeat (first | apply Kd.R_alloc | apply Kd.R_drewN | apply Kd.R_drew)); exact Kd.R_mono HO3.out (fun _ hk => ⟨hk.1.1.1, ⟨hk.1.1.2.1, ⟨hk.1.1.2.2, ⟨hk.1.2, hk.2⟩⟩⟩⟩)⟩, ⟨by (with_reducible repeat (first | apply Kd.R_alloc | apply Kd.R_drewN | apply Kd.R_drew)); exact Kd.R_mono HO210.out (fun _ hk => ⟨hk.1.1.1.1.1, ⟨hk.1.1.1.2, ⟨hk.1.1.2, ⟨hk.1.2, hk.2⟩⟩⟩⟩)⟩, ⟨by (with_reducible repeat (first | apply Kd.R_alloc | apply Kd.R_drewN | apply Kd.R_drew)); exact Kd.R_mono HO213.out (fun _ hk => ⟨hk.1.1.1.1.1, ⟨hk.1.1.1.2, ⟨hk.1.1.2, ⟨hk.1.2, hk.2⟩⟩⟩⟩)⟩, ⟨by (with_reducible repeat (first | apply Kd.R_alloc | apply Kd.R_drewN | apply Kd.R_drew)); exact Kd.R_mono HO216.out (fun _ hk => hk.1)⟩, ⟨qz2⟩, ⟨qz1⟩⟩
 case round =>
 clear H'
 try clear c7
 try clear c7b0
 try clear c7b1
 try clear c8
 try clear c8b0
 try clear c8b1
 try clear c9
 try clear c9b0
 try clear c9b1
 obtain ⟨x11_1, x14_1, rfl, HA, HK1, HO_1, HO_2, HO_3, HO_11, HO_12, HO_13, HK, HB⟩ := hrel
 cases gk with
 | zero => exact absurd HA.out (by simp [spec_l4Grow.l0])
 | succ k1 =>
 have H := HA.out
 clear HA
 simp only [spec_l4Grow.l0] at H
 replace H := iE_ H
 rcases H with ⟨c16b0, H⟩ | ⟨c16b0, H⟩
 {
 replace H := iD_ H
 obtain ⟨c17b0, H⟩ := H
 replace H := iD_ H
 obtain ⟨c18b0, H⟩ := H
 obtain ⟨y217, hy217⟩ : ∃ y_ : List Int, y_ = (x11_1.set (x14_1 : Int).toNat 1099511627776) := ⟨_, rfl⟩
 replace H : (spec_l4Grow.l0 k1 l0 l1 l2 l3 a4 1099511627776 y217 y211 y214 (wrap64 (x14_1 + 1))) = some (r1, r2, r3) := by first | (rw [hy217]; exact H) | exact H
 have Ny217 := aM hy217
 clear hy217
 have H' := aM H
 clear H
 have p19 : 0 ≤ (x14_1 : Int) := dt_
 have q19 : (x14_1 : Int) < ((x11_1.length : Int) : Int) := dt_
 obtain ⟨go19, co19, eo19, gb19, gl19, cl19, HG19⟩ := Kd.R_form HO_11.out (by omega)
 (first | cases eo19 | (injection eo19 with ea_ en_ ec_; (first | subst ea_ | (injection ea_ with ea_; subst ea_)); subst ec_; clear en_))
 have GB19 := aM gb19
 have GG19 := aM HG19
 clear gb19 gl19 HG19
 have HMgo19 := aM (show ((P1_ go19 ∨ P2_ go19 ∨ P3_ go19) ∨ w.heap.size ≤ go19) from (HO_11.out.1 _ rfl).1)
 obtain ⟨hx19_0, hf19_0⟩ := Kd.R_celln 0 HO_11.out (x14_1 : Int) p19 q19
 replace p19 := eq_true p19
 replace q19 := eq_true q19
 obtain ⟨hy20_, hz20_⟩ := Kd.R_celln 0 HO_11.out (x14_1 : Int) (dt_) (dt_)
 have HP20 := Kd.R_putg HO_11.out (x14_1 : Int) 1099511627776
 go_wp2_with (first | ((with_reducible refine gate_store (t := 3) (p := 40) rfl ?_); refine store_event (t := 3) (p := 40) (v := ?vo_w21) (w1 := (wr.setCell ⟨go19, (x14_1 : Int).toNat, none⟩ (.int .i64 1099511627776))) ?hg ?ho ?hn ?hr ?_; (case ho => rfl); (case hg => rfl); (case hn => rfl); (case hr => exact qz10); intro w21 hw; have hg : wr.grownBy w21 (some go19) := (by rw [hw]; exact HP20.2); have hp_ : Kd.R (Kd.int .i64) 3 w21 w0.heap.size (fun k_ => ((P1_ k_ ∨ P2_ k_ ∨ P3_ k_) ∨ w.heap.size ≤ k_) ∧ some k_ ≠ (u9000_ : Value).ownBlock ∧ some k_ ≠ (u9001_ : Value).ownBlock ∧ some k_ ≠ (u9002_ : Value).ownBlock ∧ some k_ ≠ (v212 : Value).ownBlock) (.slice (some ⟨go19, 0, none⟩) x11_1.length co19) y217 := (by rw [hw, Ny217.out]; exact HP20.1); clear HP20; replace HO_1 := aM (Kd.R_after (v := (.slice (some ⟨go19, 0, none⟩) x11_1.length co19)) (v1 := (.slice (some ⟨go19, 0, none⟩) x11_1.length co19)) (ok := (fun k_ => ((P1_ k_ ∨ P2_ k_ ∨ P3_ k_) ∨ w.heap.size ≤ k_) ∧ some k_ ≠ (u9001_ : Value).ownBlock ∧ some k_ ≠ (u9002_ : Value).ownBlock ∧ some k_ ≠ (v212 : Value).ownBlock)) qz13 hg (.inl rfl)); replace HO_2 := aM (Kd.R_after (v := (.slice (some ⟨go19, 0, none⟩) x11_1.length co19)) (v1 := (.slice (some ⟨go19, 0, none⟩) x11_1.length co19)) (ok := (fun k_ => ((P1_ k_ ∨ P2_ k_ ∨ P3_ k_) ∨ w.heap.size ≤ k_) ∧ some k_ ≠ (u9000_ : Value).ownBlock ∧ some k_ ≠ (u9002_ : Value).ownBlock ∧ some k_ ≠ (v212 : Value).ownBlock)) qz14 hg (.inl rfl)); replace HO_3 := aM (Kd.R_after (v := (.slice (some ⟨go19, 0, none⟩) x11_1.length co19)) (v1 := (.slice (some ⟨go19, 0, none⟩) x11_1.length co19)) (ok := (fun k_ => ((P1_ k_ ∨ P2_ k_ ∨ P3_ k_) ∨ w.heap.size ≤ k_) ∧ some k_ ≠ (u9000_ : Value).ownBlock ∧ some k_ ≠ (u9001_ : Value).ownBlock ∧ some k_ ≠ (v212 : Value).ownBlock)) qz15 hg (.inl rfl)); replace HO_12 := aM (Kd.R_after (v := (.slice (some ⟨go19, 0, none⟩) x11_1.length co19)) (v1 := (.slice (some ⟨go19, 0, none⟩) x11_1.length co19)) (ok := (fun k_ => ((P1_ k_ ∨ P2_ k_ ∨ P3_ k_) ∨ w.heap.size ≤ k_) ∧ some k_ ≠ (u9000_ : Value).ownBlock ∧ some k_ ≠ (u9001_ : Value).ownBlock ∧ some k_ ≠ (u9002_ : Value).ownBlock)) qz12 hg (.inl rfl)); replace HO_13 := aM (Kd.R_over' (v := (.slice (some ⟨go19, 0, none⟩) x11_1.length co19)) (rr_ HO_13.out) (Kd.R_typed HO_11.out) (by decide) hg); replace HB := aM ((by rw [hw]; exact below_set (HB.out) GB19.out : Below w0.heap.size w0 w21)); replace HK := aM (Kept.of_grown (S := (fun k_ => P1_ k_ ∨ P2_ k_ ∨ P3_ k_)) hg qz2 (fun k_ e_ => (HO_11.out.1 k_ e_).1)); replace HO_11 := aM (hp_); clear hg hw hp_))
 go_roundg k1
 case measure => have := HK1.out; omega
 case rel => exact ⟨(y217), (wrap64 (x14_1 + 1)), qz3, H', ⟨by have := HK1.out; omega⟩, ⟨by (with_reducible repeat (first | apply Kd.R_alloc | apply Kd.R_drewN | apply Kd.R_drew)); exact Kd.R_mono HO_1.out (fun _ hk => ⟨hk.1.1, ⟨hk.1.2.1, ⟨hk.1.2.2.1, ⟨hk.2, hk.1.2.2.2⟩⟩⟩⟩)⟩, ⟨by (with_reducible repeat (first | apply Kd.R_alloc | apply Kd.R_drewN | apply Kd.R_drew)); exact Kd.R_mono HO_2.out (fun _ hk => ⟨hk.1.1, ⟨hk.1.2.1, ⟨hk.1.2.2.1, ⟨hk.2, hk.1.2.2.2⟩⟩⟩⟩)⟩, ⟨by (with_reducible repeat (first | apply Kd.R_alloc | apply Kd.R_drewN | apply Kd.R_drew)); exact Kd.R_mono HO_3.out (fun _ hk => ⟨hk.1.1, ⟨hk.1.2.1, ⟨hk.1.2.2.1, ⟨hk.2, hk.1.2.2.2⟩⟩⟩⟩)⟩, ⟨rm_ HO_11.out⟩, ⟨by (with_reducible repeat (first | apply Kd.R_alloc | apply Kd.R_drewN | apply Kd.R_drew)); exact Kd.R_mono HO_12.out (fun _ hk => ⟨hk.1.1, ⟨hk.1.2.1, ⟨hk.1.2.2.1, ⟨hk.1.2.2.2, hk.2⟩⟩⟩⟩)⟩, ⟨rm_ HO_13.out⟩, ⟨qz2⟩, ⟨qz1⟩⟩
 }
 {
 have H' := aM H
 clear H
 go_wp2
 go_loopg [15] k1 (fun kq v15 w' => ∃ (x1_2 : List Int) (x2_2 : List Int) (x11_2 : List Int) (x12_2 : List Int) (x13_2 : List Bool) (x15_2 : Int), v15 = .int .i64 x15_2 ∧ Aside0 (spec_l4Grow.l1 kq l0 x1_2 x2_2 l3 a4 1099511627776 x11_2 x12_2 x13_2 x15_2 = some (r1, r2, r3)) ∧ Aside0 (kq ≤ k1) ∧ Aside0 (Kd.R (Kd.int .i64) 3 w' w0.heap.size (fun k_ => ((P1_ k_ ∨ P2_ k_ ∨ P3_ k_) ∨ w.heap.size ≤ k_) ∧ some k_ ≠ (u9001_ : Value).ownBlock ∧ some k_ ≠ (u9002_ : Value).ownBlock ∧ some k_ ≠ (v209 : Value).ownBlock ∧ some k_ ≠ (v212 : Value).ownBlock) u9000_ x1_2) ∧ Aside0 (Kd.R (Kd.int .i64) 3 w' w0.heap.size (fun k_ => ((P1_ k_ ∨ P2_ k_ ∨ P3_ k_) ∨ w.heap.size ≤ k_) ∧ some k_ ≠ (u9000_ : Value).ownBlock ∧ some k_ ≠ (u9002_ : Value).ownBlock ∧ some k_ ≠ (v209 : Value).ownBlock ∧ some k_ ≠ (v212 : Value).ownBlock) u9001_ x2_2) ∧ Aside0 (Kd.R (Kd.int .i64) 3 w' w0.heap.size (fun k_ => ((P1_ k_ ∨ P2_ k_ ∨ P3_ k_) ∨ w.heap.size ≤ k_) ∧ some k_ ≠ (u9000_ : Value).ownBlock ∧ some k_ ≠ (u9001_ : Value).ownBlock ∧ some k_ ≠ (v209 : Value).ownBlock ∧ some k_ ≠ (v212 : Value).ownBlock) u9002_ l3) ∧ Aside0 (Kd.R (Kd.int .i64) 3 w' w0.heap.size (fun k_ => ((P1_ k_ ∨ P2_ k_ ∨ P3_ k_) ∨ w.heap.size ≤ k_) ∧ some k_ ≠ (u9000_ : Value).ownBlock ∧ some k_ ≠ (u9001_ : Value).ownBlock ∧ some k_ ≠ (u9002_ : Value).ownBlock ∧ some k_ ≠ (v212 : Value).ownBlock) v209 x11_2) ∧ Aside0 (Kd.R (Kd.int .i64) 3 w' w0.heap.size (fun k_ => ((P1_ k_ ∨ P2_ k_ ∨ P3_ k_) ∨ w.heap.size ≤ k_) ∧ some k_ ≠ (u9000_ : Value).ownBlock ∧ some k_ ≠ (u9001_ : Value).ownBlock ∧ some k_ ≠ (u9002_ : Value).ownBlock ∧ some k_ ≠ (v209 : Value).ownBlock) v212 x12_2) ∧ Aside0 (Kd.R Kd.bool 4 w' w0.heap.size (fun k_ => ((P1_ k_ ∨ P2_ k_ ∨ P3_ k_) ∨ w.heap.size ≤ k_)) v215 x13_2) ∧ Aside0 (Kept w w' (fun k_ => P1_ k_ ∨ P2_ k_ ∨ P3_ k_)) ∧ Aside0 (Below w0.heap.size w0 w'))
 case atStart => exact ⟨(l1), (l2), (x11_1), (y211), (y214), (0), qz3, H', ⟨Nat.le_refl _⟩, ⟨rr_ HO_1.out⟩, ⟨rr_ HO_2.out⟩, ⟨rr_ HO_3.out⟩, ⟨rr_ HO_11.out⟩, ⟨rr_ HO_12.out⟩, ⟨rr_ HO_13.out⟩, ⟨qz2⟩, ⟨qz1⟩⟩
 case round =>
 clear H'
 try clear c7
 try clear c7b0
 try clear c7b1
 try clear c8
 try clear c8b0
 try clear c8b1
 try clear c9
 try clear c9b0
 try clear c9b1
 try clear c16
 try clear c16b0
 try clear hf19
 obtain ⟨x1_2, x2_2, x11_2, x12_2, x13_2, x15_2, rfl, HA, HK2, HO_1, HO_2, HO_3, HO_11, HO_12, HO_13, HK, HB⟩ := hrel
 cases gk with
 | zero => exact absurd HA.out (by simp [spec_l4Grow.l1])
 | succ k2 =>
 have H := HA.out
 clear HA
 simp only [spec_l4Grow.l1] at H
 replace H := iD_ H
 obtain ⟨c22b0, H⟩ := H
 replace H := iD_ H
 obtain ⟨c23b0, H⟩ := H
 obtain ⟨y218, hy218⟩ : ∃ y_ : List Bool, y_ = (x13_2.set (x15_2 : Int).toNat true) := ⟨_, rfl⟩
 replace H : (if x15_2 < (l3.length : Int) then (spec_l4Grow.l2 k2 l0 x1_2 x2_2 l3 a4 1099511627776 x11_2 x12_2 y218 x15_2 (rd l3 x15_2) 1099511627776 0 1) else (none)) = some (r1, r2, r3) := by first | (rw [hy218]; exact H) | exact H
 have Ny218 := aM hy218
 clear hy218
 replace H := iD_ H
 obtain ⟨c25b0, H⟩ := H
 have H' := aM H
 clear H
 have p24 : 0 ≤ (x15_2 : Int) := dt_
 have q24 : (x15_2 : Int) < ((x13_2.length : Int) : Int) := dt_
 obtain ⟨go24, co24, eo24, gb24, gl24, cl24, HG24⟩ := Kd.R_form HO_13.out (by omega)
 (first | cases eo24 | (injection eo24 with ea_ en_ ec_; (first | subst ea_ | (injection ea_ with ea_; subst ea_)); subst ec_; clear en_))
 have GB24 := aM gb24
 have GG24 := aM HG24
 clear gb24 gl24 HG24
 have HMgo24 := aM (show ((P1_ go24 ∨ P2_ go24 ∨ P3_ go24) ∨ w.heap.size ≤ go24) from (HO_13.out.1 _ rfl))
 obtain ⟨hx24_0, hf24_0⟩ := Kd.R_celln false HO_13.out (x15_2 : Int) p24 q24
 replace p24 := eq_true p24
 replace q24 := eq_true q24
 obtain ⟨hy26_, hz26_⟩ := Kd.R_celln false HO_13.out (x15_2 : Int) (dt_) (dt_)
 have HP26 := Kd.R_putg HO_13.out (x15_2 : Int) true
 go_wp2_with (first | ((with_reducible refine gate_store (t := 4) (p := 43) rfl ?_); refine store_event (t := 4) (p := 43) (v := ?vo_w27) (w1 := (wr.setCell ⟨go24, (x15_2 : Int).toNat, none⟩ (.bool true))) ?hg ?ho ?hn ?hr ?_; (case ho => rfl); (case hg => rfl); (case hn => rfl); (case hr => exact qz10); intro w27 hw; have hg : wr.grownBy w27 (some go24) := (by rw [hw]; exact HP26.2); have hp_ : Kd.R Kd.bool 4 w27 w0.heap.size (fun k_ => ((P1_ k_ ∨ P2_ k_ ∨ P3_ k_) ∨ w.heap.size ≤ k_)) (.slice (some ⟨go24, 0, none⟩) x13_2.length co24) y218 := (by rw [hw, Ny218.out]; exact HP26.1); clear HP26; replace HO_1 := aM (Kd.R_over' (v := (.slice (some ⟨go24, 0, none⟩) x13_2.length co24)) (rr_ HO_1.out) (Kd.R_typed HO_13.out) (by decide) hg); replace HO_2 := aM (Kd.R_over' (v := (.slice (some ⟨go24, 0, none⟩) x13_2.length co24)) (rr_ HO_2.out) (Kd.R_typed HO_13.out) (by decide) hg); replace HO_3 := aM (Kd.R_over' (v := (.slice (some ⟨go24, 0, none⟩) x13_2.length co24)) (rr_ HO_3.out) (Kd.R_typed HO_13.out) (by decide) hg); replace HO_11 := aM (Kd.R_over' (v := (.slice (some ⟨go24, 0, none⟩) x13_2.length co24)) (rr_ HO_11.out) (Kd.R_typed HO_13.out) (by decide) hg); replace HO_12 := aM (Kd.R_over' (v := (.slice (some ⟨go24, 0, none⟩) x13_2.length co24)) (rr_ HO_12.out) (Kd.R_typed HO_13.out) (by decide) hg); replace HB := aM ((by rw [hw]; exact below_set (HB.out) GB24.out : Below w0.heap.size w0 w27)); replace HK := aM (Kept.of_grown (S := (fun k_ => P1_ k_ ∨ P2_ k_ ∨ P3_ k_)) hg qz2 (fun k_ e_ => (HO_13.out.1 k_ e_))); replace HO_13 := aM (hp_); clear hg hw hp_; obtain ⟨Ao28, co28, eo28⟩ := Kd.R_slice HO_3.out; subst eo28; have p219 : 0 ≤ (x15_2 : Int) := dt_; have q219 : x15_2 < (l3.length : Int) := dt_; obtain ⟨ad219, e219, hx219_0⟩ := Kd.at_int (Kd.R_reads' HO_3.out).2.2 x15_2 p219 q219; cases e219; replace p219 := eq_true p219; replace q219 := eq_true q219))
 go_loopg [17, 18, 19] k2 (fun kq v17 v18 v19 w' => ∃ (x11_3 : List Int) (x12_3 : List Int) (x17_3 : Int) (x18_3 : Int) (x19_3 : Int), v17 = .int .i64 x17_3 ∧ v18 = .int .i64 x18_3 ∧ v19 = .int .i64 x19_3 ∧ Aside0 (spec_l4Grow.l2 kq l0 x1_2 x2_2 l3 a4 1099511627776 x11_3 x12_3 y218 x15_2 (rd l3 x15_2) x17_3 x18_3 x19_3 = some (r1, r2, r3)) ∧ Aside0 (kq ≤ k2) ∧ Aside0 (Kd.R (Kd.int .i64) 3 w' w0.heap.size (fun k_ => ((P1_ k_ ∨ P2_ k_ ∨ P3_ k_) ∨ w.heap.size ≤ k_) ∧ some k_ ≠ (u9001_ : Value).ownBlock ∧ some k_ ≠ ((.slice (some ad219) l3.length co28) : Value).ownBlock ∧ some k_ ≠ (v209 : Value).ownBlock ∧ some k_ ≠ (v212 : Value).ownBlock) u9000_ x1_2) ∧ Aside0 (Kd.R (Kd.int .i64) 3 w' w0.heap.size (fun k_ => ((P1_ k_ ∨ P2_ k_ ∨ P3_ k_) ∨ w.heap.size ≤ k_) ∧ some k_ ≠ (u9000_ : Value).ownBlock ∧ some k_ ≠ ((.slice (some ad219) l3.length co28) : Value).ownBlock ∧ some k_ ≠ (v209 : Value).ownBlock ∧ some k_ ≠ (v212 : Value).ownBlock) u9001_ x2_2) ∧ Aside0 (Kd.R (Kd.int .i64) 3 w' w0.heap.size (fun k_ => ((P1_ k_ ∨ P2_ k_ ∨ P3_ k_) ∨ w.heap.size ≤ k_) ∧ some k_ ≠ (u9000_ : Value).ownBlock ∧ some k_ ≠ (u9001_ : Value).ownBlock ∧ some k_ ≠ (v209 : Value).ownBlock ∧ some k_ ≠ (v212 : Value).ownBlock) (.slice (some ad219) l3.length co28) l3) ∧ Aside0 (Kd.R (Kd.int .i64) 3 w' w0.heap.size (fun k_ => ((P1_ k_ ∨ P2_ k_ ∨ P3_ k_) ∨ w.heap.size ≤ k_) ∧ some k_ ≠ (u9000_ : Value).ownBlock ∧ some k_ ≠ (u9001_ : Value).ownBlock ∧ some k_ ≠ ((.slice (some ad219) l3.length co28) : Value).ownBlock ∧ some k_ ≠ (v212 : Value).ownBlock) v209 x11_3) ∧ Aside0 (Kd.R (Kd.int .i64) 3 w' w0.heap.size (fun k_ => ((P1_ k_ ∨ P2_ k_ ∨ P3_ k_) ∨ w.heap.size ≤ k_) ∧ some k_ ≠ (u9000_ : Value).ownBlock ∧ some k_ ≠ (u9001_ : Value).ownBlock ∧ some k_ ≠ ((.slice (some ad219) l3.length co28) : Value).ownBlock ∧ some k_ ≠ (v209 : Value).ownBlock) v212 x12_3) ∧ Aside0 (Kd.R Kd.bool 4 w' w0.heap.size (fun k_ => ((P1_ k_ ∨ P2_ k_ ∨ P3_ k_) ∨ w.heap.size ≤ k_)) (.slice (some ⟨go24, 0, none⟩) x13_2.length co24) y218) ∧ Aside0 (Kept w w' (fun k_ => P1_ k_ ∨ P2_ k_ ∨ P3_ k_)) ∧ Aside0 (Below w0.heap.size w0 w'))
 case atStart => exact ⟨(x11_2), (x12_2), (1099511627776), (0), (1), qz3, qz3, qz3, H', ⟨Nat.le_refl _⟩, ⟨rr_ HO_1.out⟩, ⟨rr_ HO_2.out⟩, ⟨rr_ HO_3.out⟩, ⟨rr_ HO_11.out⟩, ⟨rr_ HO_12.out⟩, ⟨rr_ HO_13.out⟩, ⟨qz2⟩, ⟨qz1⟩⟩
 case round =>
 clear H'
 try clear c7
 try clear c7b0
 try clear c7b1
 try clear c8
 try clear c8b0
 try clear c8b1
 try clear c9
 try clear c9b0
 try clear c9b1
 try clear c16
 try clear c16b0
 try clear hf19
 try clear c22
 try clear c22b0
 try clear c23
 try clear c23b0
 try clear p24
 try clear q24
 try clear hf24
 try clear c25
 try clear c25b0
 try clear hx219_0
 try clear hx24_0
 try clear p219
 try clear q219
 obtain ⟨x11_3, x12_3, x17_3, x18_3, x19_3, rfl, rfl, rfl, HA, HK3, HO_1, HO_2, HO_3, HO_11, HO_12, HO_13, HK, HB⟩ := hrel
 have hl13_3 := (Kd.R_reads' HO_13.out).1
 rw [hl13_3] at HO_13
 (try simp only [hl13_3])
 (try simp only [hl13_3] at HO_1)
 (try simp only [hl13_3] at HO_2)
 (try simp only [hl13_3] at HO_3)
 (try simp only [hl13_3] at HO_11)
 (try simp only [hl13_3] at HO_12)
 cases gk with
 | zero => exact absurd HA.out (by simp [spec_l4Grow.l2])
 | succ k3 =>
 have H := HA.out
 clear HA
 simp only [spec_l4Grow.l2] at H
 replace H := iE_ H
 rcases H with ⟨c29b0, H⟩ | ⟨c29b0, H⟩
 {
 replace H := iD_ H
 obtain ⟨c30b0, H⟩ := H
 replace H := iN_ H
 obtain ⟨c31, H⟩ := H
 have c31b0 := decide_eq_true c31
 (try (have c31b0q13_3 := c31b0; simp only [hl13_3] at c31b0q13_3))
 clear c31
 obtain ⟨bq32, hbq32⟩ : ∃ b_ : Bool, b_ = (rdOf false y218 x19_3) := ⟨_, rfl⟩
 replace H : (if bq32 = true then (spec_l4Grow.l2 k3 l0 x1_2 x2_2 l3 a4 1099511627776 x11_3 x12_3 y218 x15_2 (rd l3 x15_2) x17_3 x18_3 (wrap64 (x19_3 + 1))) else (if 0 ≤ (wrap64 ((rd l3 x15_2) - 1)) then (if (wrap64 ((rd l3 x15_2) - 1)) < (l0.length : Int) then (if 0 ≤ (wrap64 (x19_3 - 1)) then (if (wrap64 (x19_3 - 1)) < ((rd_L1 l0 (wrap64 ((rd l3 x15_2) - 1))).length : Int) then (if 0 ≤ (rd l3 x15_2) then (if (rd l3 x15_2) < (x1_2.length : Int) then (if x19_3 < (x2_2.length : Int) then (if x19_3 < (x11_3.length : Int) then (if (wrap64 ((wrap64 ((rd (rd_L1 l0 (wrap64 ((rd l3 x15_2) - 1))) (wrap64 (x19_3 - 1))) - (rd x1_2 (rd l3 x15_2)))) - (rd x2_2 x19_3))) < (rd x11_3 x19_3) then ((some (x11_3.set (x19_3 : Int).toNat (wrap64 ((wrap64 ((rd (rd_L1 l0 (wrap64 ((rd l3 x15_2) - 1))) (wrap64 (x19_3 - 1))) - (rd x1_2 (rd l3 x15_2)))) - (rd x2_2 x19_3))) : List Int)).bind fun y226 => (if x19_3 < (x12_3.length : Int) then ((some (x12_3.set (x19_3 : Int).toNat x15_2 : List Int)).bind fun y227 => (if (rd y226 x19_3) < x17_3 then (spec_l4Grow.l2 k3 l0 x1_2 x2_2 l3 a4 1099511627776 y226 y227 y218 x15_2 (rd l3 x15_2) (rd y226 x19_3) x19_3 (wrap64 (x19_3 + 1))) else (spec_l4Grow.l2 k3 l0 x1_2 x2_2 l3 a4 1099511627776 y226 y227 y218 x15_2 (rd l3 x15_2) x17_3 x18_3 (wrap64 (x19_3 + 1))))) else (none))) else (if (rd x11_3 x19_3) < x17_3 then (spec_l4Grow.l2 k3 l0 x1_2 x2_2 l3 a4 1099511627776 x11_3 x12_3 y218 x15_2 (rd l3 x15_2) (rd x11_3 x19_3) x19_3 (wrap64 (x19_3 + 1))) else (spec_l4Grow.l2 k3 l0 x1_2 x2_2 l3 a4 1099511627776 x11_3 x12_3 y218 x15_2 (rd l3 x15_2) x17_3 x18_3 (wrap64 (x19_3 + 1))))) else (none)) else (none)) else (none)) else (none)) else (none)) else (none)) else (none)) else (none))) = some (r1, r2, r3) := by rw [← hbq32] at H; exact H
 have Nbq32 := aM hbq32
 clear hbq32
 replace H := iB_ H
 rcases H with ⟨rfl, H⟩ | ⟨rfl, H⟩
 {
 have H' := aM H
 clear H
 have p220 : (0 ≤ (x19_3 : Int)) = True := et_
 have q220 : (x19_3 < (y218.length : Int)) = True := et_
 obtain ⟨ad220, e220, hx220_0⟩ := Kd.at_bool (Kd.R_reads' HO_13.out).2.2 x19_3 dt_ dt_
 (try rw [← Nbq32.out] at hx220_0)
 obtain rfl : (⟨go24, 0, none⟩ : Addr) = ad220 := (by injection e220)
 (first | simp only [add_plain] at hx220_0 | simp only [add_at] at hx220_0 | simp only [Addr.add, Nat.zero_add] at hx220_0 | skip)
 go_wp2
 (try simp only [← hl13_3])
 go_roundg k3
 case measure => have := HK1.out; have := HK2.out; have := HK3.out; omega
 case rel => exact ⟨(x11_3), (x12_3), (x17_3), (x18_3), (wrap64 (x19_3 + 1)), qz3, qz3, qz3, H', ⟨by have := HK1.out; have := HK2.out; have := HK3.out; omega⟩, ⟨by (try simp only [hl13_3]); exact rm_ HO_1.out⟩, ⟨by (try simp only [hl13_3]); exact rm_ HO_2.out⟩, ⟨by (try simp only [hl13_3]); exact rm_ HO_3.out⟩, ⟨by (try simp only [hl13_3]); exact rm_ HO_11.out⟩, ⟨by (try simp only [hl13_3]); exact rm_ HO_12.out⟩, ⟨by (try simp only [hl13_3]); exact rm_ HO_13.out⟩, ⟨qz2⟩, ⟨qz1⟩⟩
 }
 {
 obtain ⟨ji34, hji34⟩ : ∃ j_ : Int, (wrap64 ((rd l3 x15_2) - 1)) = j_ := ⟨_, rfl⟩
 replace H : (if 0 ≤ (ji34) then (if (ji34) < (l0.length : Int) then (if 0 ≤ (wrap64 (x19_3 - 1)) then (if (wrap64 (x19_3 - 1)) < ((rd_L1 l0 (ji34)).length : Int) then (if 0 ≤ (rd l3 x15_2) then (if (rd l3 x15_2) < (x1_2.length : Int) then (if x19_3 < (x2_2.length : Int) then (if x19_3 < (x11_3.length : Int) then (if (wrap64 ((wrap64 ((rd (rd_L1 l0 (ji34)) (wrap64 (x19_3 - 1))) - (rd x1_2 (rd l3 x15_2)))) - (rd x2_2 x19_3))) < (rd x11_3 x19_3) then ((some (x11_3.set (x19_3 : Int).toNat (wrap64 ((wrap64 ((rd (rd_L1 l0 (ji34)) (wrap64 (x19_3 - 1))) - (rd x1_2 (rd l3 x15_2)))) - (rd x2_2 x19_3))) : List Int)).bind fun y226 => (if x19_3 < (x12_3.length : Int) then ((some (x12_3.set (x19_3 : Int).toNat x15_2 : List Int)).bind fun y227 => (if (rd y226 x19_3) < x17_3 then (spec_l4Grow.l2 k3 l0 x1_2 x2_2 l3 a4 1099511627776 y226 y227 y218 x15_2 (rd l3 x15_2) (rd y226 x19_3) x19_3 (wrap64 (x19_3 + 1))) else (spec_l4Grow.l2 k3 l0 x1_2 x2_2 l3 a4 1099511627776 y226 y227 y218 x15_2 (rd l3 x15_2) x17_3 x18_3 (wrap64 (x19_3 + 1))))) else (none))) else (if (rd x11_3 x19_3) < x17_3 then (spec_l4Grow.l2 k3 l0 x1_2 x2_2 l3 a4 1099511627776 x11_3 x12_3 y218 x15_2 (rd l3 x15_2) (rd x11_3 x19_3) x19_3 (wrap64 (x19_3 + 1))) else (spec_l4Grow.l2 k3 l0 x1_2 x2_2 l3 a4 1099511627776 x11_3 x12_3 y218 x15_2 (rd l3 x15_2) x17_3 x18_3 (wrap64 (x19_3 + 1))))) else (none)) else (none)) else (none)) else (none)) else (none)) else (none)) else (none)) else (none)) = some (r1, r2, r3) := by first | (rw [hji34] at H; exact H) | (simp only [hji34] at H ⊢; exact H)
 have hji34w : (IntKind.i64.wrap ((rd l3 x15_2) - 1)) = ji34 := (i64_w _).trans hji34
 replace H := iD_ H
 obtain ⟨c35b0, H⟩ := H
 replace H := iN_ H
 obtain ⟨c36, H⟩ := H
 have c36b0 := decide_eq_true c36
 (try (have c36b0q13_3 := c36b0; simp only [hl13_3] at c36b0q13_3))
 clear c36
 obtain ⟨ji37, hji37⟩ : ∃ j_ : Int, (wrap64 (x19_3 - 1)) = j_ := ⟨_, rfl⟩
 replace H : (if 0 ≤ (ji37) then (if (ji37) < ((rd_L1 l0 (ji34)).length : Int) then (if 0 ≤ (rd l3 x15_2) then (if (rd l3 x15_2) < (x1_2.length : Int) then (if x19_3 < (x2_2.length : Int) then (if x19_3 < (x11_3.length : Int) then (if (wrap64 ((wrap64 ((rd (rd_L1 l0 (ji34)) (ji37)) - (rd x1_2 (rd l3 x15_2)))) - (rd x2_2 x19_3))) < (rd x11_3 x19_3) then ((some (x11_3.set (x19_3 : Int).toNat (wrap64 ((wrap64 ((rd (rd_L1 l0 (ji34)) (ji37)) - (rd x1_2 (rd l3 x15_2)))) - (rd x2_2 x19_3))) : List Int)).bind fun y226 => (if x19_3 < (x12_3.length : Int) then ((some (x12_3.set (x19_3 : Int).toNat x15_2 : List Int)).bind fun y227 => (if (rd y226 x19_3) < x17_3 then (spec_l4Grow.l2 k3 l0 x1_2 x2_2 l3 a4 1099511627776 y226 y227 y218 x15_2 (rd l3 x15_2) (rd y226 x19_3) x19_3 (wrap64 (x19_3 + 1))) else (spec_l4Grow.l2 k3 l0 x1_2 x2_2 l3 a4 1099511627776 y226 y227 y218 x15_2 (rd l3 x15_2) x17_3 x18_3 (wrap64 (x19_3 + 1))))) else (none))) else (if (rd x11_3 x19_3) < x17_3 then (spec_l4Grow.l2 k3 l0 x1_2 x2_2 l3 a4 1099511627776 x11_3 x12_3 y218 x15_2 (rd l3 x15_2) (rd x11_3 x19_3) x19_3 (wrap64 (x19_3 + 1))) else (spec_l4Grow.l2 k3 l0 x1_2 x2_2 l3 a4 1099511627776 x11_3 x12_3 y218 x15_2 (rd l3 x15_2) x17_3 x18_3 (wrap64 (x19_3 + 1))))) else (none)) else (none)) else (none)) else (none)) else (none)) else (none)) = some (r1, r2, r3) := by first | (rw [hji37] at H; exact H) | (simp only [hji37] at H ⊢; exact H)
 have hji37w : (IntKind.i64.wrap (x19_3 - 1)) = ji37 := (i64_w _).trans hji37
 replace H := iD_ H
 obtain ⟨c38b0, H⟩ := H
 replace H := iN_ H
 obtain ⟨c39, H⟩ := H
 have c39b0 := decide_eq_true c39
 (try (have c39b0q13_3 := c39b0; simp only [hl13_3] at c39b0q13_3))
 clear c39
 replace H := iD_ H
 obtain ⟨c40b0, H⟩ := H
 replace H := iN_ H
 obtain ⟨c41, H⟩ := H
 have c41b0 := decide_eq_true c41
 (try (have c41b0q13_3 := c41b0; simp only [hl13_3] at c41b0q13_3))
 clear c41
 replace H := iN_ H
 obtain ⟨c42, H⟩ := H
 have c42b0 := decide_eq_true c42
 (try (have c42b0q13_3 := c42b0; simp only [hl13_3] at c42b0q13_3))
 clear c42
 replace H := iN_ H
 obtain ⟨c43, H⟩ := H
 have c43b0 := decide_eq_true c43
 (try (have c43b0q13_3 := c43b0; simp only [hl13_3] at c43b0q13_3))
 clear c43
 replace H := iE_ H
 rcases H with ⟨c44b0, H⟩ | ⟨c44b0, H⟩
 {
 obtain ⟨y226, hy226⟩ : ∃ y_ : List Int, y_ = (x11_3.set (x19_3 : Int).toNat (wrap64 ((wrap64 ((rd (rd_L1 l0 (ji34)) (ji37)) - (rd x1_2 (rd l3 x15_2)))) - (rd x2_2 x19_3)))) := ⟨_, rfl⟩
 replace H := yB_ hy226 H
 have Ny226 := aM hy226
 clear hy226
 replace H := iN_ H
 obtain ⟨c46, H⟩ := H
 have c46b0 := decide_eq_true c46
 (try (have c46b0q13_3 := c46b0; simp only [hl13_3] at c46b0q13_3))
 clear c46
 obtain ⟨y227, hy227⟩ : ∃ y_ : List Int, y_ = (x12_3.set (x19_3 : Int).toNat x15_2) := ⟨_, rfl⟩
 replace H := yB_ hy227 H
 have Ny227 := aM hy227
 clear hy227
 replace H := iE_ H
 rcases H with ⟨c48b0, H⟩ | ⟨c48b0, H⟩
 {
 have H' := aM H
 clear H
 have p220 : (0 ≤ (x19_3 : Int)) = True := et_
 have q220 : (x19_3 < (y218.length : Int)) = True := et_
 obtain ⟨ad220, e220, hx220_0⟩ := Kd.at_bool (Kd.R_reads' HO_13.out).2.2 x19_3 dt_ dt_
 (try rw [← Nbq32.out] at hx220_0)
 obtain rfl : (⟨go24, 0, none⟩ : Addr) = ad220 := (by injection e220)
 (first | simp only [add_plain] at hx220_0 | simp only [add_at] at hx220_0 | simp only [Addr.add, Nat.zero_add] at hx220_0 | skip)
 try go_wp2
 replace HO_1 := aM (Kd.R_drew HO_1.out)
 replace HO_2 := aM (Kd.R_drew HO_2.out)
 replace HO_3 := aM (Kd.R_drew HO_3.out)
 replace HO_11 := aM (Kd.R_drew HO_11.out)
 replace HO_12 := aM (Kd.R_drew HO_12.out)
 replace HO_13 := aM (Kd.R_drew HO_13.out)
 replace HK := aM (Kept.drew HK.out)
 replace HB := aM (below_drew1 HB.out)
 have p221 : (0 ≤ ((ji34) : Int)) = True := et_
 have q221 : ((ji34) < (l0.length : Int)) = True := et_
 obtain ⟨ad221, A221_0, c221_0, e221, hx221_0, hl221_0, hi221_0⟩ := at_L1 (Kd.C_kept_now HR0.out HK.out) (ji34) dt_ dt_
 have hw221_0 := hx221_0
 cases e221
 have HR221_0 := aM hi221_0
 have HC221_0 := aM hl221_0
 clear hi221_0 hl221_0
 have p222 : (0 ≤ ((ji37) : Int)) = True := et_
 have q222 : ((ji37) < ((rd_L1 l0 (ji34)).length : Int)) = True := et_
 obtain ⟨ad222, e222, hx222_0⟩ := Kd.at_int qz11 (ji37) dt_ dt_
 cases e222
 obtain ⟨Ao50, co50, eo50⟩ := Kd.R_slice HO_1.out
 (first | subst eo50 | (injection eo50 with f1_ f2_ f3_; have f4_ := f1_.symm; have f5_ := f3_.symm; clear f1_ f2_ f3_; subst f4_; subst f5_))
 have p223 : (0 ≤ ((rd l3 x15_2) : Int)) = True := et_
 have q223 : ((rd l3 x15_2) < (x1_2.length : Int)) = True := et_
 obtain ⟨ad223, e223, hx223_0⟩ := Kd.at_int (Kd.R_reads' HO_1.out).2.2 (rd l3 x15_2) dt_ dt_
 cases e223
 obtain ⟨Ao51, co51, eo51⟩ := Kd.R_slice HO_2.out
 (first | subst eo51 | (injection eo51 with f1_ f2_ f3_; have f4_ := f1_.symm; have f5_ := f3_.symm; clear f1_ f2_ f3_; subst f4_; subst f5_))
 have p224 : (0 ≤ (x19_3 : Int)) = True := et_
 have q224 : (x19_3 < (x2_2.length : Int)) = True := et_
 obtain ⟨ad224, e224, hx224_0⟩ := Kd.at_int (Kd.R_reads' HO_2.out).2.2 x19_3 dt_ dt_
 cases e224
 refine start_ (n := 20) (S := fun w' => w'.cell? (ad221.add ((ji34)).toNat) = some (.slice (some ad222) (rd_L1 l0 (ji34)).length c221_0) ∧ w'.cell? (ad222.add ((ji37)).toNat) = some (.int .i64 (rd (rd_L1 l0 (ji34)) (ji37))) ∧ w'.cell? (ad223.add ((rd l3 x15_2)).toNat) = some (.int .i64 (rd x1_2 (rd l3 x15_2))) ∧ w'.cell? (ad224.add (x19_3).toNat) = some (.int .i64 (rd x2_2 x19_3))) (ds := []) #[false, false, false, false, false, false, false, false, false, false, false, false, false, false, false, false, false, false, false, false] (by kernel_rfl) rfl rfl ⟨hx221_0, hx222_0, hx223_0, hx224_0⟩ (fun hHeld => ?_); refine with_tabW spec_l4Grow.tab17 spec_l4Grow.bits17 (fun HT_ HW_ => ?_)
 generalize wr.drew = w49 at HO_1 HO_2 HO_3 HO_11 HO_12 HO_13 HK HB HR221_0 hx221_0 hx222_0 hx223_0 hx224_0 hHeld ⊢
 refine pI_ 0 58 (bqz 20 1) ?_
 refine jI_ 1 59 ?_
 refine jI_ 2 60 ?_
 refine jI_ 3 61 ?_
 refine jI_ 5 63 ?_
 refine jI_ 6 64 ?_
 refine jI_ 9 67 ?_
 refine jI_ 10 68 ?_
 refine jI_ 11 69 ?_
 refine jI_ 14 72 ?_
 refine jI_ 15 73 ?_
 refine jI_ 16 74 ?_
 refine sI4_ 4 62 ?_
 refine jI_ 7 65 ?_
 refine sI4_ 8 66 ?_
 refine sI4_ 12 70 ?_
 refine jI_ 13 71 ?_
 refine sI4_ 17 75 ?_
 refine jI_ 18 76 ?_
 refine jI_ 19 20 ?_
 refine done_ (done_of HT_.out (by kernel_rfl)) ?_
 obtain ⟨Ao52, co52, eo52⟩ := Kd.R_slice HO_11.out
 subst eo52
 have p225 : (0 ≤ (x19_3 : Int)) = True := et_
 have q225 : (x19_3 < (x11_3.length : Int)) = True := et_
 obtain ⟨ad225, e225, hx225_0⟩ := Kd.at_int (Kd.R_reads' HO_11.out).2.2 x19_3 dt_ dt_
 cases e225
 have p45 : 0 ≤ (x19_3 : Int) := dt_
 have q45 : (x19_3 : Int) < ((x11_3.length : Int) : Int) := dt_
 obtain ⟨go45, co45, eo45, gb45, gl45, cl45, HG45⟩ := Kd.R_form HO_11.out (by omega)
 (first | cases eo45 | (injection eo45 with ea_ en_ ec_; (first | subst ea_ | (injection ea_ with ea_; subst ea_)); subst ec_; clear en_))
 have GB45 := aM gb45
 have GG45 := aM HG45
 clear gb45 gl45 HG45
 have HMgo45 := aM (show ((P1_ go45 ∨ P2_ go45 ∨ P3_ go45) ∨ w.heap.size ≤ go45) from (HO_11.out.1 _ rfl).1)
 (first | simp only [add_plain] at hx225_0 | skip)
 obtain ⟨hx45_0, hf45_0⟩ := Kd.R_celln 0 HO_11.out (x19_3 : Int) p45 q45
 replace p45 := eq_true p45
 replace q45 := eq_true q45
 obtain ⟨hy53_, hz53_⟩ := Kd.R_celln 0 HO_11.out (x19_3 : Int) (dt_) (dt_)
 have HP53 := Kd.R_putg HO_11.out (x19_3 : Int) (wrap64 ((wrap64 ((rd (rd_L1 l0 (ji34)) (ji37)) - (rd x1_2 (rd l3 x15_2)))) - (rd x2_2 x19_3)))
 try go_wp2_with (first | ((with_reducible refine gate_store (t := 3) (p := 86) rfl ?_); refine store_event (t := 3) (p := 86) (v := ?vo_w54) (w1 := (w49.setCell ⟨go45, (x19_3 : Int).toNat, none⟩ (.int .i64 (wrap64 ((wrap64 ((rd (rd_L1 l0 (ji34)) (ji37)) - (rd x1_2 (rd l3 x15_2)))) - (rd x2_2 x19_3)))))) ?hg ?ho ?hn ?hr ?_; (case ho => rfl); (case hg => rfl); (case hn => rfl); (case hr => exact qz10); intro w54 hw; have hg : w49.grownBy w54 (some go45) := (by rw [hw]; exact HP53.2); have hp_ : Kd.R (Kd.int .i64) 3 w54 w0.heap.size (fun k_ => ((P1_ k_ ∨ P2_ k_ ∨ P3_ k_) ∨ w.heap.size ≤ k_) ∧ some k_ ≠ (.slice (some ad223) x1_2.length co50 : Value).ownBlock ∧ some k_ ≠ (.slice (some ad224) x2_2.length co51 : Value).ownBlock ∧ some k_ ≠ (.slice (some ad219) l3.length co28 : Value).ownBlock ∧ some k_ ≠ (v212 : Value).ownBlock) (.slice (some ⟨go45, 0, none⟩) x11_3.length co52) y226 := (by rw [hw, Ny226.out]; exact HP53.1); clear HP53; replace HO_1 := aM (Kd.R_after (v := (.slice (some ⟨go45, 0, none⟩) x11_3.length co52)) (v1 := (.slice (some ⟨go45, 0, none⟩) x11_3.length co52)) (ok := (fun k_ => ((P1_ k_ ∨ P2_ k_ ∨ P3_ k_) ∨ w.heap.size ≤ k_) ∧ some k_ ≠ (.slice (some ad224) x2_2.length co51 : Value).ownBlock ∧ some k_ ≠ (.slice (some ad219) l3.length co28 : Value).ownBlock ∧ some k_ ≠ (v212 : Value).ownBlock)) qz13 hg (.inl rfl)); replace HO_2 := aM (Kd.R_after (v := (.slice (some ⟨go45, 0, none⟩) x11_3.length co52)) (v1 := (.slice (some ⟨go45, 0, none⟩) x11_3.length co52)) (ok := (fun k_ => ((P1_ k_ ∨ P2_ k_ ∨ P3_ k_) ∨ w.heap.size ≤ k_) ∧ some k_ ≠ (.slice (some ad223) x1_2.length co50 : Value).ownBlock ∧ some k_ ≠ (.slice (some ad219) l3.length co28 : Value).ownBlock ∧ some k_ ≠ (v212 : Value).ownBlock)) qz14 hg (.inl rfl)); replace HO_3 := aM (Kd.R_after (v := (.slice (some ⟨go45, 0, none⟩) x11_3.length co52)) (v1 := (.slice (some ⟨go45, 0, none⟩) x11_3.length co52)) (ok := (fun k_ => ((P1_ k_ ∨ P2_ k_ ∨ P3_ k_) ∨ w.heap.size ≤ k_) ∧ some k_ ≠ (.slice (some ad223) x1_2.length co50 : Value).ownBlock ∧ some k_ ≠ (.slice (some ad224) x2_2.length co51 : Value).ownBlock ∧ some k_ ≠ (v212 : Value).ownBlock)) qz15 hg (.inl rfl)); replace HO_12 := aM (Kd.R_after (v := (.slice (some ⟨go45, 0, none⟩) x11_3.length co52)) (v1 := (.slice (some ⟨go45, 0, none⟩) x11_3.length co52)) (ok := (fun k_ => ((P1_ k_ ∨ P2_ k_ ∨ P3_ k_) ∨ w.heap.size ≤ k_) ∧ some k_ ≠ (.slice (some ad223) x1_2.length co50 : Value).ownBlock ∧ some k_ ≠ (.slice (some ad224) x2_2.length co51 : Value).ownBlock ∧ some k_ ≠ (.slice (some ad219) l3.length co28 : Value).ownBlock)) qz12 hg (.inl rfl)); replace HO_13 := aM (Kd.R_over' (v := (.slice (some ⟨go45, 0, none⟩) x11_3.length co52)) (rr_ HO_13.out) (Kd.R_typed HO_11.out) (by decide) hg); replace HB := aM ((by rw [hw]; exact below_set (HB.out) GB45.out : Below w0.heap.size w0 w54)); replace HK := aM (Kept.of_grown (S := (fun k_ => P1_ k_ ∨ P2_ k_ ∨ P3_ k_)) hg qz2 (fun k_ e_ => (HO_11.out.1 k_ e_).1)); replace HO_11 := aM (hp_); clear hg hw hp_; have p47 : 0 ≤ (x19_3 : Int) := dt_; have q47 : (x19_3 : Int) < ((x12_3.length : Int) : Int) := dt_; obtain ⟨go47, co47, eo47, gb47, gl47, cl47, HG47⟩ := Kd.R_form HO_12.out (by omega); (first | cases eo47 | (injection eo47 with ea_ en_ ec_; (first | subst ea_ | (injection ea_ with ea_; subst ea_)); subst ec_; clear en_)); have GB47 := aM gb47; have GG47 := aM HG47; clear gb47 gl47 HG47; have HMgo47 := aM (show ((P1_ go47 ∨ P2_ go47 ∨ P3_ go47) ∨ w.heap.size ≤ go47) from (HO_12.out.1 _ rfl).1.1); obtain ⟨hx47_0, hf47_0⟩ := Kd.R_celln 0 HO_12.out (x19_3 : Int) p47 q47; replace p47 := eq_true p47; replace q47 := eq_true q47; have n_ := aM (Kd.R_mono (ok' := (fun k_ => ((P1_ k_ ∨ P2_ k_ ∨ P3_ k_) ∨ w.heap.size ≤ k_) ∧ some k_ ≠ (.slice (some ad223) x1_2.length co50 : Value).ownBlock ∧ some k_ ≠ (.slice (some ad224) x2_2.length co51 : Value).ownBlock ∧ some k_ ≠ (.slice (some ad219) l3.length co28 : Value).ownBlock ∧ some k_ ≠ (.slice (some ⟨go45, 0, none⟩) x11_3.length co52 : Value).ownBlock)) HO_12.out (fun k_ hk => ⟨hk.1.1, ⟨hk.1.2.1, ⟨hk.1.2.2.1, ⟨hk.1.2.2.2, hk.2⟩⟩⟩⟩)); clear HO_12; have HO_12 := n_; clear n_; obtain ⟨hy55_, hz55_⟩ := Kd.R_celln 0 HO_12.out (x19_3 : Int) (dt_) (dt_); have HP55 := Kd.R_putg HO_12.out (x19_3 : Int) x15_2) | ((with_reducible refine gate_store (t := 3) (p := 90) rfl ?_); refine store_event (t := 3) (p := 90) (v := ?vo_w56) (w1 := (w54.setCell ⟨go47, (x19_3 : Int).toNat, none⟩ (.int .i64 x15_2))) ?hg ?ho ?hn ?hr ?_; (case ho => rfl); (case hg => rfl); (case hn => rfl); (case hr => exact qz10); intro w56 hw; have hg : w54.grownBy w56 (some go47) := (by rw [hw]; exact HP55.2); have hp_ : Kd.R (Kd.int .i64) 3 w56 w0.heap.size (fun k_ => ((P1_ k_ ∨ P2_ k_ ∨ P3_ k_) ∨ w.heap.size ≤ k_) ∧ some k_ ≠ (.slice (some ad223) x1_2.length co50 : Value).ownBlock ∧ some k_ ≠ (.slice (some ad224) x2_2.length co51 : Value).ownBlock ∧ some k_ ≠ (.slice (some ad219) l3.length co28 : Value).ownBlock ∧ some k_ ≠ (.slice (some ⟨go45, 0, none⟩) x11_3.length co52 : Value).ownBlock) (.slice (some ⟨go47, 0, none⟩) x12_3.length co47) y227 := (by rw [hw, Ny227.out]; exact HP55.1); clear HP55; replace HO_1 := aM (Kd.R_after (v := (.slice (some ⟨go47, 0, none⟩) x12_3.length co47)) (v1 := (.slice (some ⟨go47, 0, none⟩) x12_3.length co47)) (ok := (fun k_ => ((P1_ k_ ∨ P2_ k_ ∨ P3_ k_) ∨ w.heap.size ≤ k_) ∧ some k_ ≠ (.slice (some ad224) x2_2.length co51 : Value).ownBlock ∧ some k_ ≠ (.slice (some ad219) l3.length co28 : Value).ownBlock ∧ some k_ ≠ (.slice (some ⟨go45, 0, none⟩) x11_3.length co52 : Value).ownBlock)) qz29 hg (.inl rfl)); replace HO_2 := aM (Kd.R_after (v := (.slice (some ⟨go47, 0, none⟩) x12_3.length co47)) (v1 := (.slice (some ⟨go47, 0, none⟩) x12_3.length co47)) (ok := (fun k_ => ((P1_ k_ ∨ P2_ k_ ∨ P3_ k_) ∨ w.heap.size ≤ k_) ∧ some k_ ≠ (.slice (some ad223) x1_2.length co50 : Value).ownBlock ∧ some k_ ≠ (.slice (some ad219) l3.length co28 : Value).ownBlock ∧ some k_ ≠ (.slice (some ⟨go45, 0, none⟩) x11_3.length co52 : Value).ownBlock)) qz30 hg (.inl rfl)); replace HO_3 := aM (Kd.R_after (v := (.slice (some ⟨go47, 0, none⟩) x12_3.length co47)) (v1 := (.slice (some ⟨go47, 0, none⟩) x12_3.length co47)) (ok := (fun k_ => ((P1_ k_ ∨ P2_ k_ ∨ P3_ k_) ∨ w.heap.size ≤ k_) ∧ some k_ ≠ (.slice (some ad223) x1_2.length co50 : Value).ownBlock ∧ some k_ ≠ (.slice (some ad224) x2_2.length co51 : Value).ownBlock ∧ some k_ ≠ (.slice (some ⟨go45, 0, none⟩) x11_3.length co52 : Value).ownBlock)) qz31 hg (.inl rfl)); replace HO_11 := aM (Kd.R_after (v := (.slice (some ⟨go47, 0, none⟩) x12_3.length co47)) (v1 := (.slice (some ⟨go47, 0, none⟩) x12_3.length co47)) (ok := (fun k_ => ((P1_ k_ ∨ P2_ k_ ∨ P3_ k_) ∨ w.heap.size ≤ k_) ∧ some k_ ≠ (.slice (some ad223) x1_2.length co50 : Value).ownBlock ∧ some k_ ≠ (.slice (some ad224) x2_2.length co51 : Value).ownBlock ∧ some k_ ≠ (.slice (some ad219) l3.length co28 : Value).ownBlock)) qz28 hg (.inl rfl)); replace HO_13 := aM (Kd.R_over' (v := (.slice (some ⟨go47, 0, none⟩) x12_3.length co47)) (rr_ HO_13.out) (Kd.R_typed HO_12.out) (by decide) hg); replace HB := aM ((by rw [hw]; exact below_set (HB.out) GB47.out : Below w0.heap.size w0 w56)); replace HK := aM (Kept.of_grown (S := (fun k_ => P1_ k_ ∨ P2_ k_ ∨ P3_ k_)) hg qz2 (fun k_ e_ => (HO_12.out.1 k_ e_).1)); replace HO_12 := aM (hp_); clear hg hw hp_; have p228 : 0 ≤ (x19_3 : Int) := dt_; have q228 : x19_3 < (y226.length : Int) := (by have h_ : (x19_3 : Int) < ((x11_3.length : Int) : Int) := dt_; first | (have e_ := (Kd.R_reads' HO_11.out).1; omega) | simpa only [Ny226.out, List.length_set] using h_); have ql228 : ((x19_3 : Int) < ((x11_3.length : Int) : Int)) = True := eq_true (dt_); obtain ⟨ad228, e228, hx228_0⟩ := Kd.at_int (Kd.R_reads' HO_11.out).2.2 x19_3 p228 q228; obtain rfl : (⟨go45, 0, none⟩ : Addr) = ad228 := (by injection e228); (first | simp only [add_plain] at hx228_0 | simp only [add_at] at hx228_0 | simp only [Addr.add, Nat.zero_add] at hx228_0 | skip); replace p228 := eq_true p228; replace q228 := eq_true q228; have p229 : 0 ≤ (x19_3 : Int) := dt_; have q229 : x19_3 < (y226.length : Int) := (by have h_ : (x19_3 : Int) < ((x11_3.length : Int) : Int) := dt_; first | (have e_ := (Kd.R_reads' HO_11.out).1; omega) | simpa only [Ny226.out, List.length_set] using h_); have ql229 : ((x19_3 : Int) < ((x11_3.length : Int) : Int)) = True := eq_true (dt_); obtain ⟨ad229, e229, hx229_0⟩ := Kd.at_int (Kd.R_reads' HO_11.out).2.2 x19_3 p229 q229; obtain rfl : (⟨go45, 0, none⟩ : Addr) = ad229 := (by injection e229); (first | simp only [add_plain] at hx229_0 | simp only [add_at] at hx229_0 | simp only [Addr.add, Nat.zero_add] at hx229_0 | skip); replace p229 := eq_true p229; replace q229 := eq_true q229))
 (try simp only [← hl13_3])
 go_roundg k3
 case measure => have := HK1.out; have := HK2.out; have := HK3.out; omega
 case rel => exact ⟨(y226), (y227), (rd y226 x19_3), (x19_3), (wrap64 (x19_3 + 1)), qz3, qz3, qz3, H', ⟨by have := HK1.out; have := HK2.out; have := HK3.out; omega⟩, ⟨by (try simp only [hl13_3]); (with_reducible repeat (first | apply Kd.R_alloc | apply Kd.R_drewN | apply Kd.R_drew)); exact Kd.R_mono HO_1.out (fun _ hk => ⟨hk.1.1, ⟨hk.1.2.1, ⟨hk.1.2.2.1, ⟨hk.1.2.2.2, hk.2⟩⟩⟩⟩)⟩, ⟨by (try simp only [hl13_3]); (with_reducible repeat (first | apply Kd.R_alloc | apply Kd.R_drewN | apply Kd.R_drew)); exact Kd.R_mono HO_2.out (fun _ hk => ⟨hk.1.1, ⟨hk.1.2.1, ⟨hk.1.2.2.1, ⟨hk.1.2.2.2, hk.2⟩⟩⟩⟩)⟩, ⟨by (try simp only [hl13_3]); (with_reducible repeat (first | apply Kd.R_alloc | apply Kd.R_drewN | apply Kd.R_drew)); exact Kd.R_mono HO_3.out (fun _ hk => ⟨hk.1.1, ⟨hk.1.2.1, ⟨hk.1.2.2.1, ⟨hk.1.2.2.2, hk.2⟩⟩⟩⟩)⟩, ⟨by (try simp only [hl13_3]); (with_reducible repeat (first | apply Kd.R_alloc | apply Kd.R_drewN | apply Kd.R_drew)); exact Kd.R_mono HO_11.out (fun _ hk => ⟨hk.1.1, ⟨hk.1.2.1, ⟨hk.1.2.2.1, ⟨hk.1.2.2.2, hk.2⟩⟩⟩⟩)⟩, ⟨by (try simp only [hl13_3]); exact rm_ HO_12.out⟩, ⟨by (try simp only [hl13_3]); exact rm_ HO_13.out⟩, ⟨qz2⟩, ⟨qz1⟩⟩
 }
 {
 have H' := aM H
 clear H
 have p220 : (0 ≤ (x19_3 : Int)) = True := et_
 have q220 : (x19_3 < (y218.length : Int)) = True := et_
 obtain ⟨ad220, e220, hx220_0⟩ := Kd.at_bool (Kd.R_reads' HO_13.out).2.2 x19_3 dt_ dt_
 (try rw [← Nbq32.out] at hx220_0)
 obtain rfl : (⟨go24, 0, none⟩ : Addr) = ad220 := (by injection e220)
 (first | simp only [add_plain] at hx220_0 | simp only [add_at] at hx220_0 | simp only [Addr.add, Nat.zero_add] at hx220_0 | skip)
 try go_wp2
 replace HO_1 := aM (Kd.R_drew HO_1.out)
 replace HO_2 := aM (Kd.R_drew HO_2.out)
 replace HO_3 := aM (Kd.R_drew HO_3.out)
 replace HO_11 := aM (Kd.R_drew HO_11.out)
 replace HO_12 := aM (Kd.R_drew HO_12.out)
 replace HO_13 := aM (Kd.R_drew HO_13.out)
 replace HK := aM (Kept.drew HK.out)
 replace HB := aM (below_drew1 HB.out)
 have p221 : (0 ≤ ((ji34) : Int)) = True := et_
 have q221 : ((ji34) < (l0.length : Int)) = True := et_
 obtain ⟨ad221, A221_0, c221_0, e221, hx221_0, hl221_0, hi221_0⟩ := at_L1 (Kd.C_kept_now HR0.out HK.out) (ji34) dt_ dt_
 have hw221_0 := hx221_0
 cases e221
 have HR221_0 := aM hi221_0
 have HC221_0 := aM hl221_0
 clear hi221_0 hl221_0
 have p222 : (0 ≤ ((ji37) : Int)) = True := et_
 have q222 : ((ji37) < ((rd_L1 l0 (ji34)).length : Int)) = True := et_
 obtain ⟨ad222, e222, hx222_0⟩ := Kd.at_int qz11 (ji37) dt_ dt_
 cases e222
 obtain ⟨Ao58, co58, eo58⟩ := Kd.R_slice HO_1.out
 (first | subst eo58 | (injection eo58 with f1_ f2_ f3_; have f4_ := f1_.symm; have f5_ := f3_.symm; clear f1_ f2_ f3_; subst f4_; subst f5_))
 have p223 : (0 ≤ ((rd l3 x15_2) : Int)) = True := et_
 have q223 : ((rd l3 x15_2) < (x1_2.length : Int)) = True := et_
 obtain ⟨ad223, e223, hx223_0⟩ := Kd.at_int (Kd.R_reads' HO_1.out).2.2 (rd l3 x15_2) dt_ dt_
 cases e223
 obtain ⟨Ao59, co59, eo59⟩ := Kd.R_slice HO_2.out
 (first | subst eo59 | (injection eo59 with f1_ f2_ f3_; have f4_ := f1_.symm; have f5_ := f3_.symm; clear f1_ f2_ f3_; subst f4_; subst f5_))
 have p224 : (0 ≤ (x19_3 : Int)) = True := et_
 have q224 : (x19_3 < (x2_2.length : Int)) = True := et_
 obtain ⟨ad224, e224, hx224_0⟩ := Kd.at_int (Kd.R_reads' HO_2.out).2.2 x19_3 dt_ dt_
 cases e224
 refine start_ (n := 20) (S := fun w' => w'.cell? (ad221.add ((ji34)).toNat) = some (.slice (some ad222) (rd_L1 l0 (ji34)).length c221_0) ∧ w'.cell? (ad222.add ((ji37)).toNat) = some (.int .i64 (rd (rd_L1 l0 (ji34)) (ji37))) ∧ w'.cell? (ad223.add ((rd l3 x15_2)).toNat) = some (.int .i64 (rd x1_2 (rd l3 x15_2))) ∧ w'.cell? (ad224.add (x19_3).toNat) = some (.int .i64 (rd x2_2 x19_3))) (ds := []) #[false, false, false, false, false, false, false, false, false, false, false, false, false, false, false, false, false, false, false, false] (by kernel_rfl) rfl rfl ⟨hx221_0, hx222_0, hx223_0, hx224_0⟩ (fun hHeld => ?_); refine with_tabW spec_l4Grow.tab17 spec_l4Grow.bits17 (fun HT_ HW_ => ?_)
 generalize wr.drew = w57 at HO_1 HO_2 HO_3 HO_11 HO_12 HO_13 HK HB HR221_0 hx221_0 hx222_0 hx223_0 hx224_0 hHeld ⊢
 refine pI_ 0 58 (bqz 20 1) ?_
 refine jI_ 1 59 ?_
 refine jI_ 2 60 ?_
 refine jI_ 3 61 ?_
 refine jI_ 5 63 ?_
 refine jI_ 6 64 ?_
 refine jI_ 9 67 ?_
 refine jI_ 10 68 ?_
 refine jI_ 11 69 ?_
 refine jI_ 14 72 ?_
 refine jI_ 15 73 ?_
 refine jI_ 16 74 ?_
 refine sI4_ 4 62 ?_
 refine jI_ 7 65 ?_
 refine sI4_ 8 66 ?_
 refine sI4_ 12 70 ?_
 refine jI_ 13 71 ?_
 refine sI4_ 17 75 ?_
 refine jI_ 18 76 ?_
 refine jI_ 19 20 ?_
 refine done_ (done_of HT_.out (by kernel_rfl)) ?_
 obtain ⟨Ao60, co60, eo60⟩ := Kd.R_slice HO_11.out
 subst eo60
 have p225 : (0 ≤ (x19_3 : Int)) = True := et_
 have q225 : (x19_3 < (x11_3.length : Int)) = True := et_
 obtain ⟨ad225, e225, hx225_0⟩ := Kd.at_int (Kd.R_reads' HO_11.out).2.2 x19_3 dt_ dt_
 cases e225
 have p45 : 0 ≤ (x19_3 : Int) := dt_
 have q45 : (x19_3 : Int) < ((x11_3.length : Int) : Int) := dt_
 obtain ⟨go45, co45, eo45, gb45, gl45, cl45, HG45⟩ := Kd.R_form HO_11.out (by omega)
 (first | cases eo45 | (injection eo45 with ea_ en_ ec_; (first | subst ea_ | (injection ea_ with ea_; subst ea_)); subst ec_; clear en_))
 have GB45 := aM gb45
 have GG45 := aM HG45
 clear gb45 gl45 HG45
 have HMgo45 := aM (show ((P1_ go45 ∨ P2_ go45 ∨ P3_ go45) ∨ w.heap.size ≤ go45) from (HO_11.out.1 _ rfl).1)
 (first | simp only [add_plain] at hx225_0 | skip)
 obtain ⟨hx45_0, hf45_0⟩ := Kd.R_celln 0 HO_11.out (x19_3 : Int) p45 q45
 replace p45 := eq_true p45
 replace q45 := eq_true q45
 obtain ⟨hy61_, hz61_⟩ := Kd.R_celln 0 HO_11.out (x19_3 : Int) (dt_) (dt_)
 have HP61 := Kd.R_putg HO_11.out (x19_3 : Int) (wrap64 ((wrap64 ((rd (rd_L1 l0 (ji34)) (ji37)) - (rd x1_2 (rd l3 x15_2)))) - (rd x2_2 x19_3)))
 try go_wp2_with (first | ((with_reducible refine gate_store (t := 3) (p := 86) rfl ?_); refine store_event (t := 3) (p := 86) (v := ?vo_w62) (w1 := (w57.setCell ⟨go45, (x19_3 : Int).toNat, none⟩ (.int .i64 (wrap64 ((wrap64 ((rd (rd_L1 l0 (ji34)) (ji37)) - (rd x1_2 (rd l3 x15_2)))) - (rd x2_2 x19_3)))))) ?hg ?ho ?hn ?hr ?_; (case ho => rfl); (case hg => rfl); (case hn => rfl); (case hr => exact qz10); intro w62 hw; have hg : w57.grownBy w62 (some go45) := (by rw [hw]; exact HP61.2); have hp_ : Kd.R (Kd.int .i64) 3 w62 w0.heap.size (fun k_ => ((P1_ k_ ∨ P2_ k_ ∨ P3_ k_) ∨ w.heap.size ≤ k_) ∧ some k_ ≠ (.slice (some ad223) x1_2.length co58 : Value).ownBlock ∧ some k_ ≠ (.slice (some ad224) x2_2.length co59 : Value).ownBlock ∧ some k_ ≠ (.slice (some ad219) l3.length co28 : Value).ownBlock ∧ some k_ ≠ (v212 : Value).ownBlock) (.slice (some ⟨go45, 0, none⟩) x11_3.length co60) y226 := (by rw [hw, Ny226.out]; exact HP61.1); clear HP61; replace HO_1 := aM (Kd.R_after (v := (.slice (some ⟨go45, 0, none⟩) x11_3.length co60)) (v1 := (.slice (some ⟨go45, 0, none⟩) x11_3.length co60)) (ok := (fun k_ => ((P1_ k_ ∨ P2_ k_ ∨ P3_ k_) ∨ w.heap.size ≤ k_) ∧ some k_ ≠ (.slice (some ad224) x2_2.length co59 : Value).ownBlock ∧ some k_ ≠ (.slice (some ad219) l3.length co28 : Value).ownBlock ∧ some k_ ≠ (v212 : Value).ownBlock)) qz13 hg (.inl rfl)); replace HO_2 := aM (Kd.R_after (v := (.slice (some ⟨go45, 0, none⟩) x11_3.length co60)) (v1 := (.slice (some ⟨go45, 0, none⟩) x11_3.length co60)) (ok := (fun k_ => ((P1_ k_ ∨ P2_ k_ ∨ P3_ k_) ∨ w.heap.size ≤ k_) ∧ some k_ ≠ (.slice (some ad223) x1_2.length co58 : Value).ownBlock ∧ some k_ ≠ (.slice (some ad219) l3.length co28 : Value).ownBlock ∧ some k_ ≠ (v212 : Value).ownBlock)) qz14 hg (.inl rfl)); replace HO_3 := aM (Kd.R_after (v := (.slice (some ⟨go45, 0, none⟩) x11_3.length co60)) (v1 := (.slice (some ⟨go45, 0, none⟩) x11_3.length co60)) (ok := (fun k_ => ((P1_ k_ ∨ P2_ k_ ∨ P3_ k_) ∨ w.heap.size ≤ k_) ∧ some k_ ≠ (.slice (some ad223) x1_2.length co58 : Value).ownBlock ∧ some k_ ≠ (.slice (some ad224) x2_2.length co59 : Value).ownBlock ∧ some k_ ≠ (v212 : Value).ownBlock)) qz15 hg (.inl rfl)); replace HO_12 := aM (Kd.R_after (v := (.slice (some ⟨go45, 0, none⟩) x11_3.length co60)) (v1 := (.slice (some ⟨go45, 0, none⟩) x11_3.length co60)) (ok := (fun k_ => ((P1_ k_ ∨ P2_ k_ ∨ P3_ k_) ∨ w.heap.size ≤ k_) ∧ some k_ ≠ (.slice (some ad223) x1_2.length co58 : Value).ownBlock ∧ some k_ ≠ (.slice (some ad224) x2_2.length co59 : Value).ownBlock ∧ some k_ ≠ (.slice (some ad219) l3.length co28 : Value).ownBlock)) qz12 hg (.inl rfl)); replace HO_13 := aM (Kd.R_over' (v := (.slice (some ⟨go45, 0, none⟩) x11_3.length co60)) (rr_ HO_13.out) (Kd.R_typed HO_11.out) (by decide) hg); replace HB := aM ((by rw [hw]; exact below_set (HB.out) GB45.out : Below w0.heap.size w0 w62)); replace HK := aM (Kept.of_grown (S := (fun k_ => P1_ k_ ∨ P2_ k_ ∨ P3_ k_)) hg qz2 (fun k_ e_ => (HO_11.out.1 k_ e_).1)); replace HO_11 := aM (hp_); clear hg hw hp_; have p47 : 0 ≤ (x19_3 : Int) := dt_; have q47 : (x19_3 : Int) < ((x12_3.length : Int) : Int) := dt_; obtain ⟨go47, co47, eo47, gb47, gl47, cl47, HG47⟩ := Kd.R_form HO_12.out (by omega); (first | cases eo47 | (injection eo47 with ea_ en_ ec_; (first | subst ea_ | (injection ea_ with ea_; subst ea_)); subst ec_; clear en_)); have GB47 := aM gb47; have GG47 := aM HG47; clear gb47 gl47 HG47; have HMgo47 := aM (show ((P1_ go47 ∨ P2_ go47 ∨ P3_ go47) ∨ w.heap.size ≤ go47) from (HO_12.out.1 _ rfl).1.1); obtain ⟨hx47_0, hf47_0⟩ := Kd.R_celln 0 HO_12.out (x19_3 : Int) p47 q47; replace p47 := eq_true p47; replace q47 := eq_true q47; have n_ := aM (Kd.R_mono (ok' := (fun k_ => ((P1_ k_ ∨ P2_ k_ ∨ P3_ k_) ∨ w.heap.size ≤ k_) ∧ some k_ ≠ (.slice (some ad223) x1_2.length co58 : Value).ownBlock ∧ some k_ ≠ (.slice (some ad224) x2_2.length co59 : Value).ownBlock ∧ some k_ ≠ (.slice (some ad219) l3.length co28 : Value).ownBlock ∧ some k_ ≠ (.slice (some ⟨go45, 0, none⟩) x11_3.length co60 : Value).ownBlock)) HO_12.out (fun k_ hk => ⟨hk.1.1, ⟨hk.1.2.1, ⟨hk.1.2.2.1, ⟨hk.1.2.2.2, hk.2⟩⟩⟩⟩)); clear HO_12; have HO_12 := n_; clear n_; obtain ⟨hy63_, hz63_⟩ := Kd.R_celln 0 HO_12.out (x19_3 : Int) (dt_) (dt_); have HP63 := Kd.R_putg HO_12.out (x19_3 : Int) x15_2) | ((with_reducible refine gate_store (t := 3) (p := 90) rfl ?_); refine store_event (t := 3) (p := 90) (v := ?vo_w64) (w1 := (w62.setCell ⟨go47, (x19_3 : Int).toNat, none⟩ (.int .i64 x15_2))) ?hg ?ho ?hn ?hr ?_; (case ho => rfl); (case hg => rfl); (case hn => rfl); (case hr => exact qz10); intro w64 hw; have hg : w62.grownBy w64 (some go47) := (by rw [hw]; exact HP63.2); have hp_ : Kd.R (Kd.int .i64) 3 w64 w0.heap.size (fun k_ => ((P1_ k_ ∨ P2_ k_ ∨ P3_ k_) ∨ w.heap.size ≤ k_) ∧ some k_ ≠ (.slice (some ad223) x1_2.length co58 : Value).ownBlock ∧ some k_ ≠ (.slice (some ad224) x2_2.length co59 : Value).ownBlock ∧ some k_ ≠ (.slice (some ad219) l3.length co28 : Value).ownBlock ∧ some k_ ≠ (.slice (some ⟨go45, 0, none⟩) x11_3.length co60 : Value).ownBlock) (.slice (some ⟨go47, 0, none⟩) x12_3.length co47) y227 := (by rw [hw, Ny227.out]; exact HP63.1); clear HP63; replace HO_1 := aM (Kd.R_after (v := (.slice (some ⟨go47, 0, none⟩) x12_3.length co47)) (v1 := (.slice (some ⟨go47, 0, none⟩) x12_3.length co47)) (ok := (fun k_ => ((P1_ k_ ∨ P2_ k_ ∨ P3_ k_) ∨ w.heap.size ≤ k_) ∧ some k_ ≠ (.slice (some ad224) x2_2.length co59 : Value).ownBlock ∧ some k_ ≠ (.slice (some ad219) l3.length co28 : Value).ownBlock ∧ some k_ ≠ (.slice (some ⟨go45, 0, none⟩) x11_3.length co60 : Value).ownBlock)) qz29 hg (.inl rfl)); replace HO_2 := aM (Kd.R_after (v := (.slice (some ⟨go47, 0, none⟩) x12_3.length co47)) (v1 := (.slice (some ⟨go47, 0, none⟩) x12_3.length co47)) (ok := (fun k_ => ((P1_ k_ ∨ P2_ k_ ∨ P3_ k_) ∨ w.heap.size ≤ k_) ∧ some k_ ≠ (.slice (some ad223) x1_2.length co58 : Value).ownBlock ∧ some k_ ≠ (.slice (some ad219) l3.length co28 : Value).ownBlock ∧ some k_ ≠ (.slice (some ⟨go45, 0, none⟩) x11_3.length co60 : Value).ownBlock)) qz30 hg (.inl rfl)); replace HO_3 := aM (Kd.R_after (v := (.slice (some ⟨go47, 0, none⟩) x12_3.length co47)) (v1 := (.slice (some ⟨go47, 0, none⟩) x12_3.length co47)) (ok := (fun k_ => ((P1_ k_ ∨ P2_ k_ ∨ P3_ k_) ∨ w.heap.size ≤ k_) ∧ some k_ ≠ (.slice (some ad223) x1_2.length co58 : Value).ownBlock ∧ some k_ ≠ (.slice (some ad224) x2_2.length co59 : Value).ownBlock ∧ some k_ ≠ (.slice (some ⟨go45, 0, none⟩) x11_3.length co60 : Value).ownBlock)) qz31 hg (.inl rfl)); replace HO_11 := aM (Kd.R_after (v := (.slice (some ⟨go47, 0, none⟩) x12_3.length co47)) (v1 := (.slice (some ⟨go47, 0, none⟩) x12_3.length co47)) (ok := (fun k_ => ((P1_ k_ ∨ P2_ k_ ∨ P3_ k_) ∨ w.heap.size ≤ k_) ∧ some k_ ≠ (.slice (some ad223) x1_2.length co58 : Value).ownBlock ∧ some k_ ≠ (.slice (some ad224) x2_2.length co59 : Value).ownBlock ∧ some k_ ≠ (.slice (some ad219) l3.length co28 : Value).ownBlock)) qz28 hg (.inl rfl)); replace HO_13 := aM (Kd.R_over' (v := (.slice (some ⟨go47, 0, none⟩) x12_3.length co47)) (rr_ HO_13.out) (Kd.R_typed HO_12.out) (by decide) hg); replace HB := aM ((by rw [hw]; exact below_set (HB.out) GB47.out : Below w0.heap.size w0 w64)); replace HK := aM (Kept.of_grown (S := (fun k_ => P1_ k_ ∨ P2_ k_ ∨ P3_ k_)) hg qz2 (fun k_ e_ => (HO_12.out.1 k_ e_).1)); replace HO_12 := aM (hp_); clear hg hw hp_; have p228 : 0 ≤ (x19_3 : Int) := dt_; have q228 : x19_3 < (y226.length : Int) := (by have h_ : (x19_3 : Int) < ((x11_3.length : Int) : Int) := dt_; first | (have e_ := (Kd.R_reads' HO_11.out).1; omega) | simpa only [Ny226.out, List.length_set] using h_); have ql228 : ((x19_3 : Int) < ((x11_3.length : Int) : Int)) = True := eq_true (dt_); obtain ⟨ad228, e228, hx228_0⟩ := Kd.at_int (Kd.R_reads' HO_11.out).2.2 x19_3 p228 q228; obtain rfl : (⟨go45, 0, none⟩ : Addr) = ad228 := (by injection e228); (first | simp only [add_plain] at hx228_0 | simp only [add_at] at hx228_0 | simp only [Addr.add, Nat.zero_add] at hx228_0 | skip); replace p228 := eq_true p228; replace q228 := eq_true q228))
 (try simp only [← hl13_3])
 go_roundg k3
 case measure => have := HK1.out; have := HK2.out; have := HK3.out; omega
 case rel => exact ⟨(y226), (y227), (x17_3), (x18_3), (wrap64 (x19_3 + 1)), qz3, qz3, qz3, H', ⟨by have := HK1.out; have := HK2.out; have := HK3.out; omega⟩, ⟨by (try simp only [hl13_3]); (with_reducible repeat (first | apply Kd.R_alloc | apply Kd.R_drewN | apply Kd.R_drew)); exact Kd.R_mono HO_1.out (fun _ hk => ⟨hk.1.1, ⟨hk.1.2.1, ⟨hk.1.2.2.1, ⟨hk.1.2.2.2, hk.2⟩⟩⟩⟩)⟩, ⟨by (try simp only [hl13_3]); (with_reducible repeat (first | apply Kd.R_alloc | apply Kd.R_drewN | apply Kd.R_drew)); exact Kd.R_mono HO_2.out (fun _ hk => ⟨hk.1.1, ⟨hk.1.2.1, ⟨hk.1.2.2.1, ⟨hk.1.2.2.2, hk.2⟩⟩⟩⟩)⟩, ⟨by (try simp only [hl13_3]); (with_reducible repeat (first | apply Kd.R_alloc | apply Kd.R_drewN | apply Kd.R_drew)); exact Kd.R_mono HO_3.out (fun _ hk => ⟨hk.1.1, ⟨hk.1.2.1, ⟨hk.1.2.2.1, ⟨hk.1.2.2.2, hk.2⟩⟩⟩⟩)⟩, ⟨by (try simp only [hl13_3]); (with_reducible repeat (first | apply Kd.R_alloc | apply Kd.R_drewN | apply Kd.R_drew)); exact Kd.R_mono HO_11.out (fun _ hk => ⟨hk.1.1, ⟨hk.1.2.1, ⟨hk.1.2.2.1, ⟨hk.1.2.2.2, hk.2⟩⟩⟩⟩)⟩, ⟨by (try simp only [hl13_3]); exact rm_ HO_12.out⟩, ⟨by (try simp only [hl13_3]); exact rm_ HO_13.out⟩, ⟨qz2⟩, ⟨qz1⟩⟩
 }
 }
 {
 replace H := iE_ H
 rcases H with ⟨c65b0, H⟩ | ⟨c65b0, H⟩
 {
 have H' := aM H
 clear H
 have p220 : (0 ≤ (x19_3 : Int)) = True := et_
 have q220 : (x19_3 < (y218.length : Int)) = True := et_
 obtain ⟨ad220, e220, hx220_0⟩ := Kd.at_bool (Kd.R_reads' HO_13.out).2.2 x19_3 dt_ dt_
 (try rw [← Nbq32.out] at hx220_0)
 obtain rfl : (⟨go24, 0, none⟩ : Addr) = ad220 := (by injection e220)
 (first | simp only [add_plain] at hx220_0 | simp only [add_at] at hx220_0 | simp only [Addr.add, Nat.zero_add] at hx220_0 | skip)
 try go_wp2
 replace HO_1 := aM (Kd.R_drew HO_1.out)
 replace HO_2 := aM (Kd.R_drew HO_2.out)
 replace HO_3 := aM (Kd.R_drew HO_3.out)
 replace HO_11 := aM (Kd.R_drew HO_11.out)
 replace HO_12 := aM (Kd.R_drew HO_12.out)
 replace HO_13 := aM (Kd.R_drew HO_13.out)
 replace HK := aM (Kept.drew HK.out)
 replace HB := aM (below_drew1 HB.out)
 have p221 : (0 ≤ ((ji34) : Int)) = True := et_
 have q221 : ((ji34) < (l0.length : Int)) = True := et_
 obtain ⟨ad221, A221_0, c221_0, e221, hx221_0, hl221_0, hi221_0⟩ := at_L1 (Kd.C_kept_now HR0.out HK.out) (ji34) dt_ dt_
 have hw221_0 := hx221_0
 cases e221
 have HR221_0 := aM hi221_0
 have HC221_0 := aM hl221_0
 clear hi221_0 hl221_0
 have p222 : (0 ≤ ((ji37) : Int)) = True := et_
 have q222 : ((ji37) < ((rd_L1 l0 (ji34)).length : Int)) = True := et_
 obtain ⟨ad222, e222, hx222_0⟩ := Kd.at_int qz11 (ji37) dt_ dt_
 cases e222
 obtain ⟨Ao67, co67, eo67⟩ := Kd.R_slice HO_1.out
 (first | subst eo67 | (injection eo67 with f1_ f2_ f3_; have f4_ := f1_.symm; have f5_ := f3_.symm; clear f1_ f2_ f3_; subst f4_; subst f5_))
 have p223 : (0 ≤ ((rd l3 x15_2) : Int)) = True := et_
 have q223 : ((rd l3 x15_2) < (x1_2.length : Int)) = True := et_
 obtain ⟨ad223, e223, hx223_0⟩ := Kd.at_int (Kd.R_reads' HO_1.out).2.2 (rd l3 x15_2) dt_ dt_
 cases e223
 obtain ⟨Ao68, co68, eo68⟩ := Kd.R_slice HO_2.out
 (first | subst eo68 | (injection eo68 with f1_ f2_ f3_; have f4_ := f1_.symm; have f5_ := f3_.symm; clear f1_ f2_ f3_; subst f4_; subst f5_))
 have p224 : (0 ≤ (x19_3 : Int)) = True := et_
 have q224 : (x19_3 < (x2_2.length : Int)) = True := et_
 obtain ⟨ad224, e224, hx224_0⟩ := Kd.at_int (Kd.R_reads' HO_2.out).2.2 x19_3 dt_ dt_
 cases e224
 refine start_ (n := 20) (S := fun w' => w'.cell? (ad221.add ((ji34)).toNat) = some (.slice (some ad222) (rd_L1 l0 (ji34)).length c221_0) ∧ w'.cell? (ad222.add ((ji37)).toNat) = some (.int .i64 (rd (rd_L1 l0 (ji34)) (ji37))) ∧ w'.cell? (ad223.add ((rd l3 x15_2)).toNat) = some (.int .i64 (rd x1_2 (rd l3 x15_2))) ∧ w'.cell? (ad224.add (x19_3).toNat) = some (.int .i64 (rd x2_2 x19_3))) (ds := []) #[false, false, false, false, false, false, false, false, false, false, false, false, false, false, false, false, false, false, false, false] (by kernel_rfl) rfl rfl ⟨hx221_0, hx222_0, hx223_0, hx224_0⟩ (fun hHeld => ?_); refine with_tabW spec_l4Grow.tab17 spec_l4Grow.bits17 (fun HT_ HW_ => ?_)
 generalize wr.drew = w66 at HO_1 HO_2 HO_3 HO_11 HO_12 HO_13 HK HB HR221_0 hx221_0 hx222_0 hx223_0 hx224_0 hHeld ⊢
 refine pI_ 0 58 (bqz 20 1) ?_
 refine jI_ 1 59 ?_
 refine jI_ 2 60 ?_
 refine jI_ 3 61 ?_
 refine jI_ 5 63 ?_
 refine jI_ 6 64 ?_
 refine jI_ 9 67 ?_
 refine jI_ 10 68 ?_
 refine jI_ 11 69 ?_
 refine jI_ 14 72 ?_
 refine jI_ 15 73 ?_
 refine jI_ 16 74 ?_
 refine sI4_ 4 62 ?_
 refine jI_ 7 65 ?_
 refine sI4_ 8 66 ?_
 refine sI4_ 12 70 ?_
 refine jI_ 13 71 ?_
 refine sI4_ 17 75 ?_
 refine jI_ 18 76 ?_
 refine jI_ 19 20 ?_
 refine done_ (done_of HT_.out (by kernel_rfl)) ?_
 obtain ⟨Ao69, co69, eo69⟩ := Kd.R_slice HO_11.out
 subst eo69
 have p225 : (0 ≤ (x19_3 : Int)) = True := et_
 have q225 : (x19_3 < (x11_3.length : Int)) = True := et_
 obtain ⟨ad225, e225, hx225_0⟩ := Kd.at_int (Kd.R_reads' HO_11.out).2.2 x19_3 dt_ dt_
 cases e225
 have p230 : (0 ≤ (x19_3 : Int)) = True := et_
 have q230 : (x19_3 < (x11_3.length : Int)) = True := et_
 obtain ⟨ad230, e230, hx230_0⟩ := Kd.at_int (Kd.R_reads' HO_11.out).2.2 x19_3 dt_ dt_
 obtain rfl : ad225 = ad230 := (by injection e230)
 have p231 : (0 ≤ (x19_3 : Int)) = True := et_
 have q231 : (x19_3 < (x11_3.length : Int)) = True := et_
 obtain ⟨ad231, e231, hx231_0⟩ := Kd.at_int (Kd.R_reads' HO_11.out).2.2 x19_3 dt_ dt_
 obtain rfl : ad225 = ad231 := (by injection e231)
 try go_wp2
 (try simp only [← hl13_3])
 go_roundg k3
 case measure => have := HK1.out; have := HK2.out; have := HK3.out; omega
 case rel => exact ⟨(x11_3), (x12_3), (rd x11_3 x19_3), (x19_3), (wrap64 (x19_3 + 1)), qz3, qz3, qz3, H', ⟨by have := HK1.out; have := HK2.out; have := HK3.out; omega⟩, ⟨by (try simp only [hl13_3]); exact rm_ HO_1.out⟩, ⟨by (try simp only [hl13_3]); exact rm_ HO_2.out⟩, ⟨by (try simp only [hl13_3]); exact rm_ HO_3.out⟩, ⟨by (try simp only [hl13_3]); exact rm_ HO_11.out⟩, ⟨by (try simp only [hl13_3]); exact rm_ HO_12.out⟩, ⟨by (try simp only [hl13_3]); exact rm_ HO_13.out⟩, ⟨qz2⟩, ⟨qz1⟩⟩
 }
 {
 have H' := aM H
 clear H
 have p220 : (0 ≤ (x19_3 : Int)) = True := et_
 have q220 : (x19_3 < (y218.length : Int)) = True := et_
 obtain ⟨ad220, e220, hx220_0⟩ := Kd.at_bool (Kd.R_reads' HO_13.out).2.2 x19_3 dt_ dt_
 (try rw [← Nbq32.out] at hx220_0)
 obtain rfl : (⟨go24, 0, none⟩ : Addr) = ad220 := (by injection e220)
 (first | simp only [add_plain] at hx220_0 | simp only [add_at] at hx220_0 | simp only [Addr.add, Nat.zero_add] at hx220_0 | skip)
 try go_wp2
 replace HO_1 := aM (Kd.R_drew HO_1.out)
 replace HO_2 := aM (Kd.R_drew HO_2.out)
 replace HO_3 := aM (Kd.R_drew HO_3.out)
 replace HO_11 := aM (Kd.R_drew HO_11.out)
 replace HO_12 := aM (Kd.R_drew HO_12.out)
 replace HO_13 := aM (Kd.R_drew HO_13.out)
 replace HK := aM (Kept.drew HK.out)
 replace HB := aM (below_drew1 HB.out)
 have p221 : (0 ≤ ((ji34) : Int)) = True := et_
 have q221 : ((ji34) < (l0.length : Int)) = True := et_
 obtain ⟨ad221, A221_0, c221_0, e221, hx221_0, hl221_0, hi221_0⟩ := at_L1 (Kd.C_kept_now HR0.out HK.out) (ji34) dt_ dt_
 have hw221_0 := hx221_0
 cases e221
 have HR221_0 := aM hi221_0
 have HC221_0 := aM hl221_0
 clear hi221_0 hl221_0
 have p222 : (0 ≤ ((ji37) : Int)) = True := et_
 have q222 : ((ji37) < ((rd_L1 l0 (ji34)).length : Int)) = True := et_
 obtain ⟨ad222, e222, hx222_0⟩ := Kd.at_int qz11 (ji37) dt_ dt_
 cases e222
 obtain ⟨Ao71, co71, eo71⟩ := Kd.R_slice HO_1.out
 (first | subst eo71 | (injection eo71 with f1_ f2_ f3_; have f4_ := f1_.symm; have f5_ := f3_.symm; clear f1_ f2_ f3_; subst f4_; subst f5_))
 have p223 : (0 ≤ ((rd l3 x15_2) : Int)) = True := et_
 have q223 : ((rd l3 x15_2) < (x1_2.length : Int)) = True := et_
 obtain ⟨ad223, e223, hx223_0⟩ := Kd.at_int (Kd.R_reads' HO_1.out).2.2 (rd l3 x15_2) dt_ dt_
 cases e223
 obtain ⟨Ao72, co72, eo72⟩ := Kd.R_slice HO_2.out
 (first | subst eo72 | (injection eo72 with f1_ f2_ f3_; have f4_ := f1_.symm; have f5_ := f3_.symm; clear f1_ f2_ f3_; subst f4_; subst f5_))
 have p224 : (0 ≤ (x19_3 : Int)) = True := et_
 have q224 : (x19_3 < (x2_2.length : Int)) = True := et_
 obtain ⟨ad224, e224, hx224_0⟩ := Kd.at_int (Kd.R_reads' HO_2.out).2.2 x19_3 dt_ dt_
 cases e224
 refine start_ (n := 20) (S := fun w' => w'.cell? (ad221.add ((ji34)).toNat) = some (.slice (some ad222) (rd_L1 l0 (ji34)).length c221_0) ∧ w'.cell? (ad222.add ((ji37)).toNat) = some (.int .i64 (rd (rd_L1 l0 (ji34)) (ji37))) ∧ w'.cell? (ad223.add ((rd l3 x15_2)).toNat) = some (.int .i64 (rd x1_2 (rd l3 x15_2))) ∧ w'.cell? (ad224.add (x19_3).toNat) = some (.int .i64 (rd x2_2 x19_3))) (ds := []) #[false, false, false, false, false, false, false, false, false, false, false, false, false, false, false, false, false, false, false, false] (by kernel_rfl) rfl rfl ⟨hx221_0, hx222_0, hx223_0, hx224_0⟩ (fun hHeld => ?_); refine with_tabW spec_l4Grow.tab17 spec_l4Grow.bits17 (fun HT_ HW_ => ?_)
 generalize wr.drew = w70 at HO_1 HO_2 HO_3 HO_11 HO_12 HO_13 HK HB HR221_0 hx221_0 hx222_0 hx223_0 hx224_0 hHeld ⊢
 refine pI_ 0 58 (bqz 20 1) ?_
 refine jI_ 1 59 ?_
 refine jI_ 2 60 ?_
 refine jI_ 3 61 ?_
 refine jI_ 5 63 ?_
 refine jI_ 6 64 ?_
 refine jI_ 9 67 ?_
 refine jI_ 10 68 ?_
 refine jI_ 11 69 ?_
 refine jI_ 14 72 ?_
 refine jI_ 15 73 ?_
 refine jI_ 16 74 ?_
 refine sI4_ 4 62 ?_
 refine jI_ 7 65 ?_
 refine sI4_ 8 66 ?_
 refine sI4_ 12 70 ?_
 refine jI_ 13 71 ?_
 refine sI4_ 17 75 ?_
 refine jI_ 18 76 ?_
 refine jI_ 19 20 ?_
 refine done_ (done_of HT_.out (by kernel_rfl)) ?_
 obtain ⟨Ao73, co73, eo73⟩ := Kd.R_slice HO_11.out
 subst eo73
 have p225 : (0 ≤ (x19_3 : Int)) = True := et_
 have q225 : (x19_3 < (x11_3.length : Int)) = True := et_
 obtain ⟨ad225, e225, hx225_0⟩ := Kd.at_int (Kd.R_reads' HO_11.out).2.2 x19_3 dt_ dt_
 cases e225
 have p230 : (0 ≤ (x19_3 : Int)) = True := et_
 have q230 : (x19_3 < (x11_3.length : Int)) = True := et_
 obtain ⟨ad230, e230, hx230_0⟩ := Kd.at_int (Kd.R_reads' HO_11.out).2.2 x19_3 dt_ dt_
 obtain rfl : ad225 = ad230 := (by injection e230)
 try go_wp2
 (try simp only [← hl13_3])
 go_roundg k3
 case measure => have := HK1.out; have := HK2.out; have := HK3.out; omega
 case rel => exact ⟨(x11_3), (x12_3), (x17_3), (x18_3), (wrap64 (x19_3 + 1)), qz3, qz3, qz3, H', ⟨by have := HK1.out; have := HK2.out; have := HK3.out; omega⟩, ⟨by (try simp only [hl13_3]); exact rm_ HO_1.out⟩, ⟨by (try simp only [hl13_3]); exact rm_ HO_2.out⟩, ⟨by (try simp only [hl13_3]); exact rm_ HO_3.out⟩, ⟨by (try simp only [hl13_3]); exact rm_ HO_11.out⟩, ⟨by (try simp only [hl13_3]); exact rm_ HO_12.out⟩, ⟨by (try simp only [hl13_3]); exact rm_ HO_13.out⟩, ⟨qz2⟩, ⟨qz1⟩⟩
 }
 }
 }
 }
 {
 have H' := aM H
 clear H
 go_wp2
 go_loopg [21] k3 (fun kq v21 w' => ∃ (x1_4 : List Int) (x2_4 : List Int) (x11_4 : List Int) (x21_4 : Int), v21 = .int .i64 x21_4 ∧ Aside0 (spec_l4Grow.l3 kq l0 x1_4 x2_4 l3 a4 1099511627776 x11_4 x12_3 y218 x17_3 x18_3 x21_4 = some (r1, r2, r3)) ∧ Aside0 (kq ≤ k3) ∧ Aside0 (Kd.R (Kd.int .i64) 3 w' w0.heap.size (fun k_ => ((P1_ k_ ∨ P2_ k_ ∨ P3_ k_) ∨ w.heap.size ≤ k_) ∧ some k_ ≠ (u9001_ : Value).ownBlock ∧ some k_ ≠ ((.slice (some ad219) l3.length co28) : Value).ownBlock ∧ some k_ ≠ (v209 : Value).ownBlock ∧ some k_ ≠ (v212 : Value).ownBlock) u9000_ x1_4) ∧ Aside0 (Kd.R (Kd.int .i64) 3 w' w0.heap.size (fun k_ => ((P1_ k_ ∨ P2_ k_ ∨ P3_ k_) ∨ w.heap.size ≤ k_) ∧ some k_ ≠ (u9000_ : Value).ownBlock ∧ some k_ ≠ ((.slice (some ad219) l3.length co28) : Value).ownBlock ∧ some k_ ≠ (v209 : Value).ownBlock ∧ some k_ ≠ (v212 : Value).ownBlock) u9001_ x2_4) ∧ Aside0 (Kd.R (Kd.int .i64) 3 w' w0.heap.size (fun k_ => ((P1_ k_ ∨ P2_ k_ ∨ P3_ k_) ∨ w.heap.size ≤ k_) ∧ some k_ ≠ (u9000_ : Value).ownBlock ∧ some k_ ≠ (u9001_ : Value).ownBlock ∧ some k_ ≠ (v209 : Value).ownBlock ∧ some k_ ≠ (v212 : Value).ownBlock) (.slice (some ad219) l3.length co28) l3) ∧ Aside0 (Kd.R (Kd.int .i64) 3 w' w0.heap.size (fun k_ => ((P1_ k_ ∨ P2_ k_ ∨ P3_ k_) ∨ w.heap.size ≤ k_) ∧ some k_ ≠ (u9000_ : Value).ownBlock ∧ some k_ ≠ (u9001_ : Value).ownBlock ∧ some k_ ≠ ((.slice (some ad219) l3.length co28) : Value).ownBlock ∧ some k_ ≠ (v212 : Value).ownBlock) v209 x11_4) ∧ Aside0 (Kd.R (Kd.int .i64) 3 w' w0.heap.size (fun k_ => ((P1_ k_ ∨ P2_ k_ ∨ P3_ k_) ∨ w.heap.size ≤ k_) ∧ some k_ ≠ (u9000_ : Value).ownBlock ∧ some k_ ≠ (u9001_ : Value).ownBlock ∧ some k_ ≠ ((.slice (some ad219) l3.length co28) : Value).ownBlock ∧ some k_ ≠ (v209 : Value).ownBlock) v212 x12_3) ∧ Aside0 (Kd.R Kd.bool 4 w' w0.heap.size (fun k_ => ((P1_ k_ ∨ P2_ k_ ∨ P3_ k_) ∨ w.heap.size ≤ k_)) (.slice (some ⟨go24, 0, none⟩) y218.length co24) y218) ∧ Aside0 (Kept w w' (fun k_ => P1_ k_ ∨ P2_ k_ ∨ P3_ k_)) ∧ Aside0 (Below w0.heap.size w0 w'))
 case atStart => exact ⟨(x1_2), (x2_2), (x11_3), (0), qz3, H', ⟨Nat.le_refl _⟩, ⟨by (try simp only [hl13_3]); exact rr_ HO_1.out⟩, ⟨by (try simp only [hl13_3]); exact rr_ HO_2.out⟩, ⟨by (try simp only [hl13_3]); exact rr_ HO_3.out⟩, ⟨by (try simp only [hl13_3]); exact rr_ HO_11.out⟩, ⟨by (try simp only [hl13_3]); exact rr_ HO_12.out⟩, ⟨by (try simp only [hl13_3]); exact rr_ HO_13.out⟩, ⟨qz2⟩, ⟨qz1⟩⟩
 case round =>
 clear H'
 try clear c22
 try clear c29
 try clear c29b0
 try clear hf45
 try clear hf47
 obtain ⟨x1_4, x2_4, x11_4, x21_4, rfl, HA, HK4, HO_1, HO_2, HO_3, HO_11, HO_12, HO_13, HK, HB⟩ := hrel
 cases gk with
 | zero => exact absurd HA.out (by simp [spec_l4Grow.l3])
 | succ k4 =>
 have H := HA.out
 clear HA
 simp only [spec_l4Grow.l3] at H
 replace H := iE_ H
 rcases H with ⟨c74b0, H⟩ | ⟨c74b0, H⟩
 {
 replace H := iD_ H
 obtain ⟨c75b0, H⟩ := H
 replace H := iN_ H
 obtain ⟨c76, H⟩ := H
 have c76b0 := decide_eq_true c76
 (try (have c76b0q13_3 := c76b0; simp only [hl13_3] at c76b0q13_3))
 clear c76
 obtain ⟨bq77, hbq77⟩ : ∃ b_ : Bool, b_ = (rdOf false y218 x21_4) := ⟨_, rfl⟩
 replace H : (if bq77 = true then (if x21_4 < (l3.length : Int) then (if 0 ≤ (rd l3 x21_4) then (if (rd l3 x21_4) < (x1_4.length : Int) then (if x21_4 < (x2_4.length : Int) then (spec_l4Grow.l3 k4 l0 (x1_4.set ((rd l3 x21_4) : Int).toNat (wrap64 ((rd x1_4 (rd l3 x21_4)) + x17_3))) (x2_4.set (x21_4 : Int).toNat (wrap64 ((rd x2_4 x21_4) - x17_3))) l3 a4 1099511627776 x11_4 x12_3 y218 x17_3 x18_3 (wrap64 (x21_4 + 1))) else (none)) else (none)) else (none)) else (none)) else (if x21_4 < (x11_4.length : Int) then (spec_l4Grow.l3 k4 l0 x1_4 x2_4 l3 a4 1099511627776 (x11_4.set (x21_4 : Int).toNat (wrap64 ((rd x11_4 x21_4) - x17_3))) x12_3 y218 x17_3 x18_3 (wrap64 (x21_4 + 1))) else (none))) = some (r1, r2, r3) := by rw [← hbq77] at H; exact H
 have Nbq77 := aM hbq77
 clear hbq77
 replace H := iB_ H
 rcases H with ⟨rfl, H⟩ | ⟨rfl, H⟩
 {
 replace H := iN_ H
 obtain ⟨c79, H⟩ := H
 have c79b0 := decide_eq_true c79
 (try (have c79b0q13_3 := c79b0; simp only [hl13_3] at c79b0q13_3))
 clear c79
 replace H := iD_ H
 obtain ⟨c80b0, H⟩ := H
 replace H := iN_ H
 obtain ⟨c81, H⟩ := H
 have c81b0 := decide_eq_true c81
 (try (have c81b0q13_3 := c81b0; simp only [hl13_3] at c81b0q13_3))
 clear c81
 obtain ⟨y236, hy236⟩ : ∃ y_ : List Int, y_ = (x1_4.set ((rd l3 x21_4) : Int).toNat (wrap64 ((rd x1_4 (rd l3 x21_4)) + x17_3))) := ⟨_, rfl⟩
 replace H : (if x21_4 < (x2_4.length : Int) then (spec_l4Grow.l3 k4 l0 y236 (x2_4.set (x21_4 : Int).toNat (wrap64 ((rd x2_4 x21_4) - x17_3))) l3 a4 1099511627776 x11_4 x12_3 y218 x17_3 x18_3 (wrap64 (x21_4 + 1))) else (none)) = some (r1, r2, r3) := by first | (rw [hy236]; exact H) | exact H
 have Ny236 := aM hy236
 clear hy236
 replace H := iN_ H
 obtain ⟨c83, H⟩ := H
 have c83b0 := decide_eq_true c83
 (try (have c83b0q13_3 := c83b0; simp only [hl13_3] at c83b0q13_3))
 clear c83
 obtain ⟨y238, hy238⟩ : ∃ y_ : List Int, y_ = (x2_4.set (x21_4 : Int).toNat (wrap64 ((rd x2_4 x21_4) - x17_3))) := ⟨_, rfl⟩
 replace H : (spec_l4Grow.l3 k4 l0 y236 y238 l3 a4 1099511627776 x11_4 x12_3 y218 x17_3 x18_3 (wrap64 (x21_4 + 1))) = some (r1, r2, r3) := by first | (rw [hy238]; exact H) | exact H
 have Ny238 := aM hy238
 clear hy238
 have H' := aM H
 clear H
 have p232 : (0 ≤ (x21_4 : Int)) = True := et_
 have q232 : (x21_4 < (y218.length : Int)) = True := et_
 obtain ⟨ad232, e232, hx232_0⟩ := Kd.at_bool (Kd.R_reads' HO_13.out).2.2 x21_4 dt_ dt_
 (try rw [← Nbq77.out] at hx232_0)
 obtain rfl : (⟨go24, 0, none⟩ : Addr) = ad232 := (by injection e232)
 (first | simp only [add_plain] at hx232_0 | simp only [add_at] at hx232_0 | simp only [Addr.add, Nat.zero_add] at hx232_0 | skip)
 try go_wp2
 replace HO_1 := aM (Kd.R_drew HO_1.out)
 replace HO_2 := aM (Kd.R_drew HO_2.out)
 replace HO_3 := aM (Kd.R_drew HO_3.out)
 replace HO_11 := aM (Kd.R_drew HO_11.out)
 replace HO_12 := aM (Kd.R_drew HO_12.out)
 replace HO_13 := aM (Kd.R_drew HO_13.out)
 replace HK := aM (Kept.drew HK.out)
 replace HB := aM (below_drew1 HB.out)
 have p233 : (0 ≤ (x21_4 : Int)) = True := et_
 have q233 : (x21_4 < (l3.length : Int)) = True := et_
 obtain ⟨ad233, e233, hx233_0⟩ := Kd.at_int (Kd.R_reads' HO_3.out).2.2 x21_4 dt_ dt_
 obtain rfl : ad219 = ad233 := (by injection e233)
 have p234 : (0 ≤ (x21_4 : Int)) = True := et_
 have q234 : (x21_4 < (l3.length : Int)) = True := et_
 obtain ⟨ad234, e234, hx234_0⟩ := Kd.at_int (Kd.R_reads' HO_3.out).2.2 x21_4 dt_ dt_
 obtain rfl : ad219 = ad234 := (by injection e234)
 obtain ⟨Ao86, co86, eo86⟩ := Kd.R_slice HO_1.out
 (first | subst eo86 | (injection eo86 with f1_ f2_ f3_; have f4_ := f1_.symm; have f5_ := f3_.symm; clear f1_ f2_ f3_; subst f4_; subst f5_))
 have p235 : (0 ≤ ((rd l3 x21_4) : Int)) = True := et_
 have q235 : ((rd l3 x21_4) < (x1_4.length : Int)) = True := et_
 obtain ⟨ad235, e235, hx235_0⟩ := Kd.at_int (Kd.R_reads' HO_1.out).2.2 (rd l3 x21_4) dt_ dt_
 cases e235
 have p82 : 0 ≤ ((rd l3 x21_4) : Int) := dt_
 have q82 : ((rd l3 x21_4) : Int) < ((x1_4.length : Int) : Int) := dt_
 obtain ⟨go82, co82, eo82, gb82, gl82, cl82, HG82⟩ := Kd.R_form HO_1.out (by omega)
 (first | cases eo82 | (injection eo82 with ea_ en_ ec_; (first | subst ea_ | (injection ea_ with ea_; subst ea_)); subst ec_; clear en_))
 have GB82 := aM gb82
 have GG82 := aM HG82
 clear gb82 gl82 HG82
 have HMgo82 := aM (show ((P1_ go82 ∨ P2_ go82 ∨ P3_ go82) ∨ w.heap.size ≤ go82) from (HO_1.out.1 _ rfl).1)
 (first | simp only [add_plain] at hx235_0 | skip)
 obtain ⟨hx82_0, hf82_0⟩ := Kd.R_celln 0 HO_1.out ((rd l3 x21_4) : Int) p82 q82
 replace p82 := eq_true p82
 replace q82 := eq_true q82
 have HP87 := Kd.R_putn HO_1.out ((rd l3 x21_4) : Int) (wrap64 ((rd x1_4 (rd l3 x21_4)) + x17_3))
 rw [← Ny236.out] at HP87
 have HQ87 := aM HP87
 clear HP87
 refine start_ (n := 16) (S := fun w' => w'.cell? (ad219.add (x21_4).toNat) = some (.int .i64 (rd l3 x21_4)) ∧ w'.cell? (ad219.add (x21_4).toNat) = some (.int .i64 (rd l3 x21_4)) ∧ w'.cell? ⟨go82, ((rd l3 x21_4)).toNat, none⟩ = some (.int .i64 (rd x1_4 (rd l3 x21_4)))) (ds := [15]) #[false, false, false, false, false, false, false, false, false, false, false, false, false, false, false, false] (by kernel_rfl) rfl rfl ⟨hx233_0, hx234_0, hx235_0⟩ (fun hHeld => ?_); refine with_tabW spec_l4Grow.tab28 spec_l4Grow.bits28 (fun HT_ HW_ => ?_)
 generalize wr.drew = w85 at HO_1 HO_2 HO_3 HO_11 HO_12 HO_13 HK HB GG82 HQ87 hf82_0 hx233_0 hx234_0 hx235_0 hx82_0 hHeld ⊢
 refine pI_ 0 111 (bqz 16 1) ?_
 refine jI_ 1 112 ?_
 refine jI_ 2 113 ?_
 refine jI_ 3 114 ?_
 refine jI_ 5 116 ?_
 refine jI_ 6 117 ?_
 refine jI_ 7 118 ?_
 refine jI_ 8 119 ?_
 refine jI_ 12 123 ?_
 refine sI3_ 4 115 ?_
 refine sI3_ 9 120 ?_
 refine jI_ 10 121 ?_
 refine sI3_ 11 122 ?_
 refine jI_ 13 124 ?_
 refine jI_ 14 125 ?_
 refine last_ (i := 15) (N := none) (bqz 16 65535) rfl rfl qzc (by decide) (fun K hK => ?_)
 refine sk_ ?_
 refine hK.out _ _ ?_
 clear hK K
 refine done_ (done_of HT_.out (by kernel_rfl)) ?_
 generalize hq_ : (w85.setCell ⟨go82, ((rd l3 x21_4) : Int).toNat, none⟩ (.int .i64 (wrap64 ((rd x1_4 (rd l3 x21_4)) + x17_3)))) = w88
 replace HO_1 : Aside0 (Kd.R (Kd.int .i64) 3 w88 w0.heap.size (fun k_ => ((P1_ k_ ∨ P2_ k_ ∨ P3_ k_) ∨ w.heap.size ≤ k_) ∧ some k_ ≠ (u9001_ : Value).ownBlock ∧ some k_ ≠ (.slice (some ad219) l3.length co28 : Value).ownBlock ∧ some k_ ≠ (v209 : Value).ownBlock ∧ some k_ ≠ (v212 : Value).ownBlock) (.slice (some ⟨go82, 0, none⟩) x1_4.length co86) y236) := ⟨by rw [← hq_]; exact (rr_ HQ87.out)⟩
 replace HO_2 : Aside0 (Kd.R (Kd.int .i64) 3 w88 w0.heap.size (fun k_ => ((P1_ k_ ∨ P2_ k_ ∨ P3_ k_) ∨ w.heap.size ≤ k_) ∧ some k_ ≠ (.slice (some ⟨go82, 0, none⟩) x1_4.length co86 : Value).ownBlock ∧ some k_ ≠ (.slice (some ad219) l3.length co28 : Value).ownBlock ∧ some k_ ≠ (v209 : Value).ownBlock ∧ some k_ ≠ (v212 : Value).ownBlock) u9001_ x2_4) := ⟨by rw [← hq_]; exact (by (with_reducible repeat (first | apply Kd.R_alloc | apply Kd.R_drewN | apply Kd.R_drew)); exact Kd.R_mono (Kd.R_far (p := ⟨go82, ((rd l3 x21_4) : Int).toNat, none⟩) (Kd.R_mono HO_2.out (fun k_ hk => (⟨hk, fun e_ => hk.2.1 (by rw [e_]; rfl)⟩ : _ ∧ k_ ≠ go82))) (fun _ hk => hk.2) (.int .i64 (wrap64 ((rd x1_4 (rd l3 x21_4)) + x17_3)))) (fun _ hk => ⟨hk.1.1, ⟨hk.1.2.1, ⟨hk.1.2.2.1, ⟨hk.1.2.2.2.1, hk.1.2.2.2.2⟩⟩⟩⟩))⟩
 replace HO_3 : Aside0 (Kd.R (Kd.int .i64) 3 w88 w0.heap.size (fun k_ => ((P1_ k_ ∨ P2_ k_ ∨ P3_ k_) ∨ w.heap.size ≤ k_) ∧ some k_ ≠ (.slice (some ⟨go82, 0, none⟩) x1_4.length co86 : Value).ownBlock ∧ some k_ ≠ (u9001_ : Value).ownBlock ∧ some k_ ≠ (v209 : Value).ownBlock ∧ some k_ ≠ (v212 : Value).ownBlock) (.slice (some ad219) l3.length co28) l3) := ⟨by rw [← hq_]; exact (by (with_reducible repeat (first | apply Kd.R_alloc | apply Kd.R_drewN | apply Kd.R_drew)); exact Kd.R_mono (Kd.R_far (p := ⟨go82, ((rd l3 x21_4) : Int).toNat, none⟩) (Kd.R_mono HO_3.out (fun k_ hk => (⟨hk, fun e_ => hk.2.1 (by rw [e_]; rfl)⟩ : _ ∧ k_ ≠ go82))) (fun _ hk => hk.2) (.int .i64 (wrap64 ((rd x1_4 (rd l3 x21_4)) + x17_3)))) (fun _ hk => ⟨hk.1.1, ⟨hk.1.2.1, ⟨hk.1.2.2.1, ⟨hk.1.2.2.2.1, hk.1.2.2.2.2⟩⟩⟩⟩))⟩
 replace HO_11 : Aside0 (Kd.R (Kd.int .i64) 3 w88 w0.heap.size (fun k_ => ((P1_ k_ ∨ P2_ k_ ∨ P3_ k_) ∨ w.heap.size ≤ k_) ∧ some k_ ≠ (.slice (some ⟨go82, 0, none⟩) x1_4.length co86 : Value).ownBlock ∧ some k_ ≠ (u9001_ : Value).ownBlock ∧ some k_ ≠ (.slice (some ad219) l3.length co28 : Value).ownBlock ∧ some k_ ≠ (v212 : Value).ownBlock) v209 x11_4) := ⟨by rw [← hq_]; exact (by (with_reducible repeat (first | apply Kd.R_alloc | apply Kd.R_drewN | apply Kd.R_drew)); exact Kd.R_mono (Kd.R_far (p := ⟨go82, ((rd l3 x21_4) : Int).toNat, none⟩) (Kd.R_mono HO_11.out (fun k_ hk => (⟨hk, fun e_ => hk.2.1 (by rw [e_]; rfl)⟩ : _ ∧ k_ ≠ go82))) (fun _ hk => hk.2) (.int .i64 (wrap64 ((rd x1_4 (rd l3 x21_4)) + x17_3)))) (fun _ hk => ⟨hk.1.1, ⟨hk.1.2.1, ⟨hk.1.2.2.1, ⟨hk.1.2.2.2.1, hk.1.2.2.2.2⟩⟩⟩⟩))⟩
 replace HO_12 : Aside0 (Kd.R (Kd.int .i64) 3 w88 w0.heap.size (fun k_ => ((P1_ k_ ∨ P2_ k_ ∨ P3_ k_) ∨ w.heap.size ≤ k_) ∧ some k_ ≠ (.slice (some ⟨go82, 0, none⟩) x1_4.length co86 : Value).ownBlock ∧ some k_ ≠ (u9001_ : Value).ownBlock ∧ some k_ ≠ (.slice (some ad219) l3.length co28 : Value).ownBlock ∧ some k_ ≠ (v209 : Value).ownBlock) v212 x12_3) := ⟨by rw [← hq_]; exact (by (with_reducible repeat (first | apply Kd.R_alloc | apply Kd.R_drewN | apply Kd.R_drew)); exact Kd.R_mono (Kd.R_far (p := ⟨go82, ((rd l3 x21_4) : Int).toNat, none⟩) (Kd.R_mono HO_12.out (fun k_ hk => (⟨hk, fun e_ => hk.2.1 (by rw [e_]; rfl)⟩ : _ ∧ k_ ≠ go82))) (fun _ hk => hk.2) (.int .i64 (wrap64 ((rd x1_4 (rd l3 x21_4)) + x17_3)))) (fun _ hk => ⟨hk.1.1, ⟨hk.1.2.1, ⟨hk.1.2.2.1, ⟨hk.1.2.2.2.1, hk.1.2.2.2.2⟩⟩⟩⟩))⟩
 replace HO_13 : Aside0 (Kd.R Kd.bool 4 w88 w0.heap.size (fun k_ => ((P1_ k_ ∨ P2_ k_ ∨ P3_ k_) ∨ w.heap.size ≤ k_)) (.slice (some ⟨go24, 0, none⟩) y218.length co24) y218) := ⟨by rw [← hq_]; exact (by (with_reducible repeat (first | apply Kd.R_alloc | apply Kd.R_drewN | apply Kd.R_drew)); exact Kd.R_mono (Kd.R_far (p := ⟨go82, ((rd l3 x21_4) : Int).toNat, none⟩) (Kd.R_types HO_13.out GG82.out (by decide)) (fun _ hk => hk.2) (.int .i64 (wrap64 ((rd x1_4 (rd l3 x21_4)) + x17_3)))) (fun _ hk => hk.1))⟩
 replace HK : Aside0 (Kept w w88 (fun k_ => P1_ k_ ∨ P2_ k_ ∨ P3_ k_)) := ⟨by rw [← hq_]; exact qz2⟩
 replace HB : Aside0 (Below w0.heap.size w0 w88) := ⟨by rw [← hq_]; exact qz1⟩
 clear hq_
 obtain ⟨Ao89, co89, eo89⟩ := Kd.R_slice HO_2.out
 subst eo89
 have p237 : (0 ≤ (x21_4 : Int)) = True := et_
 have q237 : (x21_4 < (x2_4.length : Int)) = True := et_
 obtain ⟨ad237, e237, hx237_0⟩ := Kd.at_int (Kd.R_reads' HO_2.out).2.2 x21_4 dt_ dt_
 cases e237
 have p84 : 0 ≤ (x21_4 : Int) := dt_
 have q84 : (x21_4 : Int) < ((x2_4.length : Int) : Int) := dt_
 obtain ⟨go84, co84, eo84, gb84, gl84, cl84, HG84⟩ := Kd.R_form HO_2.out (by omega)
 (first | cases eo84 | (injection eo84 with ea_ en_ ec_; (first | subst ea_ | (injection ea_ with ea_; subst ea_)); subst ec_; clear en_))
 have GB84 := aM gb84
 have GG84 := aM HG84
 clear gb84 gl84 HG84
 have HMgo84 := aM (show ((P1_ go84 ∨ P2_ go84 ∨ P3_ go84) ∨ w.heap.size ≤ go84) from (HO_2.out.1 _ rfl).1)
 (first | simp only [add_plain] at hx237_0 | skip)
 obtain ⟨hx84_0, hf84_0⟩ := Kd.R_celln 0 HO_2.out (x21_4 : Int) p84 q84
 replace p84 := eq_true p84
 replace q84 := eq_true q84
 obtain ⟨hy90_, hz90_⟩ := Kd.R_celln 0 HO_2.out (x21_4 : Int) (dt_) (dt_)
 have HP90 := Kd.R_putg HO_2.out (x21_4 : Int) (wrap64 ((rd x2_4 x21_4) - x17_3))
 try go_wp2_with (first | ((with_reducible refine gate_store (t := 3) (p := 134) rfl ?_); refine store_event (t := 3) (p := 134) (v := ?vo_w91) (w1 := (w88.setCell ⟨go84, (x21_4 : Int).toNat, none⟩ (.int .i64 (wrap64 ((rd x2_4 x21_4) - x17_3))))) ?hg ?ho ?hn ?hr ?_; (case ho => rfl); (case hg => rfl); (case hn => rfl); (case hr => exact qz10); intro w91 hw; have hg : w88.grownBy w91 (some go84) := (by rw [hw]; exact HP90.2); have hp_ : Kd.R (Kd.int .i64) 3 w91 w0.heap.size (fun k_ => ((P1_ k_ ∨ P2_ k_ ∨ P3_ k_) ∨ w.heap.size ≤ k_) ∧ some k_ ≠ (.slice (some ⟨go82, 0, none⟩) x1_4.length co86 : Value).ownBlock ∧ some k_ ≠ (.slice (some ad219) l3.length co28 : Value).ownBlock ∧ some k_ ≠ (v209 : Value).ownBlock ∧ some k_ ≠ (v212 : Value).ownBlock) (.slice (some ⟨go84, 0, none⟩) x2_4.length co89) y238 := (by rw [hw, Ny238.out]; exact HP90.1); clear HP90; replace HO_1 := aM (Kd.R_after (v := (.slice (some ⟨go84, 0, none⟩) x2_4.length co89)) (v1 := (.slice (some ⟨go84, 0, none⟩) x2_4.length co89)) (ok := (fun k_ => ((P1_ k_ ∨ P2_ k_ ∨ P3_ k_) ∨ w.heap.size ≤ k_) ∧ some k_ ≠ (.slice (some ad219) l3.length co28 : Value).ownBlock ∧ some k_ ≠ (v209 : Value).ownBlock ∧ some k_ ≠ (v212 : Value).ownBlock)) (by (with_reducible repeat (first | apply Kd.R_alloc | apply Kd.R_drewN | apply Kd.R_drew)); exact Kd.R_mono HO_1.out (fun _ hk => ⟨⟨hk.1, ⟨hk.2.2.1, ⟨hk.2.2.2.1, hk.2.2.2.2⟩⟩⟩, hk.2.1⟩)) hg (.inl rfl)); replace HO_3 := aM (Kd.R_after (v := (.slice (some ⟨go84, 0, none⟩) x2_4.length co89)) (v1 := (.slice (some ⟨go84, 0, none⟩) x2_4.length co89)) (ok := (fun k_ => ((P1_ k_ ∨ P2_ k_ ∨ P3_ k_) ∨ w.heap.size ≤ k_) ∧ some k_ ≠ (.slice (some ⟨go82, 0, none⟩) x1_4.length co86 : Value).ownBlock ∧ some k_ ≠ (v209 : Value).ownBlock ∧ some k_ ≠ (v212 : Value).ownBlock)) (by (with_reducible repeat (first | apply Kd.R_alloc | apply Kd.R_drewN | apply Kd.R_drew)); exact Kd.R_mono HO_3.out (fun _ hk => ⟨⟨hk.1, ⟨hk.2.1, ⟨hk.2.2.2.1, hk.2.2.2.2⟩⟩⟩, hk.2.2.1⟩)) hg (.inl rfl)); replace HO_11 := aM (Kd.R_after (v := (.slice (some ⟨go84, 0, none⟩) x2_4.length co89)) (v1 := (.slice (some ⟨go84, 0, none⟩) x2_4.length co89)) (ok := (fun k_ => ((P1_ k_ ∨ P2_ k_ ∨ P3_ k_) ∨ w.heap.size ≤ k_) ∧ some k_ ≠ (.slice (some ⟨go82, 0, none⟩) x1_4.length co86 : Value).ownBlock ∧ some k_ ≠ (.slice (some ad219) l3.length co28 : Value).ownBlock ∧ some k_ ≠ (v212 : Value).ownBlock)) (by (with_reducible repeat (first | apply Kd.R_alloc | apply Kd.R_drewN | apply Kd.R_drew)); exact Kd.R_mono HO_11.out (fun _ hk => ⟨⟨hk.1, ⟨hk.2.1, ⟨hk.2.2.2.1, hk.2.2.2.2⟩⟩⟩, hk.2.2.1⟩)) hg (.inl rfl)); replace HO_12 := aM (Kd.R_after (v := (.slice (some ⟨go84, 0, none⟩) x2_4.length co89)) (v1 := (.slice (some ⟨go84, 0, none⟩) x2_4.length co89)) (ok := (fun k_ => ((P1_ k_ ∨ P2_ k_ ∨ P3_ k_) ∨ w.heap.size ≤ k_) ∧ some k_ ≠ (.slice (some ⟨go82, 0, none⟩) x1_4.length co86 : Value).ownBlock ∧ some k_ ≠ (.slice (some ad219) l3.length co28 : Value).ownBlock ∧ some k_ ≠ (v209 : Value).ownBlock)) (by (with_reducible repeat (first | apply Kd.R_alloc | apply Kd.R_drewN | apply Kd.R_drew)); exact Kd.R_mono HO_12.out (fun _ hk => ⟨⟨hk.1, ⟨hk.2.1, ⟨hk.2.2.2.1, hk.2.2.2.2⟩⟩⟩, hk.2.2.1⟩)) hg (.inl rfl)); replace HO_13 := aM (Kd.R_over' (v := (.slice (some ⟨go84, 0, none⟩) x2_4.length co89)) (rr_ HO_13.out) (Kd.R_typed HO_2.out) (by decide) hg); replace HB := aM ((by rw [hw]; exact below_set (HB.out) GB84.out : Below w0.heap.size w0 w91)); replace HK := aM (Kept.of_grown (S := (fun k_ => P1_ k_ ∨ P2_ k_ ∨ P3_ k_)) hg qz2 (fun k_ e_ => (HO_2.out.1 k_ e_).1)); replace HO_2 := aM (hp_); clear hg hw hp_))
 go_roundg k4
 case measure => have := HK1.out; have := HK2.out; have := HK3.out; have := HK4.out; omega
 case rel => exact ⟨(y236), (y238), (x11_4), (wrap64 (x21_4 + 1)), qz3, H', ⟨by have := HK1.out; have := HK2.out; have := HK3.out; have := HK4.out; omega⟩, ⟨by (try simp only [hl13_3]); (with_reducible repeat (first | apply Kd.R_alloc | apply Kd.R_drewN | apply Kd.R_drew)); exact Kd.R_mono HO_1.out (fun _ hk => ⟨hk.1.1, ⟨hk.2, ⟨hk.1.2.1, ⟨hk.1.2.2.1, hk.1.2.2.2⟩⟩⟩⟩)⟩, ⟨by (try simp only [hl13_3]); exact rm_ HO_2.out⟩, ⟨by (try simp only [hl13_3]); (with_reducible repeat (first | apply Kd.R_alloc | apply Kd.R_drewN | apply Kd.R_drew)); exact Kd.R_mono HO_3.out (fun _ hk => ⟨hk.1.1, ⟨hk.1.2.1, ⟨hk.2, ⟨hk.1.2.2.1, hk.1.2.2.2⟩⟩⟩⟩)⟩, ⟨by (try simp only [hl13_3]); (with_reducible repeat (first | apply Kd.R_alloc | apply Kd.R_drewN | apply Kd.R_drew)); exact Kd.R_mono HO_11.out (fun _ hk => ⟨hk.1.1, ⟨hk.1.2.1, ⟨hk.2, ⟨hk.1.2.2.1, hk.1.2.2.2⟩⟩⟩⟩)⟩, ⟨by (try simp only [hl13_3]); (with_reducible repeat (first | apply Kd.R_alloc | apply Kd.R_drewN | apply Kd.R_drew)); exact Kd.R_mono HO_12.out (fun _ hk => ⟨hk.1.1, ⟨hk.1.2.1, ⟨hk.2, ⟨hk.1.2.2.1, hk.1.2.2.2⟩⟩⟩⟩)⟩, ⟨by (try simp only [hl13_3]); exact rm_ HO_13.out⟩, ⟨qz2⟩, ⟨qz1⟩⟩
 }
 {
 replace H := iN_ H
 obtain ⟨c92, H⟩ := H
 have c92b0 := decide_eq_true c92
 (try (have c92b0q13_3 := c92b0; simp only [hl13_3] at c92b0q13_3))
 clear c92
 obtain ⟨y240, hy240⟩ : ∃ y_ : List Int, y_ = (x11_4.set (x21_4 : Int).toNat (wrap64 ((rd x11_4 x21_4) - x17_3))) := ⟨_, rfl⟩
 replace H : (spec_l4Grow.l3 k4 l0 x1_4 x2_4 l3 a4 1099511627776 y240 x12_3 y218 x17_3 x18_3 (wrap64 (x21_4 + 1))) = some (r1, r2, r3) := by first | (rw [hy240]; exact H) | exact H
 have Ny240 := aM hy240
 clear hy240
 have H' := aM H
 clear H
 have p232 : (0 ≤ (x21_4 : Int)) = True := et_
 have q232 : (x21_4 < (y218.length : Int)) = True := et_
 obtain ⟨ad232, e232, hx232_0⟩ := Kd.at_bool (Kd.R_reads' HO_13.out).2.2 x21_4 dt_ dt_
 (try rw [← Nbq77.out] at hx232_0)
 obtain rfl : (⟨go24, 0, none⟩ : Addr) = ad232 := (by injection e232)
 (first | simp only [add_plain] at hx232_0 | simp only [add_at] at hx232_0 | simp only [Addr.add, Nat.zero_add] at hx232_0 | skip)
 obtain ⟨Ao94, co94, eo94⟩ := Kd.R_slice HO_11.out
 subst eo94
 have p239 : (0 ≤ (x21_4 : Int)) = True := et_
 have q239 : (x21_4 < (x11_4.length : Int)) = True := et_
 obtain ⟨ad239, e239, hx239_0⟩ := Kd.at_int (Kd.R_reads' HO_11.out).2.2 x21_4 dt_ dt_
 cases e239
 have p93 : 0 ≤ (x21_4 : Int) := dt_
 have q93 : (x21_4 : Int) < ((x11_4.length : Int) : Int) := dt_
 obtain ⟨go93, co93, eo93, gb93, gl93, cl93, HG93⟩ := Kd.R_form HO_11.out (by omega)
 (first | cases eo93 | (injection eo93 with ea_ en_ ec_; (first | subst ea_ | (injection ea_ with ea_; subst ea_)); subst ec_; clear en_))
 have GB93 := aM gb93
 have GG93 := aM HG93
 clear gb93 gl93 HG93
 have HMgo93 := aM (show ((P1_ go93 ∨ P2_ go93 ∨ P3_ go93) ∨ w.heap.size ≤ go93) from (HO_11.out.1 _ rfl).1)
 (first | simp only [add_plain] at hx239_0 | skip)
 obtain ⟨hx93_0, hf93_0⟩ := Kd.R_celln 0 HO_11.out (x21_4 : Int) p93 q93
 replace p93 := eq_true p93
 replace q93 := eq_true q93
 obtain ⟨hy95_, hz95_⟩ := Kd.R_celln 0 HO_11.out (x21_4 : Int) (dt_) (dt_)
 have HP95 := Kd.R_putg HO_11.out (x21_4 : Int) (wrap64 ((rd x11_4 x21_4) - x17_3))
 go_wp2_with (first | ((with_reducible refine gate_store (t := 3) (p := 143) rfl ?_); refine store_event (t := 3) (p := 143) (v := ?vo_w96) (w1 := (wr.setCell ⟨go93, (x21_4 : Int).toNat, none⟩ (.int .i64 (wrap64 ((rd x11_4 x21_4) - x17_3))))) ?hg ?ho ?hn ?hr ?_; (case ho => rfl); (case hg => rfl); (case hn => rfl); (case hr => exact qz10); intro w96 hw; have hg : wr.grownBy w96 (some go93) := (by rw [hw]; exact HP95.2); have hp_ : Kd.R (Kd.int .i64) 3 w96 w0.heap.size (fun k_ => ((P1_ k_ ∨ P2_ k_ ∨ P3_ k_) ∨ w.heap.size ≤ k_) ∧ some k_ ≠ (u9000_ : Value).ownBlock ∧ some k_ ≠ (u9001_ : Value).ownBlock ∧ some k_ ≠ (.slice (some ad219) l3.length co28 : Value).ownBlock ∧ some k_ ≠ (v212 : Value).ownBlock) (.slice (some ⟨go93, 0, none⟩) x11_4.length co94) y240 := (by rw [hw, Ny240.out]; exact HP95.1); clear HP95; replace HO_1 := aM (Kd.R_after (v := (.slice (some ⟨go93, 0, none⟩) x11_4.length co94)) (v1 := (.slice (some ⟨go93, 0, none⟩) x11_4.length co94)) (ok := (fun k_ => ((P1_ k_ ∨ P2_ k_ ∨ P3_ k_) ∨ w.heap.size ≤ k_) ∧ some k_ ≠ (u9001_ : Value).ownBlock ∧ some k_ ≠ (.slice (some ad219) l3.length co28 : Value).ownBlock ∧ some k_ ≠ (v212 : Value).ownBlock)) qz13 hg (.inl rfl)); replace HO_2 := aM (Kd.R_after (v := (.slice (some ⟨go93, 0, none⟩) x11_4.length co94)) (v1 := (.slice (some ⟨go93, 0, none⟩) x11_4.length co94)) (ok := (fun k_ => ((P1_ k_ ∨ P2_ k_ ∨ P3_ k_) ∨ w.heap.size ≤ k_) ∧ some k_ ≠ (u9000_ : Value).ownBlock ∧ some k_ ≠ (.slice (some ad219) l3.length co28 : Value).ownBlock ∧ some k_ ≠ (v212 : Value).ownBlock)) qz14 hg (.inl rfl)); replace HO_3 := aM (Kd.R_after (v := (.slice (some ⟨go93, 0, none⟩) x11_4.length co94)) (v1 := (.slice (some ⟨go93, 0, none⟩) x11_4.length co94)) (ok := (fun k_ => ((P1_ k_ ∨ P2_ k_ ∨ P3_ k_) ∨ w.heap.size ≤ k_) ∧ some k_ ≠ (u9000_ : Value).ownBlock ∧ some k_ ≠ (u9001_ : Value).ownBlock ∧ some k_ ≠ (v212 : Value).ownBlock)) qz15 hg (.inl rfl)); replace HO_12 := aM (Kd.R_after (v := (.slice (some ⟨go93, 0, none⟩) x11_4.length co94)) (v1 := (.slice (some ⟨go93, 0, none⟩) x11_4.length co94)) (ok := (fun k_ => ((P1_ k_ ∨ P2_ k_ ∨ P3_ k_) ∨ w.heap.size ≤ k_) ∧ some k_ ≠ (u9000_ : Value).ownBlock ∧ some k_ ≠ (u9001_ : Value).ownBlock ∧ some k_ ≠ (.slice (some ad219) l3.length co28 : Value).ownBlock)) qz12 hg (.inl rfl)); replace HO_13 := aM (Kd.R_over' (v := (.slice (some ⟨go93, 0, none⟩) x11_4.length co94)) (rr_ HO_13.out) (Kd.R_typed HO_11.out) (by decide) hg); replace HB := aM ((by rw [hw]; exact below_set (HB.out) GB93.out : Below w0.heap.size w0 w96)); replace HK := aM (Kept.of_grown (S := (fun k_ => P1_ k_ ∨ P2_ k_ ∨ P3_ k_)) hg qz2 (fun k_ e_ => (HO_11.out.1 k_ e_).1)); replace HO_11 := aM (hp_); clear hg hw hp_))
 go_roundg k4
 case measure => have := HK1.out; have := HK2.out; have := HK3.out; have := HK4.out; omega
 case rel => exact ⟨(x1_4), (x2_4), (y240), (wrap64 (x21_4 + 1)), qz3, H', ⟨by have := HK1.out; have := HK2.out; have := HK3.out; have := HK4.out; omega⟩, ⟨by (try simp only [hl13_3]); (with_reducible repeat (first | apply Kd.R_alloc | apply Kd.R_drewN | apply Kd.R_drew)); exact Kd.R_mono HO_1.out (fun _ hk => ⟨hk.1.1, ⟨hk.1.2.1, ⟨hk.1.2.2.1, ⟨hk.2, hk.1.2.2.2⟩⟩⟩⟩)⟩, ⟨by (try simp only [hl13_3]); (with_reducible repeat (first | apply Kd.R_alloc | apply Kd.R_drewN | apply Kd.R_drew)); exact Kd.R_mono HO_2.out (fun _ hk => ⟨hk.1.1, ⟨hk.1.2.1, ⟨hk.1.2.2.1, ⟨hk.2, hk.1.2.2.2⟩⟩⟩⟩)⟩, ⟨by (try simp only [hl13_3]); (with_reducible repeat (first | apply Kd.R_alloc | apply Kd.R_drewN | apply Kd.R_drew)); exact Kd.R_mono HO_3.out (fun _ hk => ⟨hk.1.1, ⟨hk.1.2.1, ⟨hk.1.2.2.1, ⟨hk.2, hk.1.2.2.2⟩⟩⟩⟩)⟩, ⟨by (try simp only [hl13_3]); exact rm_ HO_11.out⟩, ⟨by (try simp only [hl13_3]); (with_reducible repeat (first | apply Kd.R_alloc | apply Kd.R_drewN | apply Kd.R_drew)); exact Kd.R_mono HO_12.out (fun _ hk => ⟨hk.1.1, ⟨hk.1.2.1, ⟨hk.1.2.2.1, ⟨hk.1.2.2.2, hk.2⟩⟩⟩⟩)⟩, ⟨by (try simp only [hl13_3]); exact rm_ HO_13.out⟩, ⟨qz2⟩, ⟨qz1⟩⟩
 }
 }
 {
 replace H := iD_ H
 obtain ⟨c97b0, H⟩ := H
 replace H := iN_ H
 obtain ⟨c98, H⟩ := H
 have c98b0 := decide_eq_true c98
 (try (have c98b0q13_3 := c98b0; simp only [hl13_3] at c98b0q13_3))
 clear c98
 replace H := iQ_ H
 rcases H with ⟨c99b0, c99b1, H⟩ | ⟨c99, c99b0, c99b1, H⟩
 {
 have H' := aM H
 clear H
 have p241 : (0 ≤ (x18_3 : Int)) = True := et_
 have q241 : (x18_3 < (l3.length : Int)) = True := et_
 obtain ⟨ad241, e241, hx241_0⟩ := Kd.at_int (Kd.R_reads' HO_3.out).2.2 x18_3 dt_ dt_
 obtain rfl : ad219 = ad241 := (by injection e241)
 go_wp2
 go_loopg [15] k4 (fun kq v15 w' => ∃ (x3_5 : List Int) (x15_5 : Int), v15 = .int .i64 x15_5 ∧ Aside0 (spec_l4Grow.l4 kq x1_4 x2_4 x3_5 x12_3 x15_5 = some (r1, r2, r3)) ∧ Aside0 (kq ≤ k4) ∧ Aside0 (Kd.R (Kd.int .i64) 3 w' w0.heap.size (fun k_ => ((P1_ k_ ∨ P2_ k_ ∨ P3_ k_) ∨ w.heap.size ≤ k_) ∧ some k_ ≠ (u9001_ : Value).ownBlock ∧ some k_ ≠ ((.slice (some ad219) l3.length co28) : Value).ownBlock ∧ some k_ ≠ (v212 : Value).ownBlock) u9000_ x1_4) ∧ Aside0 (Kd.R (Kd.int .i64) 3 w' w0.heap.size (fun k_ => ((P1_ k_ ∨ P2_ k_ ∨ P3_ k_) ∨ w.heap.size ≤ k_) ∧ some k_ ≠ (u9000_ : Value).ownBlock ∧ some k_ ≠ ((.slice (some ad219) l3.length co28) : Value).ownBlock ∧ some k_ ≠ (v212 : Value).ownBlock) u9001_ x2_4) ∧ Aside0 (Kd.R (Kd.int .i64) 3 w' w0.heap.size (fun k_ => ((P1_ k_ ∨ P2_ k_ ∨ P3_ k_) ∨ w.heap.size ≤ k_) ∧ some k_ ≠ (u9000_ : Value).ownBlock ∧ some k_ ≠ (u9001_ : Value).ownBlock ∧ some k_ ≠ (v212 : Value).ownBlock) (.slice (some ad219) l3.length co28) x3_5) ∧ Aside0 (Kd.R (Kd.int .i64) 3 w' w0.heap.size (fun k_ => ((P1_ k_ ∨ P2_ k_ ∨ P3_ k_) ∨ w.heap.size ≤ k_) ∧ some k_ ≠ (u9000_ : Value).ownBlock ∧ some k_ ≠ (u9001_ : Value).ownBlock ∧ some k_ ≠ ((.slice (some ad219) l3.length co28) : Value).ownBlock) v212 x12_3) ∧ Aside0 (Kept w w' (fun k_ => P1_ k_ ∨ P2_ k_ ∨ P3_ k_)) ∧ Aside0 (Below w0.heap.size w0 w'))
 case atStart => exact ⟨(l3), (x18_3), qz3, H', ⟨Nat.le_refl _⟩, ⟨by (try simp only [hl13_3]); (with_reducible repeat (first | apply Kd.R_alloc | apply Kd.R_drewN | apply Kd.R_drew)); exact Kd.R_mono HO_1.out (fun _ hk => ⟨hk.1, ⟨hk.2.1, ⟨hk.2.2.1, hk.2.2.2.2⟩⟩⟩)⟩, ⟨by (try simp only [hl13_3]); (with_reducible repeat (first | apply Kd.R_alloc | apply Kd.R_drewN | apply Kd.R_drew)); exact Kd.R_mono HO_2.out (fun _ hk => ⟨hk.1, ⟨hk.2.1, ⟨hk.2.2.1, hk.2.2.2.2⟩⟩⟩)⟩, ⟨by (try simp only [hl13_3]); (with_reducible repeat (first | apply Kd.R_alloc | apply Kd.R_drewN | apply Kd.R_drew)); exact Kd.R_mono HO_3.out (fun _ hk => ⟨hk.1, ⟨hk.2.1, ⟨hk.2.2.1, hk.2.2.2.2⟩⟩⟩)⟩, ⟨by (try simp only [hl13_3]); (with_reducible repeat (first | apply Kd.R_alloc | apply Kd.R_drewN | apply Kd.R_drew)); exact Kd.R_mono HO_12.out (fun _ hk => ⟨hk.1, ⟨hk.2.1, ⟨hk.2.2.1, hk.2.2.2.1⟩⟩⟩)⟩, ⟨qz2⟩, ⟨qz1⟩⟩
 case round =>
 clear H'
 try clear c7
 try clear c8
 try clear hf8
 try clear c9
 try clear hf9
 try clear c22
 try clear p24
 try clear q24
 try clear c29
 try clear c29b0
 try clear hf45
 try clear hf47
 try clear c74
 try clear c74b0
 try clear hf82
 try clear hf84
 try clear hf93
 try clear c97
 try clear c97b0
 try clear c98
 try clear c98b0
 try clear c99
 try clear c99b0
 try clear c99b1
 try clear hx241_0
 try clear p241
 try clear q241
 obtain ⟨x3_5, x15_5, rfl, HA, HK5, HO_1, HO_2, HO_3, HO_12, HK, HB⟩ := hrel
 have hl3_5 := (Kd.R_reads' HO_3.out).1
 rw [hl3_5] at HO_3
 (try simp only [hl3_5])
 (try simp only [hl3_5] at HO_1)
 (try simp only [hl3_5] at HO_2)
 (try simp only [hl3_5] at HO_12)
 cases gk with
 | zero => exact absurd HA.out (by simp [spec_l4Grow.l4])
 | succ k5 =>
 have H := HA.out
 clear HA
 simp only [spec_l4Grow.l4] at H
 replace H := iQ_ H
 rcases H with ⟨c100b0, c100b1, H⟩ | ⟨c100, c100b0, c100b1, H⟩
 {
 simp only [Option.some.injEq, Prod.mk.injEq] at H
 obtain ⟨rfl, rfl, rfl⟩ := H
 go_wp2
 first | go_end0 | ((try simp only [Exit.inBlock, Exit.then]); refine bodyPost_ret (results_none rfl _ _ _) rfl ?_)
 exact ⟨by first | rfl | (simp [errW_none, errW_some] <;> rfl) | (simp only [← hji6]; first | rfl | (simp [errW_none, errW_some] <;> rfl)) | (simp [*, errW_none, errW_some] <;> rfl), (by first | exact (by (with_reducible repeat (first | apply Kd.R_alloc | apply Kd.R_drewN | apply Kd.R_drew)); exact Kd.R_mono HO_1.out (fun _ hk => hk.1)) | (simp only [hl13_3, hl3_5]; exact (by (with_reducible repeat (first | apply Kd.R_alloc | apply Kd.R_drewN | apply Kd.R_drew)); exact Kd.R_mono HO_1.out (fun _ hk => hk.1)))), (by first | exact (by (with_reducible repeat (first | apply Kd.R_alloc | apply Kd.R_drewN | apply Kd.R_drew)); exact Kd.R_mono HO_2.out (fun _ hk => hk.1)) | (simp only [hl13_3, hl3_5]; exact (by (with_reducible repeat (first | apply Kd.R_alloc | apply Kd.R_drewN | apply Kd.R_drew)); exact Kd.R_mono HO_2.out (fun _ hk => hk.1)))), (by first | exact (by (with_reducible repeat (first | apply Kd.R_alloc | apply Kd.R_drewN | apply Kd.R_drew)); exact Kd.R_mono HO_3.out (fun _ hk => hk.1)) | (simp only [hl13_3, hl3_5]; exact (by (with_reducible repeat (first | apply Kd.R_alloc | apply Kd.R_drewN | apply Kd.R_drew)); exact Kd.R_mono HO_3.out (fun _ hk => hk.1)))), qz1, qz2⟩
 }
 {
 replace H := iD_ H
 obtain ⟨c101b0, H⟩ := H
 replace H := iN_ H
 obtain ⟨c102, H⟩ := H
 have c102b0 := decide_eq_true c102
 (try (have c102b0q13_3 := c102b0; simp only [hl13_3] at c102b0q13_3))
 (try (have c102b0q3_5 := c102b0; simp only [hl3_5] at c102b0q3_5))
 clear c102
 replace H := iD_ H
 obtain ⟨c103b0, H⟩ := H
 replace H := iN_ H
 obtain ⟨c104, H⟩ := H
 have c104b0 := decide_eq_true c104
 (try (have c104b0q13_3 := c104b0; simp only [hl13_3] at c104b0q13_3))
 (try (have c104b0q3_5 := c104b0; simp only [hl3_5] at c104b0q3_5))
 clear c104
 replace H := iN_ H
 obtain ⟨c105, H⟩ := H
 have c105b0 := decide_eq_true c105
 (try (have c105b0q13_3 := c105b0; simp only [hl13_3] at c105b0q13_3))
 (try (have c105b0q3_5 := c105b0; simp only [hl3_5] at c105b0q3_5))
 clear c105
 obtain ⟨y244, hy244⟩ : ∃ y_ : List Int, y_ = (x3_5.set (x15_5 : Int).toNat (rd x3_5 (rd x12_3 x15_5))) := ⟨_, rfl⟩
 replace H : (spec_l4Grow.l4 k5 x1_4 x2_4 y244 x12_3 (rd x12_3 x15_5)) = some (r1, r2, r3) := by first | (rw [hy244]; exact H) | exact H
 have Ny244 := aM hy244
 clear hy244
 have H' := aM H
 clear H
 obtain ⟨Ao107, co107, eo107⟩ := Kd.R_slice HO_12.out
 subst eo107
 have p242 : (0 ≤ (x15_5 : Int)) = True := et_
 have q242 : (x15_5 < (x12_3.length : Int)) = True := et_
 obtain ⟨ad242, e242, hx242_0⟩ := Kd.at_int (Kd.R_reads' HO_12.out).2.2 x15_5 dt_ dt_
 cases e242
 have p243 : (0 ≤ ((rd x12_3 x15_5) : Int)) = True := et_
 have q243 : ((rd x12_3 x15_5) < (x3_5.length : Int)) = True := et_
 obtain ⟨ad243, e243, hx243_0⟩ := Kd.at_int (Kd.R_reads' HO_3.out).2.2 (rd x12_3 x15_5) dt_ dt_
 obtain rfl : ad219 = ad243 := (by injection e243)
 have p106 : 0 ≤ (x15_5 : Int) := dt_
 have q106 : (x15_5 : Int) < ((x3_5.length : Int) : Int) := dt_
 obtain ⟨go106, co106, eo106, gb106, gl106, cl106, HG106⟩ := Kd.R_form HO_3.out (by omega)
 (first | cases eo106 | (injection eo106 with ea_ en_ ec_; (first | subst ea_ | (injection ea_ with ea_; subst ea_)); subst ec_; clear en_))
 have GB106 := aM gb106
 have GG106 := aM HG106
 clear gb106 gl106 HG106
 have HMgo106 := aM (show ((P1_ go106 ∨ P2_ go106 ∨ P3_ go106) ∨ w.heap.size ≤ go106) from (HO_3.out.1 _ rfl).1)
 (first | simp only [add_plain] at hx219_0 | skip)
 (first | simp only [add_plain] at hx233_0 | skip)
 (first | simp only [add_plain] at hx234_0 | skip)
 (first | simp only [add_plain] at hx241_0 | skip)
 (first | simp only [add_plain] at hx243_0 | skip)
 obtain ⟨hx106_0, hf106_0⟩ := Kd.R_celln 0 HO_3.out (x15_5 : Int) p106 q106
 replace p106 := eq_true p106
 replace q106 := eq_true q106
 obtain ⟨hy108_, hz108_⟩ := Kd.R_celln 0 HO_3.out (x15_5 : Int) (dt_) (dt_)
 have HP108 := Kd.R_putg HO_3.out (x15_5 : Int) (rd x3_5 (rd x12_3 x15_5))
 go_wp2_with (first | ((with_reducible refine gate_store (t := 3) (p := 162) rfl ?_); refine store_event (t := 3) (p := 162) (v := ?vo_w109) (w1 := (wr.setCell ⟨go106, (x15_5 : Int).toNat, none⟩ (.int .i64 (rd x3_5 (rd x12_3 x15_5))))) ?hg ?ho ?hn ?hr ?_; (case ho => rfl); (case hg => rfl); (case hn => rfl); (case hr => exact qz10); intro w109 hw; have hg : wr.grownBy w109 (some go106) := (by rw [hw]; exact HP108.2); have hp_ : Kd.R (Kd.int .i64) 3 w109 w0.heap.size (fun k_ => ((P1_ k_ ∨ P2_ k_ ∨ P3_ k_) ∨ w.heap.size ≤ k_) ∧ some k_ ≠ (u9000_ : Value).ownBlock ∧ some k_ ≠ (u9001_ : Value).ownBlock ∧ some k_ ≠ (.slice (some ad242) x12_3.length co107 : Value).ownBlock) (.slice (some ⟨go106, 0, none⟩) x3_5.length co28) y244 := (by rw [hw, Ny244.out]; exact HP108.1); clear HP108; replace HO_1 := aM (Kd.R_after (v := (.slice (some ⟨go106, 0, none⟩) x3_5.length co28)) (v1 := (.slice (some ⟨go106, 0, none⟩) x3_5.length co28)) (ok := (fun k_ => ((P1_ k_ ∨ P2_ k_ ∨ P3_ k_) ∨ w.heap.size ≤ k_) ∧ some k_ ≠ (u9001_ : Value).ownBlock ∧ some k_ ≠ (.slice (some ad242) x12_3.length co107 : Value).ownBlock)) (by (with_reducible repeat (first | apply Kd.R_alloc | apply Kd.R_drewN | apply Kd.R_drew)); exact Kd.R_mono HO_1.out (fun _ hk => ⟨⟨hk.1, ⟨hk.2.1, hk.2.2.2⟩⟩, hk.2.2.1⟩)) hg (.inl rfl)); replace HO_2 := aM (Kd.R_after (v := (.slice (some ⟨go106, 0, none⟩) x3_5.length co28)) (v1 := (.slice (some ⟨go106, 0, none⟩) x3_5.length co28)) (ok := (fun k_ => ((P1_ k_ ∨ P2_ k_ ∨ P3_ k_) ∨ w.heap.size ≤ k_) ∧ some k_ ≠ (u9000_ : Value).ownBlock ∧ some k_ ≠ (.slice (some ad242) x12_3.length co107 : Value).ownBlock)) (by (with_reducible repeat (first | apply Kd.R_alloc | apply Kd.R_drewN | apply Kd.R_drew)); exact Kd.R_mono HO_2.out (fun _ hk => ⟨⟨hk.1, ⟨hk.2.1, hk.2.2.2⟩⟩, hk.2.2.1⟩)) hg (.inl rfl)); replace HO_12 := aM (Kd.R_after (v := (.slice (some ⟨go106, 0, none⟩) x3_5.length co28)) (v1 := (.slice (some ⟨go106, 0, none⟩) x3_5.length co28)) (ok := (fun k_ => ((P1_ k_ ∨ P2_ k_ ∨ P3_ k_) ∨ w.heap.size ≤ k_) ∧ some k_ ≠ (u9000_ : Value).ownBlock ∧ some k_ ≠ (u9001_ : Value).ownBlock)) (by (with_reducible repeat (first | apply Kd.R_alloc | apply Kd.R_drewN | apply Kd.R_drew)); exact Kd.R_mono HO_12.out (fun _ hk => ⟨⟨hk.1, ⟨hk.2.1, hk.2.2.1⟩⟩, hk.2.2.2⟩)) hg (.inl rfl)); replace HB := aM ((by rw [hw]; exact below_set (HB.out) GB106.out : Below w0.heap.size w0 w109)); replace HK := aM (Kept.of_grown (S := (fun k_ => P1_ k_ ∨ P2_ k_ ∨ P3_ k_)) hg qz2 (fun k_ e_ => (HO_3.out.1 k_ e_).1)); replace HO_3 := aM (hp_); clear hg hw hp_))
 (try simp only [← hl3_5])
 (try simp only [add_plain] at *)
 go_roundg k5
 case measure => have := HK1.out; have := HK2.out; have := HK3.out; have := HK4.out; have := HK5.out; omega
 case rel => exact ⟨(y244), (rd x12_3 x15_5), qz3, H', ⟨by have := HK1.out; have := HK2.out; have := HK3.out; have := HK4.out; have := HK5.out; omega⟩, ⟨by (try simp only [hl13_3]); (try simp only [hl3_5]); (with_reducible repeat (first | apply Kd.R_alloc | apply Kd.R_drewN | apply Kd.R_drew)); exact Kd.R_mono HO_1.out (fun _ hk => ⟨hk.1.1, ⟨hk.1.2.1, ⟨hk.2, hk.1.2.2⟩⟩⟩)⟩, ⟨by (try simp only [hl13_3]); (try simp only [hl3_5]); (with_reducible repeat (first | apply Kd.R_alloc | apply Kd.R_drewN | apply Kd.R_drew)); exact Kd.R_mono HO_2.out (fun _ hk => ⟨hk.1.1, ⟨hk.1.2.1, ⟨hk.2, hk.1.2.2⟩⟩⟩)⟩, ⟨by (try simp only [hl13_3]); (try simp only [hl3_5]); exact rm_ HO_3.out⟩, ⟨by (try simp only [hl13_3]); (try simp only [hl3_5]); (with_reducible repeat (first | apply Kd.R_alloc | apply Kd.R_drewN | apply Kd.R_drew)); exact Kd.R_mono HO_12.out (fun _ hk => ⟨hk.1.1, ⟨hk.1.2.1, ⟨hk.1.2.2, hk.2⟩⟩⟩)⟩, ⟨qz2⟩, ⟨qz1⟩⟩
 }
 }
 {
 have H' := aM H
 clear H
 have p241 : (0 ≤ (x18_3 : Int)) = True := et_
 have q241 : (x18_3 < (l3.length : Int)) = True := et_
 obtain ⟨ad241, e241, hx241_0⟩ := Kd.at_int (Kd.R_reads' HO_3.out).2.2 x18_3 dt_ dt_
 obtain rfl : ad219 = ad241 := (by injection e241)
 go_wp2
 (try simp only [← hl13_3])
 go_roundg k4
 case measure => have := HK1.out; have := HK2.out; have := HK3.out; have := HK4.out; omega
 case rel => exact ⟨(x1_4), (x2_4), (x11_4), (x12_3), (y218), (x18_3), qz3, H', ⟨by have := HK1.out; have := HK2.out; have := HK3.out; have := HK4.out; omega⟩, ⟨by (try simp only [hl13_3]); exact rm_ HO_1.out⟩, ⟨by (try simp only [hl13_3]); exact rm_ HO_2.out⟩, ⟨by (try simp only [hl13_3]); exact rm_ HO_3.out⟩, ⟨by (try simp only [hl13_3]); exact rm_ HO_11.out⟩, ⟨by (try simp only [hl13_3]); exact rm_ HO_12.out⟩, ⟨by (try simp only [hl13_3]); exact rm_ HO_13.out⟩, ⟨qz2⟩, ⟨qz1⟩⟩
 }
 }
 }
 }
end Go.Proofs.Ytbebfhlejnidkaa.PFnMatched
