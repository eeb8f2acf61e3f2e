-- Made by a program of this session out of the translation. Lean checks it.
import Derived.Test.YtbebfhlejnidkaaPFnMatchedx0
namespace Go.Proofs.Ytbebfhlejnidkaa.PFnMatched
open Go.RowKit Go.Proofs.YtbebfhlejnidkaaW.PrintWords Go.Proofs.YtbebfhlejnidkaaW.PrintLast Go.Proofs.YtbebfhlejnidkaaW.PrintMore
attribute [local go_sem] max2_int min2_int max_two min_two max_three min_three max_four min_four   -- for this text's walks alone
set_option linter.unusedVariables false
set_option linter.unusedSimpArgs false

/-! ### impl_least: function 38 -/
mutual
def impl_least.j0 : Nat → List (List Int) → Int → Option ((List (List Int)))
 | 0, _, _ => none
 | k + 1, x0, x3 => if 0 ≤ (wrap64 ((x0.length : Int) + 1)) then (if (wrap64 ((x0.length : Int) + 1) : Int).toNat ≤ 11728124029610 then ((some (List.replicate (wrap64 ((x0.length : Int) + 1) : Int).toNat [] : List (List Int))).bind fun y107 => (if 0 ≤ x3 then (if 0 ≤ (shl .i64 1 x3) then (if (shl .i64 1 x3 : Int).toNat ≤ 35184372088832 then (if 0 ≤ (x0.length : Int) then (if (x0.length : Int) < (y107.length : Int) then (impl_least.l0 k x0 x3 (y107.set ((x0.length : Int) : Int).toNat (List.replicate (shl .i64 1 x3 : Int).toNat 0)) (wrap64 ((x0.length : Int) - 1))) else (none)) else (none)) else (none)) else (none)) else (none))) else (none)) else (none)
def impl_least.l0 : Nat → List (List Int) → Int → List (List Int) → Int → Option ((List (List Int)))
 | 0, _, _, _, _ => none
 | k + 1, x0, x3, x4, x5 => if x5 ≥ 0 then (if 0 ≤ x3 then (if 0 ≤ (shl .i64 1 x3) then (if (shl .i64 1 x3 : Int).toNat ≤ 35184372088832 then (if 0 ≤ x5 then (if x5 < (x4.length : Int) then ((some (x4.set (x5 : Int).toNat (List.replicate (shl .i64 1 x3 : Int).toNat 0) : List (List Int))).bind fun y117 => (impl_least.l1 k x0 x3 y117 x5 ((rd_L1 y117 x5).length : Int) 0)) else (none)) else (none)) else (none)) else (none)) else (none)) else (some x4)
def impl_least.l1 : Nat → List (List Int) → Int → List (List Int) → Int → Int → Int → Option ((List (List Int)))
 | 0, _, _, _, _, _, _ => none
 | k + 1, x0, x3, x4, x5, x44, x45 => if x45 < x44 then (if 0 ≤ x5 then (if x5 < (x4.length : Int) then (if 0 ≤ x45 then (if x45 < ((rd_L1 x4 x5).length : Int) then (impl_least.l2 k x0 x3 (x4.set (x5 : Int).toNat ((rd_L1 x4 x5).set (x45 : Int).toNat (-1))) x5 x45 x44 x45 x3 0) else (none)) else (none)) else (none)) else (none)) else (impl_least.l0 k x0 x3 x4 (wrap64 (x5 - 1)))
def impl_least.l2 : Nat → List (List Int) → Int → List (List Int) → Int → Int → Int → Int → Int → Int → Option ((List (List Int)))
 | 0, _, _, _, _, _, _, _, _, _ => none
 | k + 1, x0, x3, x4, x5, x6, x44, x45, x54, x55 => if x55 < x54 then (if 0 ≤ x55 then (if (Go.bits .and .i64 (shr .i64 x6 x55) 1) = 1 then (impl_least.j4 k x0 x3 x4 x5 x6 x55 x44 x45 x54 x55 true) else (if 0 ≤ (wrap64 (x5 + 1)) then (if (wrap64 (x5 + 1)) < (x4.length : Int) then (if 0 ≤ (Go.bits .or .i64 x6 (shl .i64 1 x55)) then (if (Go.bits .or .i64 x6 (shl .i64 1 x55)) < ((rd_L1 x4 (wrap64 (x5 + 1))).length : Int) then (impl_least.j4 k x0 x3 x4 x5 x6 x55 x44 x45 x54 x55 (decide ((rd (rd_L1 x4 (wrap64 (x5 + 1))) (Go.bits .or .i64 x6 (shl .i64 1 x55))) < 0))) else (none)) else (none)) else (none)) else (none))) else (none)) else (impl_least.l1 k x0 x3 x4 x5 x44 (wrap64 (x45 + 1)))
def impl_least.j4 : Nat → List (List Int) → Int → List (List Int) → Int → Int → Int → Int → Int → Int → Int → Bool → Option ((List (List Int)))
 | 0, _, _, _, _, _, _, _, _, _, _, _ => none
 | k + 1, x0, x3, x4, x5, x6, x7, x44, x45, x54, x55, x76 => if x76 = true then (impl_least.l2 k x0 x3 x4 x5 x6 x44 x45 x54 (wrap64 (x55 + 1))) else (if 0 ≤ x5 then (if x5 < (x0.length : Int) then (if 0 ≤ x7 then (if x7 < ((rd_L1 x0 x5).length : Int) then (if 0 ≤ (wrap64 (x5 + 1)) then (if (wrap64 (x5 + 1)) < (x4.length : Int) then (if 0 ≤ (Go.bits .or .i64 x6 (shl .i64 1 x7)) then (if (Go.bits .or .i64 x6 (shl .i64 1 x7)) < ((rd_L1 x4 (wrap64 (x5 + 1))).length : Int) then (if x5 < (x4.length : Int) then (if 0 ≤ x6 then (if x6 < ((rd_L1 x4 x5).length : Int) then (if (rd (rd_L1 x4 x5) x6) < 0 then (impl_least.l2 k x0 x3 (x4.set (x5 : Int).toNat ((rd_L1 x4 x5).set (x6 : Int).toNat (wrap64 ((rd (rd_L1 x0 x5) x7) + (rd (rd_L1 x4 (wrap64 (x5 + 1))) (Go.bits .or .i64 x6 (shl .i64 1 x7))))))) x5 x6 x44 x45 x54 (wrap64 (x55 + 1))) else (if (wrap64 ((rd (rd_L1 x0 x5) x7) + (rd (rd_L1 x4 (wrap64 (x5 + 1))) (Go.bits .or .i64 x6 (shl .i64 1 x7))))) < (rd (rd_L1 x4 x5) x6) then (impl_least.l2 k x0 x3 (x4.set (x5 : Int).toNat ((rd_L1 x4 x5).set (x6 : Int).toNat (wrap64 ((rd (rd_L1 x0 x5) x7) + (rd (rd_L1 x4 (wrap64 (x5 + 1))) (Go.bits .or .i64 x6 (shl .i64 1 x7))))))) x5 x6 x44 x45 x54 (wrap64 (x55 + 1))) else (impl_least.l2 k x0 x3 x4 x5 x6 x44 x45 x54 (wrap64 (x55 + 1))))) else (none)) else (none)) else (none)) else (none)) else (none)) else (none)) else (none)) else (none)) else (none)) else (none)) else (none))
end
def impl_least.f (k : Nat) (l0 : List (List Int)) : Option ((List (List Int))) := if (l0.length : Int) > 0 then (if 0 < (l0.length : Int) then (impl_least.j0 k l0 ((rd_L1 l0 0).length : Int)) else (none)) else (impl_least.j0 k l0 0)
theorem impl_least.mono_l : ∀ k, (∀ y0 y1, LeO (impl_least.j0 k y0 y1) (impl_least.j0 (k + 1) y0 y1)) ∧ (∀ y0 y1 y2 y3, LeO (impl_least.l0 k y0 y1 y2 y3) (impl_least.l0 (k + 1) y0 y1 y2 y3)) ∧ (∀ y0 y1 y2 y3 y4 y5, LeO (impl_least.l1 k y0 y1 y2 y3 y4 y5) (impl_least.l1 (k + 1) y0 y1 y2 y3 y4 y5)) ∧ (∀ y0 y1 y2 y3 y4 y5 y6 y7 y8, LeO (impl_least.l2 k y0 y1 y2 y3 y4 y5 y6 y7 y8) (impl_least.l2 (k + 1) y0 y1 y2 y3 y4 y5 y6 y7 y8)) ∧ (∀ y0 y1 y2 y3 y4 y5 y6 y7 y8 y9 y10, LeO (impl_least.j4 k y0 y1 y2 y3 y4 y5 y6 y7 y8 y9 y10) (impl_least.j4 (k + 1) y0 y1 y2 y3 y4 y5 y6 y7 y8 y9 y10))
 | 0 => ⟨fun _ _ r h => by simp [impl_least.j0] at h, fun _ _ _ _ r h => by simp [impl_least.l0] at h, fun _ _ _ _ _ _ r h => by simp [impl_least.l1] at h, fun _ _ _ _ _ _ _ _ _ r h => by simp [impl_least.l2] at h, fun _ _ _ _ _ _ _ _ _ _ _ r h => by simp [impl_least.j4] at h⟩
 | k + 1 => by
  obtain ⟨ih0, ih1, ih2, ih3, ih4⟩ := impl_least.mono_l k
  refine ⟨?_, ?_, ?_, ?_, ?_⟩
  {
  intro y0 y1
  unfold impl_least.j0
  exact qL
  }
  {
  intro y0 y1 y2 y3
  unfold impl_least.l0
  exact qL
  }
  {
  intro y0 y1 y2 y3 y4 y5
  unfold impl_least.l1
  exact qL
  }
  {
  intro y0 y1 y2 y3 y4 y5 y6 y7 y8
  unfold impl_least.l2
  exact qL
  }
  {
  intro y0 y1 y2 y3 y4 y5 y6 y7 y8 y9 y10
  unfold impl_least.j4
  exact qL
  }
theorem impl_least.mono : ∀ a0 k, LeO (impl_least.f k a0) (impl_least.f (k + 1) a0) := by
 intro a0 k
 obtain ⟨ih0, ih1, ih2, ih3, ih4⟩ := impl_least.mono_l k
 unfold impl_least.f
 exact qL
set_option maxHeartbeats 8000000 in
set_option maxRecDepth 100000 in
theorem impl_least.calls (k : Nat) (A0 : Option Addr) (c0 : Nat) (l0 : List (List Int)) (r : List (List Int)) (w : World) (hr0 : Kd.C (Kd.slice 3 (Kd.int .i64)) w A0 l0.length l0) (hc0 : l0.length ≤ c0) (h : impl_least.f k l0 = some r) :
  Calls Try.prog 38 #[.slice A0 l0.length c0] w fun e w' => ∃ v0_ : Value, e = .returned (v0_) ∧ Kd.S (Kd.slice 3 (Kd.int .i64)) 24 w' w.heap.size (fun _ => True) v0_ r ∧ Below w.heap.size w w' := by
 have HR0 := aM hr0
 have HC0 := aM hc0
 clear hr0 hc0
 have HB := aM (Below.refl w.heap.size w)
 unfold impl_least.f at h
 have H := h
 clear h
 have HC2 := aM H
 clear H
 go_enter Try.func38, Try.ntmps38
 go_upto_if 11 with (fail)
 repeat (go_quiet (fail); go_upto_if 11 with (fail))
 go_cut [3] (fun v3 wc => ∃ (kq : Nat) (x3_1 : Int), v3 = .int .i64 x3_1 ∧ Aside0 (impl_least.j0 kq l0 x3_1 = some r) ∧ Aside0 (kq ≤ k) ∧ Aside0 (Below w.heap.size w wc))
 case first =>
  have H := HC2.out
  clear HC2
  replace H := iS_ H
  rcases H with ⟨c3, H⟩ | ⟨c3, H⟩
  {
  have c3b0 := decide_eq_true c3
  have c3b1 : decide (0 < l0.length) = true := decide_eq_true (by omega)
  clear c3
  (first | rw [c3b0] | (simp only [i64_w, i32_w]; rw [c3b0]) | rw [@decide_eq_true _ _ (of_decide_eq_true c3b0)] | rw [@decide_eq_true _ _ (of_decide_eq_true c3b1)] | skip)
  replace H := iN_ H
  obtain ⟨c4, H⟩ := H
  have c4b0 := decide_eq_true c4
  have c4b1 : decide (0 < l0.length) = true := decide_eq_true (by omega)
  clear c4
  have H' := aM H
  clear H
  have p106 : 0 ≤ (0 : Int) := (by omega)
  have q106 : 0 < (l0.length : Int) := dt_
  obtain ⟨ad106, A106_0, c106_0, e106, hx106_0, hl106_0, hi106_0⟩ := at_L1 HR0.out 0 p106 q106
  cases e106
  have qi106 : (0 < l0.length) = True := eq_true (by omega)
  (try rw [show ((0 : Int)).toNat = 0 from rfl] at hx106_0)
  (try rw [Addr.add_zero'] at hx106_0)
  replace hx106_0 := cB_ hx106_0
  have HR106_0 := aM hi106_0
  have HC106_0 := aM hl106_0
  clear hi106_0 hl106_0
  replace p106 := eq_true p106
  replace q106 := eq_true q106
  go_wp2
  repeat (go_quiet (fail); try go_wp2)
  go_meet
  case rel => exact ⟨_, (((rd_L1 l0 0).length : Int)), qz3, H', ⟨by first | omega | exact Nat.le_refl _⟩, ⟨qz1⟩⟩
  }
  {
  have c3b0 := decide_eq_false c3
  have c3b1 : decide (0 < l0.length) = false := decide_eq_false (by omega)
  clear c3
  (first | rw [c3b0] | (simp only [i64_w, i32_w]; rw [c3b0]) | rw [@decide_eq_false _ _ (of_decide_eq_false c3b0)] | rw [@decide_eq_false _ _ (of_decide_eq_false c3b1)] | skip)
  have H' := aM H
  clear H
  go_wp2
  repeat (go_quiet (fail); try go_wp2)
  go_meet
  case rel => exact ⟨_, (0), qz3, H', ⟨by first | omega | exact Nat.le_refl _⟩, ⟨qz1⟩⟩
  }
 case rest =>
 clear HC2
 try clear qi1
 obtain ⟨kq, x3_1, rfl, HA, HJ1, HB⟩ := hcut
 cases kq with
 | zero => exact absurd HA.out (by simp [impl_least.j0])
 | succ kj1 =>
 have H := HA.out
 clear HA
 simp only [impl_least.j0] at H
 obtain ⟨ji5, hji5⟩ : ∃ j_ : Int, (wrap64 ((l0.length : Int) + 1)) = j_ := ⟨_, rfl⟩
 replace H : (if 0 ≤ (ji5) then (if (ji5 : Int).toNat ≤ 11728124029610 then ((some (List.replicate (ji5 : Int).toNat [] : List (List Int))).bind fun y107 => (if 0 ≤ x3_1 then (if 0 ≤ (shl .i64 1 x3_1) then (if (shl .i64 1 x3_1 : Int).toNat ≤ 35184372088832 then (if 0 ≤ (l0.length : Int) then (if (l0.length : Int) < (y107.length : Int) then (impl_least.l0 kj1 l0 x3_1 (y107.set ((l0.length : Int) : Int).toNat (List.replicate (shl .i64 1 x3_1 : Int).toNat 0)) (wrap64 ((l0.length : Int) - 1))) else (none)) else (none)) else (none)) else (none)) else (none))) else (none)) else (none)) = some r := by first | (rw [hji5] at H; exact H) | (simp only [hji5] at H ⊢; exact H)
 have hji5w : (IntKind.i64.wrap ((l0.length : Int) + 1)) = ji5 := (i64_w _).trans hji5
 replace H := iN_ H
 obtain ⟨c6, H⟩ := H
 have c6b0 := eq_true c6
 have c6b1 := decide_eq_true c6
 clear c6
 replace H := iN_ H
 obtain ⟨c7, H⟩ := H
 have c7b0 := eq_true c7
 have c7b1 := decide_eq_true c7
 clear c7
 obtain ⟨y107, hy107⟩ : ∃ y_ : List (List Int), y_ = (List.replicate (ji5 : Int).toNat []) := ⟨_, rfl⟩
 replace H := yB_ hy107 H
 have Ny107 := aM hy107
 clear hy107
 replace H := iN_ H
 obtain ⟨c8, H⟩ := H
 have c8b0 := eq_true c8
 have c8b1 := decide_eq_true c8
 clear c8
 obtain ⟨ji9, hji9⟩ : ∃ j_ : Int, (shl .i64 1 x3_1) = j_ := ⟨_, rfl⟩
 replace H : (if 0 ≤ (ji9) then (if (ji9 : Int).toNat ≤ 35184372088832 then (if 0 ≤ (l0.length : Int) then (if (l0.length : Int) < (y107.length : Int) then (impl_least.l0 kj1 l0 x3_1 (y107.set ((l0.length : Int) : Int).toNat (List.replicate (ji9 : Int).toNat 0)) (wrap64 ((l0.length : Int) - 1))) else (none)) else (none)) else (none)) else (none)) = some r := by first | (rw [hji9] at H; exact H) | (simp only [hji9] at H ⊢; exact H)
 have hji9_ : (IntKind.i64.wrap (1 * 2 ^ min x3_1.toNat 64)) = ji9 := hji9
 have hji9z : x3_1 ≤ 64 → (IntKind.i64.wrap (1 * 2 ^ x3_1.toNat)) = ji9 := shl_small hji9
 have hji9u : (IntKind.i64.wrap (2 ^ min x3_1.toNat 64)) = ji9 := by have h_ := hji9_; rw [Int.one_mul] at h_; exact h_
 have hji9v : x3_1 ≤ 64 → (IntKind.i64.wrap (2 ^ x3_1.toNat)) = ji9 := fun hle_ => by have h_ := hji9z hle_; rw [Int.one_mul] at h_; exact h_
 have hji9y : (wrap64 (1 * 2 ^ min x3_1.toNat 64)) = ji9 := (i64_w _).symm.trans hji9_
 have hji9x : x3_1 ≤ 64 → (wrap64 (1 * 2 ^ x3_1.toNat)) = ji9 := fun h_ => (i64_w _).symm.trans (hji9z h_)
 replace H := iN_ H
 obtain ⟨c10, H⟩ := H
 have c10b0 := eq_true c10
 have c10b1 := decide_eq_true c10
 clear c10
 replace H := iN_ H
 obtain ⟨c11, H⟩ := H
 have c11b0 := eq_true c11
 have c11b1 := decide_eq_true c11
 clear c11
 obtain ⟨y110, hy110⟩ : ∃ y_ : List Int, y_ = (List.replicate (ji9 : Int).toNat 0) := ⟨_, rfl⟩
 replace H : (if 0 ≤ (l0.length : Int) then (if (l0.length : Int) < (y107.length : Int) then (impl_least.l0 kj1 l0 x3_1 (y107.set ((l0.length : Int) : Int).toNat y110) (wrap64 ((l0.length : Int) - 1))) else (none)) else (none)) = some r := by first | (rw [hy110]; exact H) | exact H
 have Ny110 := aM hy110
 clear hy110
 replace H := iN_ H
 obtain ⟨c12, H⟩ := H
 have c12b0 := decide_eq_true c12
 have c12b1 : decide (0 ≤ l0.length) = true := decide_eq_true (by omega)
 clear c12
 replace H := iN_ H
 obtain ⟨c13, H⟩ := H
 have c13b0 := decide_eq_true c13
 have c13b1 : decide (l0.length < y107.length) = true := decide_eq_true (Int.ofNat_lt.mp c13)
 clear c13
 obtain ⟨y113, hy113⟩ : ∃ y_ : List (List Int), y_ = (y107.set ((l0.length : Int) : Int).toNat y110) := ⟨_, rfl⟩
 replace H : (impl_least.l0 kj1 l0 x3_1 y113 (wrap64 ((l0.length : Int) - 1))) = some r := by first | (rw [hy113]; exact H) | exact H
 have Ny113 := aM hy113
 clear hy113
 have H' := aM H
 clear H
 go_wp2_with (first | ((with_reducible refine gate_dst (N := 19) rfl ?_); refine Kd.S_make (Kd.slice 3 (Kd.int .i64)) _ 24 rfl (N := 19) rfl 22 _ _ rfl ji5 rfl rfl Try.underlying22 (.slice none 0 0) 24 info24 rfl (by decide) (by omega) [] (ok := fun _ => True) (okp := fun _ => True) ⟨_, rfl, Kd.R_nil _ _ _ _ _⟩ (fun _ hk => hk) trivial (dt_) (Nat.le_trans (Nat.mul_le_mul_right _ (dt_ : ji5.toNat ≤ 11728124029610)) (by omega)) (Below.refl _ _) (Nat.le_refl _) ?_; intro v108 w15 ho16 hb hg_ hnew_; clear hg_ hnew_; (first | rw [← Ny107.out] at ho16 | (simp only [Int.reduceToNat] at ho16; rw [← Ny107.out] at ho16)); have HO109 := aM (Kd.S_lower ho16 (below_size qz1)); replace HB := bS_ hb; clear hb ho16) | ((with_reducible refine gate_dst (N := 25) rfl ?_); refine Kd.R_make (Kd.int .i64) _ 3 rfl (N := 25) rfl 24 _ _ rfl ji9 rfl rfl Try.underlying24 (.int .i64 0) 8 info3 rfl (by decide) (by omega) 0 (ok := fun _ => True) (okp := fun _ => True) rfl (fun _ hk => hk) trivial (dt_) (Nat.le_trans (Nat.mul_le_mul_right _ (dt_ : ji9.toNat ≤ 35184372088832)) (by omega)) (Below.refl _ _) (Nat.le_refl _) ?_; intro v111 w17 ho18 hb hg_ hnew_; clear hg_ hnew_; (first | rw [← Ny110.out] at ho18 | (simp only [Int.reduceToNat] at ho18; rw [← Ny110.out] at ho18)); replace HO109 := aM (Kd.S_elder' (rs_ HO109.out) (Kd.R_base ho18) hb); have HO112 := aM (Kd.R_lower ho18 (below_size qz1)); replace HB := bS_ hb; clear hb ho18; have p14 : 0 ≤ ((l0.length : Int) : Int) := dt_; have q14 : ((l0.length : Int) : Int) < ((y107.length : Int) : Int) := dt_; obtain ⟨go14, co14, eo14, gb14, gl14, cl14, HG14⟩ := Kd.S_form HO109.out (by omega); (first | cases eo14 | (injection eo14 with ea_ en_ ec_; (first | subst ea_ | (injection ea_ with ea_; subst ea_)); subst ec_; clear en_)); have GB14 := aM gb14; have GG14 := aM HG14; clear gb14 gl14 HG14; obtain ⟨_, ce14, hcl14, hM14, hcc14, hfr14, _, _⟩ := Kd.S_elem HO109.out [] ((l0.length : Int) : Int) p14 q14; obtain ⟨ve14_0, rfl, ge14_0⟩ := hM14; have hx14_0 := hcc14 0 _ rfl; have hf14_0 := hfr14 0; (try simp only [show ((Kd.slice 3 (Kd.int .i64))).sz = 1 from rfl, Nat.mul_one, Nat.add_zero, Int.toNat_natCast] at hx14_0); (try simp only [show ((Kd.slice 3 (Kd.int .i64))).sz = 1 from rfl, Nat.mul_one, Nat.add_zero, Int.toNat_natCast] at hf14_0); clear hcl14 hcc14 hfr14; (try clear hM14); replace p14 := eq_true p14; replace q14 := eq_true q14; have n_ := aM (Kd.S_mono (ok' := (fun k_ => some k_ ≠ (v111 : Value).ownBlock)) HO109.out (fun k_ hk => hk.2)); clear HO109; have HO109 := n_; clear n_; have HX19 := aM (show Kd.S (Kd.slice 3 (Kd.int .i64)) 24 w17 w.heap.size (fun k_ => ((fun _ => True)) k_ ∧ ¬ ((fun k_ => some k_ = (v111 : Value).ownBlock)) k_) (.slice (some ⟨go14, 0, none⟩) y107.length co14) y107 from (by (with_reducible repeat (first | apply Kd.S_alloc | apply Kd.S_drewN | apply Kd.S_drew)); exact Kd.S_mono HO109.out (fun k_ hk => ⟨trivial, fun e_ => hk e_⟩))); obtain ⟨oki19, ce19, hcl19, hM19, hcc19, hfr19, hoki19, hH19⟩ := Kd.S_elem HX19.out [] ((l0.length : Int) : Int) (dt_) (by have h_ : ((l0.length : Int) : Int) < ((y107.length : Int) : Int) := dt_; first | exact h_ | (have e_ := (Kd.S_reads' HO109.out).1; omega) | simpa using h_); obtain ⟨ve19_0, rfl, ge19_0⟩ := hM19; have HP19 := Kd.S_seg hH19 (dt_) (by have h_ : ((l0.length : Int) : Int) < ((y107.length : Int) : Int) := dt_; first | exact h_ | (have e_ := (Kd.S_reads' HO109.out).1; omega) | simpa using h_) (seg := [v111]) (j := 0) (show 1 ≤ 1 from by decide) (x' := y110) (Kd.M_row (Kd.R_mono (Kd.R_tight rfl (Kd.R_mono (ok' := fun k_ => ((fun _ => True)) k_ ∧ k_ ≠ go14) (Kd.R_apart' (HO112.out) (Kd.S_typed HO109.out) (by decide)) (fun k_ hk => ⟨trivial, fun e_ => (hk.2) (by rw [e_]; rfl)⟩))) (fun _ h_ => Or.inr (h_)))) (fun _ hk => hk) (fun k_ hk_ => ((Kd.R_mono (ok' := fun k_ => ((fun _ => True)) k_ ∧ k_ ≠ go14) (Kd.R_apart' (HO112.out) (Kd.S_typed HO109.out) (by decide)) (fun k_ hk => ⟨trivial, fun e_ => (hk.2) (by rw [e_]; rfl)⟩))).1 k_ hk_.symm); have hx19_0 := hcc19 0 _ rfl; (try simp only [show ((Kd.slice 3 (Kd.int .i64))).sz = 1 from rfl, Nat.mul_one, Nat.add_zero] at hx19_0); have hf19_0 := hfr19 0; (try simp only [show ((Kd.slice 3 (Kd.int .i64))).sz = 1 from rfl, Nat.mul_one, Nat.add_zero] at hf19_0); clear hcl19 hcc19 hfr19; (try clear hM19); clear hoki19 hH19; (try simp only [show ((Kd.slice 3 (Kd.int .i64))).sz = 1 from rfl, Nat.mul_one, Nat.add_zero, Int.toNat_natCast] at HP19)) | ((with_reducible refine gate_store (t := 24) (p := 26) rfl ?_); (try (rw [drewN_self w17]; generalize hq_ : World.drewN w17 _ = w17; replace HO109 := aM (Kd.S_at hq_ HO109.out); replace HB := aM (below_at hq_ HB.out); clear hq_; (try (have n_ := aM (Kd.S_mono (ok' := (fun k_ => some k_ ≠ (v111 : Value).ownBlock)) HO109.out (fun k_ hk => hk.2)); clear HO109; have HO109 := n_; clear n_)); (try (have HX19 := aM (show Kd.S (Kd.slice 3 (Kd.int .i64)) 24 w17 w.heap.size (fun k_ => ((fun _ => True)) k_ ∧ ¬ ((fun k_ => some k_ = (v111 : Value).ownBlock)) k_) (.slice (some ⟨go14, 0, none⟩) y107.length co14) y107 from (by (with_reducible repeat (first | apply Kd.S_alloc | apply Kd.S_drewN | apply Kd.S_drew)); exact Kd.S_mono HO109.out (fun k_ hk => ⟨trivial, fun e_ => hk e_⟩))))); (try (obtain ⟨oki19, ce19, hcl19, hM19, hcc19, hfr19, hoki19, hH19⟩ := Kd.S_elem HX19.out [] ((l0.length : Int) : Int) (dt_) (by have h_ : ((l0.length : Int) : Int) < ((y107.length : Int) : Int) := dt_; first | exact h_ | (have e_ := (Kd.S_reads' HO109.out).1; omega) | simpa using h_))); (try (obtain ⟨ve19_0, rfl, ge19_0⟩ := hM19)); (try (have HP19 := Kd.S_seg hH19 (dt_) (by have h_ : ((l0.length : Int) : Int) < ((y107.length : Int) : Int) := dt_; first | exact h_ | (have e_ := (Kd.S_reads' HO109.out).1; omega) | simpa using h_) (seg := [v111]) (j := 0) (show 1 ≤ 1 from by decide) (x' := y110) (Kd.M_row (Kd.R_mono (Kd.R_tight rfl (Kd.R_mono (ok' := fun k_ => ((fun _ => True)) k_ ∧ k_ ≠ go14) (Kd.R_apart' (HO112.out) (Kd.S_typed HO109.out) (by decide)) (fun k_ hk => ⟨trivial, fun e_ => (hk.2) (by rw [e_]; rfl)⟩))) (fun _ h_ => Or.inr (h_)))) (fun _ hk => hk) (fun k_ hk_ => ((Kd.R_mono (ok' := fun k_ => ((fun _ => True)) k_ ∧ k_ ≠ go14) (Kd.R_apart' (HO112.out) (Kd.S_typed HO109.out) (by decide)) (fun k_ hk => ⟨trivial, fun e_ => (hk.2) (by rw [e_]; rfl)⟩))).1 k_ hk_.symm))); (try (have hx19_0 := hcc19 0 _ rfl)); (try (try simp only [show ((Kd.slice 3 (Kd.int .i64))).sz = 1 from rfl, Nat.mul_one, Nat.add_zero] at hx19_0)); (try (have hf19_0 := hfr19 0)); (try (try simp only [show ((Kd.slice 3 (Kd.int .i64))).sz = 1 from rfl, Nat.mul_one, Nat.add_zero] at hf19_0)); (try (clear hcl19 hcc19 hfr19; (try clear hM19); clear hoki19 hH19)); (try (try simp only [show ((Kd.slice 3 (Kd.int .i64))).sz = 1 from rfl, Nat.mul_one, Nat.add_zero, Int.toNat_natCast] at HP19)))); refine store_event (t := 24) (p := 26) (v := ?vo_w20) (w1 := (w17.setCell ⟨go14, ((l0.length : Int) : Int).toNat, none⟩ (v111))) ?hg ?ho ?hn ?hr ?_; (case ho => rfl); (case hg => rfl); (case hn => rfl); (case hr => first | (go_simp; done) | (go_simp; rfl) | (obtain ⟨A_, c_, e_⟩ := Kd.R_slice (show Kd.R _ _ _ _ _ v111 _ from Aside0.out (by assumption)); rw [e_]; go_simp; done)); intro w20 hw; have hg : w17.grownBy w20 (some go14) := (by rw [hw]; exact HP19.2); have hp_ : Kd.S (Kd.slice 3 (Kd.int .i64)) 24 w20 w.heap.size (fun _ => True) (.slice (some ⟨go14, 0, none⟩) y107.length co14) y113 := (by rw [hw, Ny113.out]; exact HP19.1); clear HP19; replace HO109 := aM (hp_); replace HB := aM ((by rw [hw]; exact below_set (HB.out) GB14.out : Below w.heap.size w w20)); clear HO112; clear hg hw hp_) | go_quiet (fail))
 go_loopg [5] kj1 (fun kq v5 w' => ∃ (x4_2 : List (List Int)) (x5_2 : Int), v5 = .int .i64 x5_2 ∧ Aside0 (impl_least.l0 kq l0 x3_1 x4_2 x5_2 = some r) ∧ Aside0 (kq ≤ kj1) ∧ Aside0 (Kd.S (Kd.slice 3 (Kd.int .i64)) 24 w' w.heap.size (fun _ => True) (.slice (some ⟨go14, 0, none⟩) y107.length co14) x4_2) ∧ Aside0 (Below w.heap.size w w'))
 case atStart => exact ⟨(y113), (wrap64 ((l0.length : Int) - 1)), qz3, H', ⟨Nat.le_refl _⟩, ⟨rs_ HO109.out⟩, ⟨qz1⟩⟩
 case round =>
 clear H'
 try clear qi1
 try clear hf1
 try clear c6
 try clear c6b0
 try clear c6b1
 try clear c7
 try clear c7b0
 try clear c7b1
 try clear c8
 try clear c8b0
 try clear c8b1
 try clear c10
 try clear c10b0
 try clear c10b1
 try clear qi10
 try clear c11
 try clear c11b0
 try clear c11b1
 try clear c12
 try clear c12b0
 try clear c12b1
 try clear c13
 try clear c13b0
 try clear c13b1
 try clear p14
 try clear q14
 try clear hf14
 try clear hf19
 try clear hx14_0
 try clear hx19_0
 obtain ⟨x4_2, x5_2, rfl, HA, HK2, HO_4, HB⟩ := hrel
 have hl4_2 := (Kd.S_reads' HO_4.out).1
 rw [hl4_2] at HO_4
 (try simp only [hl4_2])
 cases gk with
 | zero => exact absurd HA.out (by simp [impl_least.l0])
 | succ k2 =>
 have H := HA.out
 clear HA
 simp only [impl_least.l0] at H
 replace H := iE_ H
 rcases H with ⟨c21b0, H⟩ | ⟨c21b0, H⟩
 {
 replace H := iN_ H
 obtain ⟨c22, H⟩ := H
 have c22b0 := eq_true c22
 have c22b1 := decide_eq_true c22
 clear c22
 obtain ⟨ji23, hji23⟩ : ∃ j_ : Int, (shl .i64 1 x3_1) = j_ := ⟨_, rfl⟩
 obtain rfl : ji23 = ji9 := hji23.symm.trans hji9
 replace H : (if 0 ≤ (ji23) then (if (ji23 : Int).toNat ≤ 35184372088832 then (if 0 ≤ x5_2 then (if x5_2 < (x4_2.length : Int) then ((some (x4_2.set (x5_2 : Int).toNat (List.replicate (ji23 : Int).toNat 0) : List (List Int))).bind fun y117 => (impl_least.l1 k2 l0 x3_1 y117 x5_2 ((rd_L1 y117 x5_2).length : Int) 0)) else (none)) else (none)) else (none)) else (none)) = some r := by first | (rw [hji23] at H; exact H) | (simp only [hji23] at H ⊢; exact H)
 have hji23_ : (IntKind.i64.wrap (1 * 2 ^ min x3_1.toNat 64)) = ji23 := hji23
 have hji23z : x3_1 ≤ 64 → (IntKind.i64.wrap (1 * 2 ^ x3_1.toNat)) = ji23 := shl_small hji23
 have hji23u : (IntKind.i64.wrap (2 ^ min x3_1.toNat 64)) = ji23 := by have h_ := hji23_; rw [Int.one_mul] at h_; exact h_
 have hji23v : x3_1 ≤ 64 → (IntKind.i64.wrap (2 ^ x3_1.toNat)) = ji23 := fun hle_ => by have h_ := hji23z hle_; rw [Int.one_mul] at h_; exact h_
 have hji23y : (wrap64 (1 * 2 ^ min x3_1.toNat 64)) = ji23 := (i64_w _).symm.trans hji23_
 have hji23x : x3_1 ≤ 64 → (wrap64 (1 * 2 ^ x3_1.toNat)) = ji23 := fun h_ => (i64_w _).symm.trans (hji23z h_)
 replace H := iN_ H
 obtain ⟨c24, H⟩ := H
 have c24b0 := eq_true c24
 have c24b1 := decide_eq_true c24
 clear c24
 replace H := iN_ H
 obtain ⟨c25, H⟩ := H
 have c25b0 := eq_true c25
 have c25b1 := decide_eq_true c25
 clear c25
 obtain ⟨y114, hy114⟩ : ∃ y_ : List Int, y_ = (List.replicate (ji23 : Int).toNat 0) := ⟨_, rfl⟩
 replace H : (if 0 ≤ x5_2 then (if x5_2 < (x4_2.length : Int) then ((some (x4_2.set (x5_2 : Int).toNat y114 : List (List Int))).bind fun y117 => (impl_least.l1 k2 l0 x3_1 y117 x5_2 ((rd_L1 y117 x5_2).length : Int) 0)) else (none)) else (none)) = some r := by first | (rw [hy114]; exact H) | exact H
 have Ny114 := aM hy114
 clear hy114
 replace H := iD_ H
 obtain ⟨c26b0, H⟩ := H
 replace H := iN_ H
 obtain ⟨c27, H⟩ := H
 have c27b0 := decide_eq_true c27
 (try (have c27b0q4_2 := c27b0; simp only [hl4_2] at c27b0q4_2))
 clear c27
 obtain ⟨y117, hy117⟩ : ∃ y_ : List (List Int), y_ = (x4_2.set (x5_2 : Int).toNat y114) := ⟨_, rfl⟩
 replace H := yB_ hy117 H
 have Ny117 := aM hy117
 clear hy117
 have H' := aM H
 clear H
 go_wp2_with (first | ((with_reducible refine gate_dst (N := 38) rfl ?_); refine Kd.R_make (Kd.int .i64) _ 3 rfl (N := 38) rfl 24 _ _ rfl ji23 rfl rfl Try.underlying24 (.int .i64 0) 8 info3 rfl (by decide) (by omega) 0 (ok := fun _ => True) (okp := fun _ => True) rfl (fun _ hk => hk) trivial (dt_) (Nat.le_trans (Nat.mul_le_mul_right _ (dt_ : ji23.toNat ≤ 35184372088832)) (by omega)) (Below.refl _ _) (Nat.le_refl _) ?_; intro v115 w29 ho30 hb hg_ hnew_; clear hg_ hnew_; (first | rw [← Ny114.out] at ho30 | (simp only [Int.reduceToNat] at ho30; rw [← Ny114.out] at ho30)); replace HO_4 := aM (Kd.S_elder' (rs_ HO_4.out) (Kd.R_base ho30) hb); have HO116 := aM (Kd.R_lower ho30 (below_size qz1)); replace HB := bS_ hb; clear hb ho30; have p28 : 0 ≤ (x5_2 : Int) := dt_; have q28 : (x5_2 : Int) < ((x4_2.length : Int) : Int) := dt_; obtain ⟨_, ce28, hcl28, hM28, hcc28, hfr28, _, _⟩ := Kd.S_elem HO_4.out [] (x5_2 : Int) p28 q28; obtain ⟨ve28_0, rfl, ge28_0⟩ := hM28; have hx28_0 := hcc28 0 _ rfl; have hf28_0 := hfr28 0; (try simp only [show ((Kd.slice 3 (Kd.int .i64))).sz = 1 from rfl, Nat.mul_one, Nat.add_zero, Int.toNat_natCast] at hx28_0); (try simp only [show ((Kd.slice 3 (Kd.int .i64))).sz = 1 from rfl, Nat.mul_one, Nat.add_zero, Int.toNat_natCast] at hf28_0); clear hcl28 hcc28 hfr28; (try clear hM28); replace p28 := eq_true p28; replace q28 := eq_true q28; have n_ := aM (Kd.S_mono (ok' := (fun k_ => some k_ ≠ (v115 : Value).ownBlock)) HO_4.out (fun k_ hk => hk.2)); clear HO_4; have HO_4 := n_; clear n_; have HX31 := aM (show Kd.S (Kd.slice 3 (Kd.int .i64)) 24 w29 w.heap.size (fun k_ => ((fun _ => True)) k_ ∧ ¬ ((fun k_ => some k_ = (v115 : Value).ownBlock)) k_) (.slice (some ⟨go14, 0, none⟩) x4_2.length co14) x4_2 from (by (with_reducible repeat (first | apply Kd.S_alloc | apply Kd.S_drewN | apply Kd.S_drew)); exact Kd.S_mono HO_4.out (fun k_ hk => ⟨trivial, fun e_ => hk e_⟩))); obtain ⟨oki31, ce31, hcl31, hM31, hcc31, hfr31, hoki31, hH31⟩ := Kd.S_elem HX31.out [] (x5_2 : Int) (dt_) (by have h_ : (x5_2 : Int) < ((x4_2.length : Int) : Int) := dt_; first | exact h_ | (have e_ := (Kd.S_reads' HO_4.out).1; omega) | simpa using h_); obtain ⟨ve31_0, rfl, ge31_0⟩ := hM31; have HP31 := Kd.S_seg hH31 (dt_) (by have h_ : (x5_2 : Int) < ((x4_2.length : Int) : Int) := dt_; first | exact h_ | (have e_ := (Kd.S_reads' HO_4.out).1; omega) | simpa using h_) (seg := [v115]) (j := 0) (show 1 ≤ 1 from by decide) (x' := y114) (Kd.M_row (Kd.R_mono (Kd.R_tight rfl (Kd.R_mono (ok' := fun k_ => ((fun _ => True)) k_ ∧ k_ ≠ go14) (Kd.R_apart' (HO116.out) (Kd.S_typed HO_4.out) (by decide)) (fun k_ hk => ⟨trivial, fun e_ => (hk.2) (by rw [e_]; rfl)⟩))) (fun _ h_ => Or.inr (h_)))) (fun _ hk => hk) (fun k_ hk_ => ((Kd.R_mono (ok' := fun k_ => ((fun _ => True)) k_ ∧ k_ ≠ go14) (Kd.R_apart' (HO116.out) (Kd.S_typed HO_4.out) (by decide)) (fun k_ hk => ⟨trivial, fun e_ => (hk.2) (by rw [e_]; rfl)⟩))).1 k_ hk_.symm); have hx31_0 := hcc31 0 _ rfl; (try simp only [show ((Kd.slice 3 (Kd.int .i64))).sz = 1 from rfl, Nat.mul_one, Nat.add_zero] at hx31_0); have hf31_0 := hfr31 0; (try simp only [show ((Kd.slice 3 (Kd.int .i64))).sz = 1 from rfl, Nat.mul_one, Nat.add_zero] at hf31_0); clear hcl31 hcc31 hfr31; (try clear hM31); clear hoki31 hH31; (try simp only [show ((Kd.slice 3 (Kd.int .i64))).sz = 1 from rfl, Nat.mul_one, Nat.add_zero, Int.toNat_natCast] at HP31)) | ((with_reducible refine gate_store (t := 24) (p := 39) rfl ?_); (try (rw [drewN_self w29]; generalize hq_ : World.drewN w29 _ = w29; replace HO_4 := aM (Kd.S_at hq_ HO_4.out); replace HB := aM (below_at hq_ HB.out); clear hq_; (try (have n_ := aM (Kd.S_mono (ok' := (fun k_ => some k_ ≠ (v115 : Value).ownBlock)) HO_4.out (fun k_ hk => hk.2)); clear HO_4; have HO_4 := n_; clear n_)); (try (have HX31 := aM (show Kd.S (Kd.slice 3 (Kd.int .i64)) 24 w29 w.heap.size (fun k_ => ((fun _ => True)) k_ ∧ ¬ ((fun k_ => some k_ = (v115 : Value).ownBlock)) k_) (.slice (some ⟨go14, 0, none⟩) x4_2.length co14) x4_2 from (by (with_reducible repeat (first | apply Kd.S_alloc | apply Kd.S_drewN | apply Kd.S_drew)); exact Kd.S_mono HO_4.out (fun k_ hk => ⟨trivial, fun e_ => hk e_⟩))))); (try (obtain ⟨oki31, ce31, hcl31, hM31, hcc31, hfr31, hoki31, hH31⟩ := Kd.S_elem HX31.out [] (x5_2 : Int) (dt_) (by have h_ : (x5_2 : Int) < ((x4_2.length : Int) : Int) := dt_; first | exact h_ | (have e_ := (Kd.S_reads' HO_4.out).1; omega) | simpa using h_))); (try (obtain ⟨ve31_0, rfl, ge31_0⟩ := hM31)); (try (have HP31 := Kd.S_seg hH31 (dt_) (by have h_ : (x5_2 : Int) < ((x4_2.length : Int) : Int) := dt_; first | exact h_ | (have e_ := (Kd.S_reads' HO_4.out).1; omega) | simpa using h_) (seg := [v115]) (j := 0) (show 1 ≤ 1 from by decide) (x' := y114) (Kd.M_row (Kd.R_mono (Kd.R_tight rfl (Kd.R_mono (ok' := fun k_ => ((fun _ => True)) k_ ∧ k_ ≠ go14) (Kd.R_apart' (HO116.out) (Kd.S_typed HO_4.out) (by decide)) (fun k_ hk => ⟨trivial, fun e_ => (hk.2) (by rw [e_]; rfl)⟩))) (fun _ h_ => Or.inr (h_)))) (fun _ hk => hk) (fun k_ hk_ => ((Kd.R_mono (ok' := fun k_ => ((fun _ => True)) k_ ∧ k_ ≠ go14) (Kd.R_apart' (HO116.out) (Kd.S_typed HO_4.out) (by decide)) (fun k_ hk => ⟨trivial, fun e_ => (hk.2) (by rw [e_]; rfl)⟩))).1 k_ hk_.symm))); (try (have hx31_0 := hcc31 0 _ rfl)); (try (try simp only [show ((Kd.slice 3 (Kd.int .i64))).sz = 1 from rfl, Nat.mul_one, Nat.add_zero] at hx31_0)); (try (have hf31_0 := hfr31 0)); (try (try simp only [show ((Kd.slice 3 (Kd.int .i64))).sz = 1 from rfl, Nat.mul_one, Nat.add_zero] at hf31_0)); (try (clear hcl31 hcc31 hfr31; (try clear hM31); clear hoki31 hH31)); (try (try simp only [show ((Kd.slice 3 (Kd.int .i64))).sz = 1 from rfl, Nat.mul_one, Nat.add_zero, Int.toNat_natCast] at HP31)))); refine store_event (t := 24) (p := 39) (v := ?vo_w32) (w1 := (w29.setCell ⟨go14, (x5_2 : Int).toNat, none⟩ (v115))) ?hg ?ho ?hn ?hr ?_; (case ho => rfl); (case hg => rfl); (case hn => rfl); (case hr => first | (go_simp; done) | (go_simp; rfl) | (obtain ⟨A_, c_, e_⟩ := Kd.R_slice (show Kd.R _ _ _ _ _ v115 _ from Aside0.out (by assumption)); rw [e_]; go_simp; done)); intro w32 hw; have hg : w29.grownBy w32 (some go14) := (by rw [hw]; exact HP31.2); have hp_ : Kd.S (Kd.slice 3 (Kd.int .i64)) 24 w32 w.heap.size (fun _ => True) (.slice (some ⟨go14, 0, none⟩) x4_2.length co14) y117 := (by rw [hw, Ny117.out]; exact HP31.1); clear HP31; replace HO_4 := aM (hp_); replace HB := aM ((by rw [hw]; exact below_set (HB.out) GB14.out : Below w.heap.size w w32)); clear HO116; clear hg hw hp_; have p118 : 0 ≤ (x5_2 : Int) := dt_; have q118 : x5_2 < (y117.length : Int) := (by have h_ : (x5_2 : Int) < ((x4_2.length : Int) : Int) := dt_; first | (have e_ := (Kd.S_reads' HO_4.out).1; omega) | simpa only [Ny117.out, List.length_set] using h_); have ql118 : ((x5_2 : Int) < ((x4_2.length : Int) : Int)) = True := eq_true (dt_); obtain ⟨ad118, A118_0, c118_0, e118, hx118_0, hl118_0, hi118_0⟩ := at_L1 (Kd.S_reads' HO_4.out).2.2 x5_2 p118 q118; obtain rfl : (⟨go14, 0, none⟩ : Addr) = ad118 := (by injection e118); obtain ⟨ce118, hce118, hMe118, hcc118⟩ := Kd.S_get HO_4.out [] x5_2 p118 (by first | exact q118 | exact dt_ | (have e_ := (Kd.S_reads' HO_4.out).1; omega)); obtain ⟨ve118_0, rfl, ge118_0⟩ := hMe118; have hv118_0 := hcc118 0 _ rfl; rw [Nat.add_zero, show ((Kd.slice 3 (Kd.int .i64))).sz = 1 from rfl, Nat.mul_one] at hv118_0; replace hv118_0 := Option.some.inj (hv118_0.symm.trans hx118_0); rw [hv118_0] at ge118_0; have HL118_0 := aM (show Kd.R (Kd.int .i64) 3 _ _ _ _ (rd_L1 y117 x5_2) from ge118_0); clear hv118_0 ge118_0; have HX118_0 := aM hx118_0; clear hcc118 hce118; (first | simp only [add_plain] at hx118_0 | simp only [add_at] at hx118_0 | simp only [Addr.add, Nat.zero_add] at hx118_0 | skip); have HR118_0 := aM hi118_0; have HC118_0 := aM hl118_0; clear hi118_0 hl118_0; replace p118 := eq_true p118; replace q118 := eq_true q118) | go_quiet (fail))
 go_loopg [45] k2 (fun kq v45 w' => ∃ (x4_3 : List (List Int)) (x45_3 : Int), v45 = .int .i64 x45_3 ∧ Aside0 (impl_least.l1 kq l0 x3_1 x4_3 x5_2 ((rd_L1 y117 x5_2).length : Int) x45_3 = some r) ∧ Aside0 (kq ≤ k2) ∧ Aside0 (Kd.S (Kd.slice 3 (Kd.int .i64)) 24 w' w.heap.size (fun _ => True) (.slice (some ⟨go14, 0, none⟩) x4_2.length co14) x4_3) ∧ Aside0 (Below w.heap.size w w'))
 case atStart => exact ⟨(y117), (0), qz3, H', ⟨Nat.le_refl _⟩, ⟨by (try simp only [hl4_2]); exact rs_ HO_4.out⟩, ⟨qz1⟩⟩
 case round =>
 clear H'
 try clear qi1
 try clear hf1
 try clear hf2
 try clear hf3
 try clear c6
 try clear c6b0
 try clear c6b1
 try clear c7
 try clear c7b0
 try clear c7b1
 try clear c8
 try clear c8b0
 try clear c8b1
 try clear c10
 try clear c10b0
 try clear c10b1
 try clear qi10
 try clear c11
 try clear c11b0
 try clear c11b1
 try clear c12
 try clear c12b0
 try clear c12b1
 try clear c13
 try clear c13b0
 try clear c13b1
 try clear p14
 try clear q14
 try clear hf14
 try clear hf19
 try clear c21
 try clear c21b0
 try clear c22
 try clear c22b0
 try clear c22b1
 try clear c24
 try clear c24b0
 try clear c24b1
 try clear c25
 try clear c25b0
 try clear c25b1
 try clear c26
 try clear c26b0
 try clear c27
 try clear c27b0
 try clear p28
 try clear q28
 try clear hf28
 try clear hf31
 try clear hx118_0
 try clear hx14_0
 try clear hx19_0
 try clear hx28_0
 try clear hx31_0
 try clear p118
 try clear q118
 obtain ⟨x4_3, x45_3, rfl, HA, HK3, HO_4, HB⟩ := hrel
 have hl4_3 := (Kd.S_reads' HO_4.out).1
 rw [hl4_3] at HO_4
 (try simp only [hl4_3])
 cases gk with
 | zero => exact absurd HA.out (by simp [impl_least.l1])
 | succ k3 =>
 have H := HA.out
 clear HA
 simp only [impl_least.l1] at H
 replace H := iS_ H
 rcases H with ⟨c33, H⟩ | ⟨c33, H⟩
 {
 have c33b0 := decide_eq_true c33
 (try (have c33b0q4_2 := c33b0; simp only [hl4_2] at c33b0q4_2))
 (try (have c33b0q4_3 := c33b0; simp only [hl4_3] at c33b0q4_3))
 clear c33
 replace H := iD_ H
 obtain ⟨c34b0, H⟩ := H
 replace H := iN_ H
 obtain ⟨c35, H⟩ := H
 have c35b0 := decide_eq_true c35
 (try (have c35b0q4_2 := c35b0; simp only [hl4_2] at c35b0q4_2))
 (try (have c35b0q4_3 := c35b0; simp only [hl4_3] at c35b0q4_3))
 clear c35
 replace H := iD_ H
 obtain ⟨c36b0, H⟩ := H
 replace H := iN_ H
 obtain ⟨c37, H⟩ := H
 have c37b0 := decide_eq_true c37
 (try (have c37b0q4_2 := c37b0; simp only [hl4_2] at c37b0q4_2))
 (try (have c37b0q4_3 := c37b0; simp only [hl4_3] at c37b0q4_3))
 clear c37
 obtain ⟨y120, hy120⟩ : ∃ y_ : List Int, y_ = ((rd_L1 x4_3 x5_2).set (x45_3 : Int).toNat (-1)) := ⟨_, rfl⟩
 replace H : (impl_least.l2 k3 l0 x3_1 (x4_3.set (x5_2 : Int).toNat y120) x5_2 x45_3 ((rd_L1 y117 x5_2).length : Int) x45_3 x3_1 0) = some r := by first | (rw [hy120]; exact H) | exact H
 have Ny120 := aM hy120
 clear hy120
 obtain ⟨y122, hy122⟩ : ∃ y_ : List (List Int), y_ = (x4_3.set (x5_2 : Int).toNat y120) := ⟨_, rfl⟩
 replace H : (impl_least.l2 k3 l0 x3_1 y122 x5_2 x45_3 ((rd_L1 y117 x5_2).length : Int) x45_3 x3_1 0) = some r := by first | (rw [hy122]; exact H) | exact H
 have Ny122 := aM hy122
 clear hy122
 have H' := aM H
 clear H
 have p119 : 0 ≤ (x5_2 : Int) := dt_
 have q119 : x5_2 < (x4_3.length : Int) := dt_
 obtain ⟨ad119, A119_0, c119_0, e119, hx119_0, hl119_0, hi119_0⟩ := at_L1 (Kd.S_reads' HO_4.out).2.2 x5_2 p119 q119
 obtain rfl : (⟨go14, 0, none⟩ : Addr) = ad119 := (by injection e119)
 obtain ⟨ce119, hce119, hMe119, hcc119⟩ := Kd.S_get HO_4.out [] x5_2 p119 (by first | exact q119 | exact dt_ | (have e_ := (Kd.S_reads' HO_4.out).1; omega))
 obtain ⟨ve119_0, rfl, ge119_0⟩ := hMe119
 have hv119_0 := hcc119 0 _ rfl
 rw [Nat.add_zero, show ((Kd.slice 3 (Kd.int .i64))).sz = 1 from rfl, Nat.mul_one] at hv119_0
 replace hv119_0 := Option.some.inj (hv119_0.symm.trans hx119_0)
 rw [hv119_0] at ge119_0
 have HL119_0 := aM (show Kd.R (Kd.int .i64) 3 _ _ _ _ (rd_L1 x4_3 x5_2) from ge119_0)
 clear hv119_0 ge119_0
 have HX119_0 := aM hx119_0
 clear hcc119 hce119
 (first | simp only [add_plain] at hx119_0 | simp only [add_at] at hx119_0 | simp only [Addr.add, Nat.zero_add] at hx119_0 | skip)
 have HR119_0 := aM hi119_0
 have HC119_0 := aM hl119_0
 clear hi119_0 hl119_0
 replace p119 := eq_true p119
 replace q119 := eq_true q119
 have p38 : 0 ≤ (x45_3 : Int) := dt_
 have q38 : (x45_3 : Int) < (((rd_L1 x4_3 x5_2).length : Int) : Int) := dt_
 obtain ⟨go38, co38, eo38, gb38, gl38, cl38, HG38⟩ := Kd.R_form HL119_0.out (by omega)
 (first | cases eo38 | (injection eo38 with ea_ en_ ec_; (first | subst ea_ | (injection ea_ with ea_; subst ea_)); subst ec_; clear en_))
 have GB38 := aM gb38
 have GG38 := aM HG38
 clear gb38 gl38 HG38
 obtain ⟨hx38_0, hf38_0⟩ := Kd.R_celln 0 HL119_0.out (x45_3 : Int) p38 q38
 replace p38 := eq_true p38
 replace q38 := eq_true q38
 have hq39 : (x5_2 : Int) < (x4_3.length : Int) := (by have h_ : (x5_2 : Int) < ((x4_3.length : Int) : Int) := dt_; first | exact h_ | (have e_ := (Kd.S_reads' HO_4.out).1; omega) | simpa only [List.length_set, List.length_set] using h_)
 obtain ⟨oki39, ce39, hcl39, hM39, hcc39, hok39, hbk39⟩ := Kd.S_borrow HO_4.out [] (x5_2 : Int) (dt_) hq39
 obtain ⟨ve39_0, rfl, ge39_0⟩ := hM39
 have hv39 := hcc39 0 _ rfl
 rw [Nat.add_zero, show ((Kd.slice 3 (Kd.int .i64))).sz = 1 from rfl, Nat.mul_one] at hv39
 replace hv39 := Option.some.inj (hv39.symm.trans HX119_0.out)
 subst hv39
 clear hcc39 hcl39
 replace ge39_0 := (show Kd.R (Kd.int .i64) 3 _ _ _ _ (rd_L1 x4_3 x5_2) from ge39_0)
 have HP39 := Kd.R_putg ge39_0 (x45_3 : Int) (-1)
 go_wp2_with (first | ((with_reducible refine gate_store (t := 3) (p := 53) rfl ?_); (try (rw [drewN_self wr]; generalize hq_ : World.drewN wr _ = wr; replace HO_4 := aM (Kd.S_at hq_ HO_4.out); replace HB := aM (below_at hq_ HB.out); (try replace HX119_0 := aM (cellq_ hq_ HX119_0.out)); (try replace hx38_0 := cellq_ hq_ hx38_0); (try replace hf38_0 := frozq_ hq_ hf38_0); clear hq_; (try (have hq39 : (x5_2 : Int) < (x4_3.length : Int) := (by have h_ : (x5_2 : Int) < ((x4_3.length : Int) : Int) := dt_; first | exact h_ | (have e_ := (Kd.S_reads' HO_4.out).1; omega) | simpa only [List.length_set, List.length_set] using h_))); (try (obtain ⟨oki39, ce39, hcl39, hM39, hcc39, hok39, hbk39⟩ := Kd.S_borrow HO_4.out [] (x5_2 : Int) (dt_) hq39)); (try (obtain ⟨ve39_0, rfl, ge39_0⟩ := hM39)); (try (have hv39 := hcc39 0 _ rfl)); (try (rw [Nat.add_zero, show ((Kd.slice 3 (Kd.int .i64))).sz = 1 from rfl, Nat.mul_one] at hv39)); (try (replace hv39 := Option.some.inj (hv39.symm.trans HX119_0.out))); (try (subst hv39)); (try (clear hcc39 hcl39)); (try (replace ge39_0 := (show Kd.R (Kd.int .i64) 3 _ _ _ _ (rd_L1 x4_3 x5_2) from ge39_0))); (try (have HP39 := Kd.R_putg ge39_0 (x45_3 : Int) (-1))))); refine store_event (t := 3) (p := 53) (v := ?vo_w40) (w1 := (wr.setCell ⟨go38, (x45_3 : Int).toNat, none⟩ (.int .i64 (-1)))) ?hg ?ho ?hn ?hr ?_; (case ho => rfl); (case hg => rfl); (case hn => rfl); (case hr => exact qz10); intro w40 hw; have hg : wr.grownBy w40 (some go38) := (by rw [hw]; exact HP39.2); have hz_ : Kd.R (Kd.int .i64) 3 w40 w.heap.size oki39 (.slice (some ⟨go38, 0, none⟩) (rd_L1 x4_3 x5_2).length c119_0) y120 := (by rw [hw, Ny120.out]; exact HP39.1); have hp_ : Kd.S (Kd.slice 3 (Kd.int .i64)) 24 w40 w.heap.size (fun _ => True) (.slice (some ⟨go14, 0, none⟩) x4_3.length co14) y122 := (by rw [Ny122.out]; exact hbk39 hg (fun k_ e_ => by injection e_ with e_; subst e_; exact ge39_0.1 _ rfl) (Kd.M_row hz_)); have hm_ := Kd.R_mono hz_ hok39; clear HP39 hbk39; replace HO_4 := aM (hp_); replace HB := aM ((by rw [hw]; exact below_set (HB.out) GB38.out : Below w.heap.size w w40)); have HL141 := aM (hm_); have HC121 := aM ((Kd.R_reads' hm_).2.1); clear HL119_0; clear hg hw hp_ hz_ hm_ hok39) | go_quiet (fail))
 go_loopg [55] k3 (fun kq v55 w' => ∃ (x4_4 : List (List Int)) (x55_4 : Int), v55 = .int .i64 x55_4 ∧ Aside0 (impl_least.l2 kq l0 x3_1 x4_4 x5_2 x45_3 ((rd_L1 y117 x5_2).length : Int) x45_3 x3_1 x55_4 = some r) ∧ Aside0 (kq ≤ k3) ∧ Aside0 (Kd.S (Kd.slice 3 (Kd.int .i64)) 24 w' w.heap.size (fun _ => True) (.slice (some ⟨go14, 0, none⟩) x4_3.length co14) x4_4) ∧ Aside0 (Below w.heap.size w w'))
 case atStart => exact ⟨(y122), (0), qz3, H', ⟨Nat.le_refl _⟩, ⟨by (try simp only [hl4_2]); (try simp only [hl4_3]); exact rs_ HO_4.out⟩, ⟨qz1⟩⟩
 case round =>
 clear H'
 try clear qi1
 try clear hf1
 try clear hf2
 try clear hf3
 try clear c6
 try clear c6b0
 try clear c6b1
 try clear c7
 try clear c7b0
 try clear c7b1
 try clear c8
 try clear c8b0
 try clear c8b1
 try clear c10
 try clear c10b0
 try clear c10b1
 try clear qi10
 try clear c11
 try clear c11b0
 try clear c11b1
 try clear c12
 try clear c12b0
 try clear c12b1
 try clear c13
 try clear c13b0
 try clear c13b1
 try clear p14
 try clear q14
 try clear hf14
 try clear hf19
 try clear c21
 try clear c21b0
 try clear c22
 try clear c22b0
 try clear c22b1
 try clear c24
 try clear c24b0
 try clear c24b1
 try clear c25
 try clear c25b0
 try clear c25b1
 try clear c26
 try clear c26b0
 try clear c27
 try clear c27b0
 try clear p28
 try clear q28
 try clear hf28
 try clear hf31
 try clear c33
 try clear c33b0
 try clear c34
 try clear c34b0
 try clear c35
 try clear c35b0
 try clear c36
 try clear c36b0
 try clear c37
 try clear c37b0
 try clear p38
 try clear q38
 try clear hf38
 try clear hx118_0
 try clear hx119_0
 try clear hx14_0
 try clear hx19_0
 try clear hx28_0
 try clear hx31_0
 try clear hx38_0
 try clear p118
 try clear p119
 try clear q118
 try clear q119
 obtain ⟨x4_4, x55_4, rfl, HA, HK4, HO_4, HB⟩ := hrel
 have hl4_4 := (Kd.S_reads' HO_4.out).1
 rw [hl4_4] at HO_4
 (try simp only [hl4_4])
 cases gk with
 | zero => exact absurd HA.out (by simp [impl_least.l2])
 | succ k4 =>
 have H := HA.out
 clear HA
 simp only [impl_least.l2] at H
 replace H := iE_ H
 rcases H with ⟨c41b0, H⟩ | ⟨c41b0, H⟩
 {
 have HC42 := aM H
 clear H
 go_upto_region 17 with (fail)
 repeat (go_quiet (fail); go_upto_region 17 with (fail))
 go_cut [76] (fun v76 wc => ∃ (kq : Nat) (x76_41 : Bool), v76 = .bool x76_41 ∧ Aside0 (impl_least.j4 kq l0 x3_1 x4_4 x5_2 x45_3 x55_4 ((rd_L1 y117 x5_2).length : Int) x45_3 x3_1 x55_4 x76_41 = some r) ∧ Aside0 (kq ≤ k4) ∧ Aside0 (Kd.S (Kd.slice 3 (Kd.int .i64)) 24 wc w.heap.size (fun _ => True) (.slice (some ⟨go14, 0, none⟩) x4_4.length co14) x4_4) ∧ Aside0 (Below w.heap.size w wc))
 case first =>
  have H := HC42.out
  clear HC42
  replace H := iN_ H
  obtain ⟨c43, H⟩ := H
  have c43b0 := eq_true c43
  have c43b1 := decide_eq_true c43
  clear c43
  obtain ⟨ji44, hji44⟩ : ∃ j_ : Int, (shr .i64 x45_3 x55_4) = j_ := ⟨_, rfl⟩
  replace H : (if (Go.bits .and .i64 (ji44) 1) = 1 then (impl_least.j4 k4 l0 x3_1 x4_4 x5_2 x45_3 x55_4 ((rd_L1 y117 x5_2).length : Int) x45_3 x3_1 x55_4 true) else (if 0 ≤ (wrap64 (x5_2 + 1)) then (if (wrap64 (x5_2 + 1)) < (x4_4.length : Int) then (if 0 ≤ (Go.bits .or .i64 x45_3 (shl .i64 1 x55_4)) then (if (Go.bits .or .i64 x45_3 (shl .i64 1 x55_4)) < ((rd_L1 x4_4 (wrap64 (x5_2 + 1))).length : Int) then (impl_least.j4 k4 l0 x3_1 x4_4 x5_2 x45_3 x55_4 ((rd_L1 y117 x5_2).length : Int) x45_3 x3_1 x55_4 (decide ((rd (rd_L1 x4_4 (wrap64 (x5_2 + 1))) (Go.bits .or .i64 x45_3 (shl .i64 1 x55_4))) < 0))) else (none)) else (none)) else (none)) else (none))) = some r := by first | (rw [hji44] at H; exact H) | (simp only [hji44] at H ⊢; exact H)
  have hji44_ : (x45_3 / 2 ^ min x55_4.toNat 64) = ji44 := hji44
  have hji44z : x55_4 ≤ 64 → (x45_3 / 2 ^ x55_4.toNat) = ji44 := shr_small hji44
  replace H := iQ_ H
  rcases H with ⟨c45b0, c45b1, H⟩ | ⟨c45, c45b0, c45b1, H⟩
  {
  (first | rw [c45b0] | (simp only [i64_w, i32_w]; rw [c45b0]) | rw [@decide_eq_true _ _ (of_decide_eq_true c45b0)] | rw [@decide_eq_true _ _ (of_decide_eq_true c45b1)] | skip)
  have H' := aM H
  clear H
  go_wp2
  repeat (go_quiet (fail); try go_wp2)
  go_meet
  case rel => exact ⟨_, (true), qz3, H', ⟨by have := HJ1.out; have := HK2.out; have := HK3.out; have := HK4.out; first | omega | exact Nat.le_refl _⟩, ⟨by (try simp only [hl4_2]); (try simp only [hl4_3]); (try simp only [hl4_4]); exact rm_ HO_4.out⟩, ⟨qz1⟩⟩
  }
  {
  (first | rw [c45b0] | (simp only [i64_w, i32_w]; rw [c45b0]) | rw [@decide_eq_false _ _ (of_decide_eq_false c45b0)] | rw [@decide_eq_false _ _ (of_decide_eq_false c45b1)] | skip)
  obtain ⟨ji46, hji46⟩ : ∃ j_ : Int, (wrap64 (x5_2 + 1)) = j_ := ⟨_, rfl⟩
  replace H : (if 0 ≤ (ji46) then (if (ji46) < (x4_4.length : Int) then (if 0 ≤ (Go.bits .or .i64 x45_3 (shl .i64 1 x55_4)) then (if (Go.bits .or .i64 x45_3 (shl .i64 1 x55_4)) < ((rd_L1 x4_4 (ji46)).length : Int) then (impl_least.j4 k4 l0 x3_1 x4_4 x5_2 x45_3 x55_4 ((rd_L1 y117 x5_2).length : Int) x45_3 x3_1 x55_4 (decide ((rd (rd_L1 x4_4 (ji46)) (Go.bits .or .i64 x45_3 (shl .i64 1 x55_4))) < 0))) else (none)) else (none)) else (none)) else (none)) = some r := by first | (rw [hji46] at H; exact H) | (simp only [hji46] at H ⊢; exact H)
  have hji46w : (IntKind.i64.wrap (x5_2 + 1)) = ji46 := (i64_w _).trans hji46
  replace H := iD_ H
  obtain ⟨c47b0, H⟩ := H
  replace H := iN_ H
  obtain ⟨c48, H⟩ := H
  have c48b0 := decide_eq_true c48
  (try (have c48b0q4_2 := c48b0; simp only [hl4_2] at c48b0q4_2))
  (try (have c48b0q4_3 := c48b0; simp only [hl4_3] at c48b0q4_3))
  (try (have c48b0q4_4 := c48b0; simp only [hl4_4] at c48b0q4_4))
  clear c48
  have c49b0 := eq_true (dt_ : 0 ≤ x55_4)
  obtain ⟨ji50, hji50⟩ : ∃ j_ : Int, (shl .i64 1 x55_4) = j_ := ⟨_, rfl⟩
  replace H : (if 0 ≤ (Go.bits .or .i64 x45_3 (ji50)) then (if (Go.bits .or .i64 x45_3 (ji50)) < ((rd_L1 x4_4 (ji46)).length : Int) then (impl_least.j4 k4 l0 x3_1 x4_4 x5_2 x45_3 x55_4 ((rd_L1 y117 x5_2).length : Int) x45_3 x3_1 x55_4 (decide ((rd (rd_L1 x4_4 (ji46)) (Go.bits .or .i64 x45_3 (ji50))) < 0))) else (none)) else (none)) = some r := by first | (rw [hji50] at H; exact H) | (simp only [hji50] at H ⊢; exact H)
  have hji50_ : (IntKind.i64.wrap (1 * 2 ^ min x55_4.toNat 64)) = ji50 := hji50
  have hji50z : x55_4 ≤ 64 → (IntKind.i64.wrap (1 * 2 ^ x55_4.toNat)) = ji50 := shl_small hji50
  have hji50u : (IntKind.i64.wrap (2 ^ min x55_4.toNat 64)) = ji50 := by have h_ := hji50_; rw [Int.one_mul] at h_; exact h_
  have hji50v : x55_4 ≤ 64 → (IntKind.i64.wrap (2 ^ x55_4.toNat)) = ji50 := fun hle_ => by have h_ := hji50z hle_; rw [Int.one_mul] at h_; exact h_
  have hji50y : (wrap64 (1 * 2 ^ min x55_4.toNat 64)) = ji50 := (i64_w _).symm.trans hji50_
  have hji50x : x55_4 ≤ 64 → (wrap64 (1 * 2 ^ x55_4.toNat)) = ji50 := fun h_ => (i64_w _).symm.trans (hji50z h_)
  replace H := iD_ H
  obtain ⟨c51b0, H⟩ := H
  replace H := iN_ H
  obtain ⟨c52, H⟩ := H
  have c52b0 := decide_eq_true c52
  (try (have c52b0q4_2 := c52b0; simp only [hl4_2] at c52b0q4_2))
  (try (have c52b0q4_3 := c52b0; simp only [hl4_3] at c52b0q4_3))
  (try (have c52b0q4_4 := c52b0; simp only [hl4_4] at c52b0q4_4))
  clear c52
  have H' := aM H
  clear H
  have p123 : 0 ≤ ((ji46) : Int) := dt_
  have q123 : (ji46) < (x4_4.length : Int) := dt_
  obtain ⟨ad123, A123_0, c123_0, e123, hx123_0, hl123_0, hi123_0⟩ := at_L1 (Kd.S_reads' HO_4.out).2.2 (ji46) p123 q123
  obtain rfl : (⟨go14, 0, none⟩ : Addr) = ad123 := (by injection e123)
  obtain ⟨ce123, hce123, hMe123, hcc123⟩ := Kd.S_get HO_4.out [] (ji46) p123 (by first | exact q123 | exact dt_ | (have e_ := (Kd.S_reads' HO_4.out).1; omega))
  obtain ⟨ve123_0, rfl, ge123_0⟩ := hMe123
  have hv123_0 := hcc123 0 _ rfl
  rw [Nat.add_zero, show ((Kd.slice 3 (Kd.int .i64))).sz = 1 from rfl, Nat.mul_one] at hv123_0
  replace hv123_0 := Option.some.inj (hv123_0.symm.trans hx123_0)
  rw [hv123_0] at ge123_0
  have HL123_0 := aM (show Kd.R (Kd.int .i64) 3 _ _ _ _ (rd_L1 x4_4 (ji46)) from ge123_0)
  clear hv123_0 ge123_0
  have HX123_0 := aM hx123_0
  clear hcc123 hce123
  (first | simp only [add_plain] at hx123_0 | simp only [add_at] at hx123_0 | simp only [Addr.add, Nat.zero_add] at hx123_0 | skip)
  have HR123_0 := aM hi123_0
  have HC123_0 := aM hl123_0
  clear hi123_0 hl123_0
  replace p123 := eq_true p123
  replace q123 := eq_true q123
  have p124 : (0 ≤ ((Go.bits .or .i64 x45_3 (ji50)) : Int)) = True := et_
  have q124 : ((Go.bits .or .i64 x45_3 (ji50)) < ((rd_L1 x4_4 (ji46)).length : Int)) = True := et_
  obtain ⟨ad124, e124, hx124_0⟩ := Kd.at_int (by repeat (first | (with_reducible exact HR123_0.out) | (with_reducible refine Kd.C_alloc ?_ _) | (with_reducible refine Kd.C_drewN ?_ _) | (with_reducible refine Kd.C_drew ?_) | exact HR123_0.out)) (Go.bits .or .i64 x45_3 (ji50)) dt_ dt_
  cases e124
  go_wp2
  repeat (go_quiet (fail); try go_wp2)
  go_meet
  case rel => exact ⟨_, (decide ((rd (rd_L1 x4_4 (ji46)) (Go.bits .or .i64 x45_3 (ji50))) < 0)), (by first | rfl | (simp; done) | (simp only [← hji46, ← hji50] <;> (first | rfl | simp)) | (simp [*]; done)), H', ⟨by have := HJ1.out; have := HK2.out; have := HK3.out; have := HK4.out; first | omega | exact Nat.le_refl _⟩, ⟨by (try simp only [hl4_2]); (try simp only [hl4_3]); (try simp only [hl4_4]); exact rm_ HO_4.out⟩, ⟨qz1⟩⟩
  }
 case rest =>
 clear HC42
 try clear qi1
 try clear hf1
 try clear hf2
 try clear hf3
 try clear c6
 try clear c6b0
 try clear c6b1
 try clear c7
 try clear c7b0
 try clear c7b1
 try clear c8
 try clear c8b0
 try clear c8b1
 try clear c10
 try clear c10b0
 try clear c10b1
 try clear qi10
 try clear c11
 try clear c11b0
 try clear c11b1
 try clear c12
 try clear c12b0
 try clear c12b1
 try clear c13
 try clear c13b0
 try clear c13b1
 try clear p14
 try clear q14
 try clear hf14
 try clear hf19
 try clear c21
 try clear c21b0
 try clear c22
 try clear c22b0
 try clear c22b1
 try clear c24
 try clear c24b0
 try clear c24b1
 try clear c25
 try clear c25b0
 try clear c25b1
 try clear c26
 try clear c26b0
 try clear c27
 try clear c27b0
 try clear p28
 try clear q28
 try clear hf28
 try clear hf31
 try clear c33
 try clear c33b0
 try clear c34
 try clear c34b0
 try clear c35
 try clear c35b0
 try clear c36
 try clear c36b0
 try clear c37
 try clear c37b0
 try clear p38
 try clear q38
 try clear hf38
 try clear c41
 try clear c41b0
 try clear hx118_0
 try clear hx119_0
 try clear hx14_0
 try clear hx19_0
 try clear hx28_0
 try clear hx31_0
 try clear hx38_0
 try clear p118
 try clear p119
 try clear q118
 try clear q119
 obtain ⟨kq, x76_41, rfl, HA, HJ41, HO_4, HB⟩ := hcut
 cases kq with
 | zero => exact absurd HA.out (by simp [impl_least.j4])
 | succ kj41 =>
 have H := HA.out
 clear HA
 simp only [impl_least.j4] at H
 replace H := iB_ H
 rcases H with ⟨rfl, H⟩ | ⟨rfl, H⟩
 {
 have H' := aM H
 clear H
 go_wp2
 repeat (go_quiet (fail); try go_wp2)
 (try simp only [← hl4_4])
 go_roundg kj41
 case measure => have := HJ1.out; have := HK2.out; have := HK3.out; have := HK4.out; have := HJ41.out; omega
 case rel => exact ⟨(x4_4), (wrap64 (x55_4 + 1)), qz3, H', ⟨by have := HJ1.out; have := HK2.out; have := HK3.out; have := HK4.out; have := HJ41.out; omega⟩, ⟨by (try simp only [hl4_2]); (try simp only [hl4_3]); (try simp only [hl4_4]); exact rm_ HO_4.out⟩, ⟨qz1⟩⟩
 }
 {
 replace H := iD_ H
 obtain ⟨c54b0, H⟩ := H
 replace H := iN_ H
 obtain ⟨c55, H⟩ := H
 have c55b0 := decide_eq_true c55
 (try (have c55b0q4_2 := c55b0; simp only [hl4_2] at c55b0q4_2))
 (try (have c55b0q4_3 := c55b0; simp only [hl4_3] at c55b0q4_3))
 (try (have c55b0q4_4 := c55b0; simp only [hl4_4] at c55b0q4_4))
 clear c55
 replace H := iD_ H
 obtain ⟨c56b0, H⟩ := H
 replace H := iN_ H
 obtain ⟨c57, H⟩ := H
 have c57b0 := decide_eq_true c57
 (try (have c57b0q4_2 := c57b0; simp only [hl4_2] at c57b0q4_2))
 (try (have c57b0q4_3 := c57b0; simp only [hl4_3] at c57b0q4_3))
 (try (have c57b0q4_4 := c57b0; simp only [hl4_4] at c57b0q4_4))
 clear c57
 obtain ⟨ji58, hji58⟩ : ∃ j_ : Int, (wrap64 (x5_2 + 1)) = j_ := ⟨_, rfl⟩
 replace H : (if 0 ≤ (ji58) then (if (ji58) < (x4_4.length : Int) then (if 0 ≤ (Go.bits .or .i64 x45_3 (shl .i64 1 x55_4)) then (if (Go.bits .or .i64 x45_3 (shl .i64 1 x55_4)) < ((rd_L1 x4_4 (ji58)).length : Int) then (if x5_2 < (x4_4.length : Int) then (if 0 ≤ x45_3 then (if x45_3 < ((rd_L1 x4_4 x5_2).length : Int) then (if (rd (rd_L1 x4_4 x5_2) x45_3) < 0 then (impl_least.l2 kj41 l0 x3_1 (x4_4.set (x5_2 : Int).toNat ((rd_L1 x4_4 x5_2).set (x45_3 : Int).toNat (wrap64 ((rd (rd_L1 l0 x5_2) x55_4) + (rd (rd_L1 x4_4 (ji58)) (Go.bits .or .i64 x45_3 (shl .i64 1 x55_4))))))) x5_2 x45_3 ((rd_L1 y117 x5_2).length : Int) x45_3 x3_1 (wrap64 (x55_4 + 1))) else (if (wrap64 ((rd (rd_L1 l0 x5_2) x55_4) + (rd (rd_L1 x4_4 (ji58)) (Go.bits .or .i64 x45_3 (shl .i64 1 x55_4))))) < (rd (rd_L1 x4_4 x5_2) x45_3) then (impl_least.l2 kj41 l0 x3_1 (x4_4.set (x5_2 : Int).toNat ((rd_L1 x4_4 x5_2).set (x45_3 : Int).toNat (wrap64 ((rd (rd_L1 l0 x5_2) x55_4) + (rd (rd_L1 x4_4 (ji58)) (Go.bits .or .i64 x45_3 (shl .i64 1 x55_4))))))) x5_2 x45_3 ((rd_L1 y117 x5_2).length : Int) x45_3 x3_1 (wrap64 (x55_4 + 1))) else (impl_least.l2 kj41 l0 x3_1 x4_4 x5_2 x45_3 ((rd_L1 y117 x5_2).length : Int) x45_3 x3_1 (wrap64 (x55_4 + 1))))) else (none)) else (none)) else (none)) else (none)) else (none)) else (none)) else (none)) = some r := by first | (rw [hji58] at H; exact H) | (simp only [hji58] at H ⊢; exact H)
 have hji58w : (IntKind.i64.wrap (x5_2 + 1)) = ji58 := (i64_w _).trans hji58
 replace H := iD_ H
 obtain ⟨c59b0, H⟩ := H
 replace H := iN_ H
 obtain ⟨c60, H⟩ := H
 have c60b0 := decide_eq_true c60
 (try (have c60b0q4_2 := c60b0; simp only [hl4_2] at c60b0q4_2))
 (try (have c60b0q4_3 := c60b0; simp only [hl4_3] at c60b0q4_3))
 (try (have c60b0q4_4 := c60b0; simp only [hl4_4] at c60b0q4_4))
 clear c60
 have c61b0 := eq_true (dt_ : 0 ≤ x55_4)
 obtain ⟨ji62, hji62⟩ : ∃ j_ : Int, (shl .i64 1 x55_4) = j_ := ⟨_, rfl⟩
 replace H : (if 0 ≤ (Go.bits .or .i64 x45_3 (ji62)) then (if (Go.bits .or .i64 x45_3 (ji62)) < ((rd_L1 x4_4 (ji58)).length : Int) then (if x5_2 < (x4_4.length : Int) then (if 0 ≤ x45_3 then (if x45_3 < ((rd_L1 x4_4 x5_2).length : Int) then (if (rd (rd_L1 x4_4 x5_2) x45_3) < 0 then (impl_least.l2 kj41 l0 x3_1 (x4_4.set (x5_2 : Int).toNat ((rd_L1 x4_4 x5_2).set (x45_3 : Int).toNat (wrap64 ((rd (rd_L1 l0 x5_2) x55_4) + (rd (rd_L1 x4_4 (ji58)) (Go.bits .or .i64 x45_3 (ji62))))))) x5_2 x45_3 ((rd_L1 y117 x5_2).length : Int) x45_3 x3_1 (wrap64 (x55_4 + 1))) else (if (wrap64 ((rd (rd_L1 l0 x5_2) x55_4) + (rd (rd_L1 x4_4 (ji58)) (Go.bits .or .i64 x45_3 (ji62))))) < (rd (rd_L1 x4_4 x5_2) x45_3) then (impl_least.l2 kj41 l0 x3_1 (x4_4.set (x5_2 : Int).toNat ((rd_L1 x4_4 x5_2).set (x45_3 : Int).toNat (wrap64 ((rd (rd_L1 l0 x5_2) x55_4) + (rd (rd_L1 x4_4 (ji58)) (Go.bits .or .i64 x45_3 (ji62))))))) x5_2 x45_3 ((rd_L1 y117 x5_2).length : Int) x45_3 x3_1 (wrap64 (x55_4 + 1))) else (impl_least.l2 kj41 l0 x3_1 x4_4 x5_2 x45_3 ((rd_L1 y117 x5_2).length : Int) x45_3 x3_1 (wrap64 (x55_4 + 1))))) else (none)) else (none)) else (none)) else (none)) else (none)) = some r := by first | (rw [hji62] at H; exact H) | (simp only [hji62] at H ⊢; exact H)
 have hji62_ : (IntKind.i64.wrap (1 * 2 ^ min x55_4.toNat 64)) = ji62 := hji62
 have hji62z : x55_4 ≤ 64 → (IntKind.i64.wrap (1 * 2 ^ x55_4.toNat)) = ji62 := shl_small hji62
 have hji62u : (IntKind.i64.wrap (2 ^ min x55_4.toNat 64)) = ji62 := by have h_ := hji62_; rw [Int.one_mul] at h_; exact h_
 have hji62v : x55_4 ≤ 64 → (IntKind.i64.wrap (2 ^ x55_4.toNat)) = ji62 := fun hle_ => by have h_ := hji62z hle_; rw [Int.one_mul] at h_; exact h_
 have hji62y : (wrap64 (1 * 2 ^ min x55_4.toNat 64)) = ji62 := (i64_w _).symm.trans hji62_
 have hji62x : x55_4 ≤ 64 → (wrap64 (1 * 2 ^ x55_4.toNat)) = ji62 := fun h_ => (i64_w _).symm.trans (hji62z h_)
 replace H := iD_ H
 obtain ⟨c63b0, H⟩ := H
 replace H := iN_ H
 obtain ⟨c64, H⟩ := H
 have c64b0 := decide_eq_true c64
 (try (have c64b0q4_2 := c64b0; simp only [hl4_2] at c64b0q4_2))
 (try (have c64b0q4_3 := c64b0; simp only [hl4_3] at c64b0q4_3))
 (try (have c64b0q4_4 := c64b0; simp only [hl4_4] at c64b0q4_4))
 clear c64
 replace H := iN_ H
 obtain ⟨c65, H⟩ := H
 have c65b0 := decide_eq_true c65
 (try (have c65b0q4_2 := c65b0; simp only [hl4_2] at c65b0q4_2))
 (try (have c65b0q4_3 := c65b0; simp only [hl4_3] at c65b0q4_3))
 (try (have c65b0q4_4 := c65b0; simp only [hl4_4] at c65b0q4_4))
 clear c65
 replace H := iD_ H
 obtain ⟨c66b0, H⟩ := H
 replace H := iN_ H
 obtain ⟨c67, H⟩ := H
 have c67b0 := decide_eq_true c67
 (try (have c67b0q4_2 := c67b0; simp only [hl4_2] at c67b0q4_2))
 (try (have c67b0q4_3 := c67b0; simp only [hl4_3] at c67b0q4_3))
 (try (have c67b0q4_4 := c67b0; simp only [hl4_4] at c67b0q4_4))
 clear c67
 replace H := iE_ H
 rcases H with ⟨c68b0, H⟩ | ⟨c68b0, H⟩
 {
 obtain ⟨y132, hy132⟩ : ∃ y_ : List Int, y_ = ((rd_L1 x4_4 x5_2).set (x45_3 : Int).toNat (wrap64 ((rd (rd_L1 l0 x5_2) x55_4) + (rd (rd_L1 x4_4 (ji58)) (Go.bits .or .i64 x45_3 (ji62)))))) := ⟨_, rfl⟩
 replace H : (impl_least.l2 kj41 l0 x3_1 (x4_4.set (x5_2 : Int).toNat y132) x5_2 x45_3 ((rd_L1 y117 x5_2).length : Int) x45_3 x3_1 (wrap64 (x55_4 + 1))) = some r := by first | (rw [hy132]; exact H) | exact H
 have Ny132 := aM hy132
 clear hy132
 obtain ⟨y134, hy134⟩ : ∃ y_ : List (List Int), y_ = (x4_4.set (x5_2 : Int).toNat y132) := ⟨_, rfl⟩
 replace H : (impl_least.l2 kj41 l0 x3_1 y134 x5_2 x45_3 ((rd_L1 y117 x5_2).length : Int) x45_3 x3_1 (wrap64 (x55_4 + 1))) = some r := by first | (rw [hy134]; exact H) | exact H
 have Ny134 := aM hy134
 clear hy134
 have H' := aM H
 clear H
 have p125 : (0 ≤ (x5_2 : Int)) = True := et_
 have q125 : (x5_2 < (l0.length : Int)) = True := et_
 obtain ⟨ad125, A125_0, c125_0, e125, hx125_0, hl125_0, hi125_0⟩ := at_L1 HR0.out x5_2 dt_ dt_
 cases e125
 replace hx125_0 := cB_ hx125_0
 have HR125_0 := aM hi125_0
 have HC125_0 := aM hl125_0
 clear hi125_0 hl125_0
 have p126 : (0 ≤ (x55_4 : Int)) = True := et_
 have q126 : (x55_4 < ((rd_L1 l0 x5_2).length : Int)) = True := et_
 obtain ⟨ad126, e126, hx126_0⟩ := tC1_ (Kd.at_int HR125_0.out x55_4 dt_ dt_)
 cases e126
 have p127 : 0 ≤ ((ji58) : Int) := dt_
 have q127 : (ji58) < (x4_4.length : Int) := dt_
 obtain ⟨ad127, A127_0, c127_0, e127, hx127_0, hl127_0, hi127_0⟩ := at_L1 (Kd.S_reads' HO_4.out).2.2 (ji58) p127 q127
 obtain rfl : (⟨go14, 0, none⟩ : Addr) = ad127 := (by injection e127)
 obtain ⟨ce127, hce127, hMe127, hcc127⟩ := Kd.S_get HO_4.out [] (ji58) p127 (by first | exact q127 | exact dt_ | (have e_ := (Kd.S_reads' HO_4.out).1; omega))
 obtain ⟨ve127_0, rfl, ge127_0⟩ := hMe127
 have hv127_0 := hcc127 0 _ rfl
 rw [Nat.add_zero, show ((Kd.slice 3 (Kd.int .i64))).sz = 1 from rfl, Nat.mul_one] at hv127_0
 replace hv127_0 := Option.some.inj (hv127_0.symm.trans hx127_0)
 rw [hv127_0] at ge127_0
 have HL127_0 := aM (show Kd.R (Kd.int .i64) 3 _ _ _ _ (rd_L1 x4_4 (ji58)) from ge127_0)
 clear hv127_0 ge127_0
 have HX127_0 := aM hx127_0
 clear hcc127 hce127
 (first | simp only [add_plain] at hx127_0 | simp only [add_at] at hx127_0 | simp only [Addr.add, Nat.zero_add] at hx127_0 | skip)
 have HR127_0 := aM hi127_0
 have HC127_0 := aM hl127_0
 clear hi127_0 hl127_0
 replace p127 := eq_true p127
 replace q127 := eq_true q127
 have p128 : (0 ≤ ((Go.bits .or .i64 x45_3 (ji62)) : Int)) = True := et_
 have q128 : ((Go.bits .or .i64 x45_3 (ji62)) < ((rd_L1 x4_4 (ji58)).length : Int)) = True := et_
 obtain ⟨ad128, e128, hx128_0⟩ := Kd.at_int qz19 (Go.bits .or .i64 x45_3 (ji62)) dt_ dt_
 cases e128
 have p129 : 0 ≤ (x5_2 : Int) := dt_
 have q129 : x5_2 < (x4_4.length : Int) := dt_
 obtain ⟨ad129, A129_0, c129_0, e129, hx129_0, hl129_0, hi129_0⟩ := at_L1 (Kd.S_reads' HO_4.out).2.2 x5_2 p129 q129
 obtain rfl : (⟨go14, 0, none⟩ : Addr) = ad129 := (by injection e129)
 obtain ⟨ce129, hce129, hMe129, hcc129⟩ := Kd.S_get HO_4.out [] x5_2 p129 (by first | exact q129 | exact dt_ | (have e_ := (Kd.S_reads' HO_4.out).1; omega))
 obtain ⟨ve129_0, rfl, ge129_0⟩ := hMe129
 have hv129_0 := hcc129 0 _ rfl
 rw [Nat.add_zero, show ((Kd.slice 3 (Kd.int .i64))).sz = 1 from rfl, Nat.mul_one] at hv129_0
 replace hv129_0 := Option.some.inj (hv129_0.symm.trans hx129_0)
 rw [hv129_0] at ge129_0
 have HL129_0 := aM (show Kd.R (Kd.int .i64) 3 _ _ _ _ (rd_L1 x4_4 x5_2) from ge129_0)
 clear hv129_0 ge129_0
 have HX129_0 := aM hx129_0
 clear hcc129 hce129
 (first | simp only [add_plain] at hx129_0 | simp only [add_at] at hx129_0 | simp only [Addr.add, Nat.zero_add] at hx129_0 | skip)
 have HR129_0 := aM hi129_0
 have HC129_0 := aM hl129_0
 clear hi129_0 hl129_0
 replace p129 := eq_true p129
 replace q129 := eq_true q129
 have p130 : (0 ≤ (x45_3 : Int)) = True := et_
 have q130 : (x45_3 < ((rd_L1 x4_4 x5_2).length : Int)) = True := et_
 obtain ⟨ad130, e130, hx130_0⟩ := Kd.at_int qz20 x45_3 dt_ dt_
 cases e130
 have p131 : 0 ≤ (x5_2 : Int) := dt_
 have q131 : x5_2 < (x4_4.length : Int) := dt_
 obtain ⟨ad131, A131_0, c131_0, e131, hx131_0, hl131_0, hi131_0⟩ := at_L1 (Kd.S_reads' HO_4.out).2.2 x5_2 p131 q131
 obtain rfl : (⟨go14, 0, none⟩ : Addr) = ad131 := (by injection e131)
 obtain ⟨ce131, hce131, hMe131, hcc131⟩ := Kd.S_get HO_4.out [] x5_2 p131 (by first | exact q131 | exact dt_ | (have e_ := (Kd.S_reads' HO_4.out).1; omega))
 obtain ⟨ve131_0, rfl, ge131_0⟩ := hMe131
 have hv131_0 := hcc131 0 _ rfl
 rw [Nat.add_zero, show ((Kd.slice 3 (Kd.int .i64))).sz = 1 from rfl, Nat.mul_one] at hv131_0
 replace hv131_0 := Option.some.inj (hv131_0.symm.trans hx131_0)
 rw [hv131_0] at ge131_0
 have HL131_0 := aM (show Kd.R (Kd.int .i64) 3 _ _ _ _ (rd_L1 x4_4 x5_2) from ge131_0)
 clear hv131_0 ge131_0
 have HX131_0 := aM hx131_0
 clear hcc131 hce131
 (first | simp only [add_plain] at hx131_0 | simp only [add_at] at hx131_0 | simp only [Addr.add, Nat.zero_add] at hx131_0 | skip)
 have HR131_0 := aM hi131_0
 have HC131_0 := aM hl131_0
 clear hi131_0 hl131_0
 replace p131 := eq_true p131
 replace q131 := eq_true q131
 have ea_ := Option.some.inj (hx129_0.symm.trans hx131_0)
 injection ea_ with ea_ en_ ec_
 subst ea_
 subst ec_
 clear en_
 have p69 : 0 ≤ (x45_3 : Int) := dt_
 have q69 : (x45_3 : Int) < (((rd_L1 x4_4 x5_2).length : Int) : Int) := dt_
 obtain ⟨go69, co69, eo69, gb69, gl69, cl69, HG69⟩ := Kd.R_form HL131_0.out (by omega)
 (first | cases eo69 | (injection eo69 with ea_ en_ ec_; (first | subst ea_ | (injection ea_ with ea_; subst ea_)); subst ec_; clear en_))
 have GB69 := aM gb69
 have GG69 := aM HG69
 clear gb69 gl69 HG69
 (first | simp only [add_plain] at hx130_0 | skip)
 obtain ⟨hx69_0, hf69_0⟩ := Kd.R_celln 0 HL131_0.out (x45_3 : Int) p69 q69
 replace p69 := eq_true p69
 replace q69 := eq_true q69
 have hq70 : (x5_2 : Int) < (x4_4.length : Int) := (by have h_ : (x5_2 : Int) < ((x4_4.length : Int) : Int) := dt_; first | exact h_ | (have e_ := (Kd.S_reads' HO_4.out).1; omega) | simpa only [List.length_set, List.length_set] using h_)
 obtain ⟨oki70, ce70, hcl70, hM70, hcc70, hok70, hbk70⟩ := Kd.S_borrow HO_4.out [] (x5_2 : Int) (dt_) hq70
 obtain ⟨ve70_0, rfl, ge70_0⟩ := hM70
 have hv70 := hcc70 0 _ rfl
 rw [Nat.add_zero, show ((Kd.slice 3 (Kd.int .i64))).sz = 1 from rfl, Nat.mul_one] at hv70
 replace hv70 := Option.some.inj (hv70.symm.trans HX131_0.out)
 subst hv70
 clear hcc70 hcl70
 replace ge70_0 := (show Kd.R (Kd.int .i64) 3 _ _ _ _ (rd_L1 x4_4 x5_2) from ge70_0)
 have HP70 := Kd.R_putg ge70_0 (x45_3 : Int) (wrap64 ((rd (rd_L1 l0 x5_2) x55_4) + (rd (rd_L1 x4_4 (ji58)) (Go.bits .or .i64 x45_3 (ji62)))))
 go_wp2_with (first | ((with_reducible refine gate_store (t := 3) (p := 121) rfl ?_); (try (rw [drewN_self wc]; generalize hq_ : World.drewN wc _ = wc; replace HO_4 := aM (Kd.S_at hq_ HO_4.out); replace HB := aM (below_at hq_ HB.out); (try replace HX131_0 := aM (cellq_ hq_ HX131_0.out)); (try replace hx69_0 := cellq_ hq_ hx69_0); (try replace hf69_0 := frozq_ hq_ hf69_0); clear hq_; (try (have hq70 : (x5_2 : Int) < (x4_4.length : Int) := (by have h_ : (x5_2 : Int) < ((x4_4.length : Int) : Int) := dt_; first | exact h_ | (have e_ := (Kd.S_reads' HO_4.out).1; omega) | simpa only [List.length_set, List.length_set] using h_))); (try (obtain ⟨oki70, ce70, hcl70, hM70, hcc70, hok70, hbk70⟩ := Kd.S_borrow HO_4.out [] (x5_2 : Int) (dt_) hq70)); (try (obtain ⟨ve70_0, rfl, ge70_0⟩ := hM70)); (try (have hv70 := hcc70 0 _ rfl)); (try (rw [Nat.add_zero, show ((Kd.slice 3 (Kd.int .i64))).sz = 1 from rfl, Nat.mul_one] at hv70)); (try (replace hv70 := Option.some.inj (hv70.symm.trans HX131_0.out))); (try (subst hv70)); (try (clear hcc70 hcl70)); (try (replace ge70_0 := (show Kd.R (Kd.int .i64) 3 _ _ _ _ (rd_L1 x4_4 x5_2) from ge70_0))); (try (have HP70 := Kd.R_putg ge70_0 (x45_3 : Int) (wrap64 ((rd (rd_L1 l0 x5_2) x55_4) + (rd (rd_L1 x4_4 (ji58)) (Go.bits .or .i64 x45_3 (ji62))))))))); refine store_event (t := 3) (p := 121) (v := ?vo_w71) (w1 := (wc.setCell ⟨go69, (x45_3 : Int).toNat, none⟩ (.int .i64 (wrap64 ((rd (rd_L1 l0 x5_2) x55_4) + (rd (rd_L1 x4_4 (ji58)) (Go.bits .or .i64 x45_3 (ji62)))))))) ?hg ?ho ?hn ?hr ?_; (case ho => rfl); (case hg => rfl); (case hn => rfl); (case hr => exact qz10); intro w71 hw; have hg : wc.grownBy w71 (some go69) := (by rw [hw]; exact HP70.2); have hz_ : Kd.R (Kd.int .i64) 3 w71 w.heap.size oki70 (.slice (some ⟨go69, 0, none⟩) (rd_L1 x4_4 x5_2).length c129_0) y132 := (by rw [hw, Ny132.out]; exact HP70.1); have hp_ : Kd.S (Kd.slice 3 (Kd.int .i64)) 24 w71 w.heap.size (fun _ => True) (.slice (some ⟨go14, 0, none⟩) x4_4.length co14) y134 := (by rw [Ny134.out]; exact hbk70 hg (fun k_ e_ => by injection e_ with e_; subst e_; exact ge70_0.1 _ rfl) (Kd.M_row hz_)); have hm_ := Kd.R_mono hz_ hok70; clear HP70 hbk70; replace HO_4 := aM (hp_); replace HB := aM ((by rw [hw]; exact below_set (HB.out) GB69.out : Below w.heap.size w w71)); have HL142 := aM (hm_); have HC133 := aM ((Kd.R_reads' hm_).2.1); clear HL127_0 HL129_0 HL131_0; clear hg hw hp_ hz_ hm_ hok70) | go_quiet (fail))
 (try simp only [← hl4_4])
 go_roundg kj41
 case measure => have := HJ1.out; have := HK2.out; have := HK3.out; have := HK4.out; have := HJ41.out; omega
 case rel => exact ⟨(y134), (wrap64 (x55_4 + 1)), qz3, H', ⟨by have := HJ1.out; have := HK2.out; have := HK3.out; have := HK4.out; have := HJ41.out; omega⟩, ⟨by (try simp only [hl4_2]); (try simp only [hl4_3]); (try simp only [hl4_4]); exact rm_ HO_4.out⟩, ⟨qz1⟩⟩
 }
 {
 replace H := iE_ H
 rcases H with ⟨c72b0, H⟩ | ⟨c72b0, H⟩
 {
 obtain ⟨y138, hy138⟩ : ∃ y_ : List Int, y_ = ((rd_L1 x4_4 x5_2).set (x45_3 : Int).toNat (wrap64 ((rd (rd_L1 l0 x5_2) x55_4) + (rd (rd_L1 x4_4 (ji58)) (Go.bits .or .i64 x45_3 (ji62)))))) := ⟨_, rfl⟩
 replace H : (impl_least.l2 kj41 l0 x3_1 (x4_4.set (x5_2 : Int).toNat y138) x5_2 x45_3 ((rd_L1 y117 x5_2).length : Int) x45_3 x3_1 (wrap64 (x55_4 + 1))) = some r := by first | (rw [hy138]; exact H) | exact H
 have Ny138 := aM hy138
 clear hy138
 obtain ⟨y140, hy140⟩ : ∃ y_ : List (List Int), y_ = (x4_4.set (x5_2 : Int).toNat y138) := ⟨_, rfl⟩
 replace H : (impl_least.l2 kj41 l0 x3_1 y140 x5_2 x45_3 ((rd_L1 y117 x5_2).length : Int) x45_3 x3_1 (wrap64 (x55_4 + 1))) = some r := by first | (rw [hy140]; exact H) | exact H
 have Ny140 := aM hy140
 clear hy140
 have H' := aM H
 clear H
 have p125 : (0 ≤ (x5_2 : Int)) = True := et_
 have q125 : (x5_2 < (l0.length : Int)) = True := et_
 obtain ⟨ad125, A125_0, c125_0, e125, hx125_0, hl125_0, hi125_0⟩ := at_L1 HR0.out x5_2 dt_ dt_
 cases e125
 replace hx125_0 := cB_ hx125_0
 have HR125_0 := aM hi125_0
 have HC125_0 := aM hl125_0
 clear hi125_0 hl125_0
 have p126 : (0 ≤ (x55_4 : Int)) = True := et_
 have q126 : (x55_4 < ((rd_L1 l0 x5_2).length : Int)) = True := et_
 obtain ⟨ad126, e126, hx126_0⟩ := tC1_ (Kd.at_int HR125_0.out x55_4 dt_ dt_)
 cases e126
 have p127 : 0 ≤ ((ji58) : Int) := dt_
 have q127 : (ji58) < (x4_4.length : Int) := dt_
 obtain ⟨ad127, A127_0, c127_0, e127, hx127_0, hl127_0, hi127_0⟩ := at_L1 (Kd.S_reads' HO_4.out).2.2 (ji58) p127 q127
 obtain rfl : (⟨go14, 0, none⟩ : Addr) = ad127 := (by injection e127)
 obtain ⟨ce127, hce127, hMe127, hcc127⟩ := Kd.S_get HO_4.out [] (ji58) p127 (by first | exact q127 | exact dt_ | (have e_ := (Kd.S_reads' HO_4.out).1; omega))
 obtain ⟨ve127_0, rfl, ge127_0⟩ := hMe127
 have hv127_0 := hcc127 0 _ rfl
 rw [Nat.add_zero, show ((Kd.slice 3 (Kd.int .i64))).sz = 1 from rfl, Nat.mul_one] at hv127_0
 replace hv127_0 := Option.some.inj (hv127_0.symm.trans hx127_0)
 rw [hv127_0] at ge127_0
 have HL127_0 := aM (show Kd.R (Kd.int .i64) 3 _ _ _ _ (rd_L1 x4_4 (ji58)) from ge127_0)
 clear hv127_0 ge127_0
 have HX127_0 := aM hx127_0
 clear hcc127 hce127
 (first | simp only [add_plain] at hx127_0 | simp only [add_at] at hx127_0 | simp only [Addr.add, Nat.zero_add] at hx127_0 | skip)
 have HR127_0 := aM hi127_0
 have HC127_0 := aM hl127_0
 clear hi127_0 hl127_0
 replace p127 := eq_true p127
 replace q127 := eq_true q127
 have p128 : (0 ≤ ((Go.bits .or .i64 x45_3 (ji62)) : Int)) = True := et_
 have q128 : ((Go.bits .or .i64 x45_3 (ji62)) < ((rd_L1 x4_4 (ji58)).length : Int)) = True := et_
 obtain ⟨ad128, e128, hx128_0⟩ := Kd.at_int qz19 (Go.bits .or .i64 x45_3 (ji62)) dt_ dt_
 cases e128
 have p129 : 0 ≤ (x5_2 : Int) := dt_
 have q129 : x5_2 < (x4_4.length : Int) := dt_
 obtain ⟨ad129, A129_0, c129_0, e129, hx129_0, hl129_0, hi129_0⟩ := at_L1 (Kd.S_reads' HO_4.out).2.2 x5_2 p129 q129
 obtain rfl : (⟨go14, 0, none⟩ : Addr) = ad129 := (by injection e129)
 obtain ⟨ce129, hce129, hMe129, hcc129⟩ := Kd.S_get HO_4.out [] x5_2 p129 (by first | exact q129 | exact dt_ | (have e_ := (Kd.S_reads' HO_4.out).1; omega))
 obtain ⟨ve129_0, rfl, ge129_0⟩ := hMe129
 have hv129_0 := hcc129 0 _ rfl
 rw [Nat.add_zero, show ((Kd.slice 3 (Kd.int .i64))).sz = 1 from rfl, Nat.mul_one] at hv129_0
 replace hv129_0 := Option.some.inj (hv129_0.symm.trans hx129_0)
 rw [hv129_0] at ge129_0
 have HL129_0 := aM (show Kd.R (Kd.int .i64) 3 _ _ _ _ (rd_L1 x4_4 x5_2) from ge129_0)
 clear hv129_0 ge129_0
 have HX129_0 := aM hx129_0
 clear hcc129 hce129
 (first | simp only [add_plain] at hx129_0 | simp only [add_at] at hx129_0 | simp only [Addr.add, Nat.zero_add] at hx129_0 | skip)
 have HR129_0 := aM hi129_0
 have HC129_0 := aM hl129_0
 clear hi129_0 hl129_0
 replace p129 := eq_true p129
 replace q129 := eq_true q129
 have p130 : (0 ≤ (x45_3 : Int)) = True := et_
 have q130 : (x45_3 < ((rd_L1 x4_4 x5_2).length : Int)) = True := et_
 obtain ⟨ad130, e130, hx130_0⟩ := Kd.at_int qz20 x45_3 dt_ dt_
 cases e130
 have p135 : 0 ≤ (x5_2 : Int) := dt_
 have q135 : x5_2 < (x4_4.length : Int) := dt_
 obtain ⟨ad135, A135_0, c135_0, e135, hx135_0, hl135_0, hi135_0⟩ := at_L1 (Kd.S_reads' HO_4.out).2.2 x5_2 p135 q135
 obtain rfl : (⟨go14, 0, none⟩ : Addr) = ad135 := (by injection e135)
 obtain ⟨ce135, hce135, hMe135, hcc135⟩ := Kd.S_get HO_4.out [] x5_2 p135 (by first | exact q135 | exact dt_ | (have e_ := (Kd.S_reads' HO_4.out).1; omega))
 obtain ⟨ve135_0, rfl, ge135_0⟩ := hMe135
 have hv135_0 := hcc135 0 _ rfl
 rw [Nat.add_zero, show ((Kd.slice 3 (Kd.int .i64))).sz = 1 from rfl, Nat.mul_one] at hv135_0
 replace hv135_0 := Option.some.inj (hv135_0.symm.trans hx135_0)
 rw [hv135_0] at ge135_0
 have HL135_0 := aM (show Kd.R (Kd.int .i64) 3 _ _ _ _ (rd_L1 x4_4 x5_2) from ge135_0)
 clear hv135_0 ge135_0
 have HX135_0 := aM hx135_0
 clear hcc135 hce135
 (first | simp only [add_plain] at hx135_0 | simp only [add_at] at hx135_0 | simp only [Addr.add, Nat.zero_add] at hx135_0 | skip)
 have HR135_0 := aM hi135_0
 have HC135_0 := aM hl135_0
 clear hi135_0 hl135_0
 replace p135 := eq_true p135
 replace q135 := eq_true q135
 have ea_ := Option.some.inj (hx129_0.symm.trans hx135_0)
 injection ea_ with ea_ en_ ec_
 subst ea_
 subst ec_
 clear en_
 have p136 : (0 ≤ (x45_3 : Int)) = True := et_
 have q136 : (x45_3 < ((rd_L1 x4_4 x5_2).length : Int)) = True := et_
 obtain ⟨ad136, e136, hx136_0⟩ := Kd.at_int qz25 x45_3 dt_ dt_
 cases e136
 have p137 : 0 ≤ (x5_2 : Int) := dt_
 have q137 : x5_2 < (x4_4.length : Int) := dt_
 obtain ⟨ad137, A137_0, c137_0, e137, hx137_0, hl137_0, hi137_0⟩ := at_L1 (Kd.S_reads' HO_4.out).2.2 x5_2 p137 q137
 obtain rfl : (⟨go14, 0, none⟩ : Addr) = ad137 := (by injection e137)
 obtain ⟨ce137, hce137, hMe137, hcc137⟩ := Kd.S_get HO_4.out [] x5_2 p137 (by first | exact q137 | exact dt_ | (have e_ := (Kd.S_reads' HO_4.out).1; omega))
 obtain ⟨ve137_0, rfl, ge137_0⟩ := hMe137
 have hv137_0 := hcc137 0 _ rfl
 rw [Nat.add_zero, show ((Kd.slice 3 (Kd.int .i64))).sz = 1 from rfl, Nat.mul_one] at hv137_0
 replace hv137_0 := Option.some.inj (hv137_0.symm.trans hx137_0)
 rw [hv137_0] at ge137_0
 have HL137_0 := aM (show Kd.R (Kd.int .i64) 3 _ _ _ _ (rd_L1 x4_4 x5_2) from ge137_0)
 clear hv137_0 ge137_0
 have HX137_0 := aM hx137_0
 clear hcc137 hce137
 (first | simp only [add_plain] at hx137_0 | simp only [add_at] at hx137_0 | simp only [Addr.add, Nat.zero_add] at hx137_0 | skip)
 have HR137_0 := aM hi137_0
 have HC137_0 := aM hl137_0
 clear hi137_0 hl137_0
 replace p137 := eq_true p137
 replace q137 := eq_true q137
 have ea_ := Option.some.inj (hx129_0.symm.trans hx137_0)
 injection ea_ with ea_ en_ ec_
 subst ea_
 subst ec_
 clear en_
 have p73 : 0 ≤ (x45_3 : Int) := dt_
 have q73 : (x45_3 : Int) < (((rd_L1 x4_4 x5_2).length : Int) : Int) := dt_
 obtain ⟨go73, co73, eo73, gb73, gl73, cl73, HG73⟩ := Kd.R_form HL137_0.out (by omega)
 (first | cases eo73 | (injection eo73 with ea_ en_ ec_; (first | subst ea_ | (injection ea_ with ea_; subst ea_)); subst ec_; clear en_))
 have GB73 := aM gb73
 have GG73 := aM HG73
 clear gb73 gl73 HG73
 (first | simp only [add_plain] at hx136_0 | skip)
 obtain ⟨hx73_0, hf73_0⟩ := Kd.R_celln 0 HL137_0.out (x45_3 : Int) p73 q73
 replace p73 := eq_true p73
 replace q73 := eq_true q73
 have hq74 : (x5_2 : Int) < (x4_4.length : Int) := (by have h_ : (x5_2 : Int) < ((x4_4.length : Int) : Int) := dt_; first | exact h_ | (have e_ := (Kd.S_reads' HO_4.out).1; omega) | simpa only [List.length_set, List.length_set] using h_)
 obtain ⟨oki74, ce74, hcl74, hM74, hcc74, hok74, hbk74⟩ := Kd.S_borrow HO_4.out [] (x5_2 : Int) (dt_) hq74
 obtain ⟨ve74_0, rfl, ge74_0⟩ := hM74
 have hv74 := hcc74 0 _ rfl
 rw [Nat.add_zero, show ((Kd.slice 3 (Kd.int .i64))).sz = 1 from rfl, Nat.mul_one] at hv74
 replace hv74 := Option.some.inj (hv74.symm.trans HX137_0.out)
 subst hv74
 clear hcc74 hcl74
 replace ge74_0 := (show Kd.R (Kd.int .i64) 3 _ _ _ _ (rd_L1 x4_4 x5_2) from ge74_0)
 have HP74 := Kd.R_putg ge74_0 (x45_3 : Int) (wrap64 ((rd (rd_L1 l0 x5_2) x55_4) + (rd (rd_L1 x4_4 (ji58)) (Go.bits .or .i64 x45_3 (ji62)))))
 go_wp2_with (first | ((with_reducible refine gate_store (t := 3) (p := 121) rfl ?_); (try (rw [drewN_self wc]; generalize hq_ : World.drewN wc _ = wc; replace HO_4 := aM (Kd.S_at hq_ HO_4.out); replace HB := aM (below_at hq_ HB.out); (try replace HX137_0 := aM (cellq_ hq_ HX137_0.out)); (try replace hx73_0 := cellq_ hq_ hx73_0); (try replace hf73_0 := frozq_ hq_ hf73_0); clear hq_; (try (have hq74 : (x5_2 : Int) < (x4_4.length : Int) := (by have h_ : (x5_2 : Int) < ((x4_4.length : Int) : Int) := dt_; first | exact h_ | (have e_ := (Kd.S_reads' HO_4.out).1; omega) | simpa only [List.length_set, List.length_set] using h_))); (try (obtain ⟨oki74, ce74, hcl74, hM74, hcc74, hok74, hbk74⟩ := Kd.S_borrow HO_4.out [] (x5_2 : Int) (dt_) hq74)); (try (obtain ⟨ve74_0, rfl, ge74_0⟩ := hM74)); (try (have hv74 := hcc74 0 _ rfl)); (try (rw [Nat.add_zero, show ((Kd.slice 3 (Kd.int .i64))).sz = 1 from rfl, Nat.mul_one] at hv74)); (try (replace hv74 := Option.some.inj (hv74.symm.trans HX137_0.out))); (try (subst hv74)); (try (clear hcc74 hcl74)); (try (replace ge74_0 := (show Kd.R (Kd.int .i64) 3 _ _ _ _ (rd_L1 x4_4 x5_2) from ge74_0))); (try (have HP74 := Kd.R_putg ge74_0 (x45_3 : Int) (wrap64 ((rd (rd_L1 l0 x5_2) x55_4) + (rd (rd_L1 x4_4 (ji58)) (Go.bits .or .i64 x45_3 (ji62))))))))); refine store_event (t := 3) (p := 121) (v := ?vo_w75) (w1 := (wc.setCell ⟨go73, (x45_3 : Int).toNat, none⟩ (.int .i64 (wrap64 ((rd (rd_L1 l0 x5_2) x55_4) + (rd (rd_L1 x4_4 (ji58)) (Go.bits .or .i64 x45_3 (ji62)))))))) ?hg ?ho ?hn ?hr ?_; (case ho => rfl); (case hg => rfl); (case hn => rfl); (case hr => exact qz10); intro w75 hw; have hg : wc.grownBy w75 (some go73) := (by rw [hw]; exact HP74.2); have hz_ : Kd.R (Kd.int .i64) 3 w75 w.heap.size oki74 (.slice (some ⟨go73, 0, none⟩) (rd_L1 x4_4 x5_2).length c129_0) y138 := (by rw [hw, Ny138.out]; exact HP74.1); have hp_ : Kd.S (Kd.slice 3 (Kd.int .i64)) 24 w75 w.heap.size (fun _ => True) (.slice (some ⟨go14, 0, none⟩) x4_4.length co14) y140 := (by rw [Ny140.out]; exact hbk74 hg (fun k_ e_ => by injection e_ with e_; subst e_; exact ge74_0.1 _ rfl) (Kd.M_row hz_)); have hm_ := Kd.R_mono hz_ hok74; clear HP74 hbk74; replace HO_4 := aM (hp_); replace HB := aM ((by rw [hw]; exact below_set (HB.out) GB73.out : Below w.heap.size w w75)); have HL143 := aM (hm_); have HC139 := aM ((Kd.R_reads' hm_).2.1); clear HL127_0 HL129_0 HL135_0 HL137_0; clear hg hw hp_ hz_ hm_ hok74) | go_quiet (fail))
 (try simp only [← hl4_4])
 go_roundg kj41
 case measure => have := HJ1.out; have := HK2.out; have := HK3.out; have := HK4.out; have := HJ41.out; omega
 case rel => exact ⟨(y140), (wrap64 (x55_4 + 1)), qz3, H', ⟨by have := HJ1.out; have := HK2.out; have := HK3.out; have := HK4.out; have := HJ41.out; omega⟩, ⟨by (try simp only [hl4_2]); (try simp only [hl4_3]); (try simp only [hl4_4]); exact rm_ HO_4.out⟩, ⟨qz1⟩⟩
 }
 {
 have H' := aM H
 clear H
 have p125 : (0 ≤ (x5_2 : Int)) = True := et_
 have q125 : (x5_2 < (l0.length : Int)) = True := et_
 obtain ⟨ad125, A125_0, c125_0, e125, hx125_0, hl125_0, hi125_0⟩ := at_L1 HR0.out x5_2 dt_ dt_
 cases e125
 replace hx125_0 := cB_ hx125_0
 have HR125_0 := aM hi125_0
 have HC125_0 := aM hl125_0
 clear hi125_0 hl125_0
 have p126 : (0 ≤ (x55_4 : Int)) = True := et_
 have q126 : (x55_4 < ((rd_L1 l0 x5_2).length : Int)) = True := et_
 obtain ⟨ad126, e126, hx126_0⟩ := tC1_ (Kd.at_int HR125_0.out x55_4 dt_ dt_)
 cases e126
 have p127 : 0 ≤ ((ji58) : Int) := dt_
 have q127 : (ji58) < (x4_4.length : Int) := dt_
 obtain ⟨ad127, A127_0, c127_0, e127, hx127_0, hl127_0, hi127_0⟩ := at_L1 (Kd.S_reads' HO_4.out).2.2 (ji58) p127 q127
 obtain rfl : (⟨go14, 0, none⟩ : Addr) = ad127 := (by injection e127)
 obtain ⟨ce127, hce127, hMe127, hcc127⟩ := Kd.S_get HO_4.out [] (ji58) p127 (by first | exact q127 | exact dt_ | (have e_ := (Kd.S_reads' HO_4.out).1; omega))
 obtain ⟨ve127_0, rfl, ge127_0⟩ := hMe127
 have hv127_0 := hcc127 0 _ rfl
 rw [Nat.add_zero, show ((Kd.slice 3 (Kd.int .i64))).sz = 1 from rfl, Nat.mul_one] at hv127_0
 replace hv127_0 := Option.some.inj (hv127_0.symm.trans hx127_0)
 rw [hv127_0] at ge127_0
 have HL127_0 := aM (show Kd.R (Kd.int .i64) 3 _ _ _ _ (rd_L1 x4_4 (ji58)) from ge127_0)
 clear hv127_0 ge127_0
 have HX127_0 := aM hx127_0
 clear hcc127 hce127
 (first | simp only [add_plain] at hx127_0 | simp only [add_at] at hx127_0 | simp only [Addr.add, Nat.zero_add] at hx127_0 | skip)
 have HR127_0 := aM hi127_0
 have HC127_0 := aM hl127_0
 clear hi127_0 hl127_0
 replace p127 := eq_true p127
 replace q127 := eq_true q127
 have p128 : (0 ≤ ((Go.bits .or .i64 x45_3 (ji62)) : Int)) = True := et_
 have q128 : ((Go.bits .or .i64 x45_3 (ji62)) < ((rd_L1 x4_4 (ji58)).length : Int)) = True := et_
 obtain ⟨ad128, e128, hx128_0⟩ := Kd.at_int qz19 (Go.bits .or .i64 x45_3 (ji62)) dt_ dt_
 cases e128
 have p129 : 0 ≤ (x5_2 : Int) := dt_
 have q129 : x5_2 < (x4_4.length : Int) := dt_
 obtain ⟨ad129, A129_0, c129_0, e129, hx129_0, hl129_0, hi129_0⟩ := at_L1 (Kd.S_reads' HO_4.out).2.2 x5_2 p129 q129
 obtain rfl : (⟨go14, 0, none⟩ : Addr) = ad129 := (by injection e129)
 obtain ⟨ce129, hce129, hMe129, hcc129⟩ := Kd.S_get HO_4.out [] x5_2 p129 (by first | exact q129 | exact dt_ | (have e_ := (Kd.S_reads' HO_4.out).1; omega))
 obtain ⟨ve129_0, rfl, ge129_0⟩ := hMe129
 have hv129_0 := hcc129 0 _ rfl
 rw [Nat.add_zero, show ((Kd.slice 3 (Kd.int .i64))).sz = 1 from rfl, Nat.mul_one] at hv129_0
 replace hv129_0 := Option.some.inj (hv129_0.symm.trans hx129_0)
 rw [hv129_0] at ge129_0
 have HL129_0 := aM (show Kd.R (Kd.int .i64) 3 _ _ _ _ (rd_L1 x4_4 x5_2) from ge129_0)
 clear hv129_0 ge129_0
 have HX129_0 := aM hx129_0
 clear hcc129 hce129
 (first | simp only [add_plain] at hx129_0 | simp only [add_at] at hx129_0 | simp only [Addr.add, Nat.zero_add] at hx129_0 | skip)
 have HR129_0 := aM hi129_0
 have HC129_0 := aM hl129_0
 clear hi129_0 hl129_0
 replace p129 := eq_true p129
 replace q129 := eq_true q129
 have p130 : (0 ≤ (x45_3 : Int)) = True := et_
 have q130 : (x45_3 < ((rd_L1 x4_4 x5_2).length : Int)) = True := et_
 obtain ⟨ad130, e130, hx130_0⟩ := Kd.at_int qz20 x45_3 dt_ dt_
 cases e130
 have p135 : 0 ≤ (x5_2 : Int) := dt_
 have q135 : x5_2 < (x4_4.length : Int) := dt_
 obtain ⟨ad135, A135_0, c135_0, e135, hx135_0, hl135_0, hi135_0⟩ := at_L1 (Kd.S_reads' HO_4.out).2.2 x5_2 p135 q135
 obtain rfl : (⟨go14, 0, none⟩ : Addr) = ad135 := (by injection e135)
 obtain ⟨ce135, hce135, hMe135, hcc135⟩ := Kd.S_get HO_4.out [] x5_2 p135 (by first | exact q135 | exact dt_ | (have e_ := (Kd.S_reads' HO_4.out).1; omega))
 obtain ⟨ve135_0, rfl, ge135_0⟩ := hMe135
 have hv135_0 := hcc135 0 _ rfl
 rw [Nat.add_zero, show ((Kd.slice 3 (Kd.int .i64))).sz = 1 from rfl, Nat.mul_one] at hv135_0
 replace hv135_0 := Option.some.inj (hv135_0.symm.trans hx135_0)
 rw [hv135_0] at ge135_0
 have HL135_0 := aM (show Kd.R (Kd.int .i64) 3 _ _ _ _ (rd_L1 x4_4 x5_2) from ge135_0)
 clear hv135_0 ge135_0
 have HX135_0 := aM hx135_0
 clear hcc135 hce135
 (first | simp only [add_plain] at hx135_0 | simp only [add_at] at hx135_0 | simp only [Addr.add, Nat.zero_add] at hx135_0 | skip)
 have HR135_0 := aM hi135_0
 have HC135_0 := aM hl135_0
 clear hi135_0 hl135_0
 replace p135 := eq_true p135
 replace q135 := eq_true q135
 have ea_ := Option.some.inj (hx129_0.symm.trans hx135_0)
 injection ea_ with ea_ en_ ec_
 subst ea_
 subst ec_
 clear en_
 have p136 : (0 ≤ (x45_3 : Int)) = True := et_
 have q136 : (x45_3 < ((rd_L1 x4_4 x5_2).length : Int)) = True := et_
 obtain ⟨ad136, e136, hx136_0⟩ := Kd.at_int qz25 x45_3 dt_ dt_
 cases e136
 go_wp2
 repeat (go_quiet (fail); try go_wp2)
 (try simp only [← hl4_4])
 go_roundg kj41
 case measure => have := HJ1.out; have := HK2.out; have := HK3.out; have := HK4.out; have := HJ41.out; omega
 case rel => exact ⟨(x4_4), (wrap64 (x55_4 + 1)), qz3, H', ⟨by have := HJ1.out; have := HK2.out; have := HK3.out; have := HK4.out; have := HJ41.out; omega⟩, ⟨by (try simp only [hl4_2]); (try simp only [hl4_3]); (try simp only [hl4_4]); exact rm_ HO_4.out⟩, ⟨qz1⟩⟩
 }
 }
 }
 }
 {
 have H' := aM H
 clear H
 go_wp2
 repeat (go_quiet (fail); try go_wp2)
 (try simp only [← hl4_3, ← hl4_4])
 go_roundg k4
 case measure => have := HJ1.out; have := HK2.out; have := HK3.out; have := HK4.out; omega
 case rel => exact ⟨(x4_4), (wrap64 (x45_3 + 1)), qz3, H', ⟨by have := HJ1.out; have := HK2.out; have := HK3.out; have := HK4.out; omega⟩, ⟨by (try simp only [hl4_2]); (try simp only [hl4_3]); (try simp only [hl4_4]); exact rm_ HO_4.out⟩, ⟨qz1⟩⟩
 }
 }
 {
 have c33b0 := decide_eq_false c33
 (try (have c33b0q4_2 := c33b0; simp only [hl4_2] at c33b0q4_2))
 (try (have c33b0q4_3 := c33b0; simp only [hl4_3] at c33b0q4_3))
 clear c33
 have H' := aM H
 clear H
 go_wp2
 repeat (go_quiet (fail); try go_wp2)
 (try simp only [← hl4_2, ← hl4_3])
 go_roundg k3
 case measure => have := HJ1.out; have := HK2.out; have := HK3.out; omega
 case rel => exact ⟨(x4_3), (wrap64 (x5_2 - 1)), qz3, H', ⟨by have := HJ1.out; have := HK2.out; have := HK3.out; omega⟩, ⟨by (try simp only [hl4_2]); (try simp only [hl4_3]); exact rm_ HO_4.out⟩, ⟨qz1⟩⟩
 }
 }
 {
 obtain rfl := Option.some.inj H
 go_wp2
 repeat (go_quiet (fail); try go_wp2)
 go_ret
 exact ⟨_, by first | rfl | (simp [errW_none, errW_some] <;> rfl) | (simp only [← hji5, ← hji9]; first | rfl | (simp [errW_none, errW_some] <;> rfl)) | (simp [*, errW_none, errW_some] <;> rfl), by (with_reducible repeat (first | apply Kd.S_alloc | apply Kd.S_drewN | apply Kd.S_drew)); exact HO_4.out, qz1⟩
 }
end Go.Proofs.Ytbebfhlejnidkaa.PFnMatched
