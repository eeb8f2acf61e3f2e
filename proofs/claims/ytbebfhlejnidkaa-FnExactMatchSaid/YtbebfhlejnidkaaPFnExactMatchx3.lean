-- Made by a program of this session out of the translation. Lean checks it.
import Derived.Test.YtbebfhlejnidkaaPFnExactMatchx2
namespace Go.Proofs.Ytbebfhlejnidkaa.PFnExactMatch
open Go.RowKit Go.Proofs.YtbebfhlejnidkaaW.PrintWords Go.Proofs.YtbebfhlejnidkaaW.PrintLast Go.Proofs.YtbebfhlejnidkaaW.PrintMore
attribute [local go_sem] max2_int min2_int max_two min_two max_three min_three max_four min_four   -- for this text's walks alone
set_option linter.unusedVariables false
set_option linter.unusedSimpArgs false

/-! ### spec_l4Least: function 35 -/
mutual
def spec_l4Least.l0 : Nat → List (List Int) → Int → Int → List Int → List Int → List Int → Int → Option (Int)
 | 0, _, _, _, _, _, _, _ => none
 | k + 1, x0, x3, x4, x5, x6, x7, x8 => if x8 ≤ x3 then (if 0 < (x7.length : Int) then ((spec_l4Grow.f k x0 x5 x6 (x7.set (0 : Int).toNat x8) x4).bind fun bt159 => (spec_l4Least.l0 k x0 x3 x4 bt159.1 bt159.2.1 bt159.2.2 (wrap64 (x8 + 1)))) else (none)) else (spec_l4Least.l1 k x0 x4 x7 0 1)
def spec_l4Least.l1 : Nat → List (List Int) → Int → List Int → Int → Int → Option (Int)
 | 0, _, _, _, _, _ => none
 | k + 1, x0, x4, x7, x9, x10 => if x10 ≤ x4 then (if 0 ≤ x10 then (if x10 < (x7.length : Int) then (if (rd x7 x10) > 0 then (if 0 ≤ (wrap64 ((rd x7 x10) - 1)) then (if (wrap64 ((rd x7 x10) - 1)) < (x0.length : Int) then (if 0 ≤ (wrap64 (x10 - 1)) then (if (wrap64 (x10 - 1)) < ((rd_L1 x0 (wrap64 ((rd x7 x10) - 1))).length : Int) then (spec_l4Least.l1 k x0 x4 x7 (wrap64 (x9 + (rd (rd_L1 x0 (wrap64 ((rd x7 x10) - 1))) (wrap64 (x10 - 1))))) (wrap64 (x10 + 1))) else (none)) else (none)) else (none)) else (none)) else (spec_l4Least.l1 k x0 x4 x7 x9 (wrap64 (x10 + 1)))) else (none)) else (none)) else (some x9)
end
def spec_l4Least.f (k : Nat) (l0 : List (List Int)) : Option (Int) := if (l0.length : Int) = 0 then (some 0) else (if 0 < (l0.length : Int) then (if 0 ≤ (wrap64 ((l0.length : Int) + 1)) then (if (wrap64 ((l0.length : Int) + 1) : Int).toNat ≤ 35184372088832 then (if 0 ≤ (wrap64 (((rd_L1 l0 0).length : Int) + 1)) then (if (wrap64 (((rd_L1 l0 0).length : Int) + 1) : Int).toNat ≤ 35184372088832 then (spec_l4Least.l0 k l0 (l0.length : Int) ((rd_L1 l0 0).length : Int) (List.replicate (wrap64 ((l0.length : Int) + 1) : Int).toNat 0) (List.replicate (wrap64 (((rd_L1 l0 0).length : Int) + 1) : Int).toNat 0) (List.replicate (wrap64 (((rd_L1 l0 0).length : Int) + 1) : Int).toNat 0) 1) else (none)) else (none)) else (none)) else (none)) else (none))
theorem spec_l4Least.mono_l : ∀ k, (∀ y0 y1 y2 y3 y4 y5 y6, LeO (spec_l4Least.l0 k y0 y1 y2 y3 y4 y5 y6) (spec_l4Least.l0 (k + 1) y0 y1 y2 y3 y4 y5 y6)) ∧ (∀ y0 y1 y2 y3 y4, LeO (spec_l4Least.l1 k y0 y1 y2 y3 y4) (spec_l4Least.l1 (k + 1) y0 y1 y2 y3 y4))
 | 0 => ⟨fun _ _ _ _ _ _ _ r h => by simp [spec_l4Least.l0] at h, fun _ _ _ _ _ r h => by simp [spec_l4Least.l1] at h⟩
 | k + 1 => by
  obtain ⟨ih0, ih1⟩ := spec_l4Least.mono_l k
  refine ⟨?_, ?_⟩
  {
  intro y0 y1 y2 y3 y4 y5 y6
  unfold spec_l4Least.l0
  have j0 := @spec_l4Grow.mono
  exact qL
  }
  {
  intro y0 y1 y2 y3 y4
  unfold spec_l4Least.l1
  have j0 := @spec_l4Grow.mono
  exact qL
  }
theorem spec_l4Least.mono : ∀ a0 k, LeO (spec_l4Least.f k a0) (spec_l4Least.f (k + 1) a0) := by
 intro a0 k
 obtain ⟨ih0, ih1⟩ := spec_l4Least.mono_l k
 unfold spec_l4Least.f
 have j0 := @spec_l4Grow.mono
 exact qL
set_option maxHeartbeats 8000000 in
set_option maxRecDepth 100000 in
theorem spec_l4Least.calls (k : Nat) (A0 : Option Addr) (c0 : Nat) (l0 : List (List Int)) (r : Int) (w : World) (hr0 : Kd.C (Kd.slice 3 (Kd.int .i64)) w A0 l0.length l0) (hc0 : l0.length ≤ c0) (h : spec_l4Least.f k l0 = some r) :
  Calls Try.prog 35 #[.slice A0 l0.length c0] w fun e w' => e = .returned (.int .i64 r) ∧ Below w.heap.size w w' := by
 have HR0 := aM hr0
 have HC0 := aM hc0
 clear hr0 hc0
 have HB := aM (Below.refl w.heap.size w)
 have H : (if (l0.length : Int) = 0 then (some 0) else (if 0 < (l0.length : Int) then (if 0 ≤ (wrap64 ((l0.length : Int) + 1)) then (if (wrap64 ((l0.length : Int) + 1) : Int).toNat ≤ 35184372088832 then (if 0 ≤ (wrap64 (((rd_L1 l0 0).length : Int) + 1)) then (if (wrap64 (((rd_L1 l0 0).length : Int) + 1) : Int).toNat ≤ 35184372088832 then (spec_l4Least.l0 k l0 (l0.length : Int) ((rd_L1 l0 0).length : Int) (List.replicate (wrap64 ((l0.length : Int) + 1) : Int).toNat 0) (List.replicate (wrap64 (((rd_L1 l0 0).length : Int) + 1) : Int).toNat 0) (List.replicate (wrap64 (((rd_L1 l0 0).length : Int) + 1) : Int).toNat 0) 1) else (none)) else (none)) else (none)) else (none)) else (none))) = some r := h
 clear h
 by_cases c2 : (l0.length : Int) = 0
 {
 rw [if_pos c2] at H
 have c2b0 := beq_iff_eq.mpr c2
 have c2b1 := bne_eq_false_iff_eq.mpr c2
 clear c2
 obtain rfl := Option.some.inj H
 simp only [Option.some.injEq, Prod.mk.injEq] at H
 obtain ⟨rfl⟩ := H
 go_enter Try.func35, Try.ntmps35
 go_wp2
 go_ret
 exact ⟨qzw, qz1⟩
 }
 {
 rw [if_neg c2] at H
 have c2b0 := beq_eq_false_iff_ne.mpr c2
 have c2b1 := bne_iff_ne.mpr c2
 have c2b2 : ¬ (l0 = []) := fun h_ => c2 (by rw [h_]; rfl)
 by_cases c3 : 0 < (l0.length : Int)
 {
 rw [if_pos c3] at H
 have c3b0 := decide_eq_true c3
 have c3b1 : decide (0 < l0.length) = true := decide_eq_true (by omega)
 clear c3
 obtain ⟨ji4, hji4⟩ : ∃ j_ : Int, (wrap64 ((l0.length : Int) + 1)) = j_ := ⟨_, rfl⟩
 replace H : (if 0 ≤ (ji4) then (if (ji4 : Int).toNat ≤ 35184372088832 then (if 0 ≤ (wrap64 (((rd_L1 l0 0).length : Int) + 1)) then (if (wrap64 (((rd_L1 l0 0).length : Int) + 1) : Int).toNat ≤ 35184372088832 then (spec_l4Least.l0 k l0 (l0.length : Int) ((rd_L1 l0 0).length : Int) (List.replicate (ji4 : Int).toNat 0) (List.replicate (wrap64 (((rd_L1 l0 0).length : Int) + 1) : Int).toNat 0) (List.replicate (wrap64 (((rd_L1 l0 0).length : Int) + 1) : Int).toNat 0) 1) else (none)) else (none)) else (none)) else (none)) = some r := by first | (rw [hji4] at H; exact H) | (simp only [hji4] at H ⊢; exact H)
 have hji4w : (IntKind.i64.wrap ((l0.length : Int) + 1)) = ji4 := (i64_w _).trans hji4
 by_cases c5 : 0 ≤ (ji4)
 {
 rw [if_pos c5] at H
 have c5b0 := eq_true c5
 have c5b1 := decide_eq_true c5
 clear c5
 by_cases c6 : (ji4 : Int).toNat ≤ 35184372088832
 {
 rw [if_pos c6] at H
 have c6b0 := eq_true c6
 have c6b1 := decide_eq_true c6
 clear c6
 obtain ⟨y149, hy149⟩ : ∃ y_ : List Int, y_ = (List.replicate (ji4 : Int).toNat 0) := ⟨_, rfl⟩
 replace H : (if 0 ≤ (wrap64 (((rd_L1 l0 0).length : Int) + 1)) then (if (wrap64 (((rd_L1 l0 0).length : Int) + 1) : Int).toNat ≤ 35184372088832 then (spec_l4Least.l0 k l0 (l0.length : Int) ((rd_L1 l0 0).length : Int) y149 (List.replicate (wrap64 (((rd_L1 l0 0).length : Int) + 1) : Int).toNat 0) (List.replicate (wrap64 (((rd_L1 l0 0).length : Int) + 1) : Int).toNat 0) 1) else (none)) else (none)) = some r := by first | (rw [hy149]; with_reducible exact H) | (have H2_ := (Option.bind_some _ _).symm.trans H; rw [hy149]; with_reducible exact H2_) | (have H2_ := (Option.bind_some _ _).symm.trans H; with_reducible exact H2_) | with_reducible exact H | (rw [hy149]; exact H) | exact H
 have Ny149 := aM hy149
 clear hy149
 obtain ⟨ji7, hji7⟩ : ∃ j_ : Int, (wrap64 (((rd_L1 l0 0).length : Int) + 1)) = j_ := ⟨_, rfl⟩
 replace H : (if 0 ≤ (ji7) then (if (ji7 : Int).toNat ≤ 35184372088832 then (spec_l4Least.l0 k l0 (l0.length : Int) ((rd_L1 l0 0).length : Int) y149 (List.replicate (ji7 : Int).toNat 0) (List.replicate (ji7 : Int).toNat 0) 1) else (none)) else (none)) = some r := by first | (rw [hji7] at H; exact H) | (simp only [hji7] at H ⊢; exact H)
 have hji7w : (IntKind.i64.wrap (((rd_L1 l0 0).length : Int) + 1)) = ji7 := (i64_w _).trans hji7
 by_cases c8 : 0 ≤ (ji7)
 {
 rw [if_pos c8] at H
 have c8b0 := eq_true c8
 have c8b1 := decide_eq_true c8
 clear c8
 by_cases c9 : (ji7 : Int).toNat ≤ 35184372088832
 {
 rw [if_pos c9] at H
 have c9b0 := eq_true c9
 have c9b1 := decide_eq_true c9
 clear c9
 obtain ⟨y152, hy152⟩ : ∃ y_ : List Int, y_ = (List.replicate (ji7 : Int).toNat 0) := ⟨_, rfl⟩
 replace H : (spec_l4Least.l0 k l0 (l0.length : Int) ((rd_L1 l0 0).length : Int) y149 y152 (List.replicate (ji7 : Int).toNat 0) 1) = some r := by first | (rw [hy152]; with_reducible exact H) | (have H2_ := (Option.bind_some _ _).symm.trans H; rw [hy152]; with_reducible exact H2_) | (have H2_ := (Option.bind_some _ _).symm.trans H; with_reducible exact H2_) | with_reducible exact H | (rw [hy152]; exact H) | exact H
 have Ny152 := aM hy152
 clear hy152
 obtain ⟨y155, hy155⟩ : ∃ y_ : List Int, y_ = (List.replicate (ji7 : Int).toNat 0) := ⟨_, rfl⟩
 replace H : (spec_l4Least.l0 k l0 (l0.length : Int) ((rd_L1 l0 0).length : Int) y149 y152 y155 1) = some r := by first | (rw [hy155]; with_reducible exact H) | (have H2_ := (Option.bind_some _ _).symm.trans H; rw [hy155]; with_reducible exact H2_) | (have H2_ := (Option.bind_some _ _).symm.trans H; with_reducible exact H2_) | with_reducible exact H | (rw [hy155]; exact H) | exact H
 have Ny155 := aM hy155
 clear hy155
 have H' := aM H
 clear H
 have p148 : 0 ≤ (0 : Int) := (by omega)
 have q148 : 0 < (l0.length : Int) := dt_
 obtain ⟨ad148, A148_0, c148_0, e148, hx148_0, hl148_0, hi148_0⟩ := at_L1 HR0.out 0 p148 q148
 cases e148
 have qi148 : (0 < l0.length) = True := eq_true (by omega)
 (try rw [show ((0 : Int)).toNat = 0 from rfl] at hx148_0)
 (try rw [Addr.add_zero'] at hx148_0)
 have HR148_0 := aM hi148_0
 have HC148_0 := aM hl148_0
 clear hi148_0 hl148_0
 replace p148 := eq_true p148
 replace q148 := eq_true q148
 go_enter Try.func35, Try.ntmps35
 go_wp2_with (first | ((with_reducible refine gate_dst (N := 21) rfl ?_); refine Kd.R_make (Kd.int .i64) _ 3 rfl (N := 21) rfl 24 _ _ rfl ji4 rfl rfl Try.underlying24 (.int .i64 0) 8 info3 rfl (by decide) (by omega) 0 (ok := fun _ => True) (okp := fun _ => True) rfl (fun _ hk => hk) trivial (dt_) (Nat.le_trans (Nat.mul_le_mul_right _ (dt_ : ji4.toNat ≤ 35184372088832)) (by omega)) (Below.refl _ _) (Nat.le_refl _) ?_; intro v150 w10 ho11 hb hg_ hnew_; clear hg_ hnew_; (first | rw [← Ny149.out] at ho11 | (simp only [Int.reduceToNat] at ho11; rw [← Ny149.out] at ho11)); have HO151 := aM (Kd.R_lower ho11 (below_size qz1)); replace HB := bS_ hb; clear hb ho11) | ((with_reducible refine gate_dst (N := 24) rfl ?_); refine Kd.R_make (Kd.int .i64) _ 3 rfl (N := 24) rfl 24 _ _ rfl ji7 rfl rfl Try.underlying24 (.int .i64 0) 8 info3 rfl (by decide) (by omega) 0 (ok := fun _ => True) (okp := fun _ => True) rfl (fun _ hk => hk) trivial (dt_) (Nat.le_trans (Nat.mul_le_mul_right _ (dt_ : ji7.toNat ≤ 35184372088832)) (by omega)) (Below.refl _ _) (Nat.le_refl _) ?_; intro v153 w12 ho13 hb hg_ hnew_; clear hg_ hnew_; (first | rw [← Ny152.out] at ho13 | (simp only [Int.reduceToNat] at ho13; rw [← Ny152.out] at ho13)); have HO154 := aM (Kd.R_lower (Kd.R_new' ho13 (Kd.R_lt (rr_ HO151.out))) (below_size qz1)); replace HO151 := aM (Kd.R_elder' (rr_ HO151.out) (Kd.R_base ho13) hb); replace HB := bS_ hb; clear hb ho13) | ((with_reducible refine gate_dst (N := 27) rfl ?_); refine Kd.R_make (Kd.int .i64) _ 3 rfl (N := 27) rfl 24 _ _ rfl ji7 rfl rfl Try.underlying24 (.int .i64 0) 8 info3 rfl (by decide) (by omega) 0 (ok := fun _ => True) (okp := fun _ => True) rfl (fun _ hk => hk) trivial (dt_) (Nat.le_trans (Nat.mul_le_mul_right _ (dt_ : ji7.toNat ≤ 35184372088832)) (by omega)) (Below.refl _ _) (Nat.le_refl _) ?_; intro v156 w14 ho15 hb hg_ hnew_; clear hg_ hnew_; (first | rw [← Ny155.out] at ho15 | (simp only [Int.reduceToNat] at ho15; rw [← Ny155.out] at ho15)); have HO157 := aM (Kd.R_lower (Kd.R_new' (Kd.R_new' ho15 (Kd.R_lt (rr_ HO151.out))) (Kd.R_lt (rr_ HO154.out))) (below_size qz1)); replace HO151 := aM (Kd.R_elder' (rr_ HO151.out) (Kd.R_base ho15) hb); replace HO154 := aM (Kd.R_elder' (rr_ HO154.out) (Kd.R_base ho15) hb); replace HB := bS_ hb; clear hb ho15))
 go_loopg [8] k (fun kq v8 w' => ∃ (x5_1 : List Int) (x6_1 : List Int) (x7_1 : List Int) (x8_1 : Int), v8 = .int .i64 x8_1 ∧ Aside0 (spec_l4Least.l0 kq l0 (l0.length : Int) ((rd_L1 l0 0).length : Int) x5_1 x6_1 x7_1 x8_1 = some r) ∧ Aside0 (kq ≤ k) ∧ Aside0 (Kd.R (Kd.int .i64) 3 w' w.heap.size (fun k_ => some k_ ≠ (v153 : Value).ownBlock ∧ some k_ ≠ (v156 : Value).ownBlock) v150 x5_1) ∧ Aside0 (Kd.R (Kd.int .i64) 3 w' w.heap.size (fun k_ => some k_ ≠ (v150 : Value).ownBlock ∧ some k_ ≠ (v156 : Value).ownBlock) v153 x6_1) ∧ Aside0 (Kd.R (Kd.int .i64) 3 w' w.heap.size (fun k_ => some k_ ≠ (v150 : Value).ownBlock ∧ some k_ ≠ (v153 : Value).ownBlock) v156 x7_1) ∧ Aside0 (Below w.heap.size w w'))
 case atStart => exact ⟨(y149), (y152), (y155), (1), qz3, H', ⟨Nat.le_refl _⟩, ⟨by (with_reducible repeat (first | apply Kd.R_alloc | apply Kd.R_drewN | apply Kd.R_drew)); exact Kd.R_mono HO151.out (fun _ hk => ⟨hk.1.2, hk.2⟩)⟩, ⟨by (with_reducible repeat (first | apply Kd.R_alloc | apply Kd.R_drewN | apply Kd.R_drew)); exact Kd.R_mono HO154.out (fun _ hk => ⟨hk.1.2, hk.2⟩)⟩, ⟨by (with_reducible repeat (first | apply Kd.R_alloc | apply Kd.R_drewN | apply Kd.R_drew)); exact Kd.R_mono HO157.out (fun _ hk => ⟨hk.1.2, hk.2⟩)⟩, ⟨qz1⟩⟩
 case round =>
  clear H'
  try clear c1
  try clear p1
  try clear q1
  try clear hx1
  try clear qi1
  try clear c2
  try clear c2b0
  try clear c2b1
  try clear c2b2
  try clear p2
  try clear c3
  try clear c3b0
  try clear c3b1
  try clear c5
  try clear c5b0
  try clear c5b1
  try clear c6
  try clear c6b0
  try clear c6b1
  try clear p6
  try clear c8
  try clear c8b0
  try clear c8b1
  try clear c9
  try clear c9b0
  try clear c9b1
  try clear c14
  try clear p14
  try clear q14
  try clear hx14
  try clear qi14
  try clear hx148_0
  try clear p148
  try clear q148
  obtain ⟨x5_1, x6_1, x7_1, x8_1, rfl, HA, HK1, HO_5, HO_6, HO_7, HB⟩ := hrel
  cases gk with
  | zero => exact absurd HA.out (by simp [spec_l4Least.l0])
  | succ k1 =>
   have H := HA.out
   clear HA
   simp only [spec_l4Least.l0] at H
   by_cases c16 : x8_1 ≤ (l0.length : Int)
   {
   rw [if_pos c16] at H
   have c16b0 := decide_eq_true c16
   clear c16
   by_cases c17 : 0 < (x7_1.length : Int)
   {
   rw [if_pos c17] at H
   have c17b0 := decide_eq_true c17
   have c17b1 : decide (0 < x7_1.length) = true := decide_eq_true (by omega)
   clear c17
   obtain ⟨y158, hy158⟩ : ∃ y_ : List Int, y_ = (x7_1.set (0 : Int).toNat x8_1) := ⟨_, rfl⟩
   replace H : ((spec_l4Grow.f k1 l0 x5_1 x6_1 y158 ((rd_L1 l0 0).length : Int)).bind fun bt159 => (spec_l4Least.l0 k1 l0 (l0.length : Int) ((rd_L1 l0 0).length : Int) bt159.1 bt159.2.1 bt159.2.2 (wrap64 (x8_1 + 1)))) = some r := by first | (rw [hy158]; with_reducible exact H) | (have H2_ := (Option.bind_some _ _).symm.trans H; rw [hy158]; with_reducible exact H2_) | (have H2_ := (Option.bind_some _ _).symm.trans H; with_reducible exact H2_) | with_reducible exact H | (rw [hy158]; exact H) | exact H
   have Ny158 := aM hy158
   clear hy158
   replace H := Option.bind_eq_some_iff.mp H
   obtain ⟨⟨t159, t160, t161⟩, A190, H⟩ := H
   replace H : (spec_l4Least.l0 k1 l0 (l0.length : Int) ((rd_L1 l0 0).length : Int) t159 t160 t161 (wrap64 (x8_1 + 1))) = some r := H
   have A19 := aM A190
   clear A190
   have H' := aM H
   clear H
   have p18 : 0 ≤ (0 : Int) := (by omega)
   have q18 : (0 : Int) < ((x7_1.length : Int) : Int) := dt_
   have qi18 : (0 < x7_1.length) = True := eq_true (by omega)
   obtain ⟨go18, co18, eo18, gb18, gl18, cl18, HG18⟩ := Kd.R_form HO_7.out (by omega)
   (first | cases eo18 | (injection eo18 with ea_ en_ ec_; (first | subst ea_ | (injection ea_ with ea_; subst ea_)); subst ec_; clear en_))
   have GB18 := aM gb18
   have GG18 := aM HG18
   clear gb18 gl18 HG18
   obtain ⟨hx18_0, hf18_0⟩ := Kd.R_celln 0 HO_7.out (0 : Int) p18 q18
   (try rw [show ((0 : Int)).toNat = 0 from rfl] at hx18_0)
   (try simp only [Nat.reduceMul, Nat.zero_mul, Nat.zero_add, Nat.reduceAdd] at hx18_0)
   (try rw [show ((0 : Int)).toNat = 0 from rfl] at hf18_0)
   (try simp only [Nat.reduceMul, Nat.zero_mul, Nat.zero_add, Nat.reduceAdd] at hf18_0)
   replace p18 := eq_true p18
   replace q18 := eq_true q18
   have HP20 := Kd.R_putg HO_7.out (0 : Int) x8_1
   go_wp2_with (first | ((with_reducible refine gate_store (t := 3) (p := 35) rfl ?_); refine store_event (t := 3) (p := 35) (v := ?vo_w21) (w1 := (wr.setCell ⟨go18, (0 : Int).toNat, none⟩ (.int .i64 x8_1))) ?hg ?ho ?hn ?hr ?_; (case ho => rfl); (case hg => rfl); (case hn => rfl); (case hr => exact qz8); intro w21 hw; have hg : wr.grownBy w21 (some go18) := (by rw [hw]; exact HP20.2); have hp_ : Kd.R (Kd.int .i64) 3 w21 w.heap.size (fun k_ => some k_ ≠ (v150 : Value).ownBlock ∧ some k_ ≠ (v153 : Value).ownBlock) (.slice (some ⟨go18, 0, none⟩) x7_1.length co18) y158 := (by rw [hw, Ny158.out]; exact HP20.1); clear HP20; replace HO_5 := aM (Kd.R_after (v := (.slice (some ⟨go18, 0, none⟩) x7_1.length co18)) (v1 := (.slice (some ⟨go18, 0, none⟩) x7_1.length co18)) (ok := (fun k_ => some k_ ≠ (v153 : Value).ownBlock)) (rr_ HO_5.out) hg (.inl rfl)); replace HO_6 := aM (Kd.R_after (v := (.slice (some ⟨go18, 0, none⟩) x7_1.length co18)) (v1 := (.slice (some ⟨go18, 0, none⟩) x7_1.length co18)) (ok := (fun k_ => some k_ ≠ (v150 : Value).ownBlock)) (rr_ HO_6.out) hg (.inl rfl)); replace HO_7 := aM (hp_); replace HB := aM ((by rw [hw]; exact below_set (HB.out) GB18.out : Below w.heap.size w w21)); clear hg hw hp_; obtain ⟨Ao22, co22, eo22⟩ := Kd.R_slice HO_5.out; subst eo22; obtain ⟨Ao23, co23, eo23⟩ := Kd.R_slice HO_6.out; subst eo23) | ((with_reducible refine gate_callee (f := 67) rfl ?_); refine goesL_ (some 41) rfl rfl Try.func67 (by kernel_rfl) rfl #[.slice (some ad148) l0.length c0, .slice Ao22 x5_1.length co22, .slice Ao23 x6_1.length co23, .slice (some ⟨go18, 0, none⟩) x7_1.length co18, .int .i64 ((rd_L1 l0 0).length : Int)] rfl qz4 ?_; (with_reducible refine (spec_l4Grow.calls k1 _ _ l0 (fun k_ => some k_ = (.slice Ao22 x5_1.length co22 : Value).ownBlock) (.slice Ao22 x5_1.length co22) x5_1 (fun k_ => some k_ = (.slice Ao23 x6_1.length co23 : Value).ownBlock) (.slice Ao23 x6_1.length co23) x6_1 (fun k_ => some k_ = (.slice (some ⟨go18, 0, none⟩) x7_1.length co18 : Value).ownBlock) (.slice (some ⟨go18, 0, none⟩) x7_1.length co18) y158 ((rd_L1 l0 0).length : Int) t159 t160 t161 w _ ?side1 ?side2 ?side3 ?side4 ?side5 ?side6 ?side7 ?side8 ?side9 ?side10 ?side11 ?side12 A19.out).mono ?_); (case side1 => exact qz1); (case side2 => exact Kd.C_kept_came (Kd.heap_slice 3 (Kd.heap_int .i64)) HR0.out qz1 (fun k_ hs_ => Or.elim hs_ (fun e_ => (fun e_ => Kd.R_base HO_5.out k_ e_.symm) e_) (fun e_ => Or.elim e_ (fun e_ => (fun e_ => Kd.R_base HO_6.out k_ e_.symm) e_) (fun e_ => (fun e_ => Kd.R_base HO_7.out k_ e_.symm) e_)))); (case side3 => exact HC0.out); (case side4 => exact Kd.R_tight rfl HO_5.out); (case side5 => exact fun k_ e_ => (HO_5.out.1 k_ e_.symm).1); (case side6 => exact fun k_ e_ => (HO_5.out.1 k_ e_.symm).2); (case side7 => exact Kd.R_tight rfl HO_6.out); (case side8 => exact fun k_ e_ => (HO_6.out.1 k_ e_.symm).1); (case side9 => exact fun k_ e_ => (HO_6.out.1 k_ e_.symm).2); (case side10 => exact Kd.R_tight rfl HO_7.out); (case side11 => exact fun k_ e_ => (HO_7.out.1 k_ e_.symm).1); (case side12 => exact fun k_ e_ => (HO_7.out.1 k_ e_.symm).2); rintro e w24 ⟨rfl, hy0, hy1, hy2, hb, hkp⟩; refine ⟨_, rfl, ?_⟩; replace HO_5 := aM (Kd.R_reok rfl hy0 (fun k_ e_ => HO_5.out.1 k_ e_)); replace HO_6 := aM (Kd.R_reok rfl hy1 (fun k_ e_ => HO_6.out.1 k_ e_)); replace HO_7 := aM (Kd.R_reok rfl hy2 (fun k_ e_ => HO_7.out.1 k_ e_)); replace HB := aM (hb); (try clear hb); (try clear hkp); (try clear hy0); (try clear hy1); (try clear hy2)))
   go_roundg k1
   case measure => have := HK1.out; omega
   case rel => exact ⟨(t159), (t160), (t161), (wrap64 (x8_1 + 1)), qz3, H', ⟨by have := HK1.out; omega⟩, ⟨rm_ HO_5.out⟩, ⟨rm_ HO_6.out⟩, ⟨rm_ HO_7.out⟩, ⟨qz1⟩⟩
   }
   {
   exact an_ c17 H
   }
   }
   {
   rw [if_neg c16] at H
   have c16b0 := decide_eq_false c16
   clear c16
   have H' := aM H
   clear H
   go_wp2
   go_loopg [9, 10] k1 (fun kq v9 v10 w' => ∃ (x9_2 : Int) (x10_2 : Int), v9 = .int .i64 x9_2 ∧ v10 = .int .i64 x10_2 ∧ Aside0 (spec_l4Least.l1 kq l0 ((rd_L1 l0 0).length : Int) x7_1 x9_2 x10_2 = some r) ∧ Aside0 (kq ≤ k1) ∧ Aside0 (Kd.R (Kd.int .i64) 3 w' w.heap.size (fun _ => True) v156 x7_1) ∧ Aside0 (Below w.heap.size w w'))
   case atStart => exact ⟨(0), (1), qz3, qz3, H', ⟨Nat.le_refl _⟩, ⟨by (with_reducible repeat (first | apply Kd.R_alloc | apply Kd.R_drewN | apply Kd.R_drew)); exact Kd.R_mono HO_7.out (fun _ hk => trivial)⟩, ⟨qz1⟩⟩
   case round =>
    clear H'
    try clear c1
    try clear p1
    try clear q1
    try clear hx1
    try clear qi1
    try clear hf1
    try clear c2
    try clear c2b0
    try clear c2b1
    try clear c2b2
    try clear p2
    try clear c3
    try clear c3b0
    try clear c3b1
    try clear c5
    try clear c5b0
    try clear c5b1
    try clear c6
    try clear c6b0
    try clear c6b1
    try clear p6
    try clear c8
    try clear c8b0
    try clear c8b1
    try clear c9
    try clear c9b0
    try clear c9b1
    try clear c14
    try clear p14
    try clear q14
    try clear hx14
    try clear qi14
    try clear c16
    try clear c16b0
    try clear c17
    try clear c17b0
    try clear c17b1
    try clear p18
    try clear q18
    try clear hx18
    try clear qi18
    try clear hf18
    try clear hx148_0
    try clear hx18_0
    try clear p148
    try clear q148
    obtain ⟨x9_2, x10_2, rfl, rfl, HA, HK2, HO_7, HB⟩ := hrel
    cases gk with
    | zero => exact absurd HA.out (by simp [spec_l4Least.l1])
    | succ k2 =>
     have H := HA.out
     clear HA
     simp only [spec_l4Least.l1] at H
     by_cases c25 : x10_2 ≤ ((rd_L1 l0 0).length : Int)
     {
     rw [if_pos c25] at H
     have c25b0 := decide_eq_true c25
     clear c25
     by_cases c26 : 0 ≤ x10_2
     {
     rw [if_pos c26] at H
     have c26b0 := decide_eq_true c26
     clear c26
     by_cases c27 : x10_2 < (x7_1.length : Int)
     {
     rw [if_pos c27] at H
     have c27b0 := decide_eq_true c27
     clear c27
     by_cases c28 : (rd x7_1 x10_2) > 0
     {
     rw [if_pos c28] at H
     have c28b0 := decide_eq_true c28
     clear c28
     obtain ⟨ji29, hji29⟩ : ∃ j_ : Int, (wrap64 ((rd x7_1 x10_2) - 1)) = j_ := ⟨_, rfl⟩
     replace H : (if 0 ≤ (ji29) then (if (ji29) < (l0.length : Int) then (if 0 ≤ (wrap64 (x10_2 - 1)) then (if (wrap64 (x10_2 - 1)) < ((rd_L1 l0 (ji29)).length : Int) then (spec_l4Least.l1 k2 l0 ((rd_L1 l0 0).length : Int) x7_1 (wrap64 (x9_2 + (rd (rd_L1 l0 (ji29)) (wrap64 (x10_2 - 1))))) (wrap64 (x10_2 + 1))) else (none)) else (none)) else (none)) else (none)) = some r := by first | (rw [hji29] at H; exact H) | (simp only [hji29] at H ⊢; exact H)
     have hji29w : (IntKind.i64.wrap ((rd x7_1 x10_2) - 1)) = ji29 := (i64_w _).trans hji29
     by_cases c30 : 0 ≤ (ji29)
     {
     rw [if_pos c30] at H
     have c30b0 := decide_eq_true c30
     clear c30
     by_cases c31 : (ji29) < (l0.length : Int)
     {
     rw [if_pos c31] at H
     have c31b0 := decide_eq_true c31
     clear c31
     obtain ⟨ji32, hji32⟩ : ∃ j_ : Int, (wrap64 (x10_2 - 1)) = j_ := ⟨_, rfl⟩
     replace H : (if 0 ≤ (ji32) then (if (ji32) < ((rd_L1 l0 (ji29)).length : Int) then (spec_l4Least.l1 k2 l0 ((rd_L1 l0 0).length : Int) x7_1 (wrap64 (x9_2 + (rd (rd_L1 l0 (ji29)) (ji32)))) (wrap64 (x10_2 + 1))) else (none)) else (none)) = some r := by first | (rw [hji32] at H; exact H) | (simp only [hji32] at H ⊢; exact H)
     have hji32w : (IntKind.i64.wrap (x10_2 - 1)) = ji32 := (i64_w _).trans hji32
     by_cases c33 : 0 ≤ (ji32)
     {
     rw [if_pos c33] at H
     have c33b0 := decide_eq_true c33
     clear c33
     by_cases c34 : (ji32) < ((rd_L1 l0 (ji29)).length : Int)
     {
     rw [if_pos c34] at H
     have c34b0 := decide_eq_true c34
     clear c34
     have H' := aM H
     clear H
     obtain ⟨Ao35, co35, eo35⟩ := Kd.R_slice HO_7.out
     subst eo35
     have p162 : 0 ≤ (x10_2 : Int) := dt_
     have q162 : x10_2 < (x7_1.length : Int) := dt_
     obtain ⟨ad162, e162, hx162_0⟩ := Kd.at_int (Kd.R_reads' HO_7.out).2.2 x10_2 p162 q162
     cases e162
     replace p162 := eq_true p162
     replace q162 := eq_true q162
     have p163 : 0 ≤ (x10_2 : Int) := dt_
     have q163 : x10_2 < (x7_1.length : Int) := dt_
     obtain ⟨ad163, e163, hx163_0⟩ := Kd.at_int (Kd.R_reads' HO_7.out).2.2 x10_2 p163 q163
     obtain rfl : ad162 = ad163 := (by injection e163)
     replace p163 := eq_true p163
     replace q163 := eq_true q163
     have p164 : 0 ≤ ((ji29) : Int) := dt_
     have q164 : (ji29) < (l0.length : Int) := dt_
     obtain ⟨ad164, A164_0, c164_0, e164, hx164_0, hl164_0, hi164_0⟩ := at_L1 HR0.out (ji29) p164 q164
     obtain rfl : ad148 = ad164 := (by injection e164)
     replace hx164_0 := cB_ hx164_0
     have HR164_0 := aM hi164_0
     have HC164_0 := aM hl164_0
     clear hi164_0 hl164_0
     replace p164 := eq_true p164
     replace q164 := eq_true q164
     have p165 : 0 ≤ ((ji32) : Int) := dt_
     have q165 : (ji32) < ((rd_L1 l0 (ji29)).length : Int) := dt_
     obtain ⟨ad165, e165, hx165_0⟩ := Kd.at_int HR164_0.out (ji32) p165 q165
     cases e165
     replace hx165_0 := cB_ hx165_0
     replace p165 := eq_true p165
     replace q165 := eq_true q165
     go_wp2
     go_roundg k2
     case measure => have := HK1.out; have := HK2.out; omega
     case rel => exact ⟨(wrap64 (x9_2 + (rd (rd_L1 l0 (ji29)) (ji32)))), (wrap64 (x10_2 + 1)), (by first | rfl | (simp; done) | (simp only [← hji29, ← hji32] <;> (first | rfl | simp)) | (simp [*]; done)), qz3, H', ⟨by have := HK1.out; have := HK2.out; omega⟩, ⟨rm_ HO_7.out⟩, ⟨qz1⟩⟩
     }
     {
     exact an_ c34 H
     }
     }
     {
     exact an_ c33 H
     }
     }
     {
     exact an_ c31 H
     }
     }
     {
     exact an_ c30 H
     }
     }
     {
     rw [if_neg c28] at H
     have c28b0 := decide_eq_false c28
     clear c28
     have H' := aM H
     clear H
     obtain ⟨Ao36, co36, eo36⟩ := Kd.R_slice HO_7.out
     subst eo36
     have p162 : 0 ≤ (x10_2 : Int) := dt_
     have q162 : x10_2 < (x7_1.length : Int) := dt_
     obtain ⟨ad162, e162, hx162_0⟩ := Kd.at_int (Kd.R_reads' HO_7.out).2.2 x10_2 p162 q162
     cases e162
     replace p162 := eq_true p162
     replace q162 := eq_true q162
     go_wp2
     go_roundg k2
     case measure => have := HK1.out; have := HK2.out; omega
     case rel => exact ⟨(x9_2), (wrap64 (x10_2 + 1)), qz3, qz3, H', ⟨by have := HK1.out; have := HK2.out; omega⟩, ⟨rm_ HO_7.out⟩, ⟨qz1⟩⟩
     }
     }
     {
     exact an_ c27 H
     }
     }
     {
     exact an_ c26 H
     }
     }
     {
     rw [if_neg c25] at H
     have c25b0 := decide_eq_false c25
     clear c25
     obtain rfl := Option.some.inj H
     simp only [Option.some.injEq, Prod.mk.injEq] at H
     obtain ⟨rfl⟩ := H
     go_wp2
     go_ret
     exact ⟨by first | rfl | (simp [errW_none, errW_some] <;> rfl) | (simp only [← hji4, ← hji7]; first | rfl | (simp [errW_none, errW_some] <;> rfl)) | (simp [*, errW_none, errW_some] <;> rfl), qz1⟩
     }
   }
 }
 {
 exact an_ c9 H
 }
 }
 {
 exact an_ c8 H
 }
 }
 {
 exact an_ c6 H
 }
 }
 {
 exact an_ c5 H
 }
 }
 {
 exact an_ c3 H

 }
 }
/-! ### spec_l4Without: function 36 -/
def spec_l4Without.l0 : Nat → List (List Int) → Int → List (List Int) → Int → Option ((List (List Int)))
 | 0, _, _, _, _ => none
 | k + 1, x0, x1, x5, x6 => if x6 < (x0.length : Int) then ((some (([] : List Int) : List Int)).bind fun y169 => (if 0 ≤ x6 then (if 0 ≤ x1 then (if x1 ≤ ((rd_L1 x0 x6).length : Int) then (if y169.length + ((rd_L1 x0 x6).take (x1 : Int).toNat).length < 17592186044416 then ((some (y169 ++ ((rd_L1 x0 x6).take (x1 : Int).toNat) : List Int)).bind fun y174 => (if 0 ≤ (wrap64 (x1 + 1)) then (if (wrap64 (x1 + 1)) ≤ ((rd_L1 x0 x6).length : Int) then (if y174.length + ((rd_L1 x0 x6).drop ((wrap64 (x1 + 1)) : Int).toNat).length < 17592186044416 then (if x5.length < 5864062014805 then (spec_l4Without.l0 k x0 x1 (x5 ++ [(y174 ++ ((rd_L1 x0 x6).drop ((wrap64 (x1 + 1)) : Int).toNat))]) (wrap64 (x6 + 1))) else (none)) else (none)) else (none)) else (none))) else (none)) else (none)) else (none)) else (none))) else (some x5)
def spec_l4Without.f (k : Nat) (l0 : List (List Int)) (a1 : Int) : Option ((List (List Int))) := spec_l4Without.l0 k l0 a1 (([] : List (List Int))) 1
theorem spec_l4Without.mono_l : ∀ k, (∀ y0 y1 y2 y3, LeO (spec_l4Without.l0 k y0 y1 y2 y3) (spec_l4Without.l0 (k + 1) y0 y1 y2 y3))
 | 0 => fun _ _ _ _ r h => by simp [spec_l4Without.l0] at h
 | k + 1 => by
  have ih0 := spec_l4Without.mono_l k
  {
  intro y0 y1 y2 y3
  unfold spec_l4Without.l0
  exact qL
  }
theorem spec_l4Without.mono : ∀ a0 a1 k, LeO (spec_l4Without.f k a0 a1) (spec_l4Without.f (k + 1) a0 a1) := by
 intro a0 a1 k
 have ih0 := spec_l4Without.mono_l k
 unfold spec_l4Without.f
 exact qL
def spec_l4Without.T5 : Bool × List (List Nat × List Nat) := (true, [([], []), ([], []), ([], []), ([], []), ([2, 3], [2, 3]), ([4], [4]), ([], []), ([5, 6], [5, 6]), ([1, 7], [1, 7]), ([], []), ([], []), ([9, 10], [9, 10]), ([11], [11]), ([], []), ([13], [13]), ([12, 14], [12, 14]), ([8, 15, 8], [8, 15]), ([16], [16]), ([0, 17, 16], [0, 17]), ([18, 18, 0, 1, 2, 3, 4, 5, 6, 7, 8, 9, 10, 11, 12, 13, 14, 15, 16, 17, 18], [0, 18])])
def spec_l4Without.B5 : List Nat := [0, 0, 0, 0, 12, 28, 0, 124, 254, 0, 0, 1536, 3584, 0, 8192, 32256, 65534, 131070, 262143, 524287]
theorem spec_l4Without.tab5 : rtab .any (opsOf Try.f36 5) = spec_l4Without.T5 := by kernel_rfl
theorem spec_l4Without.bits5 : waitsOk spec_l4Without.T5.2 spec_l4Without.B5 = true := by kernel_rfl
set_option maxHeartbeats 8000000 in
set_option maxRecDepth 100000 in
theorem spec_l4Without.calls (k : Nat) (A0 : Option Addr) (c0 : Nat) (l0 : List (List Int)) (a1 : Int) (r : List (List Int)) (w : World) (hr0 : Kd.C (Kd.slice 3 (Kd.int .i64)) w A0 l0.length l0) (hc0 : l0.length ≤ c0) (h : spec_l4Without.f k l0 a1 = some r) :
  Calls Try.prog 36 #[.slice A0 l0.length c0, .int .i64 a1] w fun e w' => ∃ v0_ : Value, e = .returned (v0_) ∧ Kd.S (Kd.slice 3 (Kd.int .i64)) 24 w' w.heap.size (fun _ => True) v0_ r ∧ Below w.heap.size w w' := by
 have HR0 := aM hr0
 have HC0 := aM hc0
 clear hr0 hc0
 have HB := aM (Below.refl w.heap.size w)
 have H : (spec_l4Without.l0 k l0 a1 (([] : List (List Int))) 1) = some r := h
 clear h
 obtain ⟨y166, hy166⟩ : ∃ y_ : List (List Int), y_ = (([] : List (List Int))) := ⟨_, rfl⟩
 replace H : (spec_l4Without.l0 k l0 a1 y166 1) = some r := by first | (rw [hy166]; with_reducible exact H) | (have H2_ := (Option.bind_some _ _).symm.trans H; rw [hy166]; with_reducible exact H2_) | (have H2_ := (Option.bind_some _ _).symm.trans H; with_reducible exact H2_) | with_reducible exact H | (rw [hy166]; exact H) | exact H
 have Ny166 := aM hy166
 clear hy166
 have H' := aM H
 clear H
 go_enter Try.func36, Try.ntmps36
 go_wp2_with (first | ((with_reducible refine gate_dst (N := 7) rfl ?_); refine Kd.S_lit (Kd.slice 3 (Kd.int .i64)) _ 24 ?hg (N := 7) ?hd (xs := ([] : List (List Int))) (inner := []) (ok := fun _ => True) (okp := fun _ => True) ?hr ?hp (fun _ hk => hk) trivial (Below.refl _ _) (Nat.le_refl _) (by simp) ?_; (case hd => rfl); (case hg => rfl); (case hr => exact qz8); (case hp => exact (Reps.none _ _)); intro v167 w3 ho4 hb hg_ hnew_; clear hg_ hnew_; (first | rw [← Ny166.out] at ho4 | (simp only [Int.reduceToNat] at ho4; rw [← Ny166.out] at ho4)); have HO168 := aM (Kd.S_lower ho4 (below_size qz1)); replace HB := bS_ hb; clear hb ho4))
 go_loopg [5, 6] k (fun kq v5 v6 w' => ∃ (x5_1 : List (List Int)) (x6_1 : Int), v6 = .int .i64 x6_1 ∧ Aside0 (spec_l4Without.l0 kq l0 a1 x5_1 x6_1 = some r) ∧ Aside0 (kq ≤ k) ∧ Aside0 (Kd.S (Kd.slice 3 (Kd.int .i64)) 24 w' w.heap.size (fun _ => True) v5 x5_1) ∧ Aside0 (Below w.heap.size w w'))
 case atStart => exact ⟨(y166), (1), qz3, H', ⟨Nat.le_refl _⟩, ⟨rs_ HO168.out⟩, ⟨qz1⟩⟩
 case round =>
  clear H'
  try clear p2
  try clear c3
  obtain ⟨x5_1, x6_1, rfl, HA, HK1, HO_5, HB⟩ := hrel
  cases gk with
  | zero => exact absurd HA.out (by simp [spec_l4Without.l0])
  | succ k1 =>
   have H := HA.out
   clear HA
   simp only [spec_l4Without.l0] at H
   by_cases c5 : x6_1 < (l0.length : Int)
   {
   rw [if_pos c5] at H
   have c5b0 := decide_eq_true c5
   clear c5
   obtain ⟨y169, hy169⟩ : ∃ y_ : List Int, y_ = (([] : List Int)) := ⟨_, rfl⟩
   replace H : (if 0 ≤ x6_1 then (if 0 ≤ a1 then (if a1 ≤ ((rd_L1 l0 x6_1).length : Int) then (if y169.length + ((rd_L1 l0 x6_1).take (a1 : Int).toNat).length < 17592186044416 then ((some (y169 ++ ((rd_L1 l0 x6_1).take (a1 : Int).toNat) : List Int)).bind fun y174 => (if 0 ≤ (wrap64 (a1 + 1)) then (if (wrap64 (a1 + 1)) ≤ ((rd_L1 l0 x6_1).length : Int) then (if y174.length + ((rd_L1 l0 x6_1).drop ((wrap64 (a1 + 1)) : Int).toNat).length < 17592186044416 then (if x5_1.length < 5864062014805 then (spec_l4Without.l0 k1 l0 a1 (x5_1 ++ [(y174 ++ ((rd_L1 l0 x6_1).drop ((wrap64 (a1 + 1)) : Int).toNat))]) (wrap64 (x6_1 + 1))) else (none)) else (none)) else (none)) else (none))) else (none)) else (none)) else (none)) else (none)) = some r := by first | (rw [hy169]; with_reducible exact H) | (have H2_ := (Option.bind_some _ _).symm.trans H; rw [hy169]; with_reducible exact H2_) | (have H2_ := (Option.bind_some _ _).symm.trans H; with_reducible exact H2_) | with_reducible exact H | (rw [hy169]; exact H) | exact H
   have Ny169 := aM hy169
   clear hy169
   by_cases c6 : 0 ≤ x6_1
   {
   rw [if_pos c6] at H
   have c6b0 := decide_eq_true c6
   clear c6
   by_cases c7 : 0 ≤ a1
   {
   rw [if_pos c7] at H
   have c7b0 := eq_true c7
   have c7b1 := decide_eq_true c7
   clear c7
   by_cases c8 : a1 ≤ ((rd_L1 l0 x6_1).length : Int)
   {
   rw [if_pos c8] at H
   have c8b0 := eq_true c8
   have c8b1 := decide_eq_true c8
   clear c8
   by_cases c9 : y169.length + ((rd_L1 l0 x6_1).take (a1 : Int).toNat).length < 17592186044416
   {
   rw [if_pos c9] at H
   have LMc9 := aM c9
   clear c9
   obtain ⟨y174, hy174⟩ : ∃ y_ : List Int, y_ = (y169 ++ ((rd_L1 l0 x6_1).take (a1 : Int).toNat)) := ⟨_, rfl⟩
   replace H : (if 0 ≤ (wrap64 (a1 + 1)) then (if (wrap64 (a1 + 1)) ≤ ((rd_L1 l0 x6_1).length : Int) then (if y174.length + ((rd_L1 l0 x6_1).drop ((wrap64 (a1 + 1)) : Int).toNat).length < 17592186044416 then (if x5_1.length < 5864062014805 then (spec_l4Without.l0 k1 l0 a1 (x5_1 ++ [(y174 ++ ((rd_L1 l0 x6_1).drop ((wrap64 (a1 + 1)) : Int).toNat))]) (wrap64 (x6_1 + 1))) else (none)) else (none)) else (none)) else (none)) = some r := by first | (rw [hy174]; with_reducible exact H) | (have H2_ := (Option.bind_some _ _).symm.trans H; rw [hy174]; with_reducible exact H2_) | (have H2_ := (Option.bind_some _ _).symm.trans H; with_reducible exact H2_) | with_reducible exact H | (rw [hy174]; exact H) | exact H
   have Ny174 := aM hy174
   clear hy174
   obtain ⟨ji10, hji10⟩ : ∃ j_ : Int, (wrap64 (a1 + 1)) = j_ := ⟨_, rfl⟩
   replace H : (if 0 ≤ (ji10) then (if (ji10) ≤ ((rd_L1 l0 x6_1).length : Int) then (if y174.length + ((rd_L1 l0 x6_1).drop ((ji10) : Int).toNat).length < 17592186044416 then (if x5_1.length < 5864062014805 then (spec_l4Without.l0 k1 l0 a1 (x5_1 ++ [(y174 ++ ((rd_L1 l0 x6_1).drop ((ji10) : Int).toNat))]) (wrap64 (x6_1 + 1))) else (none)) else (none)) else (none)) else (none)) = some r := by first | (rw [hji10] at H; exact H) | (simp only [hji10] at H ⊢; exact H)
   have hji10w : (IntKind.i64.wrap (a1 + 1)) = ji10 := (i64_w _).trans hji10
   by_cases c11 : 0 ≤ (ji10)
   {
   rw [if_pos c11] at H
   have c11b0 := eq_true c11
   have c11b1 := decide_eq_true c11
   clear c11
   by_cases c12 : (ji10) ≤ ((rd_L1 l0 x6_1).length : Int)
   {
   rw [if_pos c12] at H
   have c12b0 := eq_true c12
   have c12b1 := decide_eq_true c12
   clear c12
   by_cases c13 : y174.length + ((rd_L1 l0 x6_1).drop ((ji10) : Int).toNat).length < 17592186044416
   {
   rw [if_pos c13] at H
   have LMc13 := aM c13
   clear c13
   obtain ⟨y179, hy179⟩ : ∃ y_ : List Int, y_ = (y174 ++ ((rd_L1 l0 x6_1).drop ((ji10) : Int).toNat)) := ⟨_, rfl⟩
   replace H : (if x5_1.length < 5864062014805 then (spec_l4Without.l0 k1 l0 a1 (x5_1 ++ [y179]) (wrap64 (x6_1 + 1))) else (none)) = some r := by first | (rw [hy179]; with_reducible exact H) | (have H2_ := (Option.bind_some _ _).symm.trans H; rw [hy179]; with_reducible exact H2_) | (have H2_ := (Option.bind_some _ _).symm.trans H; with_reducible exact H2_) | with_reducible exact H | (rw [hy179]; exact H) | exact H
   have Ny179 := aM hy179
   clear hy179
   by_cases c14 : x5_1.length < 5864062014805
   {
   rw [if_pos c14] at H
   have LMc14 := aM c14
   clear c14
   obtain ⟨y182, hy182⟩ : ∃ y_ : List (List Int), y_ = (x5_1 ++ [y179]) := ⟨_, rfl⟩
   replace H : (spec_l4Without.l0 k1 l0 a1 y182 (wrap64 (x6_1 + 1))) = some r := by first | (rw [hy182]; with_reducible exact H) | (have H2_ := (Option.bind_some _ _).symm.trans H; rw [hy182]; with_reducible exact H2_) | (have H2_ := (Option.bind_some _ _).symm.trans H; with_reducible exact H2_) | with_reducible exact H | (rw [hy182]; exact H) | exact H
   have Ny182 := aM hy182
   clear hy182
   have H' := aM H
   clear H
   try go_wp2
   replace HO_5 := aM (Kd.S_drew HO_5.out)
   replace HB := aM (below_drew1 HB.out)
   have p172 : 0 ≤ (x6_1 : Int) := dt_
   have q172 : x6_1 < (l0.length : Int) := dt_
   obtain ⟨ad172, A172_0, c172_0, e172, hx172_0, hl172_0, hi172_0⟩ := at_L1 HR0.out x6_1 p172 q172
   have hw172_0 := hx172_0
   cases e172
   replace hx172_0 := cB_ hx172_0
   have HR172_0 := aM hi172_0
   have HC172_0 := aM hl172_0
   clear hi172_0 hl172_0
   replace p172 := eq_true p172
   replace q172 := eq_true q172
   obtain ⟨i016, hi016, _, hsz16, _⟩ := info_parts info3
   obtain ⟨hcut16, hA16, hC16⟩ := print_take_of (P := Try.prog) (Value.int .i64) 0 24 3 .i64 Try.underlying24 hi016 hsz16 A172_0 c172_0 (rd_L1 l0 x6_1) a1 (dt_) (dt_) HC172_0.out
   have HR173 := aM (Kd.C_of_reads (h1 := fun _ => rfl) (hA16 _ (Kd.reads_of_C HR172_0.out)))
   have HC173 := aM hC16
   clear hA16 hC16 hi016 hsz16
   have p177 : 0 ≤ (x6_1 : Int) := dt_
   have q177 : x6_1 < (l0.length : Int) := dt_
   obtain ⟨ad177, A177_0, c177_0, e177, hx177_0, hl177_0, hi177_0⟩ := at_L1 HR0.out x6_1 p177 q177
   have hw177_0 := hx177_0
   obtain rfl : ad172 = ad177 := (by injection e177)
   replace hx177_0 := cB_ hx177_0
   have HR177_0 := aM hi177_0
   have HC177_0 := aM hl177_0
   clear hi177_0 hl177_0
   replace p177 := eq_true p177
   replace q177 := eq_true q177
   have ea_ := Option.some.inj (hx172_0.symm.trans hx177_0)
   injection ea_ with ea_ en_ ec_
   subst ea_
   subst ec_
   clear en_
   obtain ⟨i017, hi017, _, hsz17, _⟩ := info_parts info3
   obtain ⟨A17, hcut17, hA17, hC17⟩ := print_drop_of (P := Try.prog) (Value.int .i64) 0 24 3 .i64 Try.underlying24 hi017 hsz17 A172_0 c172_0 (rd_L1 l0 x6_1) (ji10) (dt_) (dt_) HC177_0.out
   have HR178 := aM (Kd.C_of_reads (h1 := fun _ => rfl) (hA17 _ (Kd.reads_of_C HR177_0.out)))
   have HC178 := aM hC17
   clear hA17 hC17 hi017 hsz17
   refine start_ (n := 20) (S := fun w' => w'.cell? (ad172.add (x6_1).toNat) = some (.slice A172_0 (rd_L1 l0 x6_1).length c172_0) ∧ w'.cell? (ad172.add (x6_1).toNat) = some (.slice A172_0 (rd_L1 l0 x6_1).length c172_0)) (ds := []) #[false, false, false, false, false, false, false, false, false, false, false, false, false, false, false, false, false, false, false, false] (by kernel_rfl) rfl rfl ⟨(cB_ hw172_0), (cB_ hw177_0)⟩ (fun hHeld => ?_); refine with_tabW spec_l4Without.tab5 spec_l4Without.bits5 (fun HT_ HW_ => ?_)
   generalize wr.drew = w15 at HO_5 HB HR172_0 HR173 HR177_0 HR178 hx172_0 hx177_0 hHeld ⊢
   refine pI_ 0 14 (bqz 20 1) ?_
   refine jI_ 2 16 ?_
   refine jI_ 3 17 ?_
   refine jI_ 4 18 ?_
   refine jI_ 6 20 ?_
   refine jI_ 9 23 ?_
   refine jI_ 10 24 ?_
   refine jI_ 11 25 ?_
   refine jI_ 13 27 ?_
   refine jI_ 14 28 ?_
   refine sI2_ 5 19 ?_
   refine jI_ 7 21 ?_
   refine sI2_ 12 26 ?_
   refine jI_ 15 29 ?_
   refine one_ (i := 1) (N := some 15) (bqz 20 65279) rfl rfl qzc (by decide) (fun K hK => ?_)
   refine Kd.R_lit_step (Kd.int .i64) _ 3 ?hg (N := 15) ?hd (xs := ([] : List Int)) (inner := []) (ok := fun _ => True) (okp := fun _ => True) ?hr ?hp (fun _ hk => hk) trivial (Below.refl _ _) (Nat.le_refl _) (by simp) ?_; (case hd => rfl); (case hg => rfl); (case hr => exact qz8); (case hp => exact (Reps.none _ _))
   intro v170 w18 ho19 hb hg_ hnew_
   clear hg_ hnew_
   (first | rw [← Ny169.out] at ho19 | (simp only [Int.reduceToNat] at ho19; rw [← Ny169.out] at ho19))
   replace HO_5 := aM (Kd.S_elder' (rs_ HO_5.out) (Kd.R_base ho19) hb)
   have HO171 := aM (Kd.R_lower ho19 (below_size qz1))
   replace HB := bS_ hb
   clear hb ho19
   refine hK.out _ _ ⟨(cB_ hw172_0), (cB_ hw177_0)⟩ (fun hHeld => ?_)
   clear hK K
   refine nm_ 15 ?_
   refine one_ (i := 8) (N := some 22) (bqz 20 65535) rfl rfl qzc (by decide) (fun K hK => ?_)
   refine Kd.R_append_rows_step (Kd.int .i64) (w0 := w) w.heap.size (by rfl) (.tmp 15) (.tmp 21) 24 3 (.int .i64 0) 8 rfl Try.underlying24 info3 rfl (by decide) (by omega) v170 y169 ((rd_L1 l0 x6_1).take (a1 : Int).toNat) _ _ _ (fun _ => True) (fun _ => False) rfl rfl ?aO ?aR (fun _ _ h => h) (fun _ h => h.elim) ?aF ?aB ?aS ?aL ?_
   (case aR => first | (have e_ : ((rd_L1 l0 x6_1).take (a1 : Int).toNat).length = a1.toNat := (by rw [List.length_take]; have h_ : (a1 : Int) ≤ ((rd_L1 l0 x6_1).length : Int) := dt_; omega); have h_ := (Kd.C_below HR173.out HB.out); rw [e_] at h_; exact h_) | (rw [← show ((rd_L1 l0 x6_1).take (a1 : Int).toNat).length = a1.toNat from (by rw [List.length_take]; have h_ : (a1 : Int) ≤ ((rd_L1 l0 x6_1).length : Int) := dt_; omega)]; repeat (first | exact (Kd.C_below HR173.out HB.out) | (with_reducible refine Kd.C_alloc ?_ _) | (with_reducible refine Kd.C_drewN ?_ _) | (with_reducible refine Kd.C_drew ?_))) | (repeat (first | exact (Kd.C_below HR173.out HB.out) | (with_reducible refine Kd.C_alloc ?_ _) | (with_reducible refine Kd.C_drewN ?_ _) | (with_reducible refine Kd.C_drew ?_))))
   (case aB => exact qz1)
   (case aF => exact (fun _ _ => trivial))
   (case aO => exact (rr_ HO171.out))
   (case aS => exact (below_size qz1))
   (case aL => have := LMc9.out; have hlx_ := (show ((rd_L1 l0 x6_1).take (a1 : Int).toNat).length = a1.toNat from (by rw [List.length_take]; have h_ : (a1 : Int) ≤ ((rd_L1 l0 x6_1).length : Int) := dt_; omega)); omega)
   intro v175 w20 ho hb hg hat
   rw [← Ny174.out] at ho
   replace HO_5 := aM (Kd.S_after (ok := (fun _ => True)) (rs_ HO_5.out) hg hat)
   replace HB := aM (hb)
   have HO176 := aM (ho)
   clear HO171 ho hb hg hat
   refine hK.out _ _ ⟨(cB_ hw172_0), (cB_ hw177_0)⟩ (fun hHeld => ?_)
   clear hK K
   refine nm_ 22 ?_
   refine one_ (i := 16) (N := some 30) (bqz 20 131071) rfl rfl qzc (by decide) (fun K hK => ?_)
   refine Kd.R_append_rows_step (Kd.int .i64) (w0 := w) w.heap.size (by rfl) (.tmp 22) (.tmp 29) 24 3 (.int .i64 0) 8 rfl Try.underlying24 info3 rfl (by decide) (by omega) v175 y174 ((rd_L1 l0 x6_1).drop ((ji10) : Int).toNat) _ _ _ (fun _ => True) (fun _ => False) rfl rfl ?aO ?aR (fun _ _ h => h) (fun _ h => h.elim) ?aF ?aB ?aS ?aL ?_
   (case aR => first | (rw [← show ((rd_L1 l0 x6_1).drop ((ji10) : Int).toNat).length = ((rd_L1 l0 x6_1).length - (ji10).toNat) from List.length_drop]; repeat (first | exact (Kd.C_below HR178.out HB.out) | (with_reducible refine Kd.C_alloc ?_ _) | (with_reducible refine Kd.C_drewN ?_ _) | (with_reducible refine Kd.C_drew ?_))) | (repeat (first | exact (Kd.C_below HR178.out HB.out) | (with_reducible refine Kd.C_alloc ?_ _) | (with_reducible refine Kd.C_drewN ?_ _) | (with_reducible refine Kd.C_drew ?_))))
   (case aB => exact qz1)
   (case aF => exact (fun _ _ => trivial))
   (case aO => exact (rr_ HO176.out))
   (case aS => exact (below_size qz1))
   (case aL => have := LMc13.out; have hlx_ := (show ((rd_L1 l0 x6_1).drop ((ji10) : Int).toNat).length = ((rd_L1 l0 x6_1).length - (ji10).toNat) from List.length_drop); omega)
   intro v180 w21 ho hb hg hat
   rw [← Ny179.out] at ho
   replace HO_5 := aM (Kd.S_after (ok := (fun _ => True)) (rs_ HO_5.out) hg hat)
   replace HB := aM (hb)
   have HO181 := aM (ho)
   clear HO176 ho hb hg hat
   obtain ⟨Ao23, co23, eo23⟩ := Kd.R_slice HO181.out
   (first | subst eo23 | (injection eo23 with f1_ f2_ f3_; have f4_ := f1_.symm; have f5_ := f3_.symm; clear f1_ f2_ f3_; subst f4_; subst f5_))
   refine hK.out _ _ ⟨(cB_ hw172_0), (cB_ hw177_0)⟩ (fun hHeld => ?_)
   clear hK K
   refine nm_ 30 ?_
   refine one_ (i := 17) (N := some 31) (bqz 20 262143) rfl rfl qzc (by decide) (fun K hK => ?_)
   refine value_ (w1 := ?_) (v := ?_) (by rfl) rfl ?_ ?_
   rotate_left 2
   {
   go_simp
   constructor
   {
   rfl
   }
   {
   rfl
   }
   }
   refine hK.out _ _ ⟨(World.cell?_alloc_lt _ _ _ (World.block_lt_of_cell? _ _ ((cB_ hw172_0)))).trans ((cB_ hw172_0)), (World.cell?_alloc_lt _ _ _ (World.block_lt_of_cell? _ _ ((cB_ hw177_0)))).trans ((cB_ hw177_0))⟩ (fun hHeld => ?_)
   clear hK K
   refine nm_ 31 ?_
   refine one_ (i := 18) (N := some 32) (bqz 20 524287) rfl rfl qzc (by decide) (fun K hK => ?_)
   refine Kd.S_append_step (Kd.slice 3 (Kd.int .i64)) (w0 := w) w.heap.size (by rfl) (.tmp 14) (.tmp 31) 22 24 (.slice none 0 0) 24 rfl Try.underlying22 info24 rfl (by decide) (by omega) u5 x5_1 y179 [.slice Ao23 y179.length co23] (fun _ => True) (fun k_ => some k_ = (.slice Ao23 y179.length co23 : Value).ownBlock) rfl rfl ?aP (fun k_ hk_ => ((Kd.R_mono (ok' := fun k_ => ((fun _ => True)) k_ ∧ some k_ ≠ (u5 : Value).ownBlock) (Kd.R_apart' (HO181.out) (Kd.S_typed HO_5.out) (by decide)) (fun k_ hk => ⟨trivial, hk.2⟩))).1 k_ hk_.symm) ?aF ?aO ?aB ?aS ?aL ?_
   (case aP => exact Kd.M_row (Kd.R_mono (Kd.R_tight rfl (Kd.R_mono (ok' := fun k_ => ((fun _ => True)) k_ ∧ some k_ ≠ (u5 : Value).ownBlock) (Kd.R_apart' (HO181.out) (Kd.S_typed HO_5.out) (by decide)) (fun k_ hk => ⟨trivial, hk.2⟩))) (fun _ h_ => h_)))
   (case aB => exact qz1)
   (case aF => exact (fun _ _ => trivial))
   (case aO => exact (by (with_reducible repeat (first | apply Kd.S_alloc | apply Kd.S_drewN | apply Kd.S_drew)); exact Kd.S_mono HO_5.out (fun k_ hk => ⟨trivial, fun e_ => hk.2 e_⟩)))
   (case aS => exact (below_size qz1))
   (case aL => have := LMc14.out; omega)
   intro v183 w22 ho hb hg hat
   rw [← Ny182.out] at ho
   replace HB := aM (hb)
   have HO184 := aM (ho)
   clear HO_5 HO181 ho hb hg hat
   refine hK.out _ _ ⟨(cB_ hw172_0), (cB_ hw177_0)⟩ (fun hHeld => ?_)
   clear hK K
   refine nm_ 32 ?_
   refine pI_ 19 5 (bqz 20 1048575) ?_
   refine done_ (done_of HT_.out (by kernel_rfl)) ?_
   try go_wp2
   go_roundg k1
   case measure => have := HK1.out; omega
   case rel => exact ⟨(y182), (wrap64 (x6_1 + 1)), qz3, H', ⟨by have := HK1.out; omega⟩, ⟨rm_ HO184.out⟩, ⟨qz1⟩⟩
   }
   {
   exact an_ c14 H
   }
   }
   {
   exact an_ c13 H
   }
   }
   {
   exact an_ c12 H
   }
   }
   {
   exact an_ c11 H
   }
   }
   {
   exact an_ c9 H
   }
   }
   {
   exact an_ c8 H
   }
   }
   {
   exact an_ c7 H
   }
   }
   {
   exact an_ c6 H
   }
   }
   {
   rw [if_neg c5] at H
   have c5b0 := decide_eq_false c5
   clear c5
   obtain rfl := Option.some.inj H
   simp only [Option.some.injEq, Prod.mk.injEq] at H
   obtain ⟨rfl⟩ := H
   go_wp2
   go_ret
   exact ⟨_, qzw, by (with_reducible repeat (first | apply Kd.S_alloc | apply Kd.S_drewN | apply Kd.S_drew)); exact HO_5.out, qz1⟩

   }
end Go.Proofs.Ytbebfhlejnidkaa.PFnExactMatch
