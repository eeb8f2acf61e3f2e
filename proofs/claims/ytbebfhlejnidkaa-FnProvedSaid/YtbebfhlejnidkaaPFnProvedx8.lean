-- Made by a program of this session out of the translation. Lean checks it.
import Derived.Test.YtbebfhlejnidkaaPFnProvedx6
import Derived.Test.YtbebfhlejnidkaaPFnProvedx7
namespace Go.Proofs.Ytbebfhlejnidkaa.PFnProved
open Go.RowKit Go.Proofs.YtbebfhlejnidkaaW.PrintWords Go.Proofs.YtbebfhlejnidkaaW.PrintLast Go.Proofs.YtbebfhlejnidkaaW.PrintMore
attribute [local go_sem] max2_int min2_int max_two min_two max_three min_three max_four min_four   -- for this text's walks alone
set_option linter.unusedVariables false
set_option linter.unusedSimpArgs false

/-! ### spec_l4Prices: function 41 -/
def spec_l4Prices.l0 : Nat → List (List Int) → Int → Int → List Int → List Int → List Int → Int → Option (List Int × List Int)
 | 0, _, _, _, _, _, _, _ => none
 | k + 1, x0, x4, x5, x6, x7, x8, x9 => if x9 ≤ x4 then (if 0 < (x8.length : Int) then ((spec_l4Grow.f k x0 x6 x7 (x8.set (0 : Int).toNat x9) x5).bind fun bt248 => (spec_l4Prices.l0 k x0 x4 x5 bt248.1 bt248.2.1 bt248.2.2 (wrap64 (x9 + 1)))) else (none)) else (if 1 ≤ (x6.length : Int) then (if 1 ≤ (x7.length : Int) then (some ((x6.drop (1 : Int).toNat), (x7.drop (1 : Int).toNat))) else (none)) else (none))
def spec_l4Prices.f (k : Nat) (l0 : List (List Int)) : Option (List Int × List Int) := if (l0.length : Int) = 0 then (some ((([] : List Int)), (([] : List Int)))) else (if 0 < (l0.length : Int) then (if 0 ≤ (wrap64 ((l0.length : Int) + 1)) then (if (wrap64 ((l0.length : Int) + 1) : Int).toNat ≤ 35184372088832 then (if 0 ≤ (wrap64 (((rd_L1 l0 0).length : Int) + 1)) then (if (wrap64 (((rd_L1 l0 0).length : Int) + 1) : Int).toNat ≤ 35184372088832 then (spec_l4Prices.l0 k l0 (l0.length : Int) ((rd_L1 l0 0).length : Int) (List.replicate (wrap64 ((l0.length : Int) + 1) : Int).toNat 0) (List.replicate (wrap64 (((rd_L1 l0 0).length : Int) + 1) : Int).toNat 0) (List.replicate (wrap64 (((rd_L1 l0 0).length : Int) + 1) : Int).toNat 0) 1) else (none)) else (none)) else (none)) else (none)) else (none))
theorem spec_l4Prices.mono_l : ∀ k, (∀ y0 y1 y2 y3 y4 y5 y6, LeO (spec_l4Prices.l0 k y0 y1 y2 y3 y4 y5 y6) (spec_l4Prices.l0 (k + 1) y0 y1 y2 y3 y4 y5 y6))
 | 0 => fun _ _ _ _ _ _ _ r h => by simp [spec_l4Prices.l0] at h
 | k + 1 => by
  have ih0 := spec_l4Prices.mono_l k
  {
  intro y0 y1 y2 y3 y4 y5 y6
  unfold spec_l4Prices.l0
  have j0 := @spec_l4Grow.mono
  exact qL
  }
theorem spec_l4Prices.mono : ∀ a0 k, LeO (spec_l4Prices.f k a0) (spec_l4Prices.f (k + 1) a0) := by
 intro a0 k
 have ih0 := spec_l4Prices.mono_l k
 unfold spec_l4Prices.f
 have j0 := @spec_l4Grow.mono
 exact qL
set_option maxHeartbeats 8000000 in
set_option maxRecDepth 100000 in
theorem spec_l4Prices.calls (k : Nat) (A0 : Option Addr) (c0 : Nat) (l0 : List (List Int)) (r1 : List Int) (r2 : List Int) (w : World) (hr0 : Kd.C (Kd.slice 3 (Kd.int .i64)) w A0 l0.length l0) (hc0 : l0.length ≤ c0) (h : spec_l4Prices.f k l0 = some (r1, r2)) :
  Calls Try.prog 41 #[.slice A0 l0.length c0] w fun e w' => ∃ v0_ v1_ : Value, e = .returned (.tuple #[v0_, v1_]) ∧ Kd.Q (Kd.int .i64) 3 w' w.heap.size (fun k_ => some k_ ≠ (v1_ : Value).ownBlock) v0_ r1 ∧ Kd.Q (Kd.int .i64) 3 w' w.heap.size (fun k_ => some k_ ≠ (v0_ : Value).ownBlock) v1_ r2 ∧ Below w.heap.size w w' := by
 have HR0 := aM hr0
 have HC0 := aM hc0
 clear hr0 hc0
 have HB := aM (Below.refl w.heap.size w)
 have H : (if (l0.length : Int) = 0 then (some ((([] : List Int)), (([] : List Int)))) else (if 0 < (l0.length : Int) then (if 0 ≤ (wrap64 ((l0.length : Int) + 1)) then (if (wrap64 ((l0.length : Int) + 1) : Int).toNat ≤ 35184372088832 then (if 0 ≤ (wrap64 (((rd_L1 l0 0).length : Int) + 1)) then (if (wrap64 (((rd_L1 l0 0).length : Int) + 1) : Int).toNat ≤ 35184372088832 then (spec_l4Prices.l0 k l0 (l0.length : Int) ((rd_L1 l0 0).length : Int) (List.replicate (wrap64 ((l0.length : Int) + 1) : Int).toNat 0) (List.replicate (wrap64 (((rd_L1 l0 0).length : Int) + 1) : Int).toNat 0) (List.replicate (wrap64 (((rd_L1 l0 0).length : Int) + 1) : Int).toNat 0) 1) else (none)) else (none)) else (none)) else (none)) else (none))) = some (r1, r2) := h
 clear h
 by_cases c2 : (l0.length : Int) = 0
 {
 rw [if_pos c2] at H
 have c2b0 := beq_iff_eq.mpr c2
 have c2b1 := bne_eq_false_iff_eq.mpr c2
 clear c2
 obtain ⟨y231, hy231⟩ : ∃ y_ : List Int, y_ = (([] : List Int)) := ⟨_, rfl⟩
 replace H : (some (y231, (([] : List Int)))) = some (r1, r2) := by first | (rw [hy231]; with_reducible exact H) | (have H2_ := (Option.bind_some _ _).symm.trans H; rw [hy231]; with_reducible exact H2_) | (have H2_ := (Option.bind_some _ _).symm.trans H; with_reducible exact H2_) | with_reducible exact H | (rw [hy231]; exact H) | exact H
 have Ny231 := aM hy231
 clear hy231
 obtain ⟨y234, hy234⟩ : ∃ y_ : List Int, y_ = (([] : List Int)) := ⟨_, rfl⟩
 replace H : (some (y231, y234)) = some (r1, r2) := by first | (rw [hy234]; with_reducible exact H) | (have H2_ := (Option.bind_some _ _).symm.trans H; rw [hy234]; with_reducible exact H2_) | (have H2_ := (Option.bind_some _ _).symm.trans H; with_reducible exact H2_) | with_reducible exact H | (rw [hy234]; exact H) | exact H
 have Ny234 := aM hy234
 clear hy234
 simp only [Option.some.injEq, Prod.mk.injEq] at H
 obtain ⟨rfl, rfl⟩ := H
 go_enter Try.func41, Try.ntmps41
 go_wp2_with (first | ((with_reducible refine gate_dst (N := 14) rfl ?_); refine Kd.R_lit (Kd.int .i64) _ 3 ?hg (N := 14) ?hd (xs := ([] : List Int)) (inner := []) (ok := fun _ => True) (okp := fun _ => True) ?hr ?hp (fun _ hk => hk) trivial (Below.refl _ _) (Nat.le_refl _) (by simp) ?_; (case hd => rfl); (case hg => rfl); (case hr => exact qz11); (case hp => exact (Reps.none _ _)); intro v232 w3 ho4 hb hg_ hnew_; clear hg_ hnew_; (first | rw [← Ny231.out] at ho4 | (simp only [Int.reduceToNat] at ho4; rw [← Ny231.out] at ho4)); have HO233 := aM (Kd.R_lower ho4 (below_size qz1)); replace HB := bS_ hb; clear hb ho4) | ((with_reducible refine gate_dst (N := 15) rfl ?_); refine Kd.R_lit (Kd.int .i64) _ 3 ?hg (N := 15) ?hd (xs := ([] : List Int)) (inner := []) (ok := fun _ => True) (okp := fun _ => True) ?hr ?hp (fun _ hk => hk) trivial (Below.refl _ _) (Nat.le_refl _) (by simp) ?_; (case hd => rfl); (case hg => rfl); (case hr => exact qz11); (case hp => exact (Reps.none _ _)); intro v235 w5 ho6 hb hg_ hnew_; clear hg_ hnew_; (first | rw [← Ny234.out] at ho6 | (simp only [Int.reduceToNat] at ho6; rw [← Ny234.out] at ho6)); have HO236 := aM (Kd.R_lower (Kd.R_new' ho6 (Kd.R_lt (rr_ HO233.out))) (below_size qz1)); replace HO233 := aM (Kd.R_elder' (rr_ HO233.out) (Kd.R_base ho6) hb); replace HB := bS_ hb; clear hb ho6))
 repeat (go_quiet (first | ((with_reducible refine gate_dst (N := 14) rfl ?_); refine Kd.R_lit (Kd.int .i64) _ 3 ?hg (N := 14) ?hd (xs := ([] : List Int)) (inner := []) (ok := fun _ => True) (okp := fun _ => True) ?hr ?hp (fun _ hk => hk) trivial (Below.refl _ _) (Nat.le_refl _) (by simp) ?_; (case hd => rfl); (case hg => rfl); (case hr => exact qz11); (case hp => exact (Reps.none _ _)); intro v232 w3 ho4 hb hg_ hnew_; clear hg_ hnew_; (first | rw [← Ny231.out] at ho4 | (simp only [Int.reduceToNat] at ho4; rw [← Ny231.out] at ho4)); have HO233 := aM (Kd.R_lower ho4 (below_size qz1)); replace HB := bS_ hb; clear hb ho4) | ((with_reducible refine gate_dst (N := 15) rfl ?_); refine Kd.R_lit (Kd.int .i64) _ 3 ?hg (N := 15) ?hd (xs := ([] : List Int)) (inner := []) (ok := fun _ => True) (okp := fun _ => True) ?hr ?hp (fun _ hk => hk) trivial (Below.refl _ _) (Nat.le_refl _) (by simp) ?_; (case hd => rfl); (case hg => rfl); (case hr => exact qz11); (case hp => exact (Reps.none _ _)); intro v235 w5 ho6 hb hg_ hnew_; clear hg_ hnew_; (first | rw [← Ny234.out] at ho6 | (simp only [Int.reduceToNat] at ho6; rw [← Ny234.out] at ho6)); have HO236 := aM (Kd.R_lower (Kd.R_new' ho6 (Kd.R_lt (rr_ HO233.out))) (below_size qz1)); replace HO233 := aM (Kd.R_elder' (rr_ HO233.out) (Kd.R_base ho6) hb); replace HB := bS_ hb; clear hb ho6)); try go_wp2_with (first | ((with_reducible refine gate_dst (N := 14) rfl ?_); refine Kd.R_lit (Kd.int .i64) _ 3 ?hg (N := 14) ?hd (xs := ([] : List Int)) (inner := []) (ok := fun _ => True) (okp := fun _ => True) ?hr ?hp (fun _ hk => hk) trivial (Below.refl _ _) (Nat.le_refl _) (by simp) ?_; (case hd => rfl); (case hg => rfl); (case hr => exact qz11); (case hp => exact (Reps.none _ _)); intro v232 w3 ho4 hb hg_ hnew_; clear hg_ hnew_; (first | rw [← Ny231.out] at ho4 | (simp only [Int.reduceToNat] at ho4; rw [← Ny231.out] at ho4)); have HO233 := aM (Kd.R_lower ho4 (below_size qz1)); replace HB := bS_ hb; clear hb ho4) | ((with_reducible refine gate_dst (N := 15) rfl ?_); refine Kd.R_lit (Kd.int .i64) _ 3 ?hg (N := 15) ?hd (xs := ([] : List Int)) (inner := []) (ok := fun _ => True) (okp := fun _ => True) ?hr ?hp (fun _ hk => hk) trivial (Below.refl _ _) (Nat.le_refl _) (by simp) ?_; (case hd => rfl); (case hg => rfl); (case hr => exact qz11); (case hp => exact (Reps.none _ _)); intro v235 w5 ho6 hb hg_ hnew_; clear hg_ hnew_; (first | rw [← Ny234.out] at ho6 | (simp only [Int.reduceToNat] at ho6; rw [← Ny234.out] at ho6)); have HO236 := aM (Kd.R_lower (Kd.R_new' ho6 (Kd.R_lt (rr_ HO233.out))) (below_size qz1)); replace HO233 := aM (Kd.R_elder' (rr_ HO233.out) (Kd.R_base ho6) hb); replace HB := bS_ hb; clear hb ho6)))
 go_ret2
 exact ⟨_, _, qzw, Kd.Q_of_R (by (with_reducible repeat (first | apply Kd.R_alloc | apply Kd.R_drewN | apply Kd.R_drew)); exact Kd.R_mono HO233.out (fun _ hk => hk.2)), Kd.Q_of_R (by (with_reducible repeat (first | apply Kd.R_alloc | apply Kd.R_drewN | apply Kd.R_drew)); exact Kd.R_mono HO236.out (fun _ hk => hk.2)), qz1⟩
 }
 {
 rw [if_neg c2] at H
 have c2b0 := beq_eq_false_iff_ne.mpr c2
 have c2b1 := bne_iff_ne.mpr c2
 have c2b2 : ¬ (l0 = []) := fun h_ => c2 (by rw [h_]; rfl)
 by_cases c7 : 0 < (l0.length : Int)
 {
 rw [if_pos c7] at H
 have c7b0 := decide_eq_true c7
 have c7b1 : decide (0 < l0.length) = true := decide_eq_true (by omega)
 clear c7
 obtain ⟨ji8, hji8⟩ : ∃ j_ : Int, (wrap64 ((l0.length : Int) + 1)) = j_ := ⟨_, rfl⟩
 replace H : (if 0 ≤ (ji8) then (if (ji8 : Int).toNat ≤ 35184372088832 then (if 0 ≤ (wrap64 (((rd_L1 l0 0).length : Int) + 1)) then (if (wrap64 (((rd_L1 l0 0).length : Int) + 1) : Int).toNat ≤ 35184372088832 then (spec_l4Prices.l0 k l0 (l0.length : Int) ((rd_L1 l0 0).length : Int) (List.replicate (ji8 : Int).toNat 0) (List.replicate (wrap64 (((rd_L1 l0 0).length : Int) + 1) : Int).toNat 0) (List.replicate (wrap64 (((rd_L1 l0 0).length : Int) + 1) : Int).toNat 0) 1) else (none)) else (none)) else (none)) else (none)) = some (r1, r2) := by first | (rw [hji8] at H; exact H) | (simp only [hji8] at H ⊢; exact H)
 have hji8w : (IntKind.i64.wrap ((l0.length : Int) + 1)) = ji8 := (i64_w _).trans hji8
 by_cases c9 : 0 ≤ (ji8)
 {
 rw [if_pos c9] at H
 have c9b0 := eq_true c9
 have c9b1 := decide_eq_true c9
 clear c9
 by_cases c10 : (ji8 : Int).toNat ≤ 35184372088832
 {
 rw [if_pos c10] at H
 have c10b0 := eq_true c10
 have c10b1 := decide_eq_true c10
 clear c10
 obtain ⟨y238, hy238⟩ : ∃ y_ : List Int, y_ = (List.replicate (ji8 : Int).toNat 0) := ⟨_, rfl⟩
 replace H : (if 0 ≤ (wrap64 (((rd_L1 l0 0).length : Int) + 1)) then (if (wrap64 (((rd_L1 l0 0).length : Int) + 1) : Int).toNat ≤ 35184372088832 then (spec_l4Prices.l0 k l0 (l0.length : Int) ((rd_L1 l0 0).length : Int) y238 (List.replicate (wrap64 (((rd_L1 l0 0).length : Int) + 1) : Int).toNat 0) (List.replicate (wrap64 (((rd_L1 l0 0).length : Int) + 1) : Int).toNat 0) 1) else (none)) else (none)) = some (r1, r2) := by first | (rw [hy238]; with_reducible exact H) | (have H2_ := (Option.bind_some _ _).symm.trans H; rw [hy238]; with_reducible exact H2_) | (have H2_ := (Option.bind_some _ _).symm.trans H; with_reducible exact H2_) | with_reducible exact H | (rw [hy238]; exact H) | exact H
 have Ny238 := aM hy238
 clear hy238
 obtain ⟨ji11, hji11⟩ : ∃ j_ : Int, (wrap64 (((rd_L1 l0 0).length : Int) + 1)) = j_ := ⟨_, rfl⟩
 replace H : (if 0 ≤ (ji11) then (if (ji11 : Int).toNat ≤ 35184372088832 then (spec_l4Prices.l0 k l0 (l0.length : Int) ((rd_L1 l0 0).length : Int) y238 (List.replicate (ji11 : Int).toNat 0) (List.replicate (ji11 : Int).toNat 0) 1) else (none)) else (none)) = some (r1, r2) := by first | (rw [hji11] at H; exact H) | (simp only [hji11] at H ⊢; exact H)
 have hji11w : (IntKind.i64.wrap (((rd_L1 l0 0).length : Int) + 1)) = ji11 := (i64_w _).trans hji11
 by_cases c12 : 0 ≤ (ji11)
 {
 rw [if_pos c12] at H
 have c12b0 := eq_true c12
 have c12b1 := decide_eq_true c12
 clear c12
 by_cases c13 : (ji11 : Int).toNat ≤ 35184372088832
 {
 rw [if_pos c13] at H
 have c13b0 := eq_true c13
 have c13b1 := decide_eq_true c13
 clear c13
 obtain ⟨y241, hy241⟩ : ∃ y_ : List Int, y_ = (List.replicate (ji11 : Int).toNat 0) := ⟨_, rfl⟩
 replace H : (spec_l4Prices.l0 k l0 (l0.length : Int) ((rd_L1 l0 0).length : Int) y238 y241 (List.replicate (ji11 : Int).toNat 0) 1) = some (r1, r2) := by first | (rw [hy241]; with_reducible exact H) | (have H2_ := (Option.bind_some _ _).symm.trans H; rw [hy241]; with_reducible exact H2_) | (have H2_ := (Option.bind_some _ _).symm.trans H; with_reducible exact H2_) | with_reducible exact H | (rw [hy241]; exact H) | exact H
 have Ny241 := aM hy241
 clear hy241
 obtain ⟨y244, hy244⟩ : ∃ y_ : List Int, y_ = (List.replicate (ji11 : Int).toNat 0) := ⟨_, rfl⟩
 replace H : (spec_l4Prices.l0 k l0 (l0.length : Int) ((rd_L1 l0 0).length : Int) y238 y241 y244 1) = some (r1, r2) := by first | (rw [hy244]; with_reducible exact H) | (have H2_ := (Option.bind_some _ _).symm.trans H; rw [hy244]; with_reducible exact H2_) | (have H2_ := (Option.bind_some _ _).symm.trans H; with_reducible exact H2_) | with_reducible exact H | (rw [hy244]; exact H) | exact H
 have Ny244 := aM hy244
 clear hy244
 have H' := aM H
 clear H
 have p237 : 0 ≤ (0 : Int) := (by omega)
 have q237 : 0 < (l0.length : Int) := dt_
 obtain ⟨ad237, A237_0, c237_0, e237, hx237_0, hl237_0, hi237_0⟩ := at_L1 HR0.out 0 p237 q237
 cases e237
 have qi237 : (0 < l0.length) = True := eq_true (by omega)
 (try rw [show ((0 : Int)).toNat = 0 from rfl] at hx237_0)
 (try rw [Addr.add_zero'] at hx237_0)
 have HR237_0 := aM hi237_0
 have HC237_0 := aM hl237_0
 clear hi237_0 hl237_0
 replace p237 := eq_true p237
 replace q237 := eq_true q237
 go_enter Try.func41, Try.ntmps41
 go_wp2_with (first | ((with_reducible refine gate_dst (N := 22) rfl ?_); refine Kd.R_make (Kd.int .i64) _ 3 rfl (N := 22) rfl 24 _ _ rfl ji8 rfl rfl Try.underlying24 (.int .i64 0) 8 info3 rfl (by decide) (by omega) 0 (ok := fun _ => True) (okp := fun _ => True) rfl (fun _ hk => hk) trivial (dt_) (Nat.le_trans (Nat.mul_le_mul_right _ (dt_ : ji8.toNat ≤ 35184372088832)) (by omega)) (Below.refl _ _) (Nat.le_refl _) ?_; intro v239 w14 ho15 hb hg_ hnew_; clear hg_ hnew_; (first | rw [← Ny238.out] at ho15 | (simp only [Int.reduceToNat] at ho15; rw [← Ny238.out] at ho15)); have HO240 := aM (Kd.R_lower ho15 (below_size qz1)); replace HB := bS_ hb; clear hb ho15) | ((with_reducible refine gate_dst (N := 25) rfl ?_); refine Kd.R_make (Kd.int .i64) _ 3 rfl (N := 25) rfl 24 _ _ rfl ji11 rfl rfl Try.underlying24 (.int .i64 0) 8 info3 rfl (by decide) (by omega) 0 (ok := fun _ => True) (okp := fun _ => True) rfl (fun _ hk => hk) trivial (dt_) (Nat.le_trans (Nat.mul_le_mul_right _ (dt_ : ji11.toNat ≤ 35184372088832)) (by omega)) (Below.refl _ _) (Nat.le_refl _) ?_; intro v242 w16 ho17 hb hg_ hnew_; clear hg_ hnew_; (first | rw [← Ny241.out] at ho17 | (simp only [Int.reduceToNat] at ho17; rw [← Ny241.out] at ho17)); have HO243 := aM (Kd.R_lower (Kd.R_new' ho17 (Kd.R_lt (rr_ HO240.out))) (below_size qz1)); replace HO240 := aM (Kd.R_elder' (rr_ HO240.out) (Kd.R_base ho17) hb); replace HB := bS_ hb; clear hb ho17) | ((with_reducible refine gate_dst (N := 28) rfl ?_); refine Kd.R_make (Kd.int .i64) _ 3 rfl (N := 28) rfl 24 _ _ rfl ji11 rfl rfl Try.underlying24 (.int .i64 0) 8 info3 rfl (by decide) (by omega) 0 (ok := fun _ => True) (okp := fun _ => True) rfl (fun _ hk => hk) trivial (dt_) (Nat.le_trans (Nat.mul_le_mul_right _ (dt_ : ji11.toNat ≤ 35184372088832)) (by omega)) (Below.refl _ _) (Nat.le_refl _) ?_; intro v245 w18 ho19 hb hg_ hnew_; clear hg_ hnew_; (first | rw [← Ny244.out] at ho19 | (simp only [Int.reduceToNat] at ho19; rw [← Ny244.out] at ho19)); have HO246 := aM (Kd.R_lower (Kd.R_new' (Kd.R_new' ho19 (Kd.R_lt (rr_ HO240.out))) (Kd.R_lt (rr_ HO243.out))) (below_size qz1)); replace HO240 := aM (Kd.R_elder' (rr_ HO240.out) (Kd.R_base ho19) hb); replace HO243 := aM (Kd.R_elder' (rr_ HO243.out) (Kd.R_base ho19) hb); replace HB := bS_ hb; clear hb ho19))
 repeat (go_quiet (first | ((with_reducible refine gate_dst (N := 22) rfl ?_); refine Kd.R_make (Kd.int .i64) _ 3 rfl (N := 22) rfl 24 _ _ rfl ji8 rfl rfl Try.underlying24 (.int .i64 0) 8 info3 rfl (by decide) (by omega) 0 (ok := fun _ => True) (okp := fun _ => True) rfl (fun _ hk => hk) trivial (dt_) (Nat.le_trans (Nat.mul_le_mul_right _ (dt_ : ji8.toNat ≤ 35184372088832)) (by omega)) (Below.refl _ _) (Nat.le_refl _) ?_; intro v239 w14 ho15 hb hg_ hnew_; clear hg_ hnew_; (first | rw [← Ny238.out] at ho15 | (simp only [Int.reduceToNat] at ho15; rw [← Ny238.out] at ho15)); have HO240 := aM (Kd.R_lower ho15 (below_size qz1)); replace HB := bS_ hb; clear hb ho15) | ((with_reducible refine gate_dst (N := 25) rfl ?_); refine Kd.R_make (Kd.int .i64) _ 3 rfl (N := 25) rfl 24 _ _ rfl ji11 rfl rfl Try.underlying24 (.int .i64 0) 8 info3 rfl (by decide) (by omega) 0 (ok := fun _ => True) (okp := fun _ => True) rfl (fun _ hk => hk) trivial (dt_) (Nat.le_trans (Nat.mul_le_mul_right _ (dt_ : ji11.toNat ≤ 35184372088832)) (by omega)) (Below.refl _ _) (Nat.le_refl _) ?_; intro v242 w16 ho17 hb hg_ hnew_; clear hg_ hnew_; (first | rw [← Ny241.out] at ho17 | (simp only [Int.reduceToNat] at ho17; rw [← Ny241.out] at ho17)); have HO243 := aM (Kd.R_lower (Kd.R_new' ho17 (Kd.R_lt (rr_ HO240.out))) (below_size qz1)); replace HO240 := aM (Kd.R_elder' (rr_ HO240.out) (Kd.R_base ho17) hb); replace HB := bS_ hb; clear hb ho17) | ((with_reducible refine gate_dst (N := 28) rfl ?_); refine Kd.R_make (Kd.int .i64) _ 3 rfl (N := 28) rfl 24 _ _ rfl ji11 rfl rfl Try.underlying24 (.int .i64 0) 8 info3 rfl (by decide) (by omega) 0 (ok := fun _ => True) (okp := fun _ => True) rfl (fun _ hk => hk) trivial (dt_) (Nat.le_trans (Nat.mul_le_mul_right _ (dt_ : ji11.toNat ≤ 35184372088832)) (by omega)) (Below.refl _ _) (Nat.le_refl _) ?_; intro v245 w18 ho19 hb hg_ hnew_; clear hg_ hnew_; (first | rw [← Ny244.out] at ho19 | (simp only [Int.reduceToNat] at ho19; rw [← Ny244.out] at ho19)); have HO246 := aM (Kd.R_lower (Kd.R_new' (Kd.R_new' ho19 (Kd.R_lt (rr_ HO240.out))) (Kd.R_lt (rr_ HO243.out))) (below_size qz1)); replace HO240 := aM (Kd.R_elder' (rr_ HO240.out) (Kd.R_base ho19) hb); replace HO243 := aM (Kd.R_elder' (rr_ HO243.out) (Kd.R_base ho19) hb); replace HB := bS_ hb; clear hb ho19)); try go_wp2_with (first | ((with_reducible refine gate_dst (N := 22) rfl ?_); refine Kd.R_make (Kd.int .i64) _ 3 rfl (N := 22) rfl 24 _ _ rfl ji8 rfl rfl Try.underlying24 (.int .i64 0) 8 info3 rfl (by decide) (by omega) 0 (ok := fun _ => True) (okp := fun _ => True) rfl (fun _ hk => hk) trivial (dt_) (Nat.le_trans (Nat.mul_le_mul_right _ (dt_ : ji8.toNat ≤ 35184372088832)) (by omega)) (Below.refl _ _) (Nat.le_refl _) ?_; intro v239 w14 ho15 hb hg_ hnew_; clear hg_ hnew_; (first | rw [← Ny238.out] at ho15 | (simp only [Int.reduceToNat] at ho15; rw [← Ny238.out] at ho15)); have HO240 := aM (Kd.R_lower ho15 (below_size qz1)); replace HB := bS_ hb; clear hb ho15) | ((with_reducible refine gate_dst (N := 25) rfl ?_); refine Kd.R_make (Kd.int .i64) _ 3 rfl (N := 25) rfl 24 _ _ rfl ji11 rfl rfl Try.underlying24 (.int .i64 0) 8 info3 rfl (by decide) (by omega) 0 (ok := fun _ => True) (okp := fun _ => True) rfl (fun _ hk => hk) trivial (dt_) (Nat.le_trans (Nat.mul_le_mul_right _ (dt_ : ji11.toNat ≤ 35184372088832)) (by omega)) (Below.refl _ _) (Nat.le_refl _) ?_; intro v242 w16 ho17 hb hg_ hnew_; clear hg_ hnew_; (first | rw [← Ny241.out] at ho17 | (simp only [Int.reduceToNat] at ho17; rw [← Ny241.out] at ho17)); have HO243 := aM (Kd.R_lower (Kd.R_new' ho17 (Kd.R_lt (rr_ HO240.out))) (below_size qz1)); replace HO240 := aM (Kd.R_elder' (rr_ HO240.out) (Kd.R_base ho17) hb); replace HB := bS_ hb; clear hb ho17) | ((with_reducible refine gate_dst (N := 28) rfl ?_); refine Kd.R_make (Kd.int .i64) _ 3 rfl (N := 28) rfl 24 _ _ rfl ji11 rfl rfl Try.underlying24 (.int .i64 0) 8 info3 rfl (by decide) (by omega) 0 (ok := fun _ => True) (okp := fun _ => True) rfl (fun _ hk => hk) trivial (dt_) (Nat.le_trans (Nat.mul_le_mul_right _ (dt_ : ji11.toNat ≤ 35184372088832)) (by omega)) (Below.refl _ _) (Nat.le_refl _) ?_; intro v245 w18 ho19 hb hg_ hnew_; clear hg_ hnew_; (first | rw [← Ny244.out] at ho19 | (simp only [Int.reduceToNat] at ho19; rw [← Ny244.out] at ho19)); have HO246 := aM (Kd.R_lower (Kd.R_new' (Kd.R_new' ho19 (Kd.R_lt (rr_ HO240.out))) (Kd.R_lt (rr_ HO243.out))) (below_size qz1)); replace HO240 := aM (Kd.R_elder' (rr_ HO240.out) (Kd.R_base ho19) hb); replace HO243 := aM (Kd.R_elder' (rr_ HO243.out) (Kd.R_base ho19) hb); replace HB := bS_ hb; clear hb ho19)))
 go_loopg [9] k (fun kq v9 w' => ∃ (x6_1 : List Int) (x7_1 : List Int) (x8_1 : List Int) (x9_1 : Int), v9 = .int .i64 x9_1 ∧ Aside0 (spec_l4Prices.l0 kq l0 (l0.length : Int) ((rd_L1 l0 0).length : Int) x6_1 x7_1 x8_1 x9_1 = some (r1, r2)) ∧ Aside0 (kq ≤ k) ∧ Aside0 (Kd.R (Kd.int .i64) 3 w' w.heap.size (fun k_ => some k_ ≠ (v242 : Value).ownBlock ∧ some k_ ≠ (v245 : Value).ownBlock) v239 x6_1) ∧ Aside0 (Kd.R (Kd.int .i64) 3 w' w.heap.size (fun k_ => some k_ ≠ (v239 : Value).ownBlock ∧ some k_ ≠ (v245 : Value).ownBlock) v242 x7_1) ∧ Aside0 (Kd.R (Kd.int .i64) 3 w' w.heap.size (fun k_ => some k_ ≠ (v239 : Value).ownBlock ∧ some k_ ≠ (v242 : Value).ownBlock) v245 x8_1) ∧ Aside0 (Below w.heap.size w w'))
 case atStart => exact ⟨(y238), (y241), (y244), (1), qz5, H', ⟨Nat.le_refl _⟩, ⟨by (with_reducible repeat (first | apply Kd.R_alloc | apply Kd.R_drewN | apply Kd.R_drew)); exact Kd.R_mono HO240.out (fun _ hk => ⟨hk.1.2, hk.2⟩)⟩, ⟨by (with_reducible repeat (first | apply Kd.R_alloc | apply Kd.R_drewN | apply Kd.R_drew)); exact Kd.R_mono HO243.out (fun _ hk => ⟨hk.1.2, hk.2⟩)⟩, ⟨by (with_reducible repeat (first | apply Kd.R_alloc | apply Kd.R_drewN | apply Kd.R_drew)); exact Kd.R_mono HO246.out (fun _ hk => ⟨hk.1.2, hk.2⟩)⟩, ⟨qz1⟩⟩
 case round =>
  clear H'
  try clear c1
  try clear c2
  try clear c2b0
  try clear c2b1
  try clear c2b2
  try clear p2
  try clear q2
  try clear hx2
  try clear qi2
  try clear c4
  try clear p6
  try clear c7
  try clear c7b0
  try clear c7b1
  try clear c9
  try clear c9b0
  try clear c9b1
  try clear c10
  try clear c10b0
  try clear c10b1
  try clear c12
  try clear c12b0
  try clear c12b1
  try clear c13
  try clear c13b0
  try clear c13b1
  try clear hx237_0
  try clear p237
  try clear q237
  obtain ⟨x6_1, x7_1, x8_1, x9_1, rfl, HA, HK1, HO_6, HO_7, HO_8, HB⟩ := hrel
  cases gk with
  | zero => exact absurd HA.out (by simp [spec_l4Prices.l0])
  | succ k1 =>
   have H := HA.out
   clear HA
   simp only [spec_l4Prices.l0] at H
   by_cases c20 : x9_1 ≤ (l0.length : Int)
   {
   rw [if_pos c20] at H
   have c20b0 := decide_eq_true c20
   clear c20
   by_cases c21 : 0 < (x8_1.length : Int)
   {
   rw [if_pos c21] at H
   have c21b0 := decide_eq_true c21
   have c21b1 : decide (0 < x8_1.length) = true := decide_eq_true (by omega)
   clear c21
   obtain ⟨y247, hy247⟩ : ∃ y_ : List Int, y_ = (x8_1.set (0 : Int).toNat x9_1) := ⟨_, rfl⟩
   replace H : ((spec_l4Grow.f k1 l0 x6_1 x7_1 y247 ((rd_L1 l0 0).length : Int)).bind fun bt248 => (spec_l4Prices.l0 k1 l0 (l0.length : Int) ((rd_L1 l0 0).length : Int) bt248.1 bt248.2.1 bt248.2.2 (wrap64 (x9_1 + 1)))) = some (r1, r2) := by first | (rw [hy247]; with_reducible exact H) | (have H2_ := (Option.bind_some _ _).symm.trans H; rw [hy247]; with_reducible exact H2_) | (have H2_ := (Option.bind_some _ _).symm.trans H; with_reducible exact H2_) | with_reducible exact H | (rw [hy247]; exact H) | exact H
   have Ny247 := aM hy247
   clear hy247
   replace H := Option.bind_eq_some_iff.mp H
   obtain ⟨⟨t248, t249, t250⟩, A230, H⟩ := H
   replace H : (spec_l4Prices.l0 k1 l0 (l0.length : Int) ((rd_L1 l0 0).length : Int) t248 t249 t250 (wrap64 (x9_1 + 1))) = some (r1, r2) := H
   have A23 := aM A230
   clear A230
   have H' := aM H
   clear H
   have p22 : 0 ≤ (0 : Int) := (by omega)
   have q22 : (0 : Int) < ((x8_1.length : Int) : Int) := dt_
   have qi22 : (0 < x8_1.length) = True := eq_true (by omega)
   obtain ⟨go22, co22, eo22, gb22, gl22, cl22, HG22⟩ := Kd.R_form HO_8.out (by omega)
   (first | cases eo22 | (injection eo22 with ea_ en_ ec_; (first | subst ea_ | (injection ea_ with ea_; subst ea_)); subst ec_; clear en_))
   have GB22 := aM gb22
   have GG22 := aM HG22
   clear gb22 gl22 HG22
   obtain ⟨hx22_0, hf22_0⟩ := Kd.R_celln 0 HO_8.out (0 : Int) p22 q22
   (try rw [show ((0 : Int)).toNat = 0 from rfl] at hx22_0)
   (try simp only [Nat.reduceMul, Nat.zero_mul, Nat.zero_add, Nat.reduceAdd] at hx22_0)
   (try rw [show ((0 : Int)).toNat = 0 from rfl] at hf22_0)
   (try simp only [Nat.reduceMul, Nat.zero_mul, Nat.zero_add, Nat.reduceAdd] at hf22_0)
   replace p22 := eq_true p22
   replace q22 := eq_true q22
   obtain ⟨hy24_, hz24_⟩ := Kd.R_celln 0 HO_8.out (0 : Int) (by omega) (dt_)
   (try simp only [Int.reduceToNat, Int.toNat_zero, Int.toNat_ofNat, Nat.reduceMul, Nat.zero_mul, Nat.zero_add] at hy24_ hz24_)
   (try rw [show ((0 : Int)).toNat = 0 from rfl] at hy24_)
   (try rw [show ((0 : Int)).toNat = 0 from rfl] at hz24_)
   have HP24 := Kd.R_putg HO_8.out (0 : Int) x9_1
   go_wp2_with (first | ((with_reducible refine gate_store (t := 3) (p := 36) rfl ?_); (try (rw [drewN_self wr]; generalize hq_ : World.drewN wr _ = wr; replace HO_6 := aM (Kd.R_at hq_ HO_6.out); replace HO_7 := aM (Kd.R_at hq_ HO_7.out); replace HO_8 := aM (Kd.R_at hq_ HO_8.out); replace HB := aM (below_at hq_ HB.out); clear hq_; (try (obtain ⟨hy24_, hz24_⟩ := Kd.R_celln 0 HO_8.out (0 : Int) (by omega) (dt_))); (try (try simp only [Int.reduceToNat, Int.toNat_zero, Int.toNat_ofNat, Nat.reduceMul, Nat.zero_mul, Nat.zero_add] at hy24_ hz24_)); (try (try rw [show ((0 : Int)).toNat = 0 from rfl] at hy24_)); (try (try rw [show ((0 : Int)).toNat = 0 from rfl] at hz24_)); (try (have HP24 := Kd.R_putg HO_8.out (0 : Int) x9_1)))); refine store_event (t := 3) (p := 36) (v := ?vo_w25) (w1 := (wr.setCell ⟨go22, (0 : Int).toNat, none⟩ (.int .i64 x9_1))) ?hg ?ho ?hn ?hr ?_; (case ho => rfl); (case hg => rfl); (case hn => rfl); (case hr => exact qz11); intro w25 hw; have hg : wr.grownBy w25 (some go22) := (by rw [hw]; exact HP24.2); have hp_ : Kd.R (Kd.int .i64) 3 w25 w.heap.size (fun k_ => some k_ ≠ (v239 : Value).ownBlock ∧ some k_ ≠ (v242 : Value).ownBlock) (.slice (some ⟨go22, 0, none⟩) x8_1.length co22) y247 := (by rw [hw, Ny247.out]; exact HP24.1); clear HP24; replace HO_6 := aM (Kd.R_after (v := (.slice (some ⟨go22, 0, none⟩) x8_1.length co22)) (v1 := (.slice (some ⟨go22, 0, none⟩) x8_1.length co22)) (ok := (fun k_ => some k_ ≠ (v242 : Value).ownBlock)) (rr_ HO_6.out) hg (.inl rfl)); replace HO_7 := aM (Kd.R_after (v := (.slice (some ⟨go22, 0, none⟩) x8_1.length co22)) (v1 := (.slice (some ⟨go22, 0, none⟩) x8_1.length co22)) (ok := (fun k_ => some k_ ≠ (v239 : Value).ownBlock)) (rr_ HO_7.out) hg (.inl rfl)); replace HO_8 := aM (hp_); replace HB := aM ((by rw [hw]; exact below_set (HB.out) GB22.out : Below w.heap.size w w25)); clear hg hw hp_; obtain ⟨Ao26, co26, eo26⟩ := Kd.R_slice HO_6.out; subst eo26; obtain ⟨Ao27, co27, eo27⟩ := Kd.R_slice HO_7.out; subst eo27) | (go_at_call 67; (with_reducible refine (spec_l4Grow.calls k1 _ _ l0 (fun k_ => some k_ = (.slice Ao26 x6_1.length co26 : Value).ownBlock) (.slice Ao26 x6_1.length co26) x6_1 (fun k_ => some k_ = (.slice Ao27 x7_1.length co27 : Value).ownBlock) (.slice Ao27 x7_1.length co27) x7_1 (fun k_ => some k_ = (.slice (some ⟨go22, 0, none⟩) x8_1.length co22 : Value).ownBlock) (.slice (some ⟨go22, 0, none⟩) x8_1.length co22) y247 ((rd_L1 l0 0).length : Int) t248 t249 t250 w _ ?side1 ?side2 ?side3 ?side4 ?side5 ?side6 ?side7 ?side8 ?side9 ?side10 ?side11 ?side12 A23.out).mono ?_); (case side1 => exact qz1); (case side2 => exact qz53); (case side3 => exact HC0.out); (case side4 => exact Kd.R_tight rfl HO_6.out); (case side5 => exact fun k_ e_ => (HO_6.out.1 k_ e_.symm).1); (case side6 => exact fun k_ e_ => (HO_6.out.1 k_ e_.symm).2); (case side7 => exact Kd.R_tight rfl HO_7.out); (case side8 => exact fun k_ e_ => (HO_7.out.1 k_ e_.symm).1); (case side9 => exact fun k_ e_ => (HO_7.out.1 k_ e_.symm).2); (case side10 => exact Kd.R_tight rfl HO_8.out); (case side11 => exact fun k_ e_ => (HO_8.out.1 k_ e_.symm).1); (case side12 => exact fun k_ e_ => (HO_8.out.1 k_ e_.symm).2); rintro e w28 ⟨rfl, hy0, hy1, hy2, hb, hkp⟩; replace HO_6 := aM (Kd.R_reok rfl hy0 (fun k_ e_ => HO_6.out.1 k_ e_)); replace HO_7 := aM (Kd.R_reok rfl hy1 (fun k_ e_ => HO_7.out.1 k_ e_)); replace HO_8 := aM (Kd.R_reok rfl hy2 (fun k_ e_ => HO_8.out.1 k_ e_)); replace HB := aM (hb); (try clear hb); (try clear hkp); (try clear hy0); (try clear hy1); (try clear hy2)))
   repeat (go_quiet (first | ((with_reducible refine gate_store (t := 3) (p := 36) rfl ?_); (try (rw [drewN_self wr]; generalize hq_ : World.drewN wr _ = wr; replace HO_6 := aM (Kd.R_at hq_ HO_6.out); replace HO_7 := aM (Kd.R_at hq_ HO_7.out); replace HO_8 := aM (Kd.R_at hq_ HO_8.out); replace HB := aM (below_at hq_ HB.out); clear hq_; (try (obtain ⟨hy24_, hz24_⟩ := Kd.R_celln 0 HO_8.out (0 : Int) (by omega) (dt_))); (try (try simp only [Int.reduceToNat, Int.toNat_zero, Int.toNat_ofNat, Nat.reduceMul, Nat.zero_mul, Nat.zero_add] at hy24_ hz24_)); (try (try rw [show ((0 : Int)).toNat = 0 from rfl] at hy24_)); (try (try rw [show ((0 : Int)).toNat = 0 from rfl] at hz24_)); (try (have HP24 := Kd.R_putg HO_8.out (0 : Int) x9_1)))); refine store_event (t := 3) (p := 36) (v := ?vo_w25) (w1 := (wr.setCell ⟨go22, (0 : Int).toNat, none⟩ (.int .i64 x9_1))) ?hg ?ho ?hn ?hr ?_; (case ho => rfl); (case hg => rfl); (case hn => rfl); (case hr => exact qz11); intro w25 hw; have hg : wr.grownBy w25 (some go22) := (by rw [hw]; exact HP24.2); have hp_ : Kd.R (Kd.int .i64) 3 w25 w.heap.size (fun k_ => some k_ ≠ (v239 : Value).ownBlock ∧ some k_ ≠ (v242 : Value).ownBlock) (.slice (some ⟨go22, 0, none⟩) x8_1.length co22) y247 := (by rw [hw, Ny247.out]; exact HP24.1); clear HP24; replace HO_6 := aM (Kd.R_after (v := (.slice (some ⟨go22, 0, none⟩) x8_1.length co22)) (v1 := (.slice (some ⟨go22, 0, none⟩) x8_1.length co22)) (ok := (fun k_ => some k_ ≠ (v242 : Value).ownBlock)) (rr_ HO_6.out) hg (.inl rfl)); replace HO_7 := aM (Kd.R_after (v := (.slice (some ⟨go22, 0, none⟩) x8_1.length co22)) (v1 := (.slice (some ⟨go22, 0, none⟩) x8_1.length co22)) (ok := (fun k_ => some k_ ≠ (v239 : Value).ownBlock)) (rr_ HO_7.out) hg (.inl rfl)); replace HO_8 := aM (hp_); replace HB := aM ((by rw [hw]; exact below_set (HB.out) GB22.out : Below w.heap.size w w25)); clear hg hw hp_; obtain ⟨Ao26, co26, eo26⟩ := Kd.R_slice HO_6.out; subst eo26; obtain ⟨Ao27, co27, eo27⟩ := Kd.R_slice HO_7.out; subst eo27) | (go_at_call 67; (with_reducible refine (spec_l4Grow.calls k1 _ _ l0 (fun k_ => some k_ = (.slice Ao26 x6_1.length co26 : Value).ownBlock) (.slice Ao26 x6_1.length co26) x6_1 (fun k_ => some k_ = (.slice Ao27 x7_1.length co27 : Value).ownBlock) (.slice Ao27 x7_1.length co27) x7_1 (fun k_ => some k_ = (.slice (some ⟨go22, 0, none⟩) x8_1.length co22 : Value).ownBlock) (.slice (some ⟨go22, 0, none⟩) x8_1.length co22) y247 ((rd_L1 l0 0).length : Int) t248 t249 t250 w _ ?side1 ?side2 ?side3 ?side4 ?side5 ?side6 ?side7 ?side8 ?side9 ?side10 ?side11 ?side12 A23.out).mono ?_); (case side1 => exact qz1); (case side2 => exact qz53); (case side3 => exact HC0.out); (case side4 => exact Kd.R_tight rfl HO_6.out); (case side5 => exact fun k_ e_ => (HO_6.out.1 k_ e_.symm).1); (case side6 => exact fun k_ e_ => (HO_6.out.1 k_ e_.symm).2); (case side7 => exact Kd.R_tight rfl HO_7.out); (case side8 => exact fun k_ e_ => (HO_7.out.1 k_ e_.symm).1); (case side9 => exact fun k_ e_ => (HO_7.out.1 k_ e_.symm).2); (case side10 => exact Kd.R_tight rfl HO_8.out); (case side11 => exact fun k_ e_ => (HO_8.out.1 k_ e_.symm).1); (case side12 => exact fun k_ e_ => (HO_8.out.1 k_ e_.symm).2); rintro e w28 ⟨rfl, hy0, hy1, hy2, hb, hkp⟩; replace HO_6 := aM (Kd.R_reok rfl hy0 (fun k_ e_ => HO_6.out.1 k_ e_)); replace HO_7 := aM (Kd.R_reok rfl hy1 (fun k_ e_ => HO_7.out.1 k_ e_)); replace HO_8 := aM (Kd.R_reok rfl hy2 (fun k_ e_ => HO_8.out.1 k_ e_)); replace HB := aM (hb); (try clear hb); (try clear hkp); (try clear hy0); (try clear hy1); (try clear hy2))); try go_wp2_with (first | ((with_reducible refine gate_store (t := 3) (p := 36) rfl ?_); (try (rw [drewN_self wr]; generalize hq_ : World.drewN wr _ = wr; replace HO_6 := aM (Kd.R_at hq_ HO_6.out); replace HO_7 := aM (Kd.R_at hq_ HO_7.out); replace HO_8 := aM (Kd.R_at hq_ HO_8.out); replace HB := aM (below_at hq_ HB.out); clear hq_; (try (obtain ⟨hy24_, hz24_⟩ := Kd.R_celln 0 HO_8.out (0 : Int) (by omega) (dt_))); (try (try simp only [Int.reduceToNat, Int.toNat_zero, Int.toNat_ofNat, Nat.reduceMul, Nat.zero_mul, Nat.zero_add] at hy24_ hz24_)); (try (try rw [show ((0 : Int)).toNat = 0 from rfl] at hy24_)); (try (try rw [show ((0 : Int)).toNat = 0 from rfl] at hz24_)); (try (have HP24 := Kd.R_putg HO_8.out (0 : Int) x9_1)))); refine store_event (t := 3) (p := 36) (v := ?vo_w25) (w1 := (wr.setCell ⟨go22, (0 : Int).toNat, none⟩ (.int .i64 x9_1))) ?hg ?ho ?hn ?hr ?_; (case ho => rfl); (case hg => rfl); (case hn => rfl); (case hr => exact qz11); intro w25 hw; have hg : wr.grownBy w25 (some go22) := (by rw [hw]; exact HP24.2); have hp_ : Kd.R (Kd.int .i64) 3 w25 w.heap.size (fun k_ => some k_ ≠ (v239 : Value).ownBlock ∧ some k_ ≠ (v242 : Value).ownBlock) (.slice (some ⟨go22, 0, none⟩) x8_1.length co22) y247 := (by rw [hw, Ny247.out]; exact HP24.1); clear HP24; replace HO_6 := aM (Kd.R_after (v := (.slice (some ⟨go22, 0, none⟩) x8_1.length co22)) (v1 := (.slice (some ⟨go22, 0, none⟩) x8_1.length co22)) (ok := (fun k_ => some k_ ≠ (v242 : Value).ownBlock)) (rr_ HO_6.out) hg (.inl rfl)); replace HO_7 := aM (Kd.R_after (v := (.slice (some ⟨go22, 0, none⟩) x8_1.length co22)) (v1 := (.slice (some ⟨go22, 0, none⟩) x8_1.length co22)) (ok := (fun k_ => some k_ ≠ (v239 : Value).ownBlock)) (rr_ HO_7.out) hg (.inl rfl)); replace HO_8 := aM (hp_); replace HB := aM ((by rw [hw]; exact below_set (HB.out) GB22.out : Below w.heap.size w w25)); clear hg hw hp_; obtain ⟨Ao26, co26, eo26⟩ := Kd.R_slice HO_6.out; subst eo26; obtain ⟨Ao27, co27, eo27⟩ := Kd.R_slice HO_7.out; subst eo27) | (go_at_call 67; (with_reducible refine (spec_l4Grow.calls k1 _ _ l0 (fun k_ => some k_ = (.slice Ao26 x6_1.length co26 : Value).ownBlock) (.slice Ao26 x6_1.length co26) x6_1 (fun k_ => some k_ = (.slice Ao27 x7_1.length co27 : Value).ownBlock) (.slice Ao27 x7_1.length co27) x7_1 (fun k_ => some k_ = (.slice (some ⟨go22, 0, none⟩) x8_1.length co22 : Value).ownBlock) (.slice (some ⟨go22, 0, none⟩) x8_1.length co22) y247 ((rd_L1 l0 0).length : Int) t248 t249 t250 w _ ?side1 ?side2 ?side3 ?side4 ?side5 ?side6 ?side7 ?side8 ?side9 ?side10 ?side11 ?side12 A23.out).mono ?_); (case side1 => exact qz1); (case side2 => exact qz53); (case side3 => exact HC0.out); (case side4 => exact Kd.R_tight rfl HO_6.out); (case side5 => exact fun k_ e_ => (HO_6.out.1 k_ e_.symm).1); (case side6 => exact fun k_ e_ => (HO_6.out.1 k_ e_.symm).2); (case side7 => exact Kd.R_tight rfl HO_7.out); (case side8 => exact fun k_ e_ => (HO_7.out.1 k_ e_.symm).1); (case side9 => exact fun k_ e_ => (HO_7.out.1 k_ e_.symm).2); (case side10 => exact Kd.R_tight rfl HO_8.out); (case side11 => exact fun k_ e_ => (HO_8.out.1 k_ e_.symm).1); (case side12 => exact fun k_ e_ => (HO_8.out.1 k_ e_.symm).2); rintro e w28 ⟨rfl, hy0, hy1, hy2, hb, hkp⟩; replace HO_6 := aM (Kd.R_reok rfl hy0 (fun k_ e_ => HO_6.out.1 k_ e_)); replace HO_7 := aM (Kd.R_reok rfl hy1 (fun k_ e_ => HO_7.out.1 k_ e_)); replace HO_8 := aM (Kd.R_reok rfl hy2 (fun k_ e_ => HO_8.out.1 k_ e_)); replace HB := aM (hb); (try clear hb); (try clear hkp); (try clear hy0); (try clear hy1); (try clear hy2))))
   go_roundg k1
   case measure => have := HK1.out; omega
   case rel => exact ⟨(t248), (t249), (t250), (wrap64 (x9_1 + 1)), qz5, H', ⟨by have := HK1.out; omega⟩, ⟨rm_ HO_6.out⟩, ⟨rm_ HO_7.out⟩, ⟨rm_ HO_8.out⟩, ⟨qz1⟩⟩
   }
   {
   exact an_ c21 H
   }
   }
   {
   rw [if_neg c20] at H
   have c20b0 := decide_eq_false c20
   clear c20
   by_cases c29 : 1 ≤ (x6_1.length : Int)
   {
   rw [if_pos c29] at H
   have c29b0 := eq_true c29
   have c29b1 := decide_eq_true c29
   clear c29
   obtain ⟨y251, hy251⟩ : ∃ y_ : List Int, y_ = (x6_1.drop (1 : Int).toNat) := ⟨_, rfl⟩
   replace H : (if 1 ≤ (x7_1.length : Int) then (some (y251, (x7_1.drop (1 : Int).toNat))) else (none)) = some (r1, r2) := by first | (rw [hy251]; with_reducible exact H) | (have H2_ := (Option.bind_some _ _).symm.trans H; rw [hy251]; with_reducible exact H2_) | (have H2_ := (Option.bind_some _ _).symm.trans H; with_reducible exact H2_) | with_reducible exact H | (rw [hy251]; exact H) | exact H
   have Ny251 := aM hy251
   clear hy251
   by_cases c30 : 1 ≤ (x7_1.length : Int)
   {
   rw [if_pos c30] at H
   have c30b0 := eq_true c30
   have c30b1 := decide_eq_true c30
   clear c30
   obtain ⟨y254, hy254⟩ : ∃ y_ : List Int, y_ = (x7_1.drop (1 : Int).toNat) := ⟨_, rfl⟩
   replace H : (some (y251, y254)) = some (r1, r2) := by first | (rw [hy254]; with_reducible exact H) | (have H2_ := (Option.bind_some _ _).symm.trans H; rw [hy254]; with_reducible exact H2_) | (have H2_ := (Option.bind_some _ _).symm.trans H; with_reducible exact H2_) | with_reducible exact H | (rw [hy254]; exact H) | exact H
   have Ny254 := aM hy254
   clear hy254
   simp only [Option.some.injEq, Prod.mk.injEq] at H
   obtain ⟨rfl, rfl⟩ := H
   obtain ⟨Ao31, co31, eo31⟩ := Kd.R_slice HO_6.out
   subst eo31
   have q32 : (1 : Int) ≤ ((x6_1.length : Int) : Int) := dt_
   obtain ⟨i032, hi032, _, hsz32, _⟩ := info_parts info3
   have hcut32 := cut_from (P := Try.prog) 24 3 .i64 Try.underlying24 hi032 1 hsz32 Ao31 x6_1.length co31 1 (by omega) q32
   have hr32 := Kd.Q_drop (k := (1 : Int).toNat) (Kd.Q_of_R HO_6.out) (by omega)
   obtain ⟨A32, hA32⟩ : ∃ A1, A1 = (if co31 = (1 : Int).toNat then Ao31 else (Ao31 : Option Addr).map (·.add ((1 : Int).toNat * 1))) := ⟨_, rfl⟩
   obtain ⟨c32, hc32⟩ : ∃ c1, c1 = co31 - (1 : Int).toNat := ⟨_, rfl⟩
   have hy32 : y251.length = x6_1.length - (1 : Int).toNat := (by rw [Ny251.out, List.length_drop])
   rw [← Ny251.out] at hr32
   rw [← hy32, ← hA32, ← hc32] at hcut32
   replace hr32 : Kd.Q (Kd.int .i64) 3 wr w.heap.size (fun k_ => some k_ ≠ (v242 : Value).ownBlock ∧ some k_ ≠ (v245 : Value).ownBlock) (.slice A32 y251.length c32) y251 := (by rw [hA32, hc32, hy32]; exact hr32)
   have HE32 : Aside0 ((Value.slice A32 y251.length c32).ownBlock = (.slice Ao31 x6_1.length co31 : Value).ownBlock) := ⟨by rw [hA32]; split <;> (cases (Ao31 : Option Addr) <;> rfl)⟩
   clear hy32 hi032 hsz32 HO_6 hA32 hc32
   have HO253 := aM hr32
   clear hr32
   replace q32 := eq_true q32
   have n_ := aM (Kd.R_mono (ok' := fun k_ => (some k_ ≠ (.slice A32 y251.length c32 : Value).ownBlock ∧ some k_ ≠ (v245 : Value).ownBlock)) HO_7.out (fun k_ hk => ⟨(by rw [HE32.out]; exact hk.1), hk.2⟩))
   clear HO_7
   have HO_7 := n_
   clear n_
   have n_ := aM (Kd.R_mono (ok' := fun k_ => (some k_ ≠ (.slice A32 y251.length c32 : Value).ownBlock ∧ some k_ ≠ (v242 : Value).ownBlock)) HO_8.out (fun k_ hk => ⟨(by rw [HE32.out]; exact hk.1), hk.2⟩))
   clear HO_8
   have HO_8 := n_
   clear n_
   obtain ⟨Ao33, co33, eo33⟩ := Kd.R_slice HO_7.out
   subst eo33
   have q34 : (1 : Int) ≤ ((x7_1.length : Int) : Int) := dt_
   obtain ⟨i034, hi034, _, hsz34, _⟩ := info_parts info3
   have hcut34 := cut_from (P := Try.prog) 24 3 .i64 Try.underlying24 hi034 1 hsz34 Ao33 x7_1.length co33 1 (by omega) q34
   have hr34 := Kd.Q_drop (k := (1 : Int).toNat) (Kd.Q_of_R HO_7.out) (by omega)
   obtain ⟨A34, hA34⟩ : ∃ A1, A1 = (if co33 = (1 : Int).toNat then Ao33 else (Ao33 : Option Addr).map (·.add ((1 : Int).toNat * 1))) := ⟨_, rfl⟩
   obtain ⟨c34, hc34⟩ : ∃ c1, c1 = co33 - (1 : Int).toNat := ⟨_, rfl⟩
   have hy34 : y254.length = x7_1.length - (1 : Int).toNat := (by rw [Ny254.out, List.length_drop])
   rw [← Ny254.out] at hr34
   rw [← hy34, ← hA34, ← hc34] at hcut34
   replace hr34 : Kd.Q (Kd.int .i64) 3 wr w.heap.size (fun k_ => some k_ ≠ (.slice A32 y251.length c32 : Value).ownBlock ∧ some k_ ≠ (v245 : Value).ownBlock) (.slice A34 y254.length c34) y254 := (by rw [hA34, hc34, hy34]; exact hr34)
   have HE34 : Aside0 ((Value.slice A34 y254.length c34).ownBlock = (.slice Ao33 x7_1.length co33 : Value).ownBlock) := ⟨by rw [hA34]; split <;> (cases (Ao33 : Option Addr) <;> rfl)⟩
   clear hy34 hi034 hsz34 HO_7 hA34 hc34
   have HO256 := aM hr34
   clear hr34
   replace q34 := eq_true q34
   have n_ := aM (Kd.Q_mono (ok' := fun k_ => (some k_ ≠ (.slice A34 y254.length c34 : Value).ownBlock ∧ some k_ ≠ (v245 : Value).ownBlock)) HO253.out (fun k_ hk => ⟨(by rw [HE34.out]; exact hk.1), hk.2⟩))
   clear HO253
   have HO253 := n_
   clear n_
   have n_ := aM (Kd.R_mono (ok' := fun k_ => (some k_ ≠ (.slice A32 y251.length c32 : Value).ownBlock ∧ some k_ ≠ (.slice A34 y254.length c34 : Value).ownBlock)) HO_8.out (fun k_ hk => ⟨hk.1, (by rw [HE34.out]; exact hk.2)⟩))
   clear HO_8
   have HO_8 := n_
   clear n_
   go_wp2
   repeat (go_quiet (fail); try go_wp2)
   go_ret2
   exact ⟨_, _, by first | rfl | (simp [errW_none, errW_some] <;> rfl) | (simp only [← hji8, ← hji11]; first | rfl | (simp [errW_none, errW_some] <;> rfl)) | (simp [*, errW_none, errW_some] <;> rfl), by (with_reducible repeat (first | apply Kd.Q_alloc | apply Kd.Q_drewN | apply Kd.Q_drew)); exact Kd.Q_mono HO253.out (fun _ hk => hk.1), by (with_reducible repeat (first | apply Kd.Q_alloc | apply Kd.Q_drewN | apply Kd.Q_drew)); exact Kd.Q_mono HO256.out (fun _ hk => hk.1), qz1⟩
   }
   {
   exact an_ c30 H
   }
   }
   {
   exact an_ c29 H
   }
   }
 }
 {
 exact an_ c13 H
 }
 }
 {
 exact an_ c12 H
 }
 }
 {
 exact an_ c10 H
 }
 }
 {
 exact an_ c9 H
 }
 }
 {
 exact an_ c7 H

 }
 }
/-! ### spec_l1Byte: function 77 -/
def spec_l1Byte.f (s0_0 : List Int) (s0_1 : Int) (s0_2 : Int) : Option (Int × Int × Int) := if s0_1 < (s0_0.length : Int) then (if 0 ≤ s0_1 then (some (Go.bits .and .i64 (wrap64 ((Go.bits .and .i64 (Go.bits .xor .i64 ((wrap64 ((wrap64 (s0_2 * 6364136223846793005)) + 1442695040888963407)) / 8589934592) ((wrap64 ((wrap64 (s0_2 * 6364136223846793005)) + 1442695040888963407)) / 140737488355328)) 255) + (wrap64 (rd s0_0 s0_1)))) 255, wrap64 (s0_1 + 1), wrap64 ((wrap64 (s0_2 * 6364136223846793005)) + 1442695040888963407))) else (none)) else (some (Go.bits .and .i64 (Go.bits .xor .i64 ((wrap64 ((wrap64 (s0_2 * 6364136223846793005)) + 1442695040888963407)) / 8589934592) ((wrap64 ((wrap64 (s0_2 * 6364136223846793005)) + 1442695040888963407)) / 140737488355328)) 255, s0_1, wrap64 ((wrap64 (s0_2 * 6364136223846793005)) + 1442695040888963407)))
set_option maxHeartbeats 8000000 in
set_option maxRecDepth 100000 in
theorem spec_l1Byte.calls (g : Nat) (s0_0 : List Int) (s0_1 : Int) (s0_2 : Int) (r1 : Int) (r2 : Int) (r3 : Int) (w0 w : World) (hI : IsS77 w0 w g s0_0 s0_1 s0_2) (hB : Below w0.heap.size w0 w) (h : spec_l1Byte.f s0_0 s0_1 s0_2 = some (r1, r2, r3)) :
  Calls Try.prog 77 #[.pointer (some ⟨g, 0, none⟩)] w fun e w' => e = .returned (.int .i64 r1) ∧ IsS77 w0 w' g s0_0 r2 r3 ∧ Below w0.heap.size w0 w' ∧ KeepBut w w' g none := by
 have HI0 := aM hI
 have HK := aM (KeepBut.refl w g none)
 have HL := aM hB.size
 clear hI
 have HW0 := aM hB.size
 have HB := aM hB
 clear hB
 have H : (if s0_1 < (s0_0.length : Int) then (if 0 ≤ s0_1 then (some (Go.bits .and .i64 (wrap64 ((Go.bits .and .i64 (Go.bits .xor .i64 ((wrap64 ((wrap64 (s0_2 * 6364136223846793005)) + 1442695040888963407)) / 8589934592) ((wrap64 ((wrap64 (s0_2 * 6364136223846793005)) + 1442695040888963407)) / 140737488355328)) 255) + (wrap64 (rd s0_0 s0_1)))) 255, wrap64 (s0_1 + 1), wrap64 ((wrap64 (s0_2 * 6364136223846793005)) + 1442695040888963407))) else (none)) else (some (Go.bits .and .i64 (Go.bits .xor .i64 ((wrap64 ((wrap64 (s0_2 * 6364136223846793005)) + 1442695040888963407)) / 8589934592) ((wrap64 ((wrap64 (s0_2 * 6364136223846793005)) + 1442695040888963407)) / 140737488355328)) 255, s0_1, wrap64 ((wrap64 (s0_2 * 6364136223846793005)) + 1442695040888963407)))) = some (r1, r2, r3) := h
 clear h
 by_cases c2 : s0_1 < (s0_0.length : Int)
 {
 rw [if_pos c2] at H
 have c2b0 := decide_eq_true c2
 clear c2
 by_cases c3 : 0 ≤ s0_1
 {
 rw [if_pos c3] at H
 have c3b0 := decide_eq_true c3
 clear c3
 simp only [Option.some.injEq, Prod.mk.injEq] at H
 obtain ⟨rfl, rfl, rfl⟩ := H
 obtain ⟨ASz4_0, cSz4_0, HGz4, hgz4, HSz4_0⟩ := HI0.out
 have hcz4_0 := cellS77_0 HGz4
 have hcz4_1 := cellS77_1 HGz4
 have hcz4_2 := cellS77_2 HGz4
 have hfz4_1 := blk_frozen HGz4 1
 have hfz4_2 := blk_frozen HGz4 2
 clear HGz4 hgz4
 have p257 : 0 ≤ (s0_1 : Int) := dt_
 have q257 : s0_1 < (s0_0.length : Int) := dt_
 obtain ⟨ad257, e257, hx257_0⟩ := Kd.at_int HSz4_0 s0_1 p257 q257
 cases e257
 have hn257_0 : ad257.block ≠ g := Nat.ne_of_lt (Nat.lt_of_lt_of_le (by have := World.block_lt_of_cell? _ _ hx257_0; first | rwa [add_block] at this | exact this) (IsS77.ge HI0.out))
 replace hx257_0 := cB_ hx257_0
 replace hx257_0 := (cell_far (p := ⟨g, 2, none⟩) (by first | (rw [add_block]; exact hn257_0) | (show (Addr.add _ _).block ≠ _; rw [add_block]; exact hn257_0) | exact hn257_0) (.int .i64 (wrap64 ((wrap64 (s0_2 * 6364136223846793005)) + 1442695040888963407)))).trans hx257_0
 (try have hy257_0 := fun (n_ : Nat) => (show (((w.drewN n_).setCell ⟨g, 2, none⟩ (.int .i64 (wrap64 ((wrap64 (s0_2 * 6364136223846793005)) + 1442695040888963407))))).cell? _ = some _ from hx257_0))
 clear hn257_0
 replace p257 := eq_true p257
 replace q257 := eq_true q257
 go_enter Try.func77, Try.ntmps77
 go_wp2
 repeat (go_quiet (fail); try go_wp2)
 go_ret
 exact ⟨qzw, qz4, qz1, qz2⟩
 }
 {
 exact an_ c3 H
 }
 }
 {
 rw [if_neg c2] at H
 have c2b0 := decide_eq_false c2
 clear c2
 simp only [Option.some.injEq, Prod.mk.injEq] at H
 obtain ⟨rfl, rfl, rfl⟩ := H
 obtain ⟨ASz5_0, cSz5_0, HGz5, hgz5, HSz5_0⟩ := HI0.out
 have hcz5_0 := cellS77_0 HGz5
 have hcz5_1 := cellS77_1 HGz5
 have hcz5_2 := cellS77_2 HGz5
 have hfz5_1 := blk_frozen HGz5 1
 have hfz5_2 := blk_frozen HGz5 2
 clear HGz5 hgz5
 go_enter Try.func77, Try.ntmps77
 go_wp2
 repeat (go_quiet (fail); try go_wp2)
 go_ret
 exact ⟨qzw, qz4, qz1, qz2⟩

 }
/-! ### spec_l1Below: function 68 -/
def spec_l1Below.f (s0_0 : List Int) (s0_1 : Int) (s0_2 : Int) (a1 : Int) : Option (Int × Int × Int) := if a1 ≤ 0 then (some (0, s0_1, s0_2)) else (if a1 ≤ 256 then ((spec_l1Byte.f s0_0 s0_1 s0_2).bind fun bt258 => (if a1 = 0 then (none) else (some (Int.tmod bt258.1 a1, bt258.2.1, bt258.2.2)))) else ((spec_l1Byte.f s0_0 s0_1 s0_2).bind fun bt261 => ((spec_l1Byte.f s0_0 bt261.2.1 bt261.2.2).bind fun bt264 => ((spec_l1Byte.f s0_0 bt264.2.1 bt264.2.2).bind fun bt267 => (if a1 = 0 then (none) else (some (Int.tmod (wrap64 ((wrap64 ((wrap64 (bt261.1 * 65536)) + (wrap64 (bt264.1 * 256)))) + bt267.1)) a1, bt267.2.1, bt267.2.2)))))))
set_option maxHeartbeats 8000000 in
set_option maxRecDepth 100000 in
theorem spec_l1Below.calls (g : Nat) (s0_0 : List Int) (s0_1 : Int) (s0_2 : Int) (a1 : Int) (r1 : Int) (r2 : Int) (r3 : Int) (w0 w : World) (hI : IsS77 w0 w g s0_0 s0_1 s0_2) (hB : Below w0.heap.size w0 w) (h : spec_l1Below.f s0_0 s0_1 s0_2 a1 = some (r1, r2, r3)) :
  Calls Try.prog 68 #[.pointer (some ⟨g, 0, none⟩), .int .i64 a1] w fun e w' => e = .returned (.int .i64 r1) ∧ IsS77 w0 w' g s0_0 r2 r3 ∧ Below w0.heap.size w0 w' ∧ KeepBut w w' g none := by
 have HI0 := aM hI
 have HK := aM (KeepBut.refl w g none)
 have HL := aM hB.size
 clear hI
 have HW0 := aM hB.size
 have HB := aM hB
 clear hB
 have H : (if a1 ≤ 0 then (some (0, s0_1, s0_2)) else (if a1 ≤ 256 then ((spec_l1Byte.f s0_0 s0_1 s0_2).bind fun bt258 => (if a1 = 0 then (none) else (some (Int.tmod bt258.1 a1, bt258.2.1, bt258.2.2)))) else ((spec_l1Byte.f s0_0 s0_1 s0_2).bind fun bt261 => ((spec_l1Byte.f s0_0 bt261.2.1 bt261.2.2).bind fun bt264 => ((spec_l1Byte.f s0_0 bt264.2.1 bt264.2.2).bind fun bt267 => (if a1 = 0 then (none) else (some (Int.tmod (wrap64 ((wrap64 ((wrap64 (bt261.1 * 65536)) + (wrap64 (bt264.1 * 256)))) + bt267.1)) a1, bt267.2.1, bt267.2.2)))))))) = some (r1, r2, r3) := h
 clear h
 by_cases c3 : a1 ≤ 0
 {
 rw [if_pos c3] at H
 have c3b0 := decide_eq_true c3
 clear c3
 simp only [Option.some.injEq, Prod.mk.injEq] at H
 obtain ⟨rfl, rfl, rfl⟩ := H
 go_enter Try.func68, Try.ntmps68
 go_wp2
 go_ret
 exact ⟨qzw, qz4, qz1, qz2⟩
 }
 {
 rw [if_neg c3] at H
 have c3b0 := decide_eq_false c3
 clear c3
 by_cases c4 : a1 ≤ 256
 {
 rw [if_pos c4] at H
 have c4b0 := decide_eq_true c4
 clear c4
 replace H := Option.bind_eq_some_iff.mp H
 obtain ⟨⟨t258, t259, t260⟩, A50, H⟩ := H
 replace H : (if a1 = 0 then (none) else (some (Int.tmod t258 a1, t259, t260))) = some (r1, r2, r3) := H
 have A5 := aM A50
 clear A50
 by_cases c6 : a1 = 0
 {
 exact ap_ c6 H
 }
 {
 rw [if_neg c6] at H
 have c6b0 := beq_eq_false_iff_ne.mpr c6
 have c6b1 := bne_iff_ne.mpr c6
 simp only [Option.some.injEq, Prod.mk.injEq] at H
 obtain ⟨rfl, rfl, rfl⟩ := H
 go_enter Try.func68, Try.ntmps68
 go_wp2_with (first | ((with_reducible refine gate_callee (f := 77) rfl ?_); refine goesL_ (some 13) rfl rfl Try.func77 (by kernel_rfl) rfl #[.pointer (some ⟨g, 0, none⟩)] rfl qz3 ?_; (with_reducible refine (spec_l1Byte.calls g s0_0 s0_1 s0_2 t258 t259 t260 w0 _ ?side1 ?side2 A5.out).mono ?_); (case side1 => exact qz4); (case side2 => exact qz1); rintro e w7 ⟨rfl, hi, hb, hk⟩; refine ⟨_, rfl, ?_⟩; replace HK := aM (KeepBut.trans qz2 hk (.inl rfl)); replace HB := aM (hb); replace HI0 := aM (hi); (try clear hb hk hi)))
 go_ret
 exact ⟨qzw, qz4, qz1, qz2⟩
 }
 }
 {
 rw [if_neg c4] at H
 have c4b0 := decide_eq_false c4
 clear c4
 replace H := Option.bind_eq_some_iff.mp H
 obtain ⟨⟨t261, t262, t263⟩, A80, H⟩ := H
 replace H : ((spec_l1Byte.f s0_0 t262 t263).bind fun bt264 => ((spec_l1Byte.f s0_0 bt264.2.1 bt264.2.2).bind fun bt267 => (if a1 = 0 then (none) else (some (Int.tmod (wrap64 ((wrap64 ((wrap64 (t261 * 65536)) + (wrap64 (bt264.1 * 256)))) + bt267.1)) a1, bt267.2.1, bt267.2.2))))) = some (r1, r2, r3) := H
 have A8 := aM A80
 clear A80
 replace H := Option.bind_eq_some_iff.mp H
 obtain ⟨⟨t264, t265, t266⟩, A90, H⟩ := H
 replace H : ((spec_l1Byte.f s0_0 t265 t266).bind fun bt267 => (if a1 = 0 then (none) else (some (Int.tmod (wrap64 ((wrap64 ((wrap64 (t261 * 65536)) + (wrap64 (t264 * 256)))) + bt267.1)) a1, bt267.2.1, bt267.2.2)))) = some (r1, r2, r3) := H
 have A9 := aM A90
 clear A90
 replace H := Option.bind_eq_some_iff.mp H
 obtain ⟨⟨t267, t268, t269⟩, A100, H⟩ := H
 replace H : (if a1 = 0 then (none) else (some (Int.tmod (wrap64 ((wrap64 ((wrap64 (t261 * 65536)) + (wrap64 (t264 * 256)))) + t267)) a1, t268, t269))) = some (r1, r2, r3) := H
 have A10 := aM A100
 clear A100
 by_cases c11 : a1 = 0
 {
 exact ap_ c11 H
 }
 {
 rw [if_neg c11] at H
 have c11b0 := beq_eq_false_iff_ne.mpr c11
 have c11b1 := bne_iff_ne.mpr c11
 simp only [Option.some.injEq, Prod.mk.injEq] at H
 obtain ⟨rfl, rfl, rfl⟩ := H
 go_enter Try.func68, Try.ntmps68
 go_wp2_with (first | ((with_reducible refine gate_callee (f := 77) rfl ?_); refine goesL_ (some 17) rfl rfl Try.func77 (by kernel_rfl) rfl #[.pointer (some ⟨g, 0, none⟩)] rfl qz3 ?_; (with_reducible refine (spec_l1Byte.calls g s0_0 s0_1 s0_2 t261 t262 t263 w0 _ ?side1 ?side2 A8.out).mono ?_); (case side1 => exact qz4); (case side2 => exact qz1); rintro e w12 ⟨rfl, hi, hb, hk⟩; refine ⟨_, rfl, ?_⟩; replace HK := aM (KeepBut.trans qz2 hk (.inl rfl)); replace HB := aM (hb); replace HI0 := aM (hi); (try clear hb hk hi)) | ((with_reducible refine gate_callee (f := 77) rfl ?_); refine goesL_ (some 19) rfl rfl Try.func77 (by kernel_rfl) rfl #[.pointer (some ⟨g, 0, none⟩)] rfl qz3 ?_; (with_reducible refine (spec_l1Byte.calls g s0_0 t262 t263 t264 t265 t266 w0 _ ?side1 ?side2 A9.out).mono ?_); (case side1 => exact qz4); (case side2 => exact qz1); rintro e w13 ⟨rfl, hi, hb, hk⟩; refine ⟨_, rfl, ?_⟩; replace HK := aM (KeepBut.trans qz2 hk (.inl rfl)); replace HB := aM (hb); replace HI0 := aM (hi); (try clear hb hk hi)) | ((with_reducible refine gate_callee (f := 77) rfl ?_); refine goesL_ (some 21) rfl rfl Try.func77 (by kernel_rfl) rfl #[.pointer (some ⟨g, 0, none⟩)] rfl qz3 ?_; (with_reducible refine (spec_l1Byte.calls g s0_0 t265 t266 t267 t268 t269 w0 _ ?side1 ?side2 A10.out).mono ?_); (case side1 => exact qz4); (case side2 => exact qz1); rintro e w14 ⟨rfl, hi, hb, hk⟩; refine ⟨_, rfl, ?_⟩; replace HK := aM (KeepBut.trans qz2 hk (.inl rfl)); replace HB := aM (hb); replace HI0 := aM (hi); (try clear hb hk hi)))
 go_ret
 exact ⟨qzw, qz4, qz1, qz2⟩

 }
 }
 }
/-! ### spec_l1Int: function 48 -/
def spec_l1Int.f (s0_0 : List Int) (s0_1 : Int) (s0_2 : Int) (l1 : List Int) : Option (Int × Int × Int) := (spec_l1Below.f s0_0 s0_1 s0_2 (l1.length : Int)).bind fun bt270 => (if 0 ≤ bt270.1 then (if bt270.1 < (l1.length : Int) then (some (rd l1 bt270.1, bt270.2.1, bt270.2.2)) else (none)) else (none))
set_option maxHeartbeats 8000000 in
set_option maxRecDepth 100000 in
theorem spec_l1Int.calls (g : Nat) (s0_0 : List Int) (s0_1 : Int) (s0_2 : Int) (A1 : Option Addr) (c1 : Nat) (l1 : List Int) (r1 : Int) (r2 : Int) (r3 : Int) (w0 w : World) (hI : IsS77 w0 w g s0_0 s0_1 s0_2) (hB : Below w0.heap.size w0 w) (hr1 : Kd.C (Kd.int .i64) w A1 l1.length l1) (hc1 : l1.length ≤ c1) (hf1 : ∀ ad, A1 = some ad → 0 < l1.length → ad.block ≠ g) (h : spec_l1Int.f s0_0 s0_1 s0_2 l1 = some (r1, r2, r3)) :
  Calls Try.prog 48 #[.pointer (some ⟨g, 0, none⟩), .slice A1 l1.length c1] w fun e w' => e = .returned (.int .i64 r1) ∧ IsS77 w0 w' g s0_0 r2 r3 ∧ Below w0.heap.size w0 w' ∧ KeepBut w w' g none := by
 have HR1 := aM hr1
 have HC1 := aM hc1
 clear hr1 hc1
 have HI0 := aM hI
 have HK := aM (KeepBut.refl w g none)
 have HL := aM hB.size
 clear hI
 have HW0 := aM hB.size
 have HB := aM hB
 clear hB
 have H : ((spec_l1Below.f s0_0 s0_1 s0_2 (l1.length : Int)).bind fun bt270 => (if 0 ≤ bt270.1 then (if bt270.1 < (l1.length : Int) then (some (rd l1 bt270.1, bt270.2.1, bt270.2.2)) else (none)) else (none))) = some (r1, r2, r3) := h
 clear h
 replace H := Option.bind_eq_some_iff.mp H
 obtain ⟨⟨t270, t271, t272⟩, A30, H⟩ := H
 replace H : (if 0 ≤ t270 then (if t270 < (l1.length : Int) then (some (rd l1 t270, t271, t272)) else (none)) else (none)) = some (r1, r2, r3) := H
 have A3 := aM A30
 clear A30
 by_cases c4 : 0 ≤ t270
 {
 rw [if_pos c4] at H
 have c4b0 := decide_eq_true c4
 clear c4
 by_cases c5 : t270 < (l1.length : Int)
 {
 rw [if_pos c5] at H
 have c5b0 := decide_eq_true c5
 clear c5
 simp only [Option.some.injEq, Prod.mk.injEq] at H
 obtain ⟨rfl, rfl, rfl⟩ := H
 go_enter Try.func48, Try.ntmps48
 go_wp2_with (first | ((with_reducible refine gate_callee (f := 68) rfl ?_); refine goesL_ (some 9) rfl rfl Try.func68 (by kernel_rfl) rfl #[.pointer (some ⟨g, 0, none⟩), .int .i64 (l1.length : Int)] rfl qz3 ?_; (with_reducible refine (spec_l1Below.calls g s0_0 s0_1 s0_2 (l1.length : Int) t270 t271 t272 w0 _ ?side1 ?side2 A3.out).mono ?_); (case side1 => exact qz4); (case side2 => exact qz1); rintro e w6 ⟨rfl, hi, hb, hk⟩; refine ⟨_, rfl, ?_⟩; replace HK := aM (KeepBut.trans qz2 hk (.inl rfl)); replace HB := aM (hb); replace HI0 := aM (hi); (try clear hb hk hi); have p273 : 0 ≤ (t270 : Int) := dt_; have q273 : t270 < (l1.length : Int) := dt_; obtain ⟨ad273, e273, hx273_0⟩ := Kd.at_int HR1.out t270 p273 q273; cases e273; replace hx273_0 := keep_cell HK.out hx273_0 (by first | (rw [add_block]; exact hf1 _ rfl (by omega)) | exact hf1 _ rfl (by omega) | exact hf1 ad273 rfl (by omega)); replace p273 := eq_true p273; replace q273 := eq_true q273))
 go_ret
 exact ⟨qzw, qz4, qz1, qz2⟩
 }
 {
 exact an_ c5 H
 }
 }
 {
 exact an_ c4 H

 }
/-! ### spec_l4Draw: function 40 -/
mutual
def spec_l4Draw.l0 : Nat → Int → Int → List (List Int) → Int → List Int → Int → Int → Option ((List (List Int)) × Int × Int)
 | 0, _, _, _, _, _, _, _ => none
 | k + 1, x5, x6, x7, x8, x1000, x1001, x1002 => if x8 < x5 then (spec_l4Draw.l1 k x5 x6 x7 x8 (([] : List Int)) 0 x1000 x1001 x1002) else (some (x7, x1001, x1002))
def spec_l4Draw.l1 : Nat → Int → Int → List (List Int) → Int → List Int → Int → List Int → Int → Int → Option ((List (List Int)) × Int × Int)
 | 0, _, _, _, _, _, _, _, _, _ => none
 | k + 1, x5, x6, x7, x8, x9, x10, x1000, x1001, x1002 => if x10 < x6 then ((spec_l1Below.f x1000 x1001 x1002 20).bind fun bt286 => ((spec_l1Int.f x1000 bt286.2.1 bt286.2.2 (([0, 1, 2, 3, 5, 9, bt286.1, 100000] : List Int))).bind fun bt292 => (if x9.length < 17592186044416 then (spec_l4Draw.l1 k x5 x6 x7 x8 (x9 ++ [bt292.1]) (wrap64 (x10 + 1)) x1000 bt292.2.1 bt292.2.2) else (none)))) else (if x7.length < 5864062014805 then (spec_l4Draw.l0 k x5 x6 (x7 ++ [x9]) (wrap64 (x8 + 1)) x1000 x1001 x1002) else (none))
end
def spec_l4Draw.f (k : Nat) (s0_0 : List Int) (s0_1 : Int) (s0_2 : Int) (a1 : Int) : Option ((List (List Int)) × Int × Int) := (spec_l1Below.f s0_0 s0_1 s0_2 a1).bind fun bt274 => ((spec_l1Below.f s0_0 bt274.2.1 bt274.2.2 3).bind fun bt277 => (spec_l4Draw.l0 k bt274.1 (wrap64 (bt274.1 + bt277.1)) (([] : List (List Int))) 0 s0_0 bt277.2.1 bt277.2.2))
theorem spec_l4Draw.mono_l : ∀ k, (∀ y0 y1 y2 y3 y4 y5 y6, LeO (spec_l4Draw.l0 k y0 y1 y2 y3 y4 y5 y6) (spec_l4Draw.l0 (k + 1) y0 y1 y2 y3 y4 y5 y6)) ∧ (∀ y0 y1 y2 y3 y4 y5 y6 y7 y8, LeO (spec_l4Draw.l1 k y0 y1 y2 y3 y4 y5 y6 y7 y8) (spec_l4Draw.l1 (k + 1) y0 y1 y2 y3 y4 y5 y6 y7 y8))
 | 0 => ⟨fun _ _ _ _ _ _ _ r h => by simp [spec_l4Draw.l0] at h, fun _ _ _ _ _ _ _ _ _ r h => by simp [spec_l4Draw.l1] at h⟩
 | k + 1 => by
  obtain ⟨ih0, ih1⟩ := spec_l4Draw.mono_l k
  refine ⟨?_, ?_⟩
  {
  intro y0 y1 y2 y3 y4 y5 y6
  unfold spec_l4Draw.l0
  exact qL
  }
  {
  intro y0 y1 y2 y3 y4 y5 y6 y7 y8
  unfold spec_l4Draw.l1
  exact qL
  }
theorem spec_l4Draw.mono : ∀ a0 a1 a2 a3 k, LeO (spec_l4Draw.f k a0 a1 a2 a3) (spec_l4Draw.f (k + 1) a0 a1 a2 a3) := by
 intro a0 a1 a2 a3 k
 obtain ⟨ih0, ih1⟩ := spec_l4Draw.mono_l k
 unfold spec_l4Draw.f
 exact qL
set_option maxHeartbeats 8000000 in
set_option maxRecDepth 100000 in
theorem spec_l4Draw.calls (k : Nat) (g : Nat) (s0_0 : List Int) (s0_1 : Int) (s0_2 : Int) (a1 : Int) (r1 : List (List Int)) (r2 : Int) (r3 : Int) (w0 w : World) (hI : IsS77 w0 w g s0_0 s0_1 s0_2) (hB : Below w0.heap.size w0 w) (h : spec_l4Draw.f k s0_0 s0_1 s0_2 a1 = some (r1, r2, r3)) :
  Calls Try.prog 40 #[.pointer (some ⟨g, 0, none⟩), .int .i64 a1] w fun e w' => ∃ v0_ : Value, e = .returned (v0_) ∧ Kd.S (Kd.slice 3 (Kd.int .i64)) 24 w' w.heap.size (fun _ => True) v0_ r1 ∧ IsS77 w0 w' g s0_0 r2 r3 ∧ Below w0.heap.size w0 w' ∧ KeepBut w w' g none := by
 have HI0 := aM hI
 have HK := aM (KeepBut.refl w g none)
 have HL := aM hB.size
 clear hI
 have HW0 := aM hB.size
 have HB := aM hB
 clear hB
 have H : ((spec_l1Below.f s0_0 s0_1 s0_2 a1).bind fun bt274 => ((spec_l1Below.f s0_0 bt274.2.1 bt274.2.2 3).bind fun bt277 => (spec_l4Draw.l0 k bt274.1 (wrap64 (bt274.1 + bt277.1)) (([] : List (List Int))) 0 s0_0 bt277.2.1 bt277.2.2))) = some (r1, r2, r3) := h
 clear h
 replace H := Option.bind_eq_some_iff.mp H
 obtain ⟨⟨t274, t275, t276⟩, A30, H⟩ := H
 replace H : ((spec_l1Below.f s0_0 t275 t276 3).bind fun bt277 => (spec_l4Draw.l0 k t274 (wrap64 (t274 + bt277.1)) (([] : List (List Int))) 0 s0_0 bt277.2.1 bt277.2.2)) = some (r1, r2, r3) := H
 have A3 := aM A30
 clear A30
 replace H := Option.bind_eq_some_iff.mp H
 obtain ⟨⟨t277, t278, t279⟩, A40, H⟩ := H
 replace H : (spec_l4Draw.l0 k t274 (wrap64 (t274 + t277)) (([] : List (List Int))) 0 s0_0 t278 t279) = some (r1, r2, r3) := H
 have A4 := aM A40
 clear A40
 obtain ⟨y280, hy280⟩ : ∃ y_ : List (List Int), y_ = (([] : List (List Int))) := ⟨_, rfl⟩
 replace H : (spec_l4Draw.l0 k t274 (wrap64 (t274 + t277)) y280 0 s0_0 t278 t279) = some (r1, r2, r3) := by first | (rw [hy280]; with_reducible exact H) | (have H2_ := (Option.bind_some _ _).symm.trans H; rw [hy280]; with_reducible exact H2_) | (have H2_ := (Option.bind_some _ _).symm.trans H; with_reducible exact H2_) | with_reducible exact H | (rw [hy280]; exact H) | exact H
 have Ny280 := aM hy280
 clear hy280
 have H' := aM H
 clear H
 go_enter Try.func40, Try.ntmps40
 go_wp2_with (first | ((with_reducible refine gate_callee (f := 68) rfl ?_); refine goesL_ (some 13) rfl rfl Try.func68 (by kernel_rfl) rfl #[.pointer (some ⟨g, 0, none⟩), .int .i64 a1] rfl qz3 ?_; (with_reducible refine (spec_l1Below.calls g s0_0 s0_1 s0_2 a1 t274 t275 t276 w0 _ ?side1 ?side2 A3.out).mono ?_); (case side1 => exact qz4); (case side2 => exact qz1); rintro e w5 ⟨rfl, hi, hb, hk⟩; refine ⟨_, rfl, ?_⟩; replace HK := aM (KeepBut.trans qz2 hk (.inl rfl)); replace HB := aM (hb); replace HI0 := aM (hi); (try clear hb hk hi)) | ((with_reducible refine gate_callee (f := 68) rfl ?_); refine goesL_ (some 16) rfl rfl Try.func68 (by kernel_rfl) rfl #[.pointer (some ⟨g, 0, none⟩), .int .i64 3] rfl qz3 ?_; (with_reducible refine (spec_l1Below.calls g s0_0 t275 t276 3 t277 t278 t279 w0 _ ?side1 ?side2 A4.out).mono ?_); (case side1 => exact qz4); (case side2 => exact qz1); rintro e w6 ⟨rfl, hi, hb, hk⟩; refine ⟨_, rfl, ?_⟩; replace HK := aM (KeepBut.trans qz2 hk (.inl rfl)); replace HB := aM (hb); replace HI0 := aM (hi); (try clear hb hk hi)) | ((with_reducible refine gate_dst (N := 18) rfl ?_); refine Kd.S_lit (Kd.slice 3 (Kd.int .i64)) _ 24 ?hg (N := 18) ?hd (xs := ([] : List (List Int))) (inner := []) (ok := fun _ => True) (okp := fun _ => True) ?hr ?hp (fun _ hk => hk) trivial (Below.refl _ _) (Nat.le_refl _) (by simp) ?_; (case hd => rfl); (case hg => rfl); (case hr => exact qz11); (case hp => exact (Reps.none _ _)); intro v281 w7 ho8 hb hg_ hnew_; clear hg_ hnew_; (first | rw [← Ny280.out] at ho8 | (simp only [Int.reduceToNat] at ho8; rw [← Ny280.out] at ho8)); have HO282 := aM (Kd.S_lower ho8 (keep_size (w := w) (g := g) (row := none) qz2)); replace HK := aM (KeepBut.trans qz2 (KeepBut.of_below hb g none) (.inl rfl)); replace HB := bS_ hb; replace HI0 := aM (IsS77.below qz4 hb); clear hb ho8))
 go_loopg [7, 8] k (fun kq v7 v8 w' => ∃ (x7_1 : List (List Int)) (x8_1 : Int) (x1001_1 : Int) (x1002_1 : Int), v8 = .int .i64 x8_1 ∧ Aside0 (spec_l4Draw.l0 kq t274 (wrap64 (t274 + t277)) x7_1 x8_1 s0_0 x1001_1 x1002_1 = some (r1, r2, r3)) ∧ Aside0 (kq ≤ k) ∧ Aside0 (Kd.S (Kd.slice 3 (Kd.int .i64)) 24 w' w.heap.size (fun _ => True) v7 x7_1) ∧ Aside0 (IsS77 w0 w' g s0_0 x1001_1 x1002_1) ∧ Aside0 (KeepBut w w' g none) ∧ Aside0 (Below w0.heap.size w0 w'))
 case atStart => exact ⟨(y280), (0), (t278), (t279), qz5, H', ⟨Nat.le_refl _⟩, ⟨rs_ HO282.out⟩, ⟨qz4⟩, ⟨qz2⟩, ⟨qz1⟩⟩
 case round =>
  clear H'
  try clear p2
  try clear c4
  try clear c6
  try clear p6
  obtain ⟨x7_1, x8_1, x1001_1, x1002_1, rfl, HA, HK1, HO_7, HI0, HK, HB⟩ := hrel
  cases gk with
  | zero => exact absurd HA.out (by simp [spec_l4Draw.l0])
  | succ k1 =>
   have H := HA.out
   clear HA
   simp only [spec_l4Draw.l0] at H
   by_cases c9 : x8_1 < t274
   {
   rw [if_pos c9] at H
   have c9b0 := decide_eq_true c9
   clear c9
   obtain ⟨y283, hy283⟩ : ∃ y_ : List Int, y_ = (([] : List Int)) := ⟨_, rfl⟩
   replace H : (spec_l4Draw.l1 k1 t274 (wrap64 (t274 + t277)) x7_1 x8_1 y283 0 s0_0 x1001_1 x1002_1) = some (r1, r2, r3) := by first | (rw [hy283]; with_reducible exact H) | (have H2_ := (Option.bind_some _ _).symm.trans H; rw [hy283]; with_reducible exact H2_) | (have H2_ := (Option.bind_some _ _).symm.trans H; with_reducible exact H2_) | with_reducible exact H | (rw [hy283]; exact H) | exact H
   have Ny283 := aM hy283
   clear hy283
   have H' := aM H
   clear H
   go_wp2_with (first | ((with_reducible refine gate_dst (N := 24) rfl ?_); refine Kd.R_lit (Kd.int .i64) _ 3 ?hg (N := 24) ?hd (xs := ([] : List Int)) (inner := []) (ok := fun _ => True) (okp := fun _ => True) ?hr ?hp (fun _ hk => hk) trivial (Below.refl _ _) (Nat.le_refl _) (by simp) ?_; (case hd => rfl); (case hg => rfl); (case hr => exact qz11); (case hp => exact (Reps.none _ _)); intro v284 w10 ho11 hb hg_ hnew_; clear hg_ hnew_; (first | rw [← Ny283.out] at ho11 | (simp only [Int.reduceToNat] at ho11; rw [← Ny283.out] at ho11)); replace HO_7 := aM (Kd.S_elder' (rs_ HO_7.out) (Kd.R_base ho11) hb); have HO285 := aM (Kd.R_lower ho11 (keep_size (w := w) (g := g) (row := none) qz2)); replace HK := aM (KeepBut.trans qz2 (KeepBut.of_below hb g none) (.inl rfl)); replace HB := bS_ hb; replace HI0 := aM (IsS77.below qz4 hb); clear hb ho11))
   go_loopg [9, 10] k1 (fun kq v9 v10 w' => ∃ (x9_2 : List Int) (x10_2 : Int) (x1001_2 : Int) (x1002_2 : Int), v10 = .int .i64 x10_2 ∧ Aside0 (spec_l4Draw.l1 kq t274 (wrap64 (t274 + t277)) x7_1 x8_1 x9_2 x10_2 s0_0 x1001_2 x1002_2 = some (r1, r2, r3)) ∧ Aside0 (kq ≤ k1) ∧ Aside0 (Kd.S (Kd.slice 3 (Kd.int .i64)) 24 w' w.heap.size (fun k_ => some k_ ≠ (v9 : Value).ownBlock) u7 x7_1) ∧ Aside0 (Kd.R (Kd.int .i64) 3 w' w.heap.size (fun _ => True) v9 x9_2) ∧ Aside0 (IsS77 w0 w' g s0_0 x1001_2 x1002_2) ∧ Aside0 (KeepBut w w' g none) ∧ Aside0 (Below w0.heap.size w0 w'))
   case atStart => exact ⟨(y283), (0), (x1001_1), (x1002_1), qz5, H', ⟨Nat.le_refl _⟩, ⟨by (with_reducible repeat (first | apply Kd.S_alloc | apply Kd.S_drewN | apply Kd.S_drew)); exact Kd.S_mono HO_7.out (fun _ hk => hk.2)⟩, ⟨rr_ HO285.out⟩, ⟨qz4⟩, ⟨qz2⟩, ⟨qz1⟩⟩
   case round =>
    clear H'
    try clear p2
    try clear c4
    try clear c6
    try clear p6
    try clear c9
    try clear c9b0
    obtain ⟨x9_2, x10_2, x1001_2, x1002_2, rfl, HA, HK2, HO_7, HO_9, HI0, HK, HB⟩ := hrel
    cases gk with
    | zero => exact absurd HA.out (by simp [spec_l4Draw.l1])
    | succ k2 =>
     have H := HA.out
     clear HA
     simp only [spec_l4Draw.l1] at H
     by_cases c12 : x10_2 < (wrap64 (t274 + t277))
     {
     rw [if_pos c12] at H
     have c12b0 := decide_eq_true c12
     clear c12
     replace H := Option.bind_eq_some_iff.mp H
     obtain ⟨⟨t286, t287, t288⟩, A130, H⟩ := H
     replace H : ((spec_l1Int.f s0_0 t287 t288 (([0, 1, 2, 3, 5, 9, t286, 100000] : List Int))).bind fun bt292 => (if x9_2.length < 17592186044416 then (spec_l4Draw.l1 k2 t274 (wrap64 (t274 + t277)) x7_1 x8_1 (x9_2 ++ [bt292.1]) (wrap64 (x10_2 + 1)) s0_0 bt292.2.1 bt292.2.2) else (none))) = some (r1, r2, r3) := H
     have A13 := aM A130
     clear A130
     obtain ⟨y289, hy289⟩ : ∃ y_ : List Int, y_ = (([0, 1, 2, 3, 5, 9, t286, 100000] : List Int)) := ⟨_, rfl⟩
     replace H : ((spec_l1Int.f s0_0 t287 t288 y289).bind fun bt292 => (if x9_2.length < 17592186044416 then (spec_l4Draw.l1 k2 t274 (wrap64 (t274 + t277)) x7_1 x8_1 (x9_2 ++ [bt292.1]) (wrap64 (x10_2 + 1)) s0_0 bt292.2.1 bt292.2.2) else (none))) = some (r1, r2, r3) := by first | (rw [hy289]; with_reducible exact H) | (have H2_ := (Option.bind_some _ _).symm.trans H; rw [hy289]; with_reducible exact H2_) | (have H2_ := (Option.bind_some _ _).symm.trans H; with_reducible exact H2_) | with_reducible exact H | (rw [hy289]; exact H) | exact H
     have Ny289 := aM hy289
     clear hy289
     replace H := Option.bind_eq_some_iff.mp H
     obtain ⟨⟨t292, t293, t294⟩, A140, H⟩ := H
     replace H : (if x9_2.length < 17592186044416 then (spec_l4Draw.l1 k2 t274 (wrap64 (t274 + t277)) x7_1 x8_1 (x9_2 ++ [t292]) (wrap64 (x10_2 + 1)) s0_0 t293 t294) else (none)) = some (r1, r2, r3) := H
     have A14 := aM A140
     clear A140
     by_cases c15 : x9_2.length < 17592186044416
     {
     rw [if_pos c15] at H
     have LMc15 := aM c15
     clear c15
     obtain ⟨y295, hy295⟩ : ∃ y_ : List Int, y_ = (x9_2 ++ [t292]) := ⟨_, rfl⟩
     replace H : (spec_l4Draw.l1 k2 t274 (wrap64 (t274 + t277)) x7_1 x8_1 y295 (wrap64 (x10_2 + 1)) s0_0 t293 t294) = some (r1, r2, r3) := by first | (rw [hy295]; with_reducible exact H) | (have H2_ := (Option.bind_some _ _).symm.trans H; rw [hy295]; with_reducible exact H2_) | (have H2_ := (Option.bind_some _ _).symm.trans H; with_reducible exact H2_) | with_reducible exact H | (rw [hy295]; exact H) | exact H
     have Ny295 := aM hy295
     clear hy295
     have H' := aM H
     clear H
     go_wp2_with (first | ((with_reducible refine gate_callee (f := 68) rfl ?_); refine goesL_ (some 33) rfl rfl Try.func68 (by kernel_rfl) rfl #[.pointer (some ⟨g, 0, none⟩), .int .i64 20] rfl qz3 ?_; (with_reducible refine (spec_l1Below.calls g s0_0 x1001_2 x1002_2 20 t286 t287 t288 w0 _ ?side1 ?side2 A13.out).mono ?_); (case side1 => exact qz4); (case side2 => exact qz1); rintro e w16 ⟨rfl, hi, hb, hk⟩; refine ⟨_, rfl, ?_⟩; replace HO_7 := aM (Kd.S_mono (Kd.S_keep (IsS77.apartS (show IsS77 w0 _ g s0_0 x1001_2 x1002_2 from qz4) (rs_ HO_7.out) (by decide)) hk (fun _ h => h.2)) (fun _ h => h.1)); replace HO_9 := aM (Kd.R_mono (Kd.R_keep (IsS77.apart (show IsS77 w0 _ g s0_0 x1001_2 x1002_2 from qz4) (rr_ HO_9.out) (by decide)) hk (fun _ h => h.2)) (fun _ h => h.1)); replace HK := aM (KeepBut.trans qz2 hk (.inl rfl)); replace HB := aM (hb); replace HI0 := aM (hi); (try clear hb hk hi)) | ((with_reducible refine gate_dst (N := 34) rfl ?_); refine Kd.R_lit (Kd.int .i64) _ 3 ?hg (N := 34) ?hd (xs := ([0, 1, 2, 3, 5, 9, t286, 100000] : List Int)) (inner := [.int .i64 0, .int .i64 1, .int .i64 2, .int .i64 3, .int .i64 5, .int .i64 9, .int .i64 t286, .int .i64 100000]) (ok := fun _ => True) (okp := fun _ => True) ?hr ?hp (fun _ hk => hk) trivial (Below.refl _ _) (Nat.le_refl _) (by simp) ?_; (case hd => rfl); (case hg => rfl); (case hr => exact qz11); (case hp => exact (Reps.one (show Kd.M (Kd.int .i64) _ _ _ 0 [.int .i64 0] from rfl) (Reps.one (show Kd.M (Kd.int .i64) _ _ _ 1 [.int .i64 1] from rfl) (Reps.one (show Kd.M (Kd.int .i64) _ _ _ 2 [.int .i64 2] from rfl) (Reps.one (show Kd.M (Kd.int .i64) _ _ _ 3 [.int .i64 3] from rfl) (Reps.one (show Kd.M (Kd.int .i64) _ _ _ 5 [.int .i64 5] from rfl) (Reps.one (show Kd.M (Kd.int .i64) _ _ _ 9 [.int .i64 9] from rfl) (Reps.one (show Kd.M (Kd.int .i64) _ _ _ t286 [.int .i64 t286] from rfl) (Reps.one (show Kd.M (Kd.int .i64) _ _ _ 100000 [.int .i64 100000] from rfl) (Reps.none _ _)))))))))); intro v290 w17 ho18 hb hg_ hnew_; clear hg_ hnew_; (first | rw [← Ny289.out] at ho18 | (simp only [Int.reduceToNat] at ho18; rw [← Ny289.out] at ho18)); replace HO_7 := aM (Kd.S_elder' (rs_ HO_7.out) (Kd.R_base ho18) hb); have HO291 := aM (Kd.R_lower (Kd.R_new' ho18 (Kd.R_lt (rr_ HO_9.out))) (keep_size (w := w) (g := g) (row := none) qz2)); replace HO_9 := aM (Kd.R_elder' (rr_ HO_9.out) (Kd.R_base ho18) hb); replace HK := aM (KeepBut.trans qz2 (KeepBut.of_below hb g none) (.inl rfl)); replace HB := bS_ hb; replace HI0 := aM (IsS77.below qz4 hb); clear hb ho18; obtain ⟨Ao19, co19, eo19⟩ := Kd.R_slice HO291.out; subst eo19) | ((with_reducible refine gate_callee (f := 48) rfl ?_); refine goesL_ (some 35) rfl rfl Try.func48 (by kernel_rfl) rfl #[.pointer (some ⟨g, 0, none⟩), .slice Ao19 y289.length co19] rfl qz3 ?_; (with_reducible refine (spec_l1Int.calls g s0_0 t287 t288 _ _ y289 t292 t293 t294 w0 _ ?side1 ?side2 ?side3 ?side4 ?side5 A14.out).mono ?_); (case side1 => exact qz4); (case side2 => exact qz1); (case side3 => repeat (first | exact (Kd.R_reads' HO291.out).2.2 | (with_reducible refine Kd.C_alloc ?_ _) | (with_reducible refine Kd.C_drewN ?_ _) | (with_reducible refine Kd.C_drew ?_))); (case side4 => exact (Kd.R_reads' HO291.out).2.1); (case side5 => exact far_slice (IsS77.own_ne HI0.out HO291.out (by decide))); rintro e w20 ⟨rfl, hi, hb, hk⟩; refine ⟨_, rfl, ?_⟩; replace HO_7 := aM (Kd.S_mono (Kd.S_keep (IsS77.apartS (show IsS77 w0 _ g s0_0 t287 t288 from qz4) (rs_ HO_7.out) (by decide)) hk (fun _ h => h.2)) (fun _ h => h.1)); replace HO_9 := aM (Kd.R_mono (Kd.R_keep (IsS77.apart (show IsS77 w0 _ g s0_0 t287 t288 from qz4) (rr_ HO_9.out) (by decide)) hk (fun _ h => h.2)) (fun _ h => h.1)); replace HO291 := aM (Kd.R_mono (Kd.R_keep (IsS77.apart (show IsS77 w0 _ g s0_0 t287 t288 from qz4) (rr_ HO291.out) (by decide)) hk (fun _ h => h.2)) (fun _ h => h.1)); replace HK := aM (KeepBut.trans qz2 hk (.inl rfl)); replace HB := aM (hb); replace HI0 := aM (hi); (try clear hb hk hi)) | ((with_reducible refine gate_builtin (b := .append) (xs := #[.tmp 30, .tmp 36]) rfl ?_); at_builtin; refine Kd.R_append (Kd.int .i64) w.heap.size rfl (.tmp 30) (.tmp 36) 24 3 (.int .i64 0) 8 rfl Try.underlying24 info3 rfl (by decide) (by omega) u9 x9_2 t292 [.int .i64 t292] (fun k_ => some k_ ≠ (.slice Ao19 y289.length co19 : Value).ownBlock) (fun _ => False) rfl rfl ?aP (fun _ hk => hk.elim) ?aF ?aO (Below.refl _ _) ?aS ?aL ?_; (case aP => exact rfl); (case aF => exact (fun k_ hk => Kd.fresh' (Kd.R_lt (rr_ HO291.out)) k_ hk)); (case aO => exact (by (with_reducible repeat (first | apply Kd.R_alloc | apply Kd.R_drewN | apply Kd.R_drew)); exact Kd.R_mono HO_9.out (fun _ hk => hk.2))); (case aS => exact (keep_size (w := w) (g := g) (row := none) qz2)); (case aL => have := LMc15.out; omega); intro v296 w21 ho hb hg hat; rw [← Ny295.out] at ho; replace HO_7 := aM (Kd.S_after (ok := (fun k_ => some k_ ≠ (.slice Ao19 y289.length co19 : Value).ownBlock)) (by (with_reducible repeat (first | apply Kd.S_alloc | apply Kd.S_drewN | apply Kd.S_drew)); exact Kd.S_mono HO_7.out (fun _ hk => ⟨hk.2, hk.1⟩)) hg hat); replace HO291 := aM (Kd.R_after (ok := (fun _ => True)) (rr_ HO291.out) hg hat); replace HB := aM (below_weaken qz1 HL.out hb); replace HI0 := aM (IsS77.grown qz4 hg (IsS77.own_ne HI0.out HO_9.out (by decide))); replace HK := aM (KeepBut.trans qz2 (KeepBut.of_grown hg g) (Kd.R_base2 HO_9.out)); have HO297 := aM (ho); clear HO_9; clear ho hb hg hat))
     go_roundg k2
     case measure => have := HK1.out; have := HK2.out; omega
     case rel => exact ⟨(y295), (wrap64 (x10_2 + 1)), (t293), (t294), qz5, H', ⟨by have := HK1.out; have := HK2.out; omega⟩, ⟨by (with_reducible repeat (first | apply Kd.S_alloc | apply Kd.S_drewN | apply Kd.S_drew)); exact Kd.S_mono HO_7.out (fun _ hk => hk.2)⟩, ⟨by (with_reducible repeat (first | apply Kd.R_alloc | apply Kd.R_drewN | apply Kd.R_drew)); exact Kd.R_mono HO297.out (fun _ hk => trivial)⟩, ⟨qz4⟩, ⟨qz2⟩, ⟨qz1⟩⟩
     }
     {
     exact an_ c15 H
     }
     }
     {
     rw [if_neg c12] at H
     have c12b0 := decide_eq_false c12
     clear c12
     by_cases c22 : x7_1.length < 5864062014805
     {
     rw [if_pos c22] at H
     have LMc22 := aM c22
     clear c22
     obtain ⟨y298, hy298⟩ : ∃ y_ : List (List Int), y_ = (x7_1 ++ [x9_2]) := ⟨_, rfl⟩
     replace H : (spec_l4Draw.l0 k2 t274 (wrap64 (t274 + t277)) y298 (wrap64 (x8_1 + 1)) s0_0 x1001_2 x1002_2) = some (r1, r2, r3) := by first | (rw [hy298]; with_reducible exact H) | (have H2_ := (Option.bind_some _ _).symm.trans H; rw [hy298]; with_reducible exact H2_) | (have H2_ := (Option.bind_some _ _).symm.trans H; with_reducible exact H2_) | with_reducible exact H | (rw [hy298]; exact H) | exact H
     have Ny298 := aM hy298
     clear hy298
     have H' := aM H
     clear H
     obtain ⟨Ao24, co24, eo24⟩ := Kd.R_slice HO_9.out
     subst eo24
     go_wp2_with (first | ((with_reducible refine gate_builtin (b := .append) (xs := #[.tmp 38, .tmp 40]) rfl ?_); at_builtin; refine Kd.S_append (Kd.slice 3 (Kd.int .i64)) w.heap.size rfl (.tmp 38) (.tmp 40) 22 24 (.slice none 0 0) 24 rfl Try.underlying22 info24 rfl (by decide) (by omega) u7 x7_1 x9_2 [.slice Ao24 x9_2.length co24] (fun _ => True) (fun k_ => some k_ = (.slice Ao24 x9_2.length co24 : Value).ownBlock) rfl rfl ?aP (fun k_ hk_ => ((Kd.R_mono (ok' := fun k_ => ((fun _ => True)) k_ ∧ some k_ ≠ (u7 : Value).ownBlock) (Kd.R_apart' (HO_9.out) (Kd.S_typed HO_7.out) (by decide)) (fun k_ hk => ⟨trivial, hk.2⟩))).1 k_ hk_.symm) ?aF ?aO (Below.refl _ _) ?aS ?aL ?_; (case aP => exact Kd.M_row (Kd.R_mono (Kd.R_tight rfl (Kd.R_mono (ok' := fun k_ => ((fun _ => True)) k_ ∧ some k_ ≠ (u7 : Value).ownBlock) (Kd.R_apart' (HO_9.out) (Kd.S_typed HO_7.out) (by decide)) (fun k_ hk => ⟨trivial, hk.2⟩))) (fun _ h_ => h_))); (case aF => exact (fun _ _ => trivial)); (case aO => exact (by (with_reducible repeat (first | apply Kd.S_alloc | apply Kd.S_drewN | apply Kd.S_drew)); exact Kd.S_mono HO_7.out (fun k_ hk => ⟨trivial, fun e_ => hk e_⟩))); (case aS => exact (keep_size (w := w) (g := g) (row := none) qz2)); (case aL => have := LMc22.out; omega); intro v299 w23 ho hb hg hat; rw [← Ny298.out] at ho; replace HB := aM (below_weaken qz1 HL.out hb); replace HI0 := aM (IsS77.grown qz4 hg (IsS77.own_neS HI0.out HO_7.out (by decide))); replace HK := aM (KeepBut.trans qz2 (KeepBut.of_grown hg g) (Kd.S_base2 HO_7.out)); have HO300 := aM (ho); clear HO_7 HO_9; clear ho hb hg hat))
     go_roundg k2
     case measure => have := HK1.out; have := HK2.out; omega
     case rel => exact ⟨(y298), (wrap64 (x8_1 + 1)), (x1001_2), (x1002_2), qz5, H', ⟨by have := HK1.out; have := HK2.out; omega⟩, ⟨rm_ HO300.out⟩, ⟨qz4⟩, ⟨qz2⟩, ⟨qz1⟩⟩
     }
     {
     exact an_ c22 H
     }
     }
   }
   {
   rw [if_neg c9] at H
   have c9b0 := decide_eq_false c9
   clear c9
   simp only [Option.some.injEq, Prod.mk.injEq] at H
   obtain ⟨rfl, rfl, rfl⟩ := H
   go_wp2
   go_ret
   exact ⟨_, qzw, by (with_reducible repeat (first | apply Kd.S_alloc | apply Kd.S_drewN | apply Kd.S_drew)); exact HO_7.out, qz4, qz1, qz2⟩

   }
end Go.Proofs.Ytbebfhlejnidkaa.PFnProved
