-- Made by a program of this session out of the translation. Lean checks it.
import Derived.Test.YtbebfhlejnidkaaPFnMatchedx4
import Derived.Test.YtbebfhlejnidkaaPFnMatchedx5
namespace Go.Proofs.Ytbebfhlejnidkaa.PFnMatched
open Go.RowKit Go.Proofs.YtbebfhlejnidkaaW.PrintWords Go.Proofs.YtbebfhlejnidkaaW.PrintLast Go.Proofs.YtbebfhlejnidkaaW.PrintMore
attribute [local go_sem] max2_int min2_int max_two min_two max_three min_three max_four min_four   -- for this text's walks alone
set_option linter.unusedVariables false
set_option linter.unusedSimpArgs false

/-! ### spec_l4Prices: function 41 -/
def spec_l4Prices.l0 : Nat → List (List Int) → Int → Int → List Int → List Int → List Int → Int → Option (List Int × List Int)
 | 0, _, _, _, _, _, _, _ => none
 | k + 1, x0, x4, x5, x6, x7, x8, x9 => if x9 ≤ x4 then (if 0 < (x8.length : Int) then ((spec_l4Grow.f k x0 x6 x7 (x8.set (0 : Int).toNat x9) x5).bind fun bt262 => (spec_l4Prices.l0 k x0 x4 x5 bt262.1 bt262.2.1 bt262.2.2 (wrap64 (x9 + 1)))) else (none)) else (if 1 ≤ (x6.length : Int) then (if 1 ≤ (x7.length : Int) then (some ((x6.drop (1 : Int).toNat), (x7.drop (1 : Int).toNat))) else (none)) else (none))
def spec_l4Prices.f (k : Nat) (l0 : List (List Int)) : Option (List Int × List Int) := if (l0.length : Int) = 0 then (some ((([] : List Int)), (([] : List Int)))) else (if 0 < (l0.length : Int) then (if 0 ≤ (wrap64 ((l0.length : Int) + 1)) then (if (wrap64 ((l0.length : Int) + 1) : Int).toNat ≤ 35184372088832 then (if 0 ≤ (wrap64 (((rd_L1 l0 0).length : Int) + 1)) then (if (wrap64 (((rd_L1 l0 0).length : Int) + 1) : Int).toNat ≤ 35184372088832 then (spec_l4Prices.l0 k l0 (l0.length : Int) ((rd_L1 l0 0).length : Int) (List.replicate (wrap64 ((l0.length : Int) + 1) : Int).toNat 0) (List.replicate (wrap64 (((rd_L1 l0 0).length : Int) + 1) : Int).toNat 0) (List.replicate (wrap64 (((rd_L1 l0 0).length : Int) + 1) : Int).toNat 0) 1) else (none)) else (none)) else (none)) else (none)) else (none))
theorem spec_l4Prices.mono_l : ∀ k, (∀ y0 y1 y2 y3 y4 y5 y6, LeO (spec_l4Prices.l0 k y0 y1 y2 y3 y4 y5 y6) (spec_l4Prices.l0 (k + 1) y0 y1 y2 y3 y4 y5 y6))
 | 0 => fun _ _ _ _ _ _ _ r h => by simp [spec_l4Prices.l0] at h
 | k + 1 => by
  have ih0 := spec_l4Prices.mono_l k
  {
  intro y0 y1 y2 y3 y4 y5 y6
  unfold spec_l4Prices.l0
  have j0 := @spec_l4Grow.mono
  exact qL
  }
theorem spec_l4Prices.mono : ∀ a0 k, LeO (spec_l4Prices.f k a0) (spec_l4Prices.f (k + 1) a0) := by
 intro a0 k
 have ih0 := spec_l4Prices.mono_l k
 unfold spec_l4Prices.f
 have j0 := @spec_l4Grow.mono
 exact qL
set_option maxHeartbeats 8000000 in
set_option maxRecDepth 100000 in
theorem spec_l4Prices.calls (k : Nat) (A0 : Option Addr) (c0 : Nat) (l0 : List (List Int)) (r1 : List Int) (r2 : List Int) (w : World) (hr0 : Kd.C (Kd.slice 3 (Kd.int .i64)) w A0 l0.length l0) (hc0 : l0.length ≤ c0) (h : spec_l4Prices.f k l0 = some (r1, r2)) :
  Calls Try.prog 41 #[.slice A0 l0.length c0] w fun e w' => ∃ v0_ v1_ : Value, e = .returned (.tuple #[v0_, v1_]) ∧ Kd.Q (Kd.int .i64) 3 w' w.heap.size (fun k_ => some k_ ≠ (v1_ : Value).ownBlock) v0_ r1 ∧ Kd.Q (Kd.int .i64) 3 w' w.heap.size (fun k_ => some k_ ≠ (v0_ : Value).ownBlock) v1_ r2 ∧ Below w.heap.size w w' := by
 have HR0 := aM hr0
 have HC0 := aM hc0
 clear hr0 hc0
 have HB := aM (Below.refl w.heap.size w)
 unfold spec_l4Prices.f at h
 have H := h
 clear h
 replace H := iQ_ H
 rcases H with ⟨c2b0, c2b1, H⟩ | ⟨c2, c2b0, c2b1, H⟩
 {
 obtain ⟨y245, hy245⟩ : ∃ y_ : List Int, y_ = (([] : List Int)) := ⟨_, rfl⟩
 replace H : (some (y245, (([] : List Int)))) = some (r1, r2) := by first | (rw [hy245]; exact H) | exact H
 have Ny245 := aM hy245
 clear hy245
 obtain ⟨y248, hy248⟩ : ∃ y_ : List Int, y_ = (([] : List Int)) := ⟨_, rfl⟩
 replace H : (some (y245, y248)) = some (r1, r2) := by first | (rw [hy248]; exact H) | exact H
 have Ny248 := aM hy248
 clear hy248
 simp only [Option.some.injEq, Prod.mk.injEq] at H
 obtain ⟨rfl, rfl⟩ := H
 go_enter Try.func41, Try.ntmps41
 go_wp2_with (first | ((with_reducible refine gate_dst (N := 14) rfl ?_); refine Kd.R_lit (Kd.int .i64) _ 3 ?hg (N := 14) ?hd (xs := ([] : List Int)) (inner := []) (ok := fun _ => True) (okp := fun _ => True) ?hr ?hp (fun _ hk => hk) trivial (Below.refl _ _) (Nat.le_refl _) (by simp) ?_; (case hd => rfl); (case hg => rfl); (case hr => exact qz10); (case hp => exact (Reps.none _ _)); intro v246 w3 ho4 hb hg_ hnew_; clear hg_ hnew_; (first | rw [← Ny245.out] at ho4 | (simp only [Int.reduceToNat] at ho4; rw [← Ny245.out] at ho4)); have HO247 := aM (Kd.R_lower ho4 (below_size qz1)); replace HB := bS_ hb; clear hb ho4) | ((with_reducible refine gate_dst (N := 15) rfl ?_); refine Kd.R_lit (Kd.int .i64) _ 3 ?hg (N := 15) ?hd (xs := ([] : List Int)) (inner := []) (ok := fun _ => True) (okp := fun _ => True) ?hr ?hp (fun _ hk => hk) trivial (Below.refl _ _) (Nat.le_refl _) (by simp) ?_; (case hd => rfl); (case hg => rfl); (case hr => exact qz10); (case hp => exact (Reps.none _ _)); intro v249 w5 ho6 hb hg_ hnew_; clear hg_ hnew_; (first | rw [← Ny248.out] at ho6 | (simp only [Int.reduceToNat] at ho6; rw [← Ny248.out] at ho6)); have HO250 := aM (Kd.R_lower (Kd.R_new' ho6 (Kd.R_lt (rr_ HO247.out))) (below_size qz1)); replace HO247 := aM (Kd.R_elder' (rr_ HO247.out) (Kd.R_base ho6) hb); replace HB := bS_ hb; clear hb ho6) | go_quiet (fail))
 go_ret2
 exact ⟨_, _, qzw, Kd.Q_of_R (by (with_reducible repeat (first | apply Kd.R_alloc | apply Kd.R_drewN | apply Kd.R_drew)); exact Kd.R_mono HO247.out (fun _ hk => hk.2)), Kd.Q_of_R (by (with_reducible repeat (first | apply Kd.R_alloc | apply Kd.R_drewN | apply Kd.R_drew)); exact Kd.R_mono HO250.out (fun _ hk => hk.2)), qz1⟩
 }
 {
 have c2b2 : ¬ (l0 = []) := fun h_ => c2 (by rw [h_]; rfl)
 replace H := iN_ H
 obtain ⟨c7, H⟩ := H
 have c7b0 := decide_eq_true c7
 have c7b1 : decide (0 < l0.length) = true := decide_eq_true (by omega)
 clear c7
 obtain ⟨ji8, hji8⟩ : ∃ j_ : Int, (wrap64 ((l0.length : Int) + 1)) = j_ := ⟨_, rfl⟩
 replace H : (if 0 ≤ (ji8) then (if (ji8 : Int).toNat ≤ 35184372088832 then (if 0 ≤ (wrap64 (((rd_L1 l0 0).length : Int) + 1)) then (if (wrap64 (((rd_L1 l0 0).length : Int) + 1) : Int).toNat ≤ 35184372088832 then (spec_l4Prices.l0 k l0 (l0.length : Int) ((rd_L1 l0 0).length : Int) (List.replicate (ji8 : Int).toNat 0) (List.replicate (wrap64 (((rd_L1 l0 0).length : Int) + 1) : Int).toNat 0) (List.replicate (wrap64 (((rd_L1 l0 0).length : Int) + 1) : Int).toNat 0) 1) else (none)) else (none)) else (none)) else (none)) = some (r1, r2) := by first | (rw [hji8] at H; exact H) | (simp only [hji8] at H ⊢; exact H)
 have hji8w : (IntKind.i64.wrap ((l0.length : Int) + 1)) = ji8 := (i64_w _).trans hji8
 replace H := iN_ H
 obtain ⟨c9, H⟩ := H
 have c9b0 := eq_true c9
 have c9b1 := decide_eq_true c9
 clear c9
 replace H := iN_ H
 obtain ⟨c10, H⟩ := H
 have c10b0 := eq_true c10
 have c10b1 := decide_eq_true c10
 clear c10
 obtain ⟨y252, hy252⟩ : ∃ y_ : List Int, y_ = (List.replicate (ji8 : Int).toNat 0) := ⟨_, rfl⟩
 replace H : (if 0 ≤ (wrap64 (((rd_L1 l0 0).length : Int) + 1)) then (if (wrap64 (((rd_L1 l0 0).length : Int) + 1) : Int).toNat ≤ 35184372088832 then (spec_l4Prices.l0 k l0 (l0.length : Int) ((rd_L1 l0 0).length : Int) y252 (List.replicate (wrap64 (((rd_L1 l0 0).length : Int) + 1) : Int).toNat 0) (List.replicate (wrap64 (((rd_L1 l0 0).length : Int) + 1) : Int).toNat 0) 1) else (none)) else (none)) = some (r1, r2) := by first | (rw [hy252]; exact H) | exact H
 have Ny252 := aM hy252
 clear hy252
 obtain ⟨ji11, hji11⟩ : ∃ j_ : Int, (wrap64 (((rd_L1 l0 0).length : Int) + 1)) = j_ := ⟨_, rfl⟩
 replace H : (if 0 ≤ (ji11) then (if (ji11 : Int).toNat ≤ 35184372088832 then (spec_l4Prices.l0 k l0 (l0.length : Int) ((rd_L1 l0 0).length : Int) y252 (List.replicate (ji11 : Int).toNat 0) (List.replicate (ji11 : Int).toNat 0) 1) else (none)) else (none)) = some (r1, r2) := by first | (rw [hji11] at H; exact H) | (simp only [hji11] at H ⊢; exact H)
 have hji11w : (IntKind.i64.wrap (((rd_L1 l0 0).length : Int) + 1)) = ji11 := (i64_w _).trans hji11
 replace H := iN_ H
 obtain ⟨c12, H⟩ := H
 have c12b0 := eq_true c12
 have c12b1 := decide_eq_true c12
 clear c12
 replace H := iN_ H
 obtain ⟨c13, H⟩ := H
 have c13b0 := eq_true c13
 have c13b1 := decide_eq_true c13
 clear c13
 obtain ⟨y255, hy255⟩ : ∃ y_ : List Int, y_ = (List.replicate (ji11 : Int).toNat 0) := ⟨_, rfl⟩
 replace H : (spec_l4Prices.l0 k l0 (l0.length : Int) ((rd_L1 l0 0).length : Int) y252 y255 (List.replicate (ji11 : Int).toNat 0) 1) = some (r1, r2) := by first | (rw [hy255]; exact H) | exact H
 have Ny255 := aM hy255
 clear hy255
 obtain ⟨y258, hy258⟩ : ∃ y_ : List Int, y_ = (List.replicate (ji11 : Int).toNat 0) := ⟨_, rfl⟩
 replace H : (spec_l4Prices.l0 k l0 (l0.length : Int) ((rd_L1 l0 0).length : Int) y252 y255 y258 1) = some (r1, r2) := by first | (rw [hy258]; exact H) | exact H
 have Ny258 := aM hy258
 clear hy258
 have H' := aM H
 clear H
 have p251 : 0 ≤ (0 : Int) := (by omega)
 have q251 : 0 < (l0.length : Int) := dt_
 obtain ⟨ad251, A251_0, c251_0, e251, hx251_0, hl251_0, hi251_0⟩ := at_L1 HR0.out 0 p251 q251
 cases e251
 have qi251 : (0 < l0.length) = True := eq_true (by omega)
 (try rw [show ((0 : Int)).toNat = 0 from rfl] at hx251_0)
 (try rw [Addr.add_zero'] at hx251_0)
 have HR251_0 := aM hi251_0
 have HC251_0 := aM hl251_0
 clear hi251_0 hl251_0
 replace p251 := eq_true p251
 replace q251 := eq_true q251
 go_enter Try.func41, Try.ntmps41
 go_wp2_with (first | ((with_reducible refine gate_dst (N := 22) rfl ?_); refine Kd.R_make (Kd.int .i64) _ 3 rfl (N := 22) rfl 24 _ _ rfl ji8 rfl rfl Try.underlying24 (.int .i64 0) 8 info3 rfl (by decide) (by omega) 0 (ok := fun _ => True) (okp := fun _ => True) rfl (fun _ hk => hk) trivial (dt_) (Nat.le_trans (Nat.mul_le_mul_right _ (dt_ : ji8.toNat ≤ 35184372088832)) (by omega)) (Below.refl _ _) (Nat.le_refl _) ?_; intro v253 w14 ho15 hb hg_ hnew_; clear hg_ hnew_; (first | rw [← Ny252.out] at ho15 | (simp only [Int.reduceToNat] at ho15; rw [← Ny252.out] at ho15)); have HO254 := aM (Kd.R_lower ho15 (below_size qz1)); replace HB := bS_ hb; clear hb ho15) | ((with_reducible refine gate_dst (N := 25) rfl ?_); refine Kd.R_make (Kd.int .i64) _ 3 rfl (N := 25) rfl 24 _ _ rfl ji11 rfl rfl Try.underlying24 (.int .i64 0) 8 info3 rfl (by decide) (by omega) 0 (ok := fun _ => True) (okp := fun _ => True) rfl (fun _ hk => hk) trivial (dt_) (Nat.le_trans (Nat.mul_le_mul_right _ (dt_ : ji11.toNat ≤ 35184372088832)) (by omega)) (Below.refl _ _) (Nat.le_refl _) ?_; intro v256 w16 ho17 hb hg_ hnew_; clear hg_ hnew_; (first | rw [← Ny255.out] at ho17 | (simp only [Int.reduceToNat] at ho17; rw [← Ny255.out] at ho17)); have HO257 := aM (Kd.R_lower (Kd.R_new' ho17 (Kd.R_lt (rr_ HO254.out))) (below_size qz1)); replace HO254 := aM (Kd.R_elder' (rr_ HO254.out) (Kd.R_base ho17) hb); replace HB := bS_ hb; clear hb ho17) | ((with_reducible refine gate_dst (N := 28) rfl ?_); refine Kd.R_make (Kd.int .i64) _ 3 rfl (N := 28) rfl 24 _ _ rfl ji11 rfl rfl Try.underlying24 (.int .i64 0) 8 info3 rfl (by decide) (by omega) 0 (ok := fun _ => True) (okp := fun _ => True) rfl (fun _ hk => hk) trivial (dt_) (Nat.le_trans (Nat.mul_le_mul_right _ (dt_ : ji11.toNat ≤ 35184372088832)) (by omega)) (Below.refl _ _) (Nat.le_refl _) ?_; intro v259 w18 ho19 hb hg_ hnew_; clear hg_ hnew_; (first | rw [← Ny258.out] at ho19 | (simp only [Int.reduceToNat] at ho19; rw [← Ny258.out] at ho19)); have HO260 := aM (Kd.R_lower (Kd.R_new' (Kd.R_new' ho19 (Kd.R_lt (rr_ HO254.out))) (Kd.R_lt (rr_ HO257.out))) (below_size qz1)); replace HO254 := aM (Kd.R_elder' (rr_ HO254.out) (Kd.R_base ho19) hb); replace HO257 := aM (Kd.R_elder' (rr_ HO257.out) (Kd.R_base ho19) hb); replace HB := bS_ hb; clear hb ho19) | go_quiet (fail))
 go_loopg [9] k (fun kq v9 w' => ∃ (x6_1 : List Int) (x7_1 : List Int) (x8_1 : List Int) (x9_1 : Int), v9 = .int .i64 x9_1 ∧ Aside0 (spec_l4Prices.l0 kq l0 (l0.length : Int) ((rd_L1 l0 0).length : Int) x6_1 x7_1 x8_1 x9_1 = some (r1, r2)) ∧ Aside0 (kq ≤ k) ∧ Aside0 (Kd.R (Kd.int .i64) 3 w' w.heap.size (fun k_ => some k_ ≠ (v256 : Value).ownBlock ∧ some k_ ≠ (v259 : Value).ownBlock) v253 x6_1) ∧ Aside0 (Kd.R (Kd.int .i64) 3 w' w.heap.size (fun k_ => some k_ ≠ (v253 : Value).ownBlock ∧ some k_ ≠ (v259 : Value).ownBlock) v256 x7_1) ∧ Aside0 (Kd.R (Kd.int .i64) 3 w' w.heap.size (fun k_ => some k_ ≠ (v253 : Value).ownBlock ∧ some k_ ≠ (v256 : Value).ownBlock) v259 x8_1) ∧ Aside0 (Below w.heap.size w w'))
 case atStart => exact ⟨(y252), (y255), (y258), (1), qz3, H', ⟨Nat.le_refl _⟩, ⟨by (with_reducible repeat (first | apply Kd.R_alloc | apply Kd.R_drewN | apply Kd.R_drew)); exact Kd.R_mono HO254.out (fun _ hk => ⟨hk.1.2, hk.2⟩)⟩, ⟨by (with_reducible repeat (first | apply Kd.R_alloc | apply Kd.R_drewN | apply Kd.R_drew)); exact Kd.R_mono HO257.out (fun _ hk => ⟨hk.1.2, hk.2⟩)⟩, ⟨by (with_reducible repeat (first | apply Kd.R_alloc | apply Kd.R_drewN | apply Kd.R_drew)); exact Kd.R_mono HO260.out (fun _ hk => ⟨hk.1.2, hk.2⟩)⟩, ⟨qz1⟩⟩
 case round =>
 clear H'
 try clear c2
 try clear c2b0
 try clear c2b1
 try clear c2b2
 try clear qi2
 try clear c7
 try clear c7b0
 try clear c7b1
 try clear c9
 try clear c9b0
 try clear c9b1
 try clear c10
 try clear c10b0
 try clear c10b1
 try clear c12
 try clear c12b0
 try clear c12b1
 try clear c13
 try clear c13b0
 try clear c13b1
 try clear hx251_0
 try clear p251
 try clear q251
 obtain ⟨x6_1, x7_1, x8_1, x9_1, rfl, HA, HK1, HO_6, HO_7, HO_8, HB⟩ := hrel
 cases gk with
 | zero => exact absurd HA.out (by simp [spec_l4Prices.l0])
 | succ k1 =>
 have H := HA.out
 clear HA
 simp only [spec_l4Prices.l0] at H
 replace H := iE_ H
 rcases H with ⟨c20b0, H⟩ | ⟨c20b0, H⟩
 {
 replace H := iN_ H
 obtain ⟨c21, H⟩ := H
 have c21b0 := decide_eq_true c21
 have c21b1 : decide (0 < x8_1.length) = true := decide_eq_true (by omega)
 clear c21
 obtain ⟨y261, hy261⟩ : ∃ y_ : List Int, y_ = (x8_1.set (0 : Int).toNat x9_1) := ⟨_, rfl⟩
 replace H : ((spec_l4Grow.f k1 l0 x6_1 x7_1 y261 ((rd_L1 l0 0).length : Int)).bind fun bt262 => (spec_l4Prices.l0 k1 l0 (l0.length : Int) ((rd_L1 l0 0).length : Int) bt262.1 bt262.2.1 bt262.2.2 (wrap64 (x9_1 + 1)))) = some (r1, r2) := by first | (rw [hy261]; exact H) | exact H
 have Ny261 := aM hy261
 clear hy261
 replace H := Option.bind_eq_some_iff.mp H
 obtain ⟨⟨t262, t263, t264⟩, A230, H⟩ := H
 try dsimp only at H
 have A23 := aM A230
 clear A230
 have H' := aM H
 clear H
 have p22 : 0 ≤ (0 : Int) := (by omega)
 have q22 : (0 : Int) < ((x8_1.length : Int) : Int) := dt_
 have qi22 : (0 < x8_1.length) = True := eq_true (by omega)
 obtain ⟨go22, co22, eo22, gb22, gl22, cl22, HG22⟩ := Kd.R_form HO_8.out (by omega)
 (first | cases eo22 | (injection eo22 with ea_ en_ ec_; (first | subst ea_ | (injection ea_ with ea_; subst ea_)); subst ec_; clear en_))
 have GB22 := aM gb22
 have GG22 := aM HG22
 clear gb22 gl22 HG22
 obtain ⟨hx22_0, hf22_0⟩ := Kd.R_celln 0 HO_8.out (0 : Int) p22 q22
 (try rw [show ((0 : Int)).toNat = 0 from rfl] at hx22_0)
 (try simp only [Nat.reduceMul, Nat.zero_mul, Nat.zero_add, Nat.reduceAdd] at hx22_0)
 (try rw [show ((0 : Int)).toNat = 0 from rfl] at hf22_0)
 (try simp only [Nat.reduceMul, Nat.zero_mul, Nat.zero_add, Nat.reduceAdd] at hf22_0)
 replace p22 := eq_true p22
 replace q22 := eq_true q22
 obtain ⟨hy24_, hz24_⟩ := Kd.R_celln 0 HO_8.out (0 : Int) (by omega) (dt_)
 (try simp only [Int.reduceToNat, Int.toNat_zero, Int.toNat_ofNat, Nat.reduceMul, Nat.zero_mul, Nat.zero_add] at hy24_ hz24_)
 (try rw [show ((0 : Int)).toNat = 0 from rfl] at hy24_)
 (try rw [show ((0 : Int)).toNat = 0 from rfl] at hz24_)
 have HP24 := Kd.R_putg HO_8.out (0 : Int) x9_1
 go_wp2_with (first | ((with_reducible refine gate_store (t := 3) (p := 36) rfl ?_); (try (rw [drewN_self wr]; generalize hq_ : World.drewN wr _ = wr; replace HO_6 := aM (Kd.R_at hq_ HO_6.out); replace HO_7 := aM (Kd.R_at hq_ HO_7.out); replace HO_8 := aM (Kd.R_at hq_ HO_8.out); replace HB := aM (below_at hq_ HB.out); clear hq_; (try (obtain ⟨hy24_, hz24_⟩ := Kd.R_celln 0 HO_8.out (0 : Int) (by omega) (dt_))); (try (try simp only [Int.reduceToNat, Int.toNat_zero, Int.toNat_ofNat, Nat.reduceMul, Nat.zero_mul, Nat.zero_add] at hy24_ hz24_)); (try (try rw [show ((0 : Int)).toNat = 0 from rfl] at hy24_)); (try (try rw [show ((0 : Int)).toNat = 0 from rfl] at hz24_)); (try (have HP24 := Kd.R_putg HO_8.out (0 : Int) x9_1)))); refine store_event (t := 3) (p := 36) (v := ?vo_w25) (w1 := (wr.setCell ⟨go22, (0 : Int).toNat, none⟩ (.int .i64 x9_1))) ?hg ?ho ?hn ?hr ?_; (case ho => rfl); (case hg => rfl); (case hn => rfl); (case hr => exact qz10); intro w25 hw; have hg : wr.grownBy w25 (some go22) := (by rw [hw]; exact HP24.2); have hp_ : Kd.R (Kd.int .i64) 3 w25 w.heap.size (fun k_ => some k_ ≠ (v253 : Value).ownBlock ∧ some k_ ≠ (v256 : Value).ownBlock) (.slice (some ⟨go22, 0, none⟩) x8_1.length co22) y261 := (by rw [hw, Ny261.out]; exact HP24.1); clear HP24; replace HO_6 := aM (Kd.R_after (v := (.slice (some ⟨go22, 0, none⟩) x8_1.length co22)) (v1 := (.slice (some ⟨go22, 0, none⟩) x8_1.length co22)) (ok := (fun k_ => some k_ ≠ (v256 : Value).ownBlock)) (rr_ HO_6.out) hg (.inl rfl)); replace HO_7 := aM (Kd.R_after (v := (.slice (some ⟨go22, 0, none⟩) x8_1.length co22)) (v1 := (.slice (some ⟨go22, 0, none⟩) x8_1.length co22)) (ok := (fun k_ => some k_ ≠ (v253 : Value).ownBlock)) (rr_ HO_7.out) hg (.inl rfl)); replace HO_8 := aM (hp_); replace HB := aM ((by rw [hw]; exact below_set (HB.out) GB22.out : Below w.heap.size w w25)); clear hg hw hp_; obtain ⟨Ao26, co26, eo26⟩ := Kd.R_slice HO_6.out; subst eo26; obtain ⟨Ao27, co27, eo27⟩ := Kd.R_slice HO_7.out; subst eo27) | (go_at_call 67; (with_reducible refine (spec_l4Grow.calls k1 _ _ l0 (fun k_ => some k_ = (.slice Ao26 x6_1.length co26 : Value).ownBlock) (.slice Ao26 x6_1.length co26) x6_1 (fun k_ => some k_ = (.slice Ao27 x7_1.length co27 : Value).ownBlock) (.slice Ao27 x7_1.length co27) x7_1 (fun k_ => some k_ = (.slice (some ⟨go22, 0, none⟩) x8_1.length co22 : Value).ownBlock) (.slice (some ⟨go22, 0, none⟩) x8_1.length co22) y261 ((rd_L1 l0 0).length : Int) t262 t263 t264 w _ ?_ ?_ ?_ ?_ ?_ ?_ ?_ ?_ ?_ ?_ ?_ ?_ A23.out).mono ?_); exact qz1; exact qz32; exact HC0.out; exact Kd.R_tight rfl HO_6.out; exact fun k_ e_ => (HO_6.out.1 k_ e_.symm).1; exact fun k_ e_ => (HO_6.out.1 k_ e_.symm).2; exact Kd.R_tight rfl HO_7.out; exact fun k_ e_ => (HO_7.out.1 k_ e_.symm).1; exact fun k_ e_ => (HO_7.out.1 k_ e_.symm).2; exact Kd.R_tight rfl HO_8.out; exact fun k_ e_ => (HO_8.out.1 k_ e_.symm).1; exact fun k_ e_ => (HO_8.out.1 k_ e_.symm).2; rintro e w28 ⟨rfl, hy0, hy1, hy2, hb, hkp⟩; replace HO_6 := aM (Kd.R_reok rfl hy0 (fun k_ e_ => HO_6.out.1 k_ e_)); replace HO_7 := aM (Kd.R_reok rfl hy1 (fun k_ e_ => HO_7.out.1 k_ e_)); replace HO_8 := aM (Kd.R_reok rfl hy2 (fun k_ e_ => HO_8.out.1 k_ e_)); replace HB := aM (hb); (try clear hb); (try clear hkp); (try clear hy0); (try clear hy1); (try clear hy2)) | go_quiet (first | (go_at_call 67; (with_reducible refine (spec_l4Grow.calls k1 _ _ l0 (fun k_ => some k_ = (.slice Ao26 x6_1.length co26 : Value).ownBlock) (.slice Ao26 x6_1.length co26) x6_1 (fun k_ => some k_ = (.slice Ao27 x7_1.length co27 : Value).ownBlock) (.slice Ao27 x7_1.length co27) x7_1 (fun k_ => some k_ = (.slice (some ⟨go22, 0, none⟩) x8_1.length co22 : Value).ownBlock) (.slice (some ⟨go22, 0, none⟩) x8_1.length co22) y261 ((rd_L1 l0 0).length : Int) t262 t263 t264 w _ ?_ ?_ ?_ ?_ ?_ ?_ ?_ ?_ ?_ ?_ ?_ ?_ A23.out).mono ?_); exact qz1; exact qz32; exact HC0.out; exact Kd.R_tight rfl HO_6.out; exact fun k_ e_ => (HO_6.out.1 k_ e_.symm).1; exact fun k_ e_ => (HO_6.out.1 k_ e_.symm).2; exact Kd.R_tight rfl HO_7.out; exact fun k_ e_ => (HO_7.out.1 k_ e_.symm).1; exact fun k_ e_ => (HO_7.out.1 k_ e_.symm).2; exact Kd.R_tight rfl HO_8.out; exact fun k_ e_ => (HO_8.out.1 k_ e_.symm).1; exact fun k_ e_ => (HO_8.out.1 k_ e_.symm).2; rintro e w28 ⟨rfl, hy0, hy1, hy2, hb, hkp⟩; replace HO_6 := aM (Kd.R_reok rfl hy0 (fun k_ e_ => HO_6.out.1 k_ e_)); replace HO_7 := aM (Kd.R_reok rfl hy1 (fun k_ e_ => HO_7.out.1 k_ e_)); replace HO_8 := aM (Kd.R_reok rfl hy2 (fun k_ e_ => HO_8.out.1 k_ e_)); replace HB := aM (hb); (try clear hb); (try clear hkp); (try clear hy0); (try clear hy1); (try clear hy2))))
 go_roundg k1
 case measure => have := HK1.out; omega
 case rel => exact ⟨(t262), (t263), (t264), (wrap64 (x9_1 + 1)), qz3, H', ⟨by have := HK1.out; omega⟩, ⟨rm_ HO_6.out⟩, ⟨rm_ HO_7.out⟩, ⟨rm_ HO_8.out⟩, ⟨qz1⟩⟩
 }
 {
 replace H := iN_ H
 obtain ⟨c29, H⟩ := H
 have c29b0 := eq_true c29
 have c29b1 := decide_eq_true c29
 clear c29
 obtain ⟨y265, hy265⟩ : ∃ y_ : List Int, y_ = (x6_1.drop (1 : Int).toNat) := ⟨_, rfl⟩
 replace H : (if 1 ≤ (x7_1.length : Int) then (some (y265, (x7_1.drop (1 : Int).toNat))) else (none)) = some (r1, r2) := by first | (rw [hy265]; exact H) | exact H
 have Ny265 := aM hy265
 clear hy265
 replace H := iN_ H
 obtain ⟨c30, H⟩ := H
 have c30b0 := eq_true c30
 have c30b1 := decide_eq_true c30
 clear c30
 obtain ⟨y268, hy268⟩ : ∃ y_ : List Int, y_ = (x7_1.drop (1 : Int).toNat) := ⟨_, rfl⟩
 replace H : (some (y265, y268)) = some (r1, r2) := by first | (rw [hy268]; exact H) | exact H
 have Ny268 := aM hy268
 clear hy268
 simp only [Option.some.injEq, Prod.mk.injEq] at H
 obtain ⟨rfl, rfl⟩ := H
 obtain ⟨Ao31, co31, eo31⟩ := Kd.R_slice HO_6.out
 subst eo31
 have q32 : (1 : Int) ≤ ((x6_1.length : Int) : Int) := dt_
 obtain ⟨i032, hi032, _, hsz32, _⟩ := info_parts info3
 have hcut32 := cut_from (P := Try.prog) 24 3 .i64 Try.underlying24 hi032 1 hsz32 Ao31 x6_1.length co31 1 (by omega) q32
 have hr32 := Kd.Q_drop (k := (1 : Int).toNat) (Kd.Q_of_R HO_6.out) (by omega)
 obtain ⟨A32, hA32⟩ : ∃ A1, A1 = (if co31 = (1 : Int).toNat then Ao31 else (Ao31 : Option Addr).map (·.add ((1 : Int).toNat * 1))) := ⟨_, rfl⟩
 obtain ⟨c32, hc32⟩ : ∃ c1, c1 = co31 - (1 : Int).toNat := ⟨_, rfl⟩
 have hy32 : y265.length = x6_1.length - (1 : Int).toNat := (by rw [Ny265.out, List.length_drop])
 rw [← Ny265.out] at hr32
 rw [← hy32, ← hA32, ← hc32] at hcut32
 replace hr32 : Kd.Q (Kd.int .i64) 3 wr w.heap.size (fun k_ => some k_ ≠ (v256 : Value).ownBlock ∧ some k_ ≠ (v259 : Value).ownBlock) (.slice A32 y265.length c32) y265 := (by rw [hA32, hc32, hy32]; exact hr32)
 have HE32 : Aside0 ((Value.slice A32 y265.length c32).ownBlock = (.slice Ao31 x6_1.length co31 : Value).ownBlock) := ⟨by rw [hA32]; split <;> (cases (Ao31 : Option Addr) <;> rfl)⟩
 clear hy32 hi032 hsz32 HO_6 hA32 hc32
 have HO267 := aM hr32
 clear hr32
 replace q32 := eq_true q32
 have n_ := aM (Kd.R_mono (ok' := fun k_ => (some k_ ≠ (.slice A32 y265.length c32 : Value).ownBlock ∧ some k_ ≠ (v259 : Value).ownBlock)) HO_7.out (fun k_ hk => ⟨(by rw [HE32.out]; exact hk.1), hk.2⟩))
 clear HO_7
 have HO_7 := n_
 clear n_
 have n_ := aM (Kd.R_mono (ok' := fun k_ => (some k_ ≠ (.slice A32 y265.length c32 : Value).ownBlock ∧ some k_ ≠ (v256 : Value).ownBlock)) HO_8.out (fun k_ hk => ⟨(by rw [HE32.out]; exact hk.1), hk.2⟩))
 clear HO_8
 have HO_8 := n_
 clear n_
 obtain ⟨Ao33, co33, eo33⟩ := Kd.R_slice HO_7.out
 subst eo33
 have q34 : (1 : Int) ≤ ((x7_1.length : Int) : Int) := dt_
 obtain ⟨i034, hi034, _, hsz34, _⟩ := info_parts info3
 have hcut34 := cut_from (P := Try.prog) 24 3 .i64 Try.underlying24 hi034 1 hsz34 Ao33 x7_1.length co33 1 (by omega) q34
 have hr34 := Kd.Q_drop (k := (1 : Int).toNat) (Kd.Q_of_R HO_7.out) (by omega)
 obtain ⟨A34, hA34⟩ : ∃ A1, A1 = (if co33 = (1 : Int).toNat then Ao33 else (Ao33 : Option Addr).map (·.add ((1 : Int).toNat * 1))) := ⟨_, rfl⟩
 obtain ⟨c34, hc34⟩ : ∃ c1, c1 = co33 - (1 : Int).toNat := ⟨_, rfl⟩
 have hy34 : y268.length = x7_1.length - (1 : Int).toNat := (by rw [Ny268.out, List.length_drop])
 rw [← Ny268.out] at hr34
 rw [← hy34, ← hA34, ← hc34] at hcut34
 replace hr34 : Kd.Q (Kd.int .i64) 3 wr w.heap.size (fun k_ => some k_ ≠ (.slice A32 y265.length c32 : Value).ownBlock ∧ some k_ ≠ (v259 : Value).ownBlock) (.slice A34 y268.length c34) y268 := (by rw [hA34, hc34, hy34]; exact hr34)
 have HE34 : Aside0 ((Value.slice A34 y268.length c34).ownBlock = (.slice Ao33 x7_1.length co33 : Value).ownBlock) := ⟨by rw [hA34]; split <;> (cases (Ao33 : Option Addr) <;> rfl)⟩
 clear hy34 hi034 hsz34 HO_7 hA34 hc34
 have HO270 := aM hr34
 clear hr34
 replace q34 := eq_true q34
 have n_ := aM (Kd.Q_mono (ok' := fun k_ => (some k_ ≠ (.slice A34 y268.length c34 : Value).ownBlock ∧ some k_ ≠ (v259 : Value).ownBlock)) HO267.out (fun k_ hk => ⟨(by rw [HE34.out]; exact hk.1), hk.2⟩))
 clear HO267
 have HO267 := n_
 clear n_
 have n_ := aM (Kd.R_mono (ok' := fun k_ => (some k_ ≠ (.slice A32 y265.length c32 : Value).ownBlock ∧ some k_ ≠ (.slice A34 y268.length c34 : Value).ownBlock)) HO_8.out (fun k_ hk => ⟨hk.1, (by rw [HE34.out]; exact hk.2)⟩))
 clear HO_8
 have HO_8 := n_
 clear n_
 go_wp2
 repeat (go_quiet (fail); try go_wp2)
 go_ret2
 exact ⟨_, _, by first | rfl | (simp [errW_none, errW_some] <;> rfl) | (simp only [← hji8, ← hji11]; first | rfl | (simp [errW_none, errW_some] <;> rfl)) | (simp [*, errW_none, errW_some] <;> rfl), by (with_reducible repeat (first | apply Kd.Q_alloc | apply Kd.Q_drewN | apply Kd.Q_drew)); exact Kd.Q_mono HO267.out (fun _ hk => hk.1), by (with_reducible repeat (first | apply Kd.Q_alloc | apply Kd.Q_drewN | apply Kd.Q_drew)); exact Kd.Q_mono HO270.out (fun _ hk => hk.1), qz1⟩
 }
 }
/-! ### spec_DrawCosts: function 17 -/
def spec_DrawCosts.f (k : Nat) (l0 : List Int) : Option ((List (List Int)) × List Int × List Int) := (spec_l1New.f k l0).bind fun bt271 => ((spec_l4Draw.f k bt271.1 bt271.2.1 bt271.2.2 5).bind fun bt275 => ((spec_l4Prices.f k bt275.1).bind fun bt280 => (some (bt275.1, bt280.1, bt280.2))))
theorem spec_DrawCosts.mono : ∀ a0 k, LeO (spec_DrawCosts.f k a0) (spec_DrawCosts.f (k + 1) a0) := by
 intro a0 k
 unfold spec_DrawCosts.f
 have j0 := @spec_l1New.mono
 have j1 := @spec_l4Draw.mono
 have j2 := @spec_l4Prices.mono
 exact qL
set_option maxHeartbeats 8000000 in
set_option maxRecDepth 100000 in
theorem spec_DrawCosts.calls (k : Nat) (A0 : Option Addr) (c0 : Nat) (l0 : List Int) (r1 : List (List Int)) (r2 : List Int) (r3 : List Int) (w : World) (hr0 : Kd.C (Kd.int .u8) w A0 l0.length l0) (hc0 : l0.length ≤ c0) (h : spec_DrawCosts.f k l0 = some (r1, r2, r3)) :
  Calls Try.prog 17 #[.slice A0 l0.length c0] w fun e w' => ∃ v0_ v1_ v2_ : Value, e = .returned (.tuple #[v0_, v1_, v2_]) ∧ Kd.S (Kd.slice 3 (Kd.int .i64)) 24 w' w.heap.size (fun k_ => some k_ ≠ (v1_ : Value).ownBlock ∧ some k_ ≠ (v2_ : Value).ownBlock) v0_ r1 ∧ Kd.Q (Kd.int .i64) 3 w' w.heap.size (fun k_ => some k_ ≠ (v2_ : Value).ownBlock) v1_ r2 ∧ Kd.Q (Kd.int .i64) 3 w' w.heap.size (fun k_ => some k_ ≠ (v1_ : Value).ownBlock) v2_ r3 ∧ Below w.heap.size w w' := by
 have HR0 := aM hr0
 have HC0 := aM hc0
 clear hr0 hc0
 have HB := aM (Below.refl w.heap.size w)
 unfold spec_DrawCosts.f at h
 have H := h
 clear h
 replace H := Option.bind_eq_some_iff.mp H
 obtain ⟨⟨t271, t272, t273⟩, A20, H⟩ := H
 try dsimp only at H
 have A2 := aM A20
 clear A20
 replace H := Option.bind_eq_some_iff.mp H
 obtain ⟨⟨t275, t278, t279⟩, A30, H⟩ := H
 try dsimp only at H
 have A3 := aM A30
 clear A30
 replace H := Option.bind_eq_some_iff.mp H
 obtain ⟨⟨t280, t281⟩, A40, H⟩ := H
 try dsimp only at H
 have A4 := aM A40
 clear A40
 simp only [Option.some.injEq, Prod.mk.injEq] at H
 obtain ⟨rfl, rfl, rfl⟩ := H
 go_enter Try.func17, Try.ntmps17
 go_wp2_with (first | ((with_reducible refine gate_callee (f := 39) rfl ?_); refine goesL_ (some 10) rfl rfl Try.func39 (by kernel_rfl) rfl #[.slice A0 l0.length c0] rfl qz4 ?_; (with_reducible refine (spec_l1New.calls k _ _ l0 t271 t272 t273 w _ ?_ ?_ ?_ A2.out).mono ?_); exact qz1; exact HR0.out; exact HC0.out; rintro e w5 ⟨g274, rfl, hi, hb, hb2⟩; refine ⟨_, rfl, ?_⟩; replace HB := aM (hb); have HI274 := aM (hi); (try clear hb hb2 hi)) | ((with_reducible refine gate_callee (f := 40) rfl ?_); refine goesL_ (some 12) rfl rfl Try.func40 (by kernel_rfl) rfl #[.pointer (some ⟨g274, 0, none⟩), .int .i64 5] rfl qz4 ?_; (with_reducible refine (spec_l4Draw.calls k g274 t271 t272 t273 5 t275 t278 t279 w _ ?side1 ?side2 A3.out).mono ?_); (case side1 => repeat (first | (with_reducible first | exact HI274.out | apply IsS77.alloc | apply IsS77.drewN | apply IsS77.drew | apply IsS77.set_1 | apply IsS77.set_2) | exact HI274.out)); (case side2 => exact qz1); rintro e w6 ⟨v276, rfl, ho0, hi, hb, hk⟩; refine ⟨_, rfl, ?_⟩; have HO277 := aM (Kd.S_lower ho0 (below_size qz1)); replace HB := aM (hb); replace HI274 := aM (hi); (try clear hb hk hi ho0); obtain ⟨Ao7, co7, eo7⟩ := Kd.S_slice HO277.out; subst eo7) | ((with_reducible refine gate_callee (f := 41) rfl ?_); refine goesL_ (some 15) rfl rfl Try.func41 (by kernel_rfl) rfl #[.slice Ao7 t275.length co7] rfl qz4 ?_; (with_reducible refine (spec_l4Prices.calls k _ _ t275 t280 t281 _ ?side1 ?side2 A4.out).mono ?_); (case side1 => repeat (first | exact (Kd.S_reads' HO277.out).2.2 | (with_reducible refine Kd.C_alloc ?_ _) | (with_reducible refine Kd.C_drewN ?_ _) | (with_reducible refine Kd.C_drew ?_))); (case side2 => exact (Kd.S_reads' HO277.out).2.1); rintro e w8 ⟨v282, v284, rfl, ho0, ho1, hb⟩; refine ⟨_, rfl, ?_⟩; replace HO277 := aM (Kd.S_mono (Kd.S_told (Kd.S_told (Kd.S_old (rs_ HO277.out) hb) (Kd.Q_base ho0)) (Kd.Q_base ho1)) (fun _ h_ => h_.1)); have HO283 := aM (Kd.Q_lower ho0 (below_size qz1)); have HO285 := aM (Kd.Q_lower ho1 (below_size qz1)); replace HB := bS_ hb; replace HI274 := aM (IsS77.below (by repeat (first | (with_reducible first | exact HI274.out | apply IsS77.alloc | apply IsS77.drewN | apply IsS77.drew | apply IsS77.set_1 | apply IsS77.set_2) | exact HI274.out)) hb); (try clear hb ho0 ho1)))
 go_ret3
 exact ⟨_, _, _, qzw, by (with_reducible repeat (first | apply Kd.S_alloc | apply Kd.S_drewN | apply Kd.S_drew)); exact Kd.S_mono HO277.out (fun _ hk => ⟨hk.1.2, hk.2⟩), by (with_reducible repeat (first | apply Kd.Q_alloc | apply Kd.Q_drewN | apply Kd.Q_drew)); exact HO283.out, by (with_reducible repeat (first | apply Kd.Q_alloc | apply Kd.Q_drewN | apply Kd.Q_drew)); exact HO285.out, qz1⟩

end Go.Proofs.Ytbebfhlejnidkaa.PFnMatched
