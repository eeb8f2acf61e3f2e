-- Made by a program of this session out of the translation. Lean checks it.
import Derived.Test.YtbebfhlejnidkaaPFnExactMatchx1
import Derived.Test.YtbebfhlejnidkaaPFnExactMatchx3
namespace Go.Proofs.Ytbebfhlejnidkaa.PFnExactMatch
open Go.RowKit Go.Proofs.YtbebfhlejnidkaaW.PrintWords Go.Proofs.YtbebfhlejnidkaaW.PrintLast Go.Proofs.YtbebfhlejnidkaaW.PrintMore
attribute [local go_sem] max2_int min2_int max_two min_two max_three min_three max_four min_four   -- for this text's walks alone
set_option linter.unusedVariables false
set_option linter.unusedSimpArgs false

/-! ### spec_Match: function 8 -/
mutual
def spec_Match.j1 : Nat → List Int → Int → Int → List (List Int) → List Int → Option (List Int × Int)
 | 0, _, _, _, _, _ => none
 | k + 1, x4, x5, x6, x7, x8 => spec_Match.l1 k x4 x5 x6 x7 x8
def spec_Match.l1 : Nat → List Int → Int → Int → List (List Int) → List Int → Option (List Int × Int)
 | 0, _, _, _, _, _ => none
 | k + 1, x4, x5, x6, x7, x8 => if (x7.length : Int) > 0 then (spec_Match.l2 k x4 x5 x6 x7 x8 0) else (some (x4, x5))
def spec_Match.l2 : Nat → List Int → Int → Int → List (List Int) → List Int → Int → Option (List Int × Int)
 | 0, _, _, _, _, _, _ => none
 | k + 1, x4, x5, x6, x7, x8, x10 => if 0 < (x7.length : Int) then (if x10 < ((rd_L1 x7 0).length : Int) then ((spec_l4Without.f k x7 x10).bind fun t198 => (if 0 ≤ x10 then ((spec_l4Least.f k t198).bind fun t203 => (if (wrap64 ((rd (rd_L1 x7 0) x10) + t203)) = x6 then (if x10 < (x8.length : Int) then (if x4.length < 17592186044416 then ((some (([] : List Int) : List Int)).bind fun y210 => (if x10 ≤ (x8.length : Int) then ((some (x8.take (x10 : Int).toNat : List Int)).bind fun y213 => (if y210.length + y213.length < 17592186044416 then ((some (y210 ++ y213 : List Int)).bind fun y217 => (if 0 ≤ (wrap64 (x10 + 1)) then (if (wrap64 (x10 + 1)) ≤ (x8.length : Int) then ((some (x8.drop ((wrap64 (x10 + 1)) : Int).toNat : List Int)).bind fun y220 => (if y217.length + y220.length < 17592186044416 then (spec_Match.l1 k (x4 ++ [rd x8 x10]) x5 (wrap64 (x6 - (rd (rd_L1 x7 0) x10))) t198 (y217 ++ y220)) else (none))) else (none)) else (none))) else (none))) else (none))) else (none)) else (none)) else (spec_Match.l2 k x4 x5 x6 x7 x8 (wrap64 (x10 + 1))))) else (none))) else (spec_Match.l1 k x4 x5 x6 x7 x8)) else (none)
def spec_Match.l0 : Nat → List (List Int) → List Int → Int → Int → List (List Int) → List Int → Int → Option (List Int × Int)
 | 0, _, _, _, _, _, _, _ => none
 | k + 1, x0, x4, x5, x6, x7, x8, x9 => if (x0.length : Int) > 0 then (if 0 < (x0.length : Int) then (if x9 < ((rd_L1 x0 0).length : Int) then (if x8.length < 17592186044416 then (spec_Match.l0 k x0 x4 x5 x6 x7 (x8 ++ [x9]) (wrap64 (x9 + 1))) else (none)) else (spec_Match.j1 k x4 x5 x6 x7 x8)) else (none)) else (spec_Match.j1 k x4 x5 x6 x7 x8)
end
def spec_Match.f (k : Nat) (l0 : List (List Int)) : Option (List Int × Int) := (some (([] : List Int) : List Int)).bind fun y185 => ((spec_CostsOk.f k l0).bind fun t188 => (if t188 = true then ((spec_l4Least.f k l0).bind fun t189 => (spec_Match.l0 k l0 y185 t189 t189 l0 (([] : List Int)) 0)) else (some (y185, (-1)))))
theorem spec_Match.mono_l : ∀ k, (∀ y0 y1 y2 y3 y4, LeO (spec_Match.j1 k y0 y1 y2 y3 y4) (spec_Match.j1 (k + 1) y0 y1 y2 y3 y4)) ∧ (∀ y0 y1 y2 y3 y4, LeO (spec_Match.l1 k y0 y1 y2 y3 y4) (spec_Match.l1 (k + 1) y0 y1 y2 y3 y4)) ∧ (∀ y0 y1 y2 y3 y4 y5, LeO (spec_Match.l2 k y0 y1 y2 y3 y4 y5) (spec_Match.l2 (k + 1) y0 y1 y2 y3 y4 y5)) ∧ (∀ y0 y1 y2 y3 y4 y5 y6, LeO (spec_Match.l0 k y0 y1 y2 y3 y4 y5 y6) (spec_Match.l0 (k + 1) y0 y1 y2 y3 y4 y5 y6))
 | 0 => ⟨fun _ _ _ _ _ r h => by simp [spec_Match.j1] at h, fun _ _ _ _ _ r h => by simp [spec_Match.l1] at h, fun _ _ _ _ _ _ r h => by simp [spec_Match.l2] at h, fun _ _ _ _ _ _ _ r h => by simp [spec_Match.l0] at h⟩
 | k + 1 => by
  obtain ⟨ih0, ih1, ih2, ih3⟩ := spec_Match.mono_l k
  refine ⟨?_, ?_, ?_, ?_⟩
  {
  intro y0 y1 y2 y3 y4
  unfold spec_Match.j1
  have j0 := @spec_CostsOk.mono
  have j1 := @spec_l4Least.mono
  have j2 := @spec_l4Without.mono
  exact qL
  }
  {
  intro y0 y1 y2 y3 y4
  unfold spec_Match.l1
  have j0 := @spec_CostsOk.mono
  have j1 := @spec_l4Least.mono
  have j2 := @spec_l4Without.mono
  exact qL
  }
  {
  intro y0 y1 y2 y3 y4 y5
  unfold spec_Match.l2
  have j0 := @spec_CostsOk.mono
  have j1 := @spec_l4Least.mono
  have j2 := @spec_l4Without.mono
  exact qL
  }
  {
  intro y0 y1 y2 y3 y4 y5 y6
  unfold spec_Match.l0
  have j0 := @spec_CostsOk.mono
  have j1 := @spec_l4Least.mono
  have j2 := @spec_l4Without.mono
  exact qL
  }
theorem spec_Match.mono : ∀ a0 k, LeO (spec_Match.f k a0) (spec_Match.f (k + 1) a0) := by
 intro a0 k
 obtain ⟨ih0, ih1, ih2, ih3⟩ := spec_Match.mono_l k
 unfold spec_Match.f
 have j0 := @spec_CostsOk.mono
 have j1 := @spec_l4Least.mono
 have j2 := @spec_l4Without.mono
 exact qL
def spec_Match.T17 : Bool × List (List Nat × List Nat) := (true, [([], []), ([0], [0]), ([1], [1]), ([], []), ([2, 3], [2, 3]), ([4], [4]), ([], []), ([6], [6]), ([5, 7], [5, 7]), ([], []), ([8, 9], [8, 9])])
def spec_Match.B17 : List Nat := [0, 1, 3, 0, 15, 31, 0, 64, 255, 0, 1023]
theorem spec_Match.tab17 : rtab .any (opsOf Try.f8 17) = spec_Match.T17 := by kernel_rfl
theorem spec_Match.bits17 : waitsOk spec_Match.T17.2 spec_Match.B17 = true := by kernel_rfl
def spec_Match.T21 : Bool × List (List Nat × List Nat) := (true, [([], []), ([], []), ([], []), ([1, 2], [1, 2]), ([0, 3], [0, 3]), ([], []), ([], []), ([6], [6]), ([5, 7], [5, 7]), ([4, 8, 4], [4, 8]), ([9, 9, 0, 1, 2, 3, 4, 5, 6, 7, 8, 9], [1, 5, 9])])
def spec_Match.B21 : List Nat := [0, 0, 0, 6, 15, 0, 0, 64, 224, 511, 1023]
theorem spec_Match.tab21 : rtab .any (opsOf Try.f8 21) = spec_Match.T21 := by kernel_rfl
theorem spec_Match.bits21 : waitsOk spec_Match.T21.2 spec_Match.B21 = true := by kernel_rfl
set_option maxHeartbeats 8000000 in
set_option maxRecDepth 100000 in
theorem spec_Match.calls (k : Nat) (P0_ : Nat → Prop) (A0 : Option Addr) (c0 : Nat) (l0 : List (List Int)) (r1 : List Int) (r2 : Int) (w : World) (hs0 : Kd.V (Kd.slice 3 (Kd.int .i64)) 24 w w.heap.size (fun k_ => P0_ k_) (.slice A0 l0.length c0) l0) (h : spec_Match.f k l0 = some (r1, r2)) :
  Calls Try.prog 8 #[.slice A0 l0.length c0] w fun e w' => ∃ v0_ : Value, e = .returned (.tuple #[v0_, .int .i64 r2]) ∧ Kd.R (Kd.int .i64) 3 w' w.heap.size (fun k_ => (w.heap.size ≤ k_)) v0_ r1 ∧ Below w.heap.size w w' := by
 have HO0 := aM (show Kd.V (Kd.slice 3 (Kd.int .i64)) 24 w w.heap.size (fun k_ => (P0_ k_ ∨ w.heap.size ≤ k_)) (.slice A0 l0.length c0) l0 from Kd.V_mono hs0 (fun k_ hk => .inl hk))
 have HB := aM (Below.refl w.heap.size w)
 have H : ((some (([] : List Int) : List Int)).bind fun y185 => ((spec_CostsOk.f k l0).bind fun t188 => (if t188 = true then ((spec_l4Least.f k l0).bind fun t189 => (spec_Match.l0 k l0 y185 t189 t189 l0 (([] : List Int)) 0)) else (some (y185, (-1)))))) = some (r1, r2) := h
 clear h
 obtain ⟨y185, hy185⟩ : ∃ y_ : List Int, y_ = (([] : List Int)) := ⟨_, rfl⟩
 replace H : ((spec_CostsOk.f k l0).bind fun t188 => (if t188 = true then ((spec_l4Least.f k l0).bind fun t189 => (spec_Match.l0 k l0 y185 t189 t189 l0 (([] : List Int)) 0)) else (some (y185, (-1))))) = some (r1, r2) := by first | (rw [hy185]; with_reducible exact H) | (have H2_ := (Option.bind_some _ _).symm.trans H; rw [hy185]; with_reducible exact H2_) | (have H2_ := (Option.bind_some _ _).symm.trans H; with_reducible exact H2_) | with_reducible exact H | (rw [hy185]; exact H) | exact H
 have Ny185 := aM hy185
 clear hy185
 replace H := Option.bind_eq_some_iff.mp H
 obtain ⟨t188, A20, H⟩ := H
 replace H : (if t188 = true then ((spec_l4Least.f k l0).bind fun t189 => (spec_Match.l0 k l0 y185 t189 t189 l0 (([] : List Int)) 0)) else (some (y185, (-1)))) = some (r1, r2) := H
 have A2 := aM A20
 clear A20
 by_cases c3 : t188 = true
 {
 subst c3
 rw [if_pos rfl] at H
 replace H := Option.bind_eq_some_iff.mp H
 obtain ⟨t189, A40, H⟩ := H
 replace H : (spec_Match.l0 k l0 y185 t189 t189 l0 (([] : List Int)) 0) = some (r1, r2) := H
 have A4 := aM A40
 clear A40
 obtain ⟨y190, hy190⟩ : ∃ y_ : List Int, y_ = (([] : List Int)) := ⟨_, rfl⟩
 replace H : (spec_Match.l0 k l0 y185 t189 t189 l0 y190 0) = some (r1, r2) := by first | (rw [hy190]; with_reducible exact H) | (have H2_ := (Option.bind_some _ _).symm.trans H; rw [hy190]; with_reducible exact H2_) | (have H2_ := (Option.bind_some _ _).symm.trans H; with_reducible exact H2_) | with_reducible exact H | (rw [hy190]; exact H) | exact H
 have Ny190 := aM hy190
 clear hy190
 have HC5 := aM H
 clear H
 go_enter Try.func8, Try.ntmps8
 go_upto_block 0 with (first | ((with_reducible refine gate_dst (N := 12) rfl ?_); (try (refine gate_guard (by rfl) ?_; dsimp only)); refine Kd.R_lit (Kd.int .i64) _ 3 ?hg (N := 12) ?hd (xs := ([] : List Int)) (inner := []) (ok := fun _ => True) (okp := fun _ => True) ?hr ?hp (fun _ hk => hk) trivial (Below.refl _ _) (Nat.le_refl _) (by simp) ?_; (case hd => rfl); (case hg => rfl); (case hr => exact qz8); (case hp => exact (Reps.none _ _)); intro v186 w6 ho7 hb hg_ hnew_; clear hg_ hnew_; (first | rw [← Ny185.out] at ho7 | (simp only [Int.reduceToNat] at ho7; rw [← Ny185.out] at ho7)); replace HO0 := aM (Kd.V_elder' qz28 (Kd.R_base ho7) hb); have HO187 := aM (Kd.R_lower (Kd.R_newM (M := fun k_ => (w.heap.size ≤ k_)) ho7 (below_size qz1) (fun k_ h_ => h_)) (below_size qz1)); replace HB := bS_ hb; clear hb ho7) | ((with_reducible refine gate_callee (f := 25) rfl ?_); refine goesL_ (some 14) rfl rfl Try.func25 (by kernel_rfl) rfl #[.slice A0 l0.length c0] rfl qz4 ?_; (with_reducible refine (spec_CostsOk.calls k _ _ l0 true _ ?side1 ?side2 A2.out).mono ?_); (case side1 => exact qz27); (case side2 => exact (Kd.V_reads' HO0.out).2.1); rintro e w' ⟨rfl, ⟨nd, rfl⟩⟩; refine ⟨_, rfl, ?_⟩) | ((with_reducible refine gate_callee (f := 35) rfl ?_); refine goesL_ (some 18) rfl rfl Try.func35 (by kernel_rfl) rfl #[.slice A0 l0.length c0] rfl qz4 ?_; (with_reducible refine (spec_l4Least.calls k _ _ l0 t189 _ ?side1 ?side2 A4.out).mono ?_); (case side1 => exact qz27); (case side2 => exact (Kd.V_reads' HO0.out).2.1); rintro e w8 ⟨rfl, hb⟩; refine ⟨_, rfl, ?_⟩; replace HO0 := aM (Kd.V_below qz28 hb); replace HO187 := aM (Kd.R_below (rr_ HO187.out) hb); replace HB := bS_ hb; (try clear hb)) | ((with_reducible refine gate_dst (N := 21) rfl ?_); (try (refine gate_guard (by rfl) ?_; dsimp only)); refine Kd.R_lit (Kd.int .i64) _ 3 ?hg (N := 21) ?hd (xs := ([] : List Int)) (inner := []) (ok := fun _ => True) (okp := fun _ => True) ?hr ?hp (fun _ hk => hk) trivial (Below.refl _ _) (Nat.le_refl _) (by simp) ?_; (case hd => rfl); (case hg => rfl); (case hr => exact qz8); (case hp => exact (Reps.none _ _)); intro v191 w9 ho10 hb hg_ hnew_; clear hg_ hnew_; (first | rw [← Ny190.out] at ho10 | (simp only [Int.reduceToNat] at ho10; rw [← Ny190.out] at ho10)); replace HO0 := aM (Kd.V_elder' qz28 (Kd.R_base ho10) hb); have HO192 := aM (Kd.R_lower (Kd.R_new' (Kd.R_newM (M := fun k_ => (w.heap.size ≤ k_)) ho10 (below_size qz1) (fun k_ h_ => h_)) (Kd.R_lt (rr_ HO187.out))) (below_size qz1)); replace HO187 := aM (Kd.R_elder' (rr_ HO187.out) (Kd.R_base ho10) hb); replace HB := bS_ hb; clear hb ho10))
 (try simp only [Act.put, List.setIfInBounds_toArray, List.set_cons_zero, List.set_cons_succ])
 go_cut [8] (fun v8 wc => ∃ (kq : Nat) (x8_4 : List Int), Aside0 (spec_Match.j1 kq y185 t189 t189 l0 x8_4 = some (r1, r2)) ∧ Aside0 (kq ≤ k) ∧ Aside0 (Kd.R (Kd.int .i64) 3 wc w.heap.size (fun k_ => (w.heap.size ≤ k_) ∧ some k_ ≠ (v8 : Value).ownBlock) v186 y185) ∧ Aside0 (Kd.V (Kd.slice 3 (Kd.int .i64)) 24 wc w.heap.size (fun k_ => (P0_ k_ ∨ w.heap.size ≤ k_) ∧ some k_ ≠ (v186 : Value).ownBlock ∧ some k_ ≠ (v8 : Value).ownBlock) (.slice A0 l0.length c0) l0) ∧ Aside0 (Kd.R (Kd.int .i64) 3 wc w.heap.size (fun k_ => (w.heap.size ≤ k_) ∧ some k_ ≠ (v186 : Value).ownBlock) v8 x8_4) ∧ Aside0 (Below w.heap.size w wc))
 case first =>
  have H := HC5.out
  clear HC5
  have H' := aM H
  clear H
  go_wp2
  go_loopg [8, 9] k (fun kq v8 v9 w' => ∃ (x8_1 : List Int) (x9_1 : Int), v9 = .int .i64 x9_1 ∧ Aside0 (spec_Match.l0 kq l0 y185 t189 t189 l0 x8_1 x9_1 = some (r1, r2)) ∧ Aside0 (kq ≤ k) ∧ Aside0 (Kd.V (Kd.slice 3 (Kd.int .i64)) 24 w' w.heap.size (fun k_ => (P0_ k_ ∨ w.heap.size ≤ k_) ∧ some k_ ≠ (v186 : Value).ownBlock ∧ some k_ ≠ (v8 : Value).ownBlock) (.slice A0 l0.length c0) l0) ∧ Aside0 (Kd.R (Kd.int .i64) 3 w' w.heap.size (fun k_ => (w.heap.size ≤ k_) ∧ some k_ ≠ (v8 : Value).ownBlock) v186 y185) ∧ Aside0 (Kd.V (Kd.slice 3 (Kd.int .i64)) 24 w' w.heap.size (fun k_ => (P0_ k_ ∨ w.heap.size ≤ k_) ∧ some k_ ≠ (v186 : Value).ownBlock ∧ some k_ ≠ (v8 : Value).ownBlock) (.slice A0 l0.length c0) l0) ∧ Aside0 (Kd.R (Kd.int .i64) 3 w' w.heap.size (fun k_ => (w.heap.size ≤ k_) ∧ some k_ ≠ (v186 : Value).ownBlock) v8 x8_1) ∧ Aside0 (Below w.heap.size w w'))
  case atStart => exact ⟨(y190), (0), qz3, H', ⟨Nat.le_refl _⟩, ⟨by (with_reducible repeat (first | apply Kd.V_alloc | apply Kd.V_drewN | apply Kd.V_drew)); exact Kd.V_mono HO0.out (fun _ hk => ⟨hk.1.1, ⟨hk.1.2, hk.2⟩⟩)⟩, ⟨by (with_reducible repeat (first | apply Kd.R_alloc | apply Kd.R_drewN | apply Kd.R_drew)); exact Kd.R_mono HO187.out (fun _ hk => ⟨hk.1.1, hk.2⟩)⟩, ⟨by (with_reducible repeat (first | apply Kd.V_alloc | apply Kd.V_drewN | apply Kd.V_drew)); exact Kd.V_mono HO0.out (fun _ hk => ⟨hk.1.1, ⟨hk.1.2, hk.2⟩⟩)⟩, ⟨by (with_reducible repeat (first | apply Kd.R_alloc | apply Kd.R_drewN | apply Kd.R_drew)); exact Kd.R_mono HO192.out (fun _ hk => ⟨hk.1.1, hk.2⟩)⟩, ⟨qz1⟩⟩
  case round =>
   clear H'
   try clear c2
   try clear p2
   try clear c3
   try clear c8
   obtain ⟨x8_1, x9_1, rfl, HA, HK1, HO_0, HO_4, HO_7, HO_8, HB⟩ := hrel
   cases gk with
   | zero => exact absurd HA.out (by simp [spec_Match.l0])
   | succ k1 =>
    have H := HA.out
    clear HA
    simp only [spec_Match.l0] at H
    by_cases c11 : (l0.length : Int) > 0
    {
    rw [if_pos c11] at H
    have c11b0 := decide_eq_true c11
    have c11b1 : decide (0 < l0.length) = true := decide_eq_true (by omega)
    clear c11
    (first | rw [c11b0] | (simp only [i64_w, i32_w]; rw [c11b0]) | rw [@decide_eq_true _ _ (of_decide_eq_true c11b0)] | rw [@decide_eq_true _ _ (of_decide_eq_true c11b1)] | skip)
    by_cases c12 : 0 < (l0.length : Int)
    {
    rw [if_pos c12] at H
    have c12b0 := decide_eq_true c12
    have c12b1 : decide (0 < l0.length) = true := decide_eq_true (by omega)
    clear c12
    by_cases c13 : x9_1 < ((rd_L1 l0 0).length : Int)
    {
    rw [if_pos c13] at H
    have c13b0 := decide_eq_true c13
    clear c13
    by_cases c14 : x8_1.length < 17592186044416
    {
    rw [if_pos c14] at H
    have LMc14 := aM c14
    clear c14
    obtain ⟨y194, hy194⟩ : ∃ y_ : List Int, y_ = (x8_1 ++ [x9_1]) := ⟨_, rfl⟩
    replace H : (spec_Match.l0 k1 l0 y185 t189 t189 l0 y194 (wrap64 (x9_1 + 1))) = some (r1, r2) := by first | (rw [hy194]; with_reducible exact H) | (have H2_ := (Option.bind_some _ _).symm.trans H; rw [hy194]; with_reducible exact H2_) | (have H2_ := (Option.bind_some _ _).symm.trans H; with_reducible exact H2_) | with_reducible exact H | (rw [hy194]; exact H) | exact H
    have Ny194 := aM hy194
    clear hy194
    have H' := aM H
    clear H
    have p193 : 0 ≤ (0 : Int) := (by omega)
    have q193 : 0 < (l0.length : Int) := dt_
    obtain ⟨ad193, A193_0, c193_0, e193, hx193_0, hl193_0, hi193_0⟩ := at_L1 (Kd.V_reads' HO_0.out).2.2 0 p193 q193
    cases e193
    obtain ⟨ce193, hce193, hMe193, hcc193⟩ := Kd.V_get HO_0.out [] 0 p193 (by first | exact q193 | exact dt_ | (have e_ := (Kd.V_reads' HO_0.out).1; omega))
    obtain ⟨ua193_0, uc193_0, rfl, ul193_0, ge193_0⟩ := Kd.FK_slice_open hMe193
    have hv193_0 := hcc193 0 _ rfl
    rw [Nat.add_zero, show ((Kd.slice 3 (Kd.int .i64))).sz = 1 from rfl, Nat.mul_one] at hv193_0
    replace hv193_0 := Option.some.inj (hv193_0.symm.trans hx193_0)
    injection hv193_0 with hva_ hvn_ hvc_
    rw [hva_] at ge193_0
    rw [hvc_] at ul193_0
    have HL193_0 := aM (show Kd.V (Kd.int .i64) 3 _ w.heap.size _ _ (rd_L1 l0 0) from Kd.V_mk ul193_0 ge193_0)
    clear hva_ hvn_ hvc_ ge193_0 ul193_0 hcc193 hce193
    have qi193 : (0 < l0.length) = True := eq_true (by omega)
    (try rw [show ((0 : Int)).toNat = 0 from rfl] at hx193_0)
    (try rw [Addr.add_zero'] at hx193_0)
    have HR193_0 := aM hi193_0
    have HC193_0 := aM hl193_0
    clear hi193_0 hl193_0
    replace p193 := eq_true p193
    replace q193 := eq_true q193
    go_wp2_with (first | ((with_reducible refine gate_builtin (b := .append) (xs := #[.tmp 35, .tmp 37]) rfl ?_); (try (refine gate_guard (by rfl) ?_; dsimp only)); at_builtin; refine Kd.R_append (Kd.int .i64) (w0 := w) w.heap.size rfl (.tmp 35) (.tmp 37) 24 3 (.int .i64 0) 8 rfl Try.underlying24 info3 rfl (by decide) (by omega) u8 x8_1 x9_1 [.int .i64 x9_1] (fun k_ => (w.heap.size ≤ k_) ∧ some k_ ≠ (v186 : Value).ownBlock) (fun _ => False) rfl rfl ?aP (fun _ hk => hk.elim) ?aF ?aO ?aB ?aS ?aL ?_; (case aP => exact rfl); (case aB => exact qz1); (case aF => exact (fun k_ hk => ⟨(Nat.le_trans (below_size qz1) hk), Kd.fresh' (Kd.R_lt (rr_ HO_4.out)) k_ hk⟩)); (case aO => exact (rr_ HO_8.out)); (case aS => exact (below_size qz1)); (case aL => have := LMc14.out; omega); intro v195 w15 ho hb hg hat; rw [← Ny194.out] at ho; replace HO_0 := aM (Kd.V_afterv (ok := (fun k_ => (P0_ k_ ∨ w.heap.size ≤ k_) ∧ some k_ ≠ (v186 : Value).ownBlock)) (by (with_reducible repeat (first | apply Kd.V_alloc | apply Kd.V_drewN | apply Kd.V_drew)); exact Kd.V_mono HO_0.out (fun _ hk => ⟨⟨hk.1, hk.2.1⟩, hk.2.2⟩)) hg hat); replace HO_4 := aM (Kd.R_after (ok := (fun k_ => (w.heap.size ≤ k_))) (rr_ HO_4.out) hg hat); replace HO_7 := aM (Kd.V_afterv (ok := (fun k_ => (P0_ k_ ∨ w.heap.size ≤ k_) ∧ some k_ ≠ (v186 : Value).ownBlock)) (by (with_reducible repeat (first | apply Kd.V_alloc | apply Kd.V_drewN | apply Kd.V_drew)); exact Kd.V_mono HO_7.out (fun _ hk => ⟨⟨hk.1, hk.2.1⟩, hk.2.2⟩)) hg hat); replace HL193_0 := aM (Kd.V_afterv (ok := (fun k_ => (P0_ k_ ∨ w.heap.size ≤ k_) ∧ some k_ ≠ (v186 : Value).ownBlock)) (by (with_reducible repeat (first | apply Kd.V_alloc | apply Kd.V_drewN | apply Kd.V_drew)); exact Kd.V_mono HL193_0.out (fun _ hk => ⟨⟨hk.1, hk.2.1⟩, hk.2.2⟩)) hg hat); replace HB := aM (hb); have HO196 := aM (ho); clear HO_8; clear ho hb hg hat))
    go_roundg k1
    case measure => have := HK1.out; omega
    case rel => exact ⟨(y194), (wrap64 (x9_1 + 1)), qz3, H', ⟨by have := HK1.out; omega⟩, ⟨by (with_reducible repeat (first | apply Kd.V_alloc | apply Kd.V_drewN | apply Kd.V_drew)); exact Kd.V_mono HO_0.out (fun _ hk => ⟨hk.1.1, ⟨hk.1.2, hk.2⟩⟩)⟩, ⟨rm_ HO_4.out⟩, ⟨by (with_reducible repeat (first | apply Kd.V_alloc | apply Kd.V_drewN | apply Kd.V_drew)); exact Kd.V_mono HO_7.out (fun _ hk => ⟨hk.1.1, ⟨hk.1.2, hk.2⟩⟩)⟩, ⟨rm_ HO196.out⟩, ⟨qz1⟩⟩
    }
    {
    exact an_ c14 H
    }
    }
    {
    rw [if_neg c13] at H
    have c13b0 := decide_eq_false c13
    clear c13
    have H' := aM H
    clear H
    have p193 : 0 ≤ (0 : Int) := (by omega)
    have q193 : 0 < (l0.length : Int) := dt_
    obtain ⟨ad193, A193_0, c193_0, e193, hx193_0, hl193_0, hi193_0⟩ := at_L1 (Kd.V_reads' HO_0.out).2.2 0 p193 q193
    cases e193
    obtain ⟨ce193, hce193, hMe193, hcc193⟩ := Kd.V_get HO_0.out [] 0 p193 (by first | exact q193 | exact dt_ | (have e_ := (Kd.V_reads' HO_0.out).1; omega))
    obtain ⟨ua193_0, uc193_0, rfl, ul193_0, ge193_0⟩ := Kd.FK_slice_open hMe193
    have hv193_0 := hcc193 0 _ rfl
    rw [Nat.add_zero, show ((Kd.slice 3 (Kd.int .i64))).sz = 1 from rfl, Nat.mul_one] at hv193_0
    replace hv193_0 := Option.some.inj (hv193_0.symm.trans hx193_0)
    injection hv193_0 with hva_ hvn_ hvc_
    rw [hva_] at ge193_0
    rw [hvc_] at ul193_0
    have HL193_0 := aM (show Kd.V (Kd.int .i64) 3 _ w.heap.size _ _ (rd_L1 l0 0) from Kd.V_mk ul193_0 ge193_0)
    clear hva_ hvn_ hvc_ ge193_0 ul193_0 hcc193 hce193
    have qi193 : (0 < l0.length) = True := eq_true (by omega)
    (try rw [show ((0 : Int)).toNat = 0 from rfl] at hx193_0)
    (try rw [Addr.add_zero'] at hx193_0)
    have HR193_0 := aM hi193_0
    have HC193_0 := aM hl193_0
    clear hi193_0 hl193_0
    replace p193 := eq_true p193
    replace q193 := eq_true q193
    go_wp2
    go_meet
    case rel => exact ⟨_, (x8_1), H', ⟨by have := HK1.out; first | omega | exact Nat.le_refl _⟩, ⟨rm_ HO_4.out⟩, ⟨by (with_reducible repeat (first | apply Kd.V_alloc | apply Kd.V_drewN | apply Kd.V_drew)); (first | exact HO_7.out | exact Kd.R_mono HO_7.out (fun _ h_ => h_.1) | exact Kd.R_mono HO_7.out (fun _ h_ => h_.2))⟩, ⟨rm_ HO_8.out⟩, ⟨qz1⟩⟩
    }
    }
    {
    exact an_ c12 H
    }
    }
    {
    rw [if_neg c11] at H
    have c11b0 := decide_eq_false c11
    have c11b1 : decide (0 < l0.length) = false := decide_eq_false (by omega)
    clear c11
    (first | rw [c11b0] | (simp only [i64_w, i32_w]; rw [c11b0]) | rw [@decide_eq_false _ _ (of_decide_eq_false c11b0)] | rw [@decide_eq_false _ _ (of_decide_eq_false c11b1)] | skip)
    have H' := aM H
    clear H
    go_wp2
    go_meet
    case rel => exact ⟨_, (x8_1), H', ⟨by have := HK1.out; first | omega | exact Nat.le_refl _⟩, ⟨rm_ HO_4.out⟩, ⟨by (with_reducible repeat (first | apply Kd.V_alloc | apply Kd.V_drewN | apply Kd.V_drew)); (first | exact HO_7.out | exact Kd.R_mono HO_7.out (fun _ h_ => h_.1) | exact Kd.R_mono HO_7.out (fun _ h_ => h_.2))⟩, ⟨rm_ HO_8.out⟩, ⟨qz1⟩⟩
    }
 case rest =>
  clear HC5
  try clear c1
  try clear p1
  try clear q1
  try clear hx1
  try clear qi1
  try clear c2
  try clear p2
  try clear c3
  try clear p6
  try clear c8
  try clear c11
  try clear c11b0
  try clear c11b1
  try clear c12
  try clear c12b0
  try clear c12b1
  try clear c13
  try clear c13b0
  try clear c14
  try clear hx193_0
  try clear p193
  try clear q193
  obtain ⟨kq, x8_4, HA, HJ4, HO_4, HO_7, HO_8, HB⟩ := hcut
  cases kq with
  | zero => exact absurd HA.out (by simp [spec_Match.j1])
  | succ kj4 =>
   have H := HA.out
   clear HA
   simp only [spec_Match.j1] at H
   have H' := aM H
   clear H
   go_wp2
   go_loopg [4, 6, 7, 8] kj4 (fun kq v4 v6 v7 v8 w' => ∃ (x4_2 : List Int) (x6_2 : Int) (x7_2 : List (List Int)) (x8_2 : List Int), v6 = .int .i64 x6_2 ∧ Aside0 (spec_Match.l1 kq x4_2 t189 x6_2 x7_2 x8_2 = some (r1, r2)) ∧ Aside0 (kq ≤ kj4) ∧ Aside0 (Kd.R (Kd.int .i64) 3 w' w.heap.size (fun k_ => (w.heap.size ≤ k_) ∧ some k_ ≠ (v8 : Value).ownBlock) v4 x4_2) ∧ Aside0 (Kd.V (Kd.slice 3 (Kd.int .i64)) 24 w' w.heap.size (fun k_ => (P0_ k_ ∨ w.heap.size ≤ k_) ∧ some k_ ≠ (v4 : Value).ownBlock ∧ some k_ ≠ (v8 : Value).ownBlock) v7 x7_2) ∧ Aside0 (Kd.R (Kd.int .i64) 3 w' w.heap.size (fun k_ => (w.heap.size ≤ k_) ∧ some k_ ≠ (v4 : Value).ownBlock) v8 x8_2) ∧ Aside0 (Below w.heap.size w w'))
   case atStart => exact ⟨(y185), (t189), (l0), (x8_4), qz3, H', ⟨Nat.le_refl _⟩, ⟨rr_ HO_4.out⟩, ⟨by (with_reducible repeat (first | apply Kd.V_alloc | apply Kd.V_drewN | apply Kd.V_drew)); exact HO_7.out⟩, ⟨rr_ HO_8.out⟩, ⟨qz1⟩⟩
   case round =>
    clear H'
    try clear c1
    try clear p1
    try clear q1
    try clear hx1
    try clear qi1
    try clear c2
    try clear p2
    try clear c3
    try clear p6
    try clear c8
    try clear c11
    try clear c11b0
    try clear c11b1
    try clear c12
    try clear c12b0
    try clear c12b1
    try clear c13
    try clear c13b0
    try clear c14
    try clear hx193_0
    try clear p193
    try clear q193
    obtain ⟨x4_2, x6_2, x7_2, x8_2, rfl, HA, HK2, HO_4, HO_7, HO_8, HB⟩ := hrel
    cases gk with
    | zero => exact absurd HA.out (by simp [spec_Match.l1])
    | succ k2 =>
     have H := HA.out
     clear HA
     simp only [spec_Match.l1] at H
     by_cases c16 : (x7_2.length : Int) > 0
     {
     rw [if_pos c16] at H
     have c16b0 := decide_eq_true c16
     have c16b1 : decide (0 < x7_2.length) = true := decide_eq_true (by omega)
     clear c16
     have H' := aM H
     clear H
     obtain ⟨Ao17, co17, eo17⟩ := Kd.V_slice HO_7.out
     subst eo17
     go_wp2
     go_loopg [4, 6, 7, 8, 10] k2 (fun kq v4 v6 v7 v8 v10 w' => ∃ (x4_3 : List Int) (x6_3 : Int) (x7_3 : List (List Int)) (x8_3 : List Int) (x10_3 : Int), v6 = .int .i64 x6_3 ∧ v10 = .int .i64 x10_3 ∧ Aside0 (spec_Match.l2 kq x4_3 t189 x6_3 x7_3 x8_3 x10_3 = some (r1, r2)) ∧ Aside0 (kq ≤ k2) ∧ Aside0 (Kd.R (Kd.int .i64) 3 w' w.heap.size (fun k_ => (w.heap.size ≤ k_) ∧ some k_ ≠ (v8 : Value).ownBlock) v4 x4_3) ∧ Aside0 (Kd.V (Kd.slice 3 (Kd.int .i64)) 24 w' w.heap.size (fun k_ => (P0_ k_ ∨ w.heap.size ≤ k_) ∧ some k_ ≠ (v4 : Value).ownBlock ∧ some k_ ≠ (v8 : Value).ownBlock) v7 x7_3) ∧ Aside0 (Kd.R (Kd.int .i64) 3 w' w.heap.size (fun k_ => (w.heap.size ≤ k_) ∧ some k_ ≠ (v4 : Value).ownBlock) v8 x8_3) ∧ Aside0 (Below w.heap.size w w'))
     case atStart => exact ⟨(x4_2), (x6_2), (x7_2), (x8_2), (0), qz3, qz3, H', ⟨Nat.le_refl _⟩, ⟨rr_ HO_4.out⟩, ⟨by (with_reducible repeat (first | apply Kd.V_alloc | apply Kd.V_drewN | apply Kd.V_drew)); exact HO_7.out⟩, ⟨rr_ HO_8.out⟩, ⟨qz1⟩⟩
     case round =>
      clear H'
      try clear c1
      try clear p1
      try clear q1
      try clear hx1
      try clear qi1
      try clear c2
      try clear p2
      try clear c3
      try clear p6
      try clear c8
      try clear c11
      try clear c11b0
      try clear c11b1
      try clear c12
      try clear c12b0
      try clear c12b1
      try clear c13
      try clear c13b0
      try clear c14
      try clear c16
      try clear c16b0
      try clear c16b1
      try clear hx193_0
      try clear p193
      try clear q193
      obtain ⟨x4_3, x6_3, x7_3, x8_3, x10_3, rfl, rfl, HA, HK3, HO_4, HO_7, HO_8, HB⟩ := hrel
      cases gk with
      | zero => exact absurd HA.out (by simp [spec_Match.l2])
      | succ k3 =>
       have H := HA.out
       clear HA
       simp only [spec_Match.l2] at H
       by_cases c18 : 0 < (x7_3.length : Int)
       {
       rw [if_pos c18] at H
       have c18b0 := decide_eq_true c18
       have c18b1 : decide (0 < x7_3.length) = true := decide_eq_true (by omega)
       clear c18
       by_cases c19 : x10_3 < ((rd_L1 x7_3 0).length : Int)
       {
       rw [if_pos c19] at H
       have c19b0 := decide_eq_true c19
       clear c19
       replace H := Option.bind_eq_some_iff.mp H
       obtain ⟨t198, A200, H⟩ := H
       replace H : (if 0 ≤ x10_3 then ((spec_l4Least.f k3 t198).bind fun t203 => (if (wrap64 ((rd (rd_L1 x7_3 0) x10_3) + t203)) = x6_3 then (if x10_3 < (x8_3.length : Int) then (if x4_3.length < 17592186044416 then ((some (([] : List Int) : List Int)).bind fun y210 => (if x10_3 ≤ (x8_3.length : Int) then ((some (x8_3.take (x10_3 : Int).toNat : List Int)).bind fun y213 => (if y210.length + y213.length < 17592186044416 then ((some (y210 ++ y213 : List Int)).bind fun y217 => (if 0 ≤ (wrap64 (x10_3 + 1)) then (if (wrap64 (x10_3 + 1)) ≤ (x8_3.length : Int) then ((some (x8_3.drop ((wrap64 (x10_3 + 1)) : Int).toNat : List Int)).bind fun y220 => (if y217.length + y220.length < 17592186044416 then (spec_Match.l1 k3 (x4_3 ++ [rd x8_3 x10_3]) t189 (wrap64 (x6_3 - (rd (rd_L1 x7_3 0) x10_3))) t198 (y217 ++ y220)) else (none))) else (none)) else (none))) else (none))) else (none))) else (none)) else (none)) else (spec_Match.l2 k3 x4_3 t189 x6_3 x7_3 x8_3 (wrap64 (x10_3 + 1))))) else (none)) = some (r1, r2) := H
       have A20 := aM A200
       clear A200
       by_cases c21 : 0 ≤ x10_3
       {
       rw [if_pos c21] at H
       have c21b0 := decide_eq_true c21
       clear c21
       replace H := Option.bind_eq_some_iff.mp H
       obtain ⟨t203, A220, H⟩ := H
       replace H : (if (wrap64 ((rd (rd_L1 x7_3 0) x10_3) + t203)) = x6_3 then (if x10_3 < (x8_3.length : Int) then (if x4_3.length < 17592186044416 then ((some (([] : List Int) : List Int)).bind fun y210 => (if x10_3 ≤ (x8_3.length : Int) then ((some (x8_3.take (x10_3 : Int).toNat : List Int)).bind fun y213 => (if y210.length + y213.length < 17592186044416 then ((some (y210 ++ y213 : List Int)).bind fun y217 => (if 0 ≤ (wrap64 (x10_3 + 1)) then (if (wrap64 (x10_3 + 1)) ≤ (x8_3.length : Int) then ((some (x8_3.drop ((wrap64 (x10_3 + 1)) : Int).toNat : List Int)).bind fun y220 => (if y217.length + y220.length < 17592186044416 then (spec_Match.l1 k3 (x4_3 ++ [rd x8_3 x10_3]) t189 (wrap64 (x6_3 - (rd (rd_L1 x7_3 0) x10_3))) t198 (y217 ++ y220)) else (none))) else (none)) else (none))) else (none))) else (none))) else (none)) else (none)) else (spec_Match.l2 k3 x4_3 t189 x6_3 x7_3 x8_3 (wrap64 (x10_3 + 1)))) = some (r1, r2) := H
       have A22 := aM A220
       clear A220
       by_cases c23 : (wrap64 ((rd (rd_L1 x7_3 0) x10_3) + t203)) = x6_3
       {
       rw [if_pos c23] at H
       have c23b0 := beq_iff_eq.mpr c23
       have c23b1 := bne_eq_false_iff_eq.mpr c23
       clear c23
       by_cases c24 : x10_3 < (x8_3.length : Int)
       {
       rw [if_pos c24] at H
       have c24b0 := decide_eq_true c24
       clear c24
       by_cases c25 : x4_3.length < 17592186044416
       {
       rw [if_pos c25] at H
       have LMc25 := aM c25
       clear c25
       obtain ⟨y205, hy205⟩ : ∃ y_ : List Int, y_ = (x4_3 ++ [rd x8_3 x10_3]) := ⟨_, rfl⟩
       replace H : ((some (([] : List Int) : List Int)).bind fun y210 => (if x10_3 ≤ (x8_3.length : Int) then ((some (x8_3.take (x10_3 : Int).toNat : List Int)).bind fun y213 => (if y210.length + y213.length < 17592186044416 then ((some (y210 ++ y213 : List Int)).bind fun y217 => (if 0 ≤ (wrap64 (x10_3 + 1)) then (if (wrap64 (x10_3 + 1)) ≤ (x8_3.length : Int) then ((some (x8_3.drop ((wrap64 (x10_3 + 1)) : Int).toNat : List Int)).bind fun y220 => (if y217.length + y220.length < 17592186044416 then (spec_Match.l1 k3 y205 t189 (wrap64 (x6_3 - (rd (rd_L1 x7_3 0) x10_3))) t198 (y217 ++ y220)) else (none))) else (none)) else (none))) else (none))) else (none))) = some (r1, r2) := by first | (rw [hy205]; with_reducible exact H) | (have H2_ := (Option.bind_some _ _).symm.trans H; rw [hy205]; with_reducible exact H2_) | (have H2_ := (Option.bind_some _ _).symm.trans H; with_reducible exact H2_) | with_reducible exact H | (rw [hy205]; exact H) | exact H
       have Ny205 := aM hy205
       clear hy205
       obtain ⟨y210, hy210⟩ : ∃ y_ : List Int, y_ = (([] : List Int)) := ⟨_, rfl⟩
       replace H : (if x10_3 ≤ (x8_3.length : Int) then ((some (x8_3.take (x10_3 : Int).toNat : List Int)).bind fun y213 => (if y210.length + y213.length < 17592186044416 then ((some (y210 ++ y213 : List Int)).bind fun y217 => (if 0 ≤ (wrap64 (x10_3 + 1)) then (if (wrap64 (x10_3 + 1)) ≤ (x8_3.length : Int) then ((some (x8_3.drop ((wrap64 (x10_3 + 1)) : Int).toNat : List Int)).bind fun y220 => (if y217.length + y220.length < 17592186044416 then (spec_Match.l1 k3 y205 t189 (wrap64 (x6_3 - (rd (rd_L1 x7_3 0) x10_3))) t198 (y217 ++ y220)) else (none))) else (none)) else (none))) else (none))) else (none)) = some (r1, r2) := by first | (rw [hy210]; with_reducible exact H) | (have H2_ := (Option.bind_some _ _).symm.trans H; rw [hy210]; with_reducible exact H2_) | (have H2_ := (Option.bind_some _ _).symm.trans H; with_reducible exact H2_) | with_reducible exact H | (rw [hy210]; exact H) | exact H
       have Ny210 := aM hy210
       clear hy210
       have c26b0 := eq_true (dt_ : 0 ≤ x10_3)
       by_cases c27 : x10_3 ≤ (x8_3.length : Int)
       {
       rw [if_pos c27] at H
       have c27b0 := eq_true c27
       have c27b1 := decide_eq_true c27
       clear c27
       obtain ⟨y213, hy213⟩ : ∃ y_ : List Int, y_ = (x8_3.take (x10_3 : Int).toNat) := ⟨_, rfl⟩
       replace H : (if y210.length + y213.length < 17592186044416 then ((some (y210 ++ y213 : List Int)).bind fun y217 => (if 0 ≤ (wrap64 (x10_3 + 1)) then (if (wrap64 (x10_3 + 1)) ≤ (x8_3.length : Int) then ((some (x8_3.drop ((wrap64 (x10_3 + 1)) : Int).toNat : List Int)).bind fun y220 => (if y217.length + y220.length < 17592186044416 then (spec_Match.l1 k3 y205 t189 (wrap64 (x6_3 - (rd (rd_L1 x7_3 0) x10_3))) t198 (y217 ++ y220)) else (none))) else (none)) else (none))) else (none)) = some (r1, r2) := by first | (rw [hy213]; with_reducible exact H) | (have H2_ := (Option.bind_some _ _).symm.trans H; rw [hy213]; with_reducible exact H2_) | (have H2_ := (Option.bind_some _ _).symm.trans H; with_reducible exact H2_) | with_reducible exact H | (rw [hy213]; exact H) | exact H
       have Ny213 := aM hy213
       clear hy213
       by_cases c28 : y210.length + y213.length < 17592186044416
       {
       rw [if_pos c28] at H
       have LMc28 := aM c28
       clear c28
       obtain ⟨y217, hy217⟩ : ∃ y_ : List Int, y_ = (y210 ++ y213) := ⟨_, rfl⟩
       replace H : (if 0 ≤ (wrap64 (x10_3 + 1)) then (if (wrap64 (x10_3 + 1)) ≤ (x8_3.length : Int) then ((some (x8_3.drop ((wrap64 (x10_3 + 1)) : Int).toNat : List Int)).bind fun y220 => (if y217.length + y220.length < 17592186044416 then (spec_Match.l1 k3 y205 t189 (wrap64 (x6_3 - (rd (rd_L1 x7_3 0) x10_3))) t198 (y217 ++ y220)) else (none))) else (none)) else (none)) = some (r1, r2) := by first | (rw [hy217]; with_reducible exact H) | (have H2_ := (Option.bind_some _ _).symm.trans H; rw [hy217]; with_reducible exact H2_) | (have H2_ := (Option.bind_some _ _).symm.trans H; with_reducible exact H2_) | with_reducible exact H | (rw [hy217]; exact H) | exact H
       have Ny217 := aM hy217
       clear hy217
       obtain ⟨ji29, hji29⟩ : ∃ j_ : Int, (wrap64 (x10_3 + 1)) = j_ := ⟨_, rfl⟩
       replace H : (if 0 ≤ (ji29) then (if (ji29) ≤ (x8_3.length : Int) then ((some (x8_3.drop ((ji29) : Int).toNat : List Int)).bind fun y220 => (if y217.length + y220.length < 17592186044416 then (spec_Match.l1 k3 y205 t189 (wrap64 (x6_3 - (rd (rd_L1 x7_3 0) x10_3))) t198 (y217 ++ y220)) else (none))) else (none)) else (none)) = some (r1, r2) := by first | (rw [hji29] at H; exact H) | (simp only [hji29] at H ⊢; exact H)
       (try rw [hji29] at A20)
       (try rw [hji29] at A22)
       have hji29w : (IntKind.i64.wrap (x10_3 + 1)) = ji29 := (i64_w _).trans hji29
       by_cases c30 : 0 ≤ (ji29)
       {
       rw [if_pos c30] at H
       have c30b0 := eq_true c30
       have c30b1 := decide_eq_true c30
       clear c30
       by_cases c31 : (ji29) ≤ (x8_3.length : Int)
       {
       rw [if_pos c31] at H
       have c31b0 := eq_true c31
       have c31b1 := decide_eq_true c31
       clear c31
       obtain ⟨y220, hy220⟩ : ∃ y_ : List Int, y_ = (x8_3.drop ((ji29) : Int).toNat) := ⟨_, rfl⟩
       replace H : (if y217.length + y220.length < 17592186044416 then (spec_Match.l1 k3 y205 t189 (wrap64 (x6_3 - (rd (rd_L1 x7_3 0) x10_3))) t198 (y217 ++ y220)) else (none)) = some (r1, r2) := by first | (rw [hy220]; with_reducible exact H) | (have H2_ := (Option.bind_some _ _).symm.trans H; rw [hy220]; with_reducible exact H2_) | (have H2_ := (Option.bind_some _ _).symm.trans H; with_reducible exact H2_) | with_reducible exact H | (rw [hy220]; exact H) | exact H
       have Ny220 := aM hy220
       clear hy220
       by_cases c32 : y217.length + y220.length < 17592186044416
       {
       rw [if_pos c32] at H
       have LMc32 := aM c32
       clear c32
       obtain ⟨y224, hy224⟩ : ∃ y_ : List Int, y_ = (y217 ++ y220) := ⟨_, rfl⟩
       replace H : (spec_Match.l1 k3 y205 t189 (wrap64 (x6_3 - (rd (rd_L1 x7_3 0) x10_3))) t198 y224) = some (r1, r2) := by first | (rw [hy224]; with_reducible exact H) | (have H2_ := (Option.bind_some _ _).symm.trans H; rw [hy224]; with_reducible exact H2_) | (have H2_ := (Option.bind_some _ _).symm.trans H; with_reducible exact H2_) | with_reducible exact H | (rw [hy224]; exact H) | exact H
       have Ny224 := aM hy224
       clear hy224
       have H' := aM H
       clear H
       obtain ⟨Ao33, co33, eo33⟩ := Kd.V_slice HO_7.out
       subst eo33
       have p197 : 0 ≤ (0 : Int) := (by omega)
       have q197 : 0 < (x7_3.length : Int) := dt_
       obtain ⟨ad197, A197_0, c197_0, e197, hx197_0, hl197_0, hi197_0⟩ := at_L1 (Kd.V_reads' HO_7.out).2.2 0 p197 q197
       cases e197
       obtain ⟨ce197, hce197, hMe197, hcc197⟩ := Kd.V_get HO_7.out [] 0 p197 (by first | exact q197 | exact dt_ | (have e_ := (Kd.V_reads' HO_7.out).1; omega))
       obtain ⟨ua197_0, uc197_0, rfl, ul197_0, ge197_0⟩ := Kd.FK_slice_open hMe197
       have hv197_0 := hcc197 0 _ rfl
       rw [Nat.add_zero, show ((Kd.slice 3 (Kd.int .i64))).sz = 1 from rfl, Nat.mul_one] at hv197_0
       replace hv197_0 := Option.some.inj (hv197_0.symm.trans hx197_0)
       injection hv197_0 with hva_ hvn_ hvc_
       rw [hva_] at ge197_0
       rw [hvc_] at ul197_0
       have HL197_0 := aM (show Kd.V (Kd.int .i64) 3 _ w.heap.size _ _ (rd_L1 x7_3 0) from Kd.V_mk ul197_0 ge197_0)
       clear hva_ hvn_ hvc_ ge197_0 ul197_0 hcc197 hce197
       have qi197 : (0 < x7_3.length) = True := eq_true (by omega)
       (try rw [show ((0 : Int)).toNat = 0 from rfl] at hx197_0)
       (try rw [Addr.add_zero'] at hx197_0)
       have HR197_0 := aM hi197_0
       have HC197_0 := aM hl197_0
       clear hi197_0 hl197_0
       replace p197 := eq_true p197
       replace q197 := eq_true q197
       try go_wp2_with (first | ((with_reducible refine gate_callee (f := 36) rfl ?_); refine goesL_ (some 52) rfl rfl Try.func36 (by kernel_rfl) rfl #[.slice (some ad197) x7_3.length co33, .int .i64 x10_3] rfl qz4 ?_; (with_reducible refine (spec_l4Without.calls k3 _ _ x7_3 x10_3 t198 _ ?side1 ?side2 A20.out).mono ?_); (case side1 => repeat (first | exact (Kd.V_reads' HO_7.out).2.2 | (with_reducible refine Kd.C_alloc ?_ _) | (with_reducible refine Kd.C_drewN ?_ _) | (with_reducible refine Kd.C_drew ?_))); (case side2 => exact (Kd.V_reads' HO_7.out).2.1); rintro e w34 ⟨v199, rfl, ho0, hb⟩; refine ⟨_, rfl, ?_⟩; replace HO_7 := aM (Kd.V_elder' qz19 (Kd.S_base ho0) hb); replace HL197_0 := aM (Kd.V_elder' qz18 (Kd.S_base ho0) hb); have HO200 := aM (Kd.S_lower (Kd.S_new' (Kd.S_new' (Kd.S_newM (M := fun k_ => (w.heap.size ≤ k_)) ho0 (below_size qz1) (fun k_ h_ => h_)) (Kd.R_lt (rr_ HO_4.out))) (Kd.R_lt (rr_ HO_8.out))) (below_size qz1)); replace HO_4 := aM (Kd.R_below (rr_ HO_4.out) hb); replace HO_8 := aM (Kd.R_below (rr_ HO_8.out) hb); replace HR197_0 := aM (Kd.C_below qz11 hb); replace HB := bS_ hb; (try clear hb ho0)))
       replace HO_4 := aM (Kd.R_drew HO_4.out)
       replace HO_7 := aM (Kd.V_drew HO_7.out)
       replace HO_8 := aM (Kd.R_drew HO_8.out)
       replace HL197_0 := aM (Kd.V_drew HL197_0.out)
       replace HO200 := aM (Kd.S_drew HO200.out)
       replace HR197_0 := aM (Kd.C_drew HR197_0.out)
       replace HB := aM (below_drew1 HB.out)
       have p201 : 0 ≤ (0 : Int) := (by omega)
       have q201 : 0 < (x7_3.length : Int) := dt_
       obtain ⟨ad201, A201_0, c201_0, e201, hx201_0, hl201_0, hi201_0⟩ := at_L1 (Kd.V_reads' HO_7.out).2.2 0 p201 q201
       obtain rfl : ad197 = ad201 := (by injection e201)
       obtain ⟨ce201, hce201, hMe201, hcc201⟩ := Kd.V_get HO_7.out [] 0 p201 (by first | exact q201 | exact dt_ | (have e_ := (Kd.V_reads' HO_7.out).1; omega))
       obtain ⟨ua201_0, uc201_0, rfl, ul201_0, ge201_0⟩ := Kd.FK_slice_open hMe201
       have hv201_0 := hcc201 0 _ rfl
       rw [Nat.add_zero, show ((Kd.slice 3 (Kd.int .i64))).sz = 1 from rfl, Nat.mul_one] at hv201_0
       replace hv201_0 := Option.some.inj (hv201_0.symm.trans hx201_0)
       injection hv201_0 with hva_ hvn_ hvc_
       rw [hva_] at ge201_0
       rw [hvc_] at ul201_0
       have HL201_0 := aM (show Kd.V (Kd.int .i64) 3 _ w.heap.size _ _ (rd_L1 x7_3 0) from Kd.V_mk ul201_0 ge201_0)
       clear hva_ hvn_ hvc_ ge201_0 ul201_0 hcc201 hce201
       have qi201 : (0 < x7_3.length) = True := eq_true (by omega)
       (try rw [show ((0 : Int)).toNat = 0 from rfl] at hx201_0)
       (try rw [Addr.add_zero'] at hx201_0)
       have HR201_0 := aM hi201_0
       have HC201_0 := aM hl201_0
       clear hi201_0 hl201_0
       replace p201 := eq_true p201
       replace q201 := eq_true q201
       have p202 : 0 ≤ (x10_3 : Int) := dt_
       have q202 : x10_3 < ((rd_L1 x7_3 0).length : Int) := dt_
       obtain ⟨ad202, e202, hx202_0⟩ := Kd.at_int qz12 x10_3 p202 q202
       cases e202
       replace p202 := eq_true p202
       replace q202 := eq_true q202
       obtain ⟨Ao36, co36, eo36⟩ := Kd.S_slice HO200.out
       (first | subst eo36 | (injection eo36 with f1_ f2_ f3_; have f4_ := f1_.symm; have f5_ := f3_.symm; clear f1_ f2_ f3_; subst f4_; subst f5_))
       refine start_ (n := 11) (S := fun w' => w'.cell? ad197 = some (.slice (some ad202) (rd_L1 x7_3 0).length c201_0) ∧ w'.cell? (ad202.add (x10_3).toNat) = some (.int .i64 (rd (rd_L1 x7_3 0) x10_3))) (ds := []) #[false, false, false, false, false, false, false, false, false, false, false] (by kernel_rfl) rfl rfl ⟨hx201_0, hx202_0⟩ (fun hHeld => ?_); refine with_tabW spec_Match.tab17 spec_Match.bits17 (fun HT_ HW_ => ?_)
       generalize w34.drew = w35 at HO_4 HO_7 HO_8 HL197_0 HO200 HR197_0 HB HL201_0 HR201_0 hx201_0 hx202_0 hHeld ⊢
       refine pI_ 0 53 (bqz 11 1) ?_
       refine jI_ 1 54 ?_
       refine jI_ 3 56 ?_
       refine jI_ 6 59 ?_
       refine jI_ 9 62 ?_
       refine sI2_ 2 55 ?_
       refine jI_ 4 57 ?_
       refine sI2_ 5 58 ?_
       refine one_ (i := 7) (N := some 60) (bqz 11 767) rfl rfl qzc (by decide) (fun K hK => ?_)
       refine goes_ Try.func35 (by kernel_rfl) rfl #[.slice Ao36 t198.length co36] (by rfl) rfl rfl qz4 ?_
       with_reducible refine (spec_l4Least.calls k3 _ _ t198 t203 _ ?side1 ?side2 A22.out).mono ?_
       (case side1 => repeat (first | exact (Kd.S_reads' HO200.out).2.2 | (with_reducible refine Kd.C_alloc ?_ _) | (with_reducible refine Kd.C_drewN ?_ _) | (with_reducible refine Kd.C_drew ?_)))
       (case side2 => exact (Kd.S_reads' HO200.out).2.1)
       rintro e w37 ⟨rfl, hb⟩
       have HS0_ := (hb.cell (World.block_lt_of_cell? _ _ (hHeld.1))).trans (hHeld.1)
       have HS1_ := (hb.cell (World.block_lt_of_cell? _ _ (hHeld.2))).trans (hHeld.2)
       refine ⟨_, rfl, ?_⟩
       replace HO_4 := aM (Kd.R_below (rr_ HO_4.out) hb)
       replace HO_7 := aM (Kd.V_below qz19 hb)
       replace HO_8 := aM (Kd.R_below (rr_ HO_8.out) hb)
       replace HL197_0 := aM (Kd.V_below qz18 hb)
       replace HO200 := aM (Kd.S_below (rs_ HO200.out) hb)
       replace HL201_0 := aM (Kd.V_below qz26 hb)
       replace HR197_0 := aM (Kd.C_below qz11 hb)
       replace HR201_0 := aM (Kd.C_below qz12 hb)
       replace HB := bS_ hb
       (try clear hb)
       (try clear hb2)
       (try clear hk)
       (try clear hi)
       refine hK.out _ _ ⟨HS0_, HS1_⟩ (fun hHeld => ?_)
       clear hK K
       refine nm_ 60 ?_
       refine pI_ 8 61 (bqz 11 1023) ?_
       refine jI_ 10 63 ?_
       refine done_ (done_of HT_.out (by kernel_rfl)) ?_
       obtain ⟨Ao38, co38, eo38⟩ := Kd.R_slice HO_8.out
       subst eo38
       have p204 : 0 ≤ (x10_3 : Int) := dt_
       have q204 : x10_3 < (x8_3.length : Int) := dt_
       obtain ⟨ad204, e204, hx204_0⟩ := Kd.at_int (Kd.R_reads' HO_8.out).2.2 x10_3 p204 q204
       cases e204
       replace p204 := eq_true p204
       replace q204 := eq_true q204
       try go_wp2_with (first | ((with_reducible refine gate_builtin (b := .append) (xs := #[.tmp 64, .tmp 69]) rfl ?_); (try (refine gate_guard (by rfl) ?_; dsimp only)); at_builtin; refine Kd.R_append (Kd.int .i64) (w0 := w) w.heap.size rfl (.tmp 64) (.tmp 69) 24 3 (.int .i64 0) 8 rfl Try.underlying24 info3 rfl (by decide) (by omega) u4 x4_3 (rd x8_3 x10_3) [.int .i64 (rd x8_3 x10_3)] (fun k_ => (w.heap.size ≤ k_) ∧ some k_ ≠ (.slice (some ad204) x8_3.length co38 : Value).ownBlock) (fun _ => False) rfl rfl ?aP (fun _ hk => hk.elim) ?aF ?aO ?aB ?aS ?aL ?_; (case aP => exact rfl); (case aB => exact qz1); (case aF => exact (fun k_ hk => ⟨(Nat.le_trans (below_size qz1) hk), Kd.fresh' (Kd.R_lt (rr_ HO_8.out)) k_ hk⟩)); (case aO => exact (rr_ HO_4.out)); (case aS => exact (below_size qz1)); (case aL => have := LMc25.out; omega); intro v206 w39 ho hb hg hat; rw [← Ny205.out] at ho; replace HO_7 := aM (Kd.V_afterv (ok := (fun k_ => (P0_ k_ ∨ w.heap.size ≤ k_) ∧ some k_ ≠ (.slice (some ad204) x8_3.length co38 : Value).ownBlock ∧ some k_ ≠ (.slice Ao36 t198.length co36 : Value).ownBlock)) (by (with_reducible repeat (first | apply Kd.V_alloc | apply Kd.V_drewN | apply Kd.V_drew)); exact Kd.V_mono HO_7.out (fun _ hk => ⟨⟨hk.1.1, ⟨hk.1.2.2, hk.2⟩⟩, hk.1.2.1⟩)) hg hat); replace HO_8 := aM (Kd.R_after (ok := (fun k_ => (w.heap.size ≤ k_))) (rr_ HO_8.out) hg hat); replace HL197_0 := aM (Kd.V_afterv (ok := (fun k_ => (P0_ k_ ∨ w.heap.size ≤ k_) ∧ some k_ ≠ (.slice (some ad204) x8_3.length co38 : Value).ownBlock ∧ some k_ ≠ (.slice Ao36 t198.length co36 : Value).ownBlock)) (by (with_reducible repeat (first | apply Kd.V_alloc | apply Kd.V_drewN | apply Kd.V_drew)); exact Kd.V_mono HL197_0.out (fun _ hk => ⟨⟨hk.1.1, ⟨hk.1.2.2, hk.2⟩⟩, hk.1.2.1⟩)) hg hat); replace HO200 := aM (Kd.S_after (ok := (fun k_ => (w.heap.size ≤ k_) ∧ some k_ ≠ (.slice (some ad204) x8_3.length co38 : Value).ownBlock)) (by (with_reducible repeat (first | apply Kd.S_alloc | apply Kd.S_drewN | apply Kd.S_drew)); exact Kd.S_mono HO200.out (fun _ hk => ⟨⟨hk.1.1.1, hk.2⟩, hk.1.2⟩)) hg hat); replace HL201_0 := aM (Kd.V_afterv (ok := (fun k_ => (P0_ k_ ∨ w.heap.size ≤ k_) ∧ some k_ ≠ (.slice (some ad204) x8_3.length co38 : Value).ownBlock ∧ some k_ ≠ (.slice Ao36 t198.length co36 : Value).ownBlock)) (by (with_reducible repeat (first | apply Kd.V_alloc | apply Kd.V_drewN | apply Kd.V_drew)); exact Kd.V_mono HL201_0.out (fun _ hk => ⟨⟨hk.1.1, ⟨hk.1.2.2, hk.2⟩⟩, hk.1.2.1⟩)) hg hat); replace HB := aM (hb); have HO207 := aM (ho); clear HO_4; clear ho hb hg hat; have p208 : 0 ≤ (0 : Int) := (by omega); have q208 : 0 < (x7_3.length : Int) := dt_; obtain ⟨ad208, A208_0, c208_0, e208, hx208_0, hl208_0, hi208_0⟩ := at_L1 (Kd.V_reads' HO_7.out).2.2 0 p208 q208; obtain rfl : ad197 = ad208 := (by injection e208); obtain ⟨ce208, hce208, hMe208, hcc208⟩ := Kd.V_get HO_7.out [] 0 p208 (by first | exact q208 | exact dt_ | (have e_ := (Kd.V_reads' HO_7.out).1; omega)); obtain ⟨ua208_0, uc208_0, rfl, ul208_0, ge208_0⟩ := Kd.FK_slice_open hMe208; have hv208_0 := hcc208 0 _ rfl; rw [Nat.add_zero, show ((Kd.slice 3 (Kd.int .i64))).sz = 1 from rfl, Nat.mul_one] at hv208_0; replace hv208_0 := Option.some.inj (hv208_0.symm.trans hx208_0); injection hv208_0 with hva_ hvn_ hvc_; rw [hva_] at ge208_0; rw [hvc_] at ul208_0; have HL208_0 := aM (show Kd.V (Kd.int .i64) 3 _ w.heap.size _ _ (rd_L1 x7_3 0) from Kd.V_mk ul208_0 ge208_0); clear hva_ hvn_ hvc_ ge208_0 ul208_0; clear hcc208 hce208; have qi208 : (0 < x7_3.length) = True := eq_true (by omega); (try rw [show ((0 : Int)).toNat = 0 from rfl] at hx208_0); (try rw [Addr.add_zero'] at hx208_0); have HR208_0 := aM hi208_0; have HC208_0 := aM hl208_0; clear hi208_0 hl208_0; replace p208 := eq_true p208; replace q208 := eq_true q208; have p209 : 0 ≤ (x10_3 : Int) := dt_; have q209 : x10_3 < ((rd_L1 x7_3 0).length : Int) := dt_; obtain ⟨ad209, e209, hx209_0⟩ := Kd.at_int qz39 x10_3 p209 q209; cases e209; replace p209 := eq_true p209; replace q209 := eq_true q209))
       replace HO_7 := aM (Kd.V_drew HO_7.out)
       replace HO_8 := aM (Kd.R_drew HO_8.out)
       replace HL197_0 := aM (Kd.V_drew HL197_0.out)
       replace HO200 := aM (Kd.S_drew HO200.out)
       replace HL201_0 := aM (Kd.V_drew HL201_0.out)
       replace HO207 := aM (Kd.R_drew HO207.out)
       replace HL208_0 := aM (Kd.V_drew HL208_0.out)
       replace HR208_0 := aM (Kd.C_drew HR208_0.out)
       replace HB := aM (below_drew1 HB.out)
       have q41 : (x10_3 : Int) ≤ ((x8_3.length : Int) : Int) := dt_
       obtain ⟨i041, hi041, _, hsz41, _⟩ := info_parts info3
       have hroom41 : x8_3.length ≤ co38 := (Kd.R_reads' HO_8.out).2.1
       have hC41 : Kd.C (Kd.int .i64) _ (some ad204) x8_3.length x8_3 := (Kd.R_reads' HO_8.out).2.2
       have hcut41 := cut_to (P := Try.prog) 24 3 .i64 Try.underlying24 hi041 (some ad204) x8_3.length co38 x10_3 (dt_) q41 hroom41
       have hr41 := Kd.C_take (m := (x10_3 : Int).toNat) hC41 (by omega)
       have hy41 : y213.length = (x10_3 : Int).toNat := (by rw [Ny213.out, List.length_take]; omega)
       rw [← Ny213.out] at hr41
       rw [← hy41] at hcut41
       have HR216 := aM hr41
       have HC216 := aM (show y213.length ≤ co38 from by omega)
       clear hr41 hC41 hroom41 hi041 hsz41
       have KY41 := aM hy41
       clear hy41
       have KL41 := aM (show (x10_3 : Int).toNat ≤ x8_3.length from by omega)
       replace q41 := eq_true q41
       have q42 : ((ji29) : Int) ≤ ((x8_3.length : Int) : Int) := dt_
       obtain ⟨i042, hi042, _, hsz42, _⟩ := info_parts info3
       have hroom42 : x8_3.length ≤ co38 := (Kd.R_reads' HO_8.out).2.1
       have hC42 : Kd.C (Kd.int .i64) _ (some ad204) x8_3.length x8_3 := (Kd.R_reads' HO_8.out).2.2
       have q042 : (0 : Int) ≤ ((ji29) : Int) := dt_
       have hcut42 := cut_from (P := Try.prog) 24 3 .i64 Try.underlying24 hi042 1 hsz42 (some ad204) x8_3.length co38 (ji29) q042 q42
       have hr42 := Kd.C_drop (m := ((ji29) : Int).toNat) (c := co38) hC42 (by omega) hroom42
       obtain ⟨A42, hA42⟩ : ∃ A1, A1 = (if co38 = ((ji29) : Int).toNat then (some ad204) else ((some ad204) : Option Addr).map (·.add (((ji29) : Int).toNat * 1))) := ⟨_, rfl⟩
       obtain ⟨c42, hc42⟩ : ∃ c1, c1 = co38 - ((ji29) : Int).toNat := ⟨_, rfl⟩
       have hy42 : y220.length = x8_3.length - ((ji29) : Int).toNat := (by rw [Ny220.out, List.length_drop] <;> omega)
       rw [show (x8_3).drop ((ji29) : Int).toNat = y220 from Ny220.out.symm] at hr42
       replace hr42 : Kd.C (Kd.int .i64) _ A42 y220.length y220 := (by rw [hA42]; exact hr42)
       rw [← hy42, ← hA42, ← hc42] at hcut42
       have HR223 := aM hr42
       have HC223 := aM (show y220.length ≤ c42 from by rw [hy42, hc42]; exact Nat.sub_le_sub_right hroom42 _)
       clear hr42 hC42 hroom42 hi042 hsz42 hc42
       have KY42 := aM hy42
       have KA42 := aM hA42
       clear hy42 hA42
       have KL42 := aM (show ((ji29) : Int).toNat ≤ x8_3.length from by omega)
       replace q42 := eq_true q42
       refine start_ (n := 11) (S := fun w' => True) (ds := []) #[false, false, false, false, false, false, false, false, false, false, false] (by kernel_rfl) rfl rfl trivial (fun hHeld => ?_); refine with_tabW spec_Match.tab21 spec_Match.bits21 (fun HT_ HW_ => ?_)
       generalize w39.drew = w40 at HO_7 HO_8 HL197_0 HO200 HL201_0 HO207 HL208_0 HR208_0 HB HR216 HR223 hHeld ⊢
       refine pI_ 1 81 (bqz 11 2) ?_
       refine jI_ 2 82 ?_
       refine jI_ 3 83 ?_
       refine jI_ 5 85 ?_
       refine jI_ 6 86 ?_
       refine jI_ 7 87 ?_
       refine jI_ 8 88 ?_
       refine one_ (i := 0) (N := some 80) (bqz 11 495) rfl rfl qzc (by decide) (fun K hK => ?_)
       refine Kd.R_lit_step (Kd.int .i64) _ 3 ?hg (N := 80) ?hd (xs := ([] : List Int)) (inner := []) (ok := fun _ => True) (okp := fun _ => True) ?hr ?hp (fun _ hk => hk) trivial (Below.refl _ _) (Nat.le_refl _) (by simp) ?_; (case hd => rfl); (case hg => rfl); (case hr => exact qz8); (case hp => exact (Reps.none _ _))
       intro v211 w43 ho44 hb hg_ hnew_
       clear hg_ hnew_
       (first | rw [← Ny210.out] at ho44 | (simp only [Int.reduceToNat] at ho44; rw [← Ny210.out] at ho44))
       replace HO_7 := aM (Kd.V_elder' qz19 (Kd.R_base ho44) hb)
       replace HL197_0 := aM (Kd.V_elder' qz18 (Kd.R_base ho44) hb)
       replace HO200 := aM (Kd.S_elder' (rs_ HO200.out) (Kd.R_base ho44) hb)
       replace HL201_0 := aM (Kd.V_elder' qz26 (Kd.R_base ho44) hb)
       replace HL208_0 := aM (Kd.V_elder' (by (with_reducible repeat (first | apply Kd.V_alloc | apply Kd.V_drewN | apply Kd.V_drew)); exact HL208_0.out) (Kd.R_base ho44) hb)
       have HO212 := aM (Kd.R_lower (Kd.R_new' (Kd.R_new' (Kd.R_newM (M := fun k_ => (w.heap.size ≤ k_)) ho44 (below_size qz1) (fun k_ h_ => h_)) (Kd.R_lt (rr_ HO_8.out))) (Kd.R_lt (rr_ HO207.out))) (below_size qz1))
       replace HO_8 := aM (Kd.R_elder' (rr_ HO_8.out) (Kd.R_base ho44) hb)
       replace HO207 := aM (Kd.R_elder' (rr_ HO207.out) (Kd.R_base ho44) hb)
       replace HR208_0 := aM (Kd.C_below qz39 hb)
       replace HR216 := aM (Kd.C_below qz40 hb)
       replace HR223 := aM (Kd.C_below qz41 hb)
       replace HB := bS_ hb
       clear hb ho44
       refine hK.out _ _ trivial (fun hHeld => ?_)
       clear hK K
       refine nm_ 80 ?_
       refine one_ (i := 4) (N := some 84) (bqz 11 511) rfl rfl qzc (by decide) (fun K hK => ?_)
       refine Kd.R_append_rows_step (Kd.int .i64) (w0 := w) w.heap.size (by rfl) (.tmp 80) (.tmp 83) 24 3 (.int .i64 0) 8 rfl Try.underlying24 info3 rfl (by decide) (by omega) v211 y210 y213 _ _ _ (fun k_ => (w.heap.size ≤ k_) ∧ some k_ ≠ (.slice (some ad204) x8_3.length co38 : Value).ownBlock ∧ some k_ ≠ (v206 : Value).ownBlock) (fun _ => False) rfl rfl ?aO ?aR (fun _ _ h => h) (fun _ h => h.elim) ?aF ?aB ?aS ?aL ?_
       (case aR => repeat (first | exact qz40 | (with_reducible refine Kd.C_alloc ?_ _) | (with_reducible refine Kd.C_drewN ?_ _) | (with_reducible refine Kd.C_drew ?_)))
       (case aB => exact qz1)
       (case aF => exact (fun k_ hk => ⟨(Nat.le_trans (below_size qz1) hk), Kd.fresh' (Kd.R_lt (rr_ HO_8.out)) k_ hk, Kd.fresh' (Kd.R_lt (rr_ HO207.out)) k_ hk⟩))
       (case aO => exact (by (with_reducible repeat (first | apply Kd.R_alloc | apply Kd.R_drewN | apply Kd.R_drew)); exact Kd.R_mono HO212.out (fun _ hk => ⟨hk.1.1.1, ⟨hk.1.2, hk.2⟩⟩)))
       (case aS => exact (below_size qz1))
       (case aL => have := LMc28.out; omega)
       intro v218 w45 ho hb hg hat
       rw [← Ny217.out] at ho
       replace HO_7 := aM (Kd.V_afterv (ok := (fun k_ => (P0_ k_ ∨ w.heap.size ≤ k_) ∧ some k_ ≠ (.slice (some ad204) x8_3.length co38 : Value).ownBlock ∧ some k_ ≠ (.slice Ao36 t198.length co36 : Value).ownBlock ∧ some k_ ≠ (v206 : Value).ownBlock)) (by (with_reducible repeat (first | apply Kd.V_alloc | apply Kd.V_drewN | apply Kd.V_drew)); exact Kd.V_mono HO_7.out (fun _ hk => ⟨⟨hk.1.1.1, ⟨hk.1.1.2.1, ⟨hk.1.1.2.2, hk.1.2⟩⟩⟩, hk.2⟩)) hg hat)
       replace HL197_0 := aM (Kd.V_afterv (ok := (fun k_ => (P0_ k_ ∨ w.heap.size ≤ k_) ∧ some k_ ≠ (.slice (some ad204) x8_3.length co38 : Value).ownBlock ∧ some k_ ≠ (.slice Ao36 t198.length co36 : Value).ownBlock ∧ some k_ ≠ (v206 : Value).ownBlock)) (by (with_reducible repeat (first | apply Kd.V_alloc | apply Kd.V_drewN | apply Kd.V_drew)); exact Kd.V_mono HL197_0.out (fun _ hk => ⟨⟨hk.1.1.1, ⟨hk.1.1.2.1, ⟨hk.1.1.2.2, hk.1.2⟩⟩⟩, hk.2⟩)) hg hat)
       replace HO200 := aM (Kd.S_after (ok := (fun k_ => (w.heap.size ≤ k_) ∧ some k_ ≠ (.slice (some ad204) x8_3.length co38 : Value).ownBlock ∧ some k_ ≠ (v206 : Value).ownBlock)) (by (with_reducible repeat (first | apply Kd.S_alloc | apply Kd.S_drewN | apply Kd.S_drew)); exact Kd.S_mono HO200.out (fun _ hk => ⟨⟨hk.1.1.1, ⟨hk.1.1.2, hk.1.2⟩⟩, hk.2⟩)) hg hat)
       replace HL201_0 := aM (Kd.V_afterv (ok := (fun k_ => (P0_ k_ ∨ w.heap.size ≤ k_) ∧ some k_ ≠ (.slice (some ad204) x8_3.length co38 : Value).ownBlock ∧ some k_ ≠ (.slice Ao36 t198.length co36 : Value).ownBlock ∧ some k_ ≠ (v206 : Value).ownBlock)) (by (with_reducible repeat (first | apply Kd.V_alloc | apply Kd.V_drewN | apply Kd.V_drew)); exact Kd.V_mono HL201_0.out (fun _ hk => ⟨⟨hk.1.1.1, ⟨hk.1.1.2.1, ⟨hk.1.1.2.2, hk.1.2⟩⟩⟩, hk.2⟩)) hg hat)
       replace HO207 := aM (Kd.R_after (ok := (fun k_ => (w.heap.size ≤ k_) ∧ some k_ ≠ (.slice (some ad204) x8_3.length co38 : Value).ownBlock)) (rr_ HO207.out) hg hat)
       replace HL208_0 := aM (Kd.V_afterv (ok := (fun k_ => (P0_ k_ ∨ w.heap.size ≤ k_) ∧ some k_ ≠ (.slice (some ad204) x8_3.length co38 : Value).ownBlock ∧ some k_ ≠ (.slice Ao36 t198.length co36 : Value).ownBlock ∧ some k_ ≠ (v206 : Value).ownBlock)) (by (with_reducible repeat (first | apply Kd.V_alloc | apply Kd.V_drewN | apply Kd.V_drew)); exact Kd.V_mono HL208_0.out (fun _ hk => ⟨⟨hk.1.1.1, ⟨hk.1.1.2.1, ⟨hk.1.1.2.2, hk.1.2⟩⟩⟩, hk.2⟩)) hg hat)
       replace HB := aM (hb)
       replace HR216 := aM ((show Kd.C (Kd.int .i64) w45 (some ad204) y213.length y213 from by rw [Ny213.out]; exact Kd.C_take (m := (x10_3 : Int).toNat) ((Kd.R_reads' (Kd.R_after (ok := (fun k_ => (w.heap.size ≤ k_) ∧ some k_ ≠ (v206 : Value).ownBlock)) (rr_ HO_8.out) hg hat)).2.2) KL41.out))
       replace HR223 := aM ((show Kd.C (Kd.int .i64) w45 A42 y220.length y220 from by rw [Ny220.out, KA42.out]; exact Kd.C_drop (m := ((ji29) : Int).toNat) (c := co38) ((Kd.R_reads' (Kd.R_after (ok := (fun k_ => (w.heap.size ≤ k_) ∧ some k_ ≠ (v206 : Value).ownBlock)) (rr_ HO_8.out) hg hat)).2.2) KL42.out ((Kd.R_reads' (Kd.R_after (ok := (fun k_ => (w.heap.size ≤ k_) ∧ some k_ ≠ (v206 : Value).ownBlock)) (rr_ HO_8.out) hg hat)).2.1)))
       replace HO_8 := aM (Kd.R_after (ok := (fun k_ => (w.heap.size ≤ k_) ∧ some k_ ≠ (v206 : Value).ownBlock)) (rr_ HO_8.out) hg hat)
       have HO219 := aM (ho)
       clear HO212 ho hb hg hat
       refine hK.out _ _ trivial (fun hHeld => ?_)
       clear hK K
       refine nm_ 84 ?_
       refine one_ (i := 9) (N := some 89) (bqz 11 1023) rfl rfl qzc (by decide) (fun K hK => ?_)
       refine Kd.R_append_rows_step (Kd.int .i64) (w0 := w) w.heap.size (by rfl) (.tmp 84) (.tmp 88) 24 3 (.int .i64 0) 8 rfl Try.underlying24 info3 rfl (by decide) (by omega) v218 y217 y220 _ _ _ (fun k_ => (w.heap.size ≤ k_) ∧ some k_ ≠ (.slice (some ad204) x8_3.length co38 : Value).ownBlock ∧ some k_ ≠ (v206 : Value).ownBlock) (fun _ => False) rfl rfl ?aO ?aR (fun _ _ h => h) (fun _ h => h.elim) ?aF ?aB ?aS ?aL ?_
       (case aR => repeat (first | exact qz41 | (with_reducible refine Kd.C_alloc ?_ _) | (with_reducible refine Kd.C_drewN ?_ _) | (with_reducible refine Kd.C_drew ?_)))
       (case aB => exact qz1)
       (case aF => exact (fun k_ hk => ⟨(Nat.le_trans (below_size qz1) hk), Kd.fresh' (Kd.R_lt (rr_ HO_8.out)) k_ hk, Kd.fresh' (Kd.R_lt (rr_ HO207.out)) k_ hk⟩))
       (case aO => exact (rr_ HO219.out))
       (case aS => exact (below_size qz1))
       (case aL => have := LMc32.out; omega)
       intro v225 w46 ho hb hg hat
       rw [← Ny224.out] at ho
       replace HO_7 := aM (Kd.V_afterv (ok := (fun k_ => (P0_ k_ ∨ w.heap.size ≤ k_) ∧ some k_ ≠ (.slice (some ad204) x8_3.length co38 : Value).ownBlock ∧ some k_ ≠ (.slice Ao36 t198.length co36 : Value).ownBlock ∧ some k_ ≠ (v206 : Value).ownBlock)) qz19 hg hat)
       replace HL197_0 := aM (Kd.V_afterv (ok := (fun k_ => (P0_ k_ ∨ w.heap.size ≤ k_) ∧ some k_ ≠ (.slice (some ad204) x8_3.length co38 : Value).ownBlock ∧ some k_ ≠ (.slice Ao36 t198.length co36 : Value).ownBlock ∧ some k_ ≠ (v206 : Value).ownBlock)) qz18 hg hat)
       replace HO200 := aM (Kd.S_after (ok := (fun k_ => (w.heap.size ≤ k_) ∧ some k_ ≠ (.slice (some ad204) x8_3.length co38 : Value).ownBlock ∧ some k_ ≠ (v206 : Value).ownBlock)) (rs_ HO200.out) hg hat)
       replace HL201_0 := aM (Kd.V_afterv (ok := (fun k_ => (P0_ k_ ∨ w.heap.size ≤ k_) ∧ some k_ ≠ (.slice (some ad204) x8_3.length co38 : Value).ownBlock ∧ some k_ ≠ (.slice Ao36 t198.length co36 : Value).ownBlock ∧ some k_ ≠ (v206 : Value).ownBlock)) qz26 hg hat)
       replace HO207 := aM (Kd.R_after (ok := (fun k_ => (w.heap.size ≤ k_) ∧ some k_ ≠ (.slice (some ad204) x8_3.length co38 : Value).ownBlock)) (rr_ HO207.out) hg hat)
       replace HL208_0 := aM (Kd.V_afterv (ok := (fun k_ => (P0_ k_ ∨ w.heap.size ≤ k_) ∧ some k_ ≠ (.slice (some ad204) x8_3.length co38 : Value).ownBlock ∧ some k_ ≠ (.slice Ao36 t198.length co36 : Value).ownBlock ∧ some k_ ≠ (v206 : Value).ownBlock)) (by (with_reducible repeat (first | apply Kd.V_alloc | apply Kd.V_drewN | apply Kd.V_drew)); exact HL208_0.out) hg hat)
       replace HB := aM (hb)
       replace HR216 := aM ((show Kd.C (Kd.int .i64) w46 (some ad204) y213.length y213 from by rw [Ny213.out]; exact Kd.C_take (m := (x10_3 : Int).toNat) ((Kd.R_reads' (Kd.R_after (ok := (fun k_ => (w.heap.size ≤ k_) ∧ some k_ ≠ (v206 : Value).ownBlock)) (rr_ HO_8.out) hg hat)).2.2) KL41.out))
       replace HR223 := aM ((show Kd.C (Kd.int .i64) w46 A42 y220.length y220 from by rw [Ny220.out, KA42.out]; exact Kd.C_drop (m := ((ji29) : Int).toNat) (c := co38) ((Kd.R_reads' (Kd.R_after (ok := (fun k_ => (w.heap.size ≤ k_) ∧ some k_ ≠ (v206 : Value).ownBlock)) (rr_ HO_8.out) hg hat)).2.2) KL42.out ((Kd.R_reads' (Kd.R_after (ok := (fun k_ => (w.heap.size ≤ k_) ∧ some k_ ≠ (v206 : Value).ownBlock)) (rr_ HO_8.out) hg hat)).2.1)))
       replace HO_8 := aM (Kd.R_after (ok := (fun k_ => (w.heap.size ≤ k_) ∧ some k_ ≠ (v206 : Value).ownBlock)) (rr_ HO_8.out) hg hat)
       have HO226 := aM (ho)
       clear HO219 ho hb hg hat
       refine hK.out _ _ trivial (fun hHeld => ?_)
       clear hK K
       refine nm_ 89 ?_
       refine pI_ 10 8 (bqz 11 2047) ?_
       refine done_ (done_of HT_.out (by kernel_rfl)) ?_
       try go_wp2
       go_roundg k3
       case measure => have := HJ4.out; have := HK2.out; have := HK3.out; omega
       case rel => exact ⟨(y205), (wrap64 (x6_3 - (rd (rd_L1 x7_3 0) x10_3))), (t198), (y224), qz3, H', ⟨by have := HJ4.out; have := HK2.out; have := HK3.out; omega⟩, ⟨by (with_reducible repeat (first | apply Kd.R_alloc | apply Kd.R_drewN | apply Kd.R_drew)); exact Kd.R_mono HO207.out (fun _ hk => ⟨hk.1.1, hk.2⟩)⟩, ⟨Kd.V_mono (Kd.S_V (rs_ HO200.out)) (fun k_ hk => by first | exact ⟨(.inr (hk.1.1)), ⟨hk.1.2.2, hk.2⟩⟩ | exact (.inr (hk)))⟩, ⟨by (with_reducible repeat (first | apply Kd.R_alloc | apply Kd.R_drewN | apply Kd.R_drew)); exact Kd.R_mono HO226.out (fun _ hk => ⟨hk.1, hk.2.2⟩)⟩, ⟨qz1⟩⟩
       }
       {
       exact an_ c32 H
       }
       }
       {
       exact an_ c31 H
       }
       }
       {
       exact an_ c30 H
       }
       }
       {
       exact an_ c28 H
       }
       }
       {
       exact an_ c27 H
       }
       }
       {
       exact an_ c25 H
       }
       }
       {
       exact an_ c24 H
       }
       }
       {
       rw [if_neg c23] at H
       have c23b0 := beq_eq_false_iff_ne.mpr c23
       have c23b1 := bne_iff_ne.mpr c23
       have H' := aM H
       clear H
       obtain ⟨Ao47, co47, eo47⟩ := Kd.V_slice HO_7.out
       subst eo47
       have p197 : 0 ≤ (0 : Int) := (by omega)
       have q197 : 0 < (x7_3.length : Int) := dt_
       obtain ⟨ad197, A197_0, c197_0, e197, hx197_0, hl197_0, hi197_0⟩ := at_L1 (Kd.V_reads' HO_7.out).2.2 0 p197 q197
       cases e197
       obtain ⟨ce197, hce197, hMe197, hcc197⟩ := Kd.V_get HO_7.out [] 0 p197 (by first | exact q197 | exact dt_ | (have e_ := (Kd.V_reads' HO_7.out).1; omega))
       obtain ⟨ua197_0, uc197_0, rfl, ul197_0, ge197_0⟩ := Kd.FK_slice_open hMe197
       have hv197_0 := hcc197 0 _ rfl
       rw [Nat.add_zero, show ((Kd.slice 3 (Kd.int .i64))).sz = 1 from rfl, Nat.mul_one] at hv197_0
       replace hv197_0 := Option.some.inj (hv197_0.symm.trans hx197_0)
       injection hv197_0 with hva_ hvn_ hvc_
       rw [hva_] at ge197_0
       rw [hvc_] at ul197_0
       have HL197_0 := aM (show Kd.V (Kd.int .i64) 3 _ w.heap.size _ _ (rd_L1 x7_3 0) from Kd.V_mk ul197_0 ge197_0)
       clear hva_ hvn_ hvc_ ge197_0 ul197_0 hcc197 hce197
       have qi197 : (0 < x7_3.length) = True := eq_true (by omega)
       (try rw [show ((0 : Int)).toNat = 0 from rfl] at hx197_0)
       (try rw [Addr.add_zero'] at hx197_0)
       have HR197_0 := aM hi197_0
       have HC197_0 := aM hl197_0
       clear hi197_0 hl197_0
       replace p197 := eq_true p197
       replace q197 := eq_true q197
       try go_wp2_with (first | ((with_reducible refine gate_callee (f := 36) rfl ?_); refine goesL_ (some 52) rfl rfl Try.func36 (by kernel_rfl) rfl #[.slice (some ad197) x7_3.length co47, .int .i64 x10_3] rfl qz4 ?_; (with_reducible refine (spec_l4Without.calls k3 _ _ x7_3 x10_3 t198 _ ?side1 ?side2 A20.out).mono ?_); (case side1 => repeat (first | exact (Kd.V_reads' HO_7.out).2.2 | (with_reducible refine Kd.C_alloc ?_ _) | (with_reducible refine Kd.C_drewN ?_ _) | (with_reducible refine Kd.C_drew ?_))); (case side2 => exact (Kd.V_reads' HO_7.out).2.1); rintro e w48 ⟨v199, rfl, ho0, hb⟩; refine ⟨_, rfl, ?_⟩; replace HO_7 := aM (Kd.V_elder' qz19 (Kd.S_base ho0) hb); replace HL197_0 := aM (Kd.V_elder' qz18 (Kd.S_base ho0) hb); have HO200 := aM (Kd.S_lower (Kd.S_new' (Kd.S_new' (Kd.S_newM (M := fun k_ => (w.heap.size ≤ k_)) ho0 (below_size qz1) (fun k_ h_ => h_)) (Kd.R_lt (rr_ HO_4.out))) (Kd.R_lt (rr_ HO_8.out))) (below_size qz1)); replace HO_4 := aM (Kd.R_below (rr_ HO_4.out) hb); replace HO_8 := aM (Kd.R_below (rr_ HO_8.out) hb); replace HR197_0 := aM (Kd.C_below qz11 hb); replace HB := bS_ hb; (try clear hb ho0)))
       replace HO_4 := aM (Kd.R_drew HO_4.out)
       replace HO_7 := aM (Kd.V_drew HO_7.out)
       replace HO_8 := aM (Kd.R_drew HO_8.out)
       replace HL197_0 := aM (Kd.V_drew HL197_0.out)
       replace HO200 := aM (Kd.S_drew HO200.out)
       replace HR197_0 := aM (Kd.C_drew HR197_0.out)
       replace HB := aM (below_drew1 HB.out)
       have p201 : 0 ≤ (0 : Int) := (by omega)
       have q201 : 0 < (x7_3.length : Int) := dt_
       obtain ⟨ad201, A201_0, c201_0, e201, hx201_0, hl201_0, hi201_0⟩ := at_L1 (Kd.V_reads' HO_7.out).2.2 0 p201 q201
       obtain rfl : ad197 = ad201 := (by injection e201)
       obtain ⟨ce201, hce201, hMe201, hcc201⟩ := Kd.V_get HO_7.out [] 0 p201 (by first | exact q201 | exact dt_ | (have e_ := (Kd.V_reads' HO_7.out).1; omega))
       obtain ⟨ua201_0, uc201_0, rfl, ul201_0, ge201_0⟩ := Kd.FK_slice_open hMe201
       have hv201_0 := hcc201 0 _ rfl
       rw [Nat.add_zero, show ((Kd.slice 3 (Kd.int .i64))).sz = 1 from rfl, Nat.mul_one] at hv201_0
       replace hv201_0 := Option.some.inj (hv201_0.symm.trans hx201_0)
       injection hv201_0 with hva_ hvn_ hvc_
       rw [hva_] at ge201_0
       rw [hvc_] at ul201_0
       have HL201_0 := aM (show Kd.V (Kd.int .i64) 3 _ w.heap.size _ _ (rd_L1 x7_3 0) from Kd.V_mk ul201_0 ge201_0)
       clear hva_ hvn_ hvc_ ge201_0 ul201_0 hcc201 hce201
       have qi201 : (0 < x7_3.length) = True := eq_true (by omega)
       (try rw [show ((0 : Int)).toNat = 0 from rfl] at hx201_0)
       (try rw [Addr.add_zero'] at hx201_0)
       have HR201_0 := aM hi201_0
       have HC201_0 := aM hl201_0
       clear hi201_0 hl201_0
       replace p201 := eq_true p201
       replace q201 := eq_true q201
       have p202 : 0 ≤ (x10_3 : Int) := dt_
       have q202 : x10_3 < ((rd_L1 x7_3 0).length : Int) := dt_
       obtain ⟨ad202, e202, hx202_0⟩ := Kd.at_int qz12 x10_3 p202 q202
       cases e202
       replace p202 := eq_true p202
       replace q202 := eq_true q202
       obtain ⟨Ao50, co50, eo50⟩ := Kd.S_slice HO200.out
       (first | subst eo50 | (injection eo50 with f1_ f2_ f3_; have f4_ := f1_.symm; have f5_ := f3_.symm; clear f1_ f2_ f3_; subst f4_; subst f5_))
       refine start_ (n := 11) (S := fun w' => w'.cell? ad197 = some (.slice (some ad202) (rd_L1 x7_3 0).length c201_0) ∧ w'.cell? (ad202.add (x10_3).toNat) = some (.int .i64 (rd (rd_L1 x7_3 0) x10_3))) (ds := []) #[false, false, false, false, false, false, false, false, false, false, false] (by kernel_rfl) rfl rfl ⟨hx201_0, hx202_0⟩ (fun hHeld => ?_); refine with_tabW spec_Match.tab17 spec_Match.bits17 (fun HT_ HW_ => ?_)
       generalize w48.drew = w49 at HO_4 HO_7 HO_8 HL197_0 HO200 HR197_0 HB HL201_0 HR201_0 hx201_0 hx202_0 hHeld ⊢
       refine pI_ 0 53 (bqz 11 1) ?_
       refine jI_ 1 54 ?_
       refine jI_ 3 56 ?_
       refine jI_ 6 59 ?_
       refine jI_ 9 62 ?_
       refine sI2_ 2 55 ?_
       refine jI_ 4 57 ?_
       refine sI2_ 5 58 ?_
       refine one_ (i := 7) (N := some 60) (bqz 11 767) rfl rfl qzc (by decide) (fun K hK => ?_)
       refine goes_ Try.func35 (by kernel_rfl) rfl #[.slice Ao50 t198.length co50] (by rfl) rfl rfl qz4 ?_
       with_reducible refine (spec_l4Least.calls k3 _ _ t198 t203 _ ?side1 ?side2 A22.out).mono ?_
       (case side1 => repeat (first | exact (Kd.S_reads' HO200.out).2.2 | (with_reducible refine Kd.C_alloc ?_ _) | (with_reducible refine Kd.C_drewN ?_ _) | (with_reducible refine Kd.C_drew ?_)))
       (case side2 => exact (Kd.S_reads' HO200.out).2.1)
       rintro e w51 ⟨rfl, hb⟩
       have HS0_ := (hb.cell (World.block_lt_of_cell? _ _ (hHeld.1))).trans (hHeld.1)
       have HS1_ := (hb.cell (World.block_lt_of_cell? _ _ (hHeld.2))).trans (hHeld.2)
       refine ⟨_, rfl, ?_⟩
       replace HO_4 := aM (Kd.R_below (rr_ HO_4.out) hb)
       replace HO_7 := aM (Kd.V_below qz19 hb)
       replace HO_8 := aM (Kd.R_below (rr_ HO_8.out) hb)
       replace HL197_0 := aM (Kd.V_below qz18 hb)
       replace HO200 := aM (Kd.S_below (rs_ HO200.out) hb)
       replace HL201_0 := aM (Kd.V_below qz26 hb)
       replace HR197_0 := aM (Kd.C_below qz11 hb)
       replace HR201_0 := aM (Kd.C_below qz12 hb)
       replace HB := bS_ hb
       (try clear hb)
       (try clear hb2)
       (try clear hk)
       (try clear hi)
       refine hK.out _ _ ⟨HS0_, HS1_⟩ (fun hHeld => ?_)
       clear hK K
       refine nm_ 60 ?_
       refine pI_ 8 61 (bqz 11 1023) ?_
       refine jI_ 10 63 ?_
       refine done_ (done_of HT_.out (by kernel_rfl)) ?_
       try go_wp2
       go_roundg k3
       case measure => have := HJ4.out; have := HK2.out; have := HK3.out; omega
       case rel => exact ⟨(x4_3), (x6_3), (x7_3), (x8_3), (wrap64 (x10_3 + 1)), qz3, qz3, H', ⟨by have := HJ4.out; have := HK2.out; have := HK3.out; omega⟩, ⟨rm_ HO_4.out⟩, ⟨by (with_reducible repeat (first | apply Kd.V_alloc | apply Kd.V_drewN | apply Kd.V_drew)); exact Kd.V_mono HO_7.out (fun _ hk => ⟨hk.1.1, ⟨hk.1.2.1, hk.1.2.2⟩⟩)⟩, ⟨rm_ HO_8.out⟩, ⟨qz1⟩⟩
       }
       }
       {
       exact an_ c21 H
       }
       }
       {
       rw [if_neg c19] at H
       have c19b0 := decide_eq_false c19
       clear c19
       have H' := aM H
       clear H
       obtain ⟨Ao52, co52, eo52⟩ := Kd.V_slice HO_7.out
       subst eo52
       have p197 : 0 ≤ (0 : Int) := (by omega)
       have q197 : 0 < (x7_3.length : Int) := dt_
       obtain ⟨ad197, A197_0, c197_0, e197, hx197_0, hl197_0, hi197_0⟩ := at_L1 (Kd.V_reads' HO_7.out).2.2 0 p197 q197
       cases e197
       obtain ⟨ce197, hce197, hMe197, hcc197⟩ := Kd.V_get HO_7.out [] 0 p197 (by first | exact q197 | exact dt_ | (have e_ := (Kd.V_reads' HO_7.out).1; omega))
       obtain ⟨ua197_0, uc197_0, rfl, ul197_0, ge197_0⟩ := Kd.FK_slice_open hMe197
       have hv197_0 := hcc197 0 _ rfl
       rw [Nat.add_zero, show ((Kd.slice 3 (Kd.int .i64))).sz = 1 from rfl, Nat.mul_one] at hv197_0
       replace hv197_0 := Option.some.inj (hv197_0.symm.trans hx197_0)
       injection hv197_0 with hva_ hvn_ hvc_
       rw [hva_] at ge197_0
       rw [hvc_] at ul197_0
       have HL197_0 := aM (show Kd.V (Kd.int .i64) 3 _ w.heap.size _ _ (rd_L1 x7_3 0) from Kd.V_mk ul197_0 ge197_0)
       clear hva_ hvn_ hvc_ ge197_0 ul197_0 hcc197 hce197
       have qi197 : (0 < x7_3.length) = True := eq_true (by omega)
       (try rw [show ((0 : Int)).toNat = 0 from rfl] at hx197_0)
       (try rw [Addr.add_zero'] at hx197_0)
       have HR197_0 := aM hi197_0
       have HC197_0 := aM hl197_0
       clear hi197_0 hl197_0
       replace p197 := eq_true p197
       replace q197 := eq_true q197
       go_wp2
       go_roundg k3
       case measure => have := HJ4.out; have := HK2.out; have := HK3.out; omega
       case rel => exact ⟨(x4_3), (x6_3), (x7_3), (x8_3), qz3, H', ⟨by have := HJ4.out; have := HK2.out; have := HK3.out; omega⟩, ⟨rm_ HO_4.out⟩, ⟨by (with_reducible repeat (first | apply Kd.V_alloc | apply Kd.V_drewN | apply Kd.V_drew)); (first | exact HO_7.out | exact Kd.R_mono HO_7.out (fun _ h_ => h_.1) | exact Kd.R_mono HO_7.out (fun _ h_ => h_.2))⟩, ⟨rm_ HO_8.out⟩, ⟨qz1⟩⟩
       }
       }
       {
       exact an_ c18 H
       }
     }
     {
     rw [if_neg c16] at H
     have c16b0 := decide_eq_false c16
     have c16b1 : decide (0 < x7_2.length) = false := decide_eq_false (by omega)
     clear c16
     simp only [Option.some.injEq, Prod.mk.injEq] at H
     obtain ⟨rfl, rfl⟩ := H
     obtain ⟨Ao53, co53, eo53⟩ := Kd.V_slice HO_7.out
     subst eo53
     go_wp2
     go_ret2
     exact ⟨_, qzw, by (with_reducible repeat (first | apply Kd.R_alloc | apply Kd.R_drewN | apply Kd.R_drew)); exact Kd.R_mono HO_4.out (fun _ hk => hk.1), qz1⟩
     }
 }
 {
 replace c3 := Bool.eq_false_iff.mpr c3
 subst c3
 rw [if_neg (show ¬ (false = true) by decide)] at H
 simp only [Option.some.injEq, Prod.mk.injEq] at H
 obtain ⟨rfl, rfl⟩ := H
 go_enter Try.func8, Try.ntmps8
 go_wp2_with (first | ((with_reducible refine gate_dst (N := 12) rfl ?_); (try (refine gate_guard (by rfl) ?_; dsimp only)); refine Kd.R_lit (Kd.int .i64) _ 3 ?hg (N := 12) ?hd (xs := ([] : List Int)) (inner := []) (ok := fun _ => True) (okp := fun _ => True) ?hr ?hp (fun _ hk => hk) trivial (Below.refl _ _) (Nat.le_refl _) (by simp) ?_; (case hd => rfl); (case hg => rfl); (case hr => exact qz8); (case hp => exact (Reps.none _ _)); intro v186 w54 ho55 hb hg_ hnew_; clear hg_ hnew_; (first | rw [← Ny185.out] at ho55 | (simp only [Int.reduceToNat] at ho55; rw [← Ny185.out] at ho55)); replace HO0 := aM (Kd.V_elder' qz28 (Kd.R_base ho55) hb); have HO187 := aM (Kd.R_lower (Kd.R_newM (M := fun k_ => (w.heap.size ≤ k_)) ho55 (below_size qz1) (fun k_ h_ => h_)) (below_size qz1)); replace HB := bS_ hb; clear hb ho55) | ((with_reducible refine gate_callee (f := 25) rfl ?_); refine goesL_ (some 14) rfl rfl Try.func25 (by kernel_rfl) rfl #[.slice A0 l0.length c0] rfl qz4 ?_; (with_reducible refine (spec_CostsOk.calls k _ _ l0 false _ ?side1 ?side2 A2.out).mono ?_); (case side1 => exact qz27); (case side2 => exact (Kd.V_reads' HO0.out).2.1); rintro e w' ⟨rfl, ⟨nd, rfl⟩⟩; refine ⟨_, rfl, ?_⟩))
 go_ret2
 exact ⟨_, qzw, by (with_reducible repeat (first | apply Kd.R_alloc | apply Kd.R_drewN | apply Kd.R_drew)); exact Kd.R_mono HO187.out (fun _ hk => hk.1), qz1⟩

 }
end Go.Proofs.Ytbebfhlejnidkaa.PFnExactMatch
