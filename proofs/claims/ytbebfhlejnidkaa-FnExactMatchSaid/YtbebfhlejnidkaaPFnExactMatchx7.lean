-- Made by a program of this session out of the translation. Lean checks it.
import Derived.Test.YtbebfhlejnidkaaPFnExactMatchx5
import Derived.Test.YtbebfhlejnidkaaPFnExactMatchx6
namespace Go.Proofs.Ytbebfhlejnidkaa.PFnExactMatch
open Go.RowKit Go.Proofs.YtbebfhlejnidkaaW.PrintWords Go.Proofs.YtbebfhlejnidkaaW.PrintLast Go.Proofs.YtbebfhlejnidkaaW.PrintMore
attribute [local go_sem] max2_int min2_int max_two min_two max_three min_three max_four min_four   -- for this text's walks alone
set_option linter.unusedVariables false
set_option linter.unusedSimpArgs false

/-! ### impl_Match: function 10 -/
mutual
def impl_Match.l0 : Nat → List (List Int) → List Int → Int → List (List Int) → Int → Int → Option (List Int × Int)
 | 0, _, _, _, _, _, _ => none
 | k + 1, x4, x5, x6, x15, x16, x17 => if x17 < x16 then (if 0 ≤ x17 then (if x17 < (x15.length : Int) then (impl_Match.l1 k x4 x5 x6 x17 (rd_L1 x15 x17) x15 x16 x17 ((rd_L1 x15 x17).length : Int) 0) else (none)) else (none)) else (if 0 < (x4.length : Int) then (if 0 < ((rd_L1 x4 0).length : Int) then (some (x5, rd (rd_L1 x4 0) 0)) else (none)) else (none))
def impl_Match.l1 : Nat → List (List Int) → List Int → Int → Int → List Int → List (List Int) → Int → Int → Int → Int → Option (List Int × Int)
 | 0, _, _, _, _, _, _, _, _, _, _ => none
 | k + 1, x4, x5, x6, x7, x8, x15, x16, x17, x23, x24 => if x24 < x23 then (if 0 ≤ x24 then (if (Go.bits .and .i64 (shr .i64 x6 x24) 1) = 1 then (impl_Match.l1 k x4 x5 x6 x7 x8 x15 x16 x17 x23 (wrap64 (x24 + 1))) else (if 0 ≤ (wrap64 (x7 + 1)) then (if (wrap64 (x7 + 1)) < (x4.length : Int) then (if 0 ≤ (Go.bits .or .i64 x6 (shl .i64 1 x24)) then (if (Go.bits .or .i64 x6 (shl .i64 1 x24)) < ((rd_L1 x4 (wrap64 (x7 + 1))).length : Int) then (if (rd (rd_L1 x4 (wrap64 (x7 + 1))) (Go.bits .or .i64 x6 (shl .i64 1 x24))) < 0 then (impl_Match.l1 k x4 x5 x6 x7 x8 x15 x16 x17 x23 (wrap64 (x24 + 1))) else (if x24 < (x8.length : Int) then (if 0 ≤ x7 then (if x7 < (x4.length : Int) then (if 0 ≤ x6 then (if x6 < ((rd_L1 x4 x7).length : Int) then (if (wrap64 ((rd x8 x24) + (rd (rd_L1 x4 (wrap64 (x7 + 1))) (Go.bits .or .i64 x6 (shl .i64 1 x24))))) = (rd (rd_L1 x4 x7) x6) then (if x5.length < 17592186044416 then (impl_Match.l0 k x4 (x5 ++ [x24]) (Go.bits .or .i64 x6 (shl .i64 1 x24)) x15 x16 (wrap64 (x17 + 1))) else (none)) else (impl_Match.l1 k x4 x5 x6 x7 x8 x15 x16 x17 x23 (wrap64 (x24 + 1)))) else (none)) else (none)) else (none)) else (none)) else (none))) else (none)) else (none)) else (none)) else (none))) else (none)) else (impl_Match.l0 k x4 x5 x6 x15 x16 (wrap64 (x17 + 1)))
end
def impl_Match.f (k : Nat) (l0 : List (List Int)) : Option (List Int × Int) := (impl_CostsOk.f k l0).bind fun t283 => (if t283 = true then ((impl_least.f k l0).bind fun t284 => (impl_Match.l0 k t284 ([] : List Int) 0 l0 (l0.length : Int) 0)) else (some (([] : List Int), (-1))))
theorem impl_Match.mono_l : ∀ k, (∀ y0 y1 y2 y3 y4 y5, LeO (impl_Match.l0 k y0 y1 y2 y3 y4 y5) (impl_Match.l0 (k + 1) y0 y1 y2 y3 y4 y5)) ∧ (∀ y0 y1 y2 y3 y4 y5 y6 y7 y8 y9, LeO (impl_Match.l1 k y0 y1 y2 y3 y4 y5 y6 y7 y8 y9) (impl_Match.l1 (k + 1) y0 y1 y2 y3 y4 y5 y6 y7 y8 y9))
 | 0 => ⟨fun _ _ _ _ _ _ r h => by simp [impl_Match.l0] at h, fun _ _ _ _ _ _ _ _ _ _ r h => by simp [impl_Match.l1] at h⟩
 | k + 1 => by
  obtain ⟨ih0, ih1⟩ := impl_Match.mono_l k
  refine ⟨?_, ?_⟩
  {
  intro y0 y1 y2 y3 y4 y5
  unfold impl_Match.l0
  have j0 := @impl_CostsOk.mono
  have j1 := @impl_least.mono
  exact qL
  }
  {
  intro y0 y1 y2 y3 y4 y5 y6 y7 y8 y9
  unfold impl_Match.l1
  have j0 := @impl_CostsOk.mono
  have j1 := @impl_least.mono
  exact qL
  }
theorem impl_Match.mono : ∀ a0 k, LeO (impl_Match.f k a0) (impl_Match.f (k + 1) a0) := by
 intro a0 k
 obtain ⟨ih0, ih1⟩ := impl_Match.mono_l k
 unfold impl_Match.f
 have j0 := @impl_CostsOk.mono
 have j1 := @impl_least.mono
 exact qL
set_option maxHeartbeats 8000000 in
set_option maxRecDepth 100000 in
theorem impl_Match.calls (k : Nat) (A0 : Option Addr) (c0 : Nat) (l0 : List (List Int)) (r1 : List Int) (r2 : Int) (w : World) (hr0 : Kd.C (Kd.slice 3 (Kd.int .i64)) w A0 l0.length l0) (hc0 : l0.length ≤ c0) (h : impl_Match.f k l0 = some (r1, r2)) :
  Calls Try.prog 10 #[.slice A0 l0.length c0] w fun e w' => ∃ v0_ : Value, e = .returned (.tuple #[v0_, .int .i64 r2]) ∧ Kd.R (Kd.int .i64) 3 w' w.heap.size (fun _ => True) v0_ r1 ∧ Below w.heap.size w w' := by
 have HR0 := aM hr0
 have HC0 := aM hc0
 clear hr0 hc0
 have HB := aM (Below.refl w.heap.size w)
 have H : ((impl_CostsOk.f k l0).bind fun t283 => (if t283 = true then ((impl_least.f k l0).bind fun t284 => (impl_Match.l0 k t284 ([] : List Int) 0 l0 (l0.length : Int) 0)) else (some (([] : List Int), (-1))))) = some (r1, r2) := h
 clear h
 replace H := Option.bind_eq_some_iff.mp H
 obtain ⟨t283, A20, H⟩ := H
 replace H : (if t283 = true then ((impl_least.f k l0).bind fun t284 => (impl_Match.l0 k t284 ([] : List Int) 0 l0 (l0.length : Int) 0)) else (some (([] : List Int), (-1)))) = some (r1, r2) := H
 have A2 := aM A20
 clear A20
 by_cases c3 : t283 = true
 {
 subst c3
 rw [if_pos rfl] at H
 replace H := Option.bind_eq_some_iff.mp H
 obtain ⟨t284, A40, H⟩ := H
 replace H : (impl_Match.l0 k t284 ([] : List Int) 0 l0 (l0.length : Int) 0) = some (r1, r2) := H
 have A4 := aM A40
 clear A40
 have H' := aM H
 clear H
 go_enter Try.func10, Try.ntmps10
 go_wp2_with (first | (go_at_call 18; (with_reducible refine (impl_CostsOk.calls k _ _ l0 true _ ?side1 ?side2 A2.out).mono ?_); (case side1 => exact qz5); (case side2 => exact HC0.out); rintro e w' ⟨rfl, ⟨nd, rfl⟩⟩; (try first | exact ⟨rfl, _, World.drewN_drewN _ _ _⟩ | exact ⟨rfl, _, Eq.trans (World.drewN_drewN _ _ _) (congrArg (World.drewN _) (Nat.add_assoc _ _ _))⟩)) | (go_at_call 38; (with_reducible refine (impl_least.calls k _ _ l0 t284 _ ?side1 ?side2 A4.out).mono ?_); (case side1 => exact qz5); (case side2 => exact HC0.out); rintro e w5 ⟨v285, rfl, ho0, hb⟩; have HO286 := aM (Kd.S_lower ho0 (below_size qz1)); replace HB := bS_ hb; (try clear hb ho0)))
 repeat (go_quiet (first | (go_at_call 18; (with_reducible refine (impl_CostsOk.calls k _ _ l0 true _ ?side1 ?side2 A2.out).mono ?_); (case side1 => exact qz5); (case side2 => exact HC0.out); rintro e w' ⟨rfl, ⟨nd, rfl⟩⟩; (try first | exact ⟨rfl, _, World.drewN_drewN _ _ _⟩ | exact ⟨rfl, _, Eq.trans (World.drewN_drewN _ _ _) (congrArg (World.drewN _) (Nat.add_assoc _ _ _))⟩)) | (go_at_call 38; (with_reducible refine (impl_least.calls k _ _ l0 t284 _ ?side1 ?side2 A4.out).mono ?_); (case side1 => exact qz5); (case side2 => exact HC0.out); rintro e w5 ⟨v285, rfl, ho0, hb⟩; have HO286 := aM (Kd.S_lower ho0 (below_size qz1)); replace HB := bS_ hb; (try clear hb ho0))); try go_wp2_with (first | (go_at_call 18; (with_reducible refine (impl_CostsOk.calls k _ _ l0 true _ ?side1 ?side2 A2.out).mono ?_); (case side1 => exact qz5); (case side2 => exact HC0.out); rintro e w' ⟨rfl, ⟨nd, rfl⟩⟩; (try first | exact ⟨rfl, _, World.drewN_drewN _ _ _⟩ | exact ⟨rfl, _, Eq.trans (World.drewN_drewN _ _ _) (congrArg (World.drewN _) (Nat.add_assoc _ _ _))⟩)) | (go_at_call 38; (with_reducible refine (impl_least.calls k _ _ l0 t284 _ ?side1 ?side2 A4.out).mono ?_); (case side1 => exact qz5); (case side2 => exact HC0.out); rintro e w5 ⟨v285, rfl, ho0, hb⟩; have HO286 := aM (Kd.S_lower ho0 (below_size qz1)); replace HB := bS_ hb; (try clear hb ho0))))
 go_loopg [5, 6, 17] k (fun kq v5 v6 v17 w' => ∃ (x5_1 : List Int) (x6_1 : Int) (x17_1 : Int), v6 = .int .i64 x6_1 ∧ v17 = .int .i64 x17_1 ∧ Aside0 (impl_Match.l0 kq t284 x5_1 x6_1 l0 (l0.length : Int) x17_1 = some (r1, r2)) ∧ Aside0 (kq ≤ k) ∧ Aside0 (Kd.S (Kd.slice 3 (Kd.int .i64)) 24 w' w.heap.size (fun k_ => some k_ ≠ (v5 : Value).ownBlock) v285 t284) ∧ Aside0 (Kd.R (Kd.int .i64) 3 w' w.heap.size (fun _ => True) v5 x5_1) ∧ Aside0 (Below w.heap.size w w'))
 case atStart => exact ⟨(([] : List Int)), (0), (0), qz3, qz3, H', ⟨Nat.le_refl _⟩, ⟨by (with_reducible repeat (first | apply Kd.S_alloc | apply Kd.S_drewN | apply Kd.S_drew)); exact Kd.S_mono HO286.out (fun _ hk => (by simp [Value.ownBlock]))⟩, ⟨by first | exact Kd.R_nil _ _ _ _ _ | exact Kd.N_nil _ _ _ _ _ | exact Kd.V_nil _ _ _ _ _ | exact Kd.Q_nil _ _ _ _ _ | exact Kd.S_nil _ _ _ _ _⟩, ⟨qz1⟩⟩
 case round =>
  clear H'
  try clear c1
  try clear p2
  try clear c3
  obtain ⟨x5_1, x6_1, x17_1, rfl, rfl, HA, HK1, HO_4, HO_5, HB⟩ := hrel
  cases gk with
  | zero => exact absurd HA.out (by simp [impl_Match.l0])
  | succ k1 =>
   have H := HA.out
   clear HA
   simp only [impl_Match.l0] at H
   by_cases c6 : x17_1 < (l0.length : Int)
   {
   rw [if_pos c6] at H
   have c6b0 := decide_eq_true c6
   clear c6
   by_cases c7 : 0 ≤ x17_1
   {
   rw [if_pos c7] at H
   have c7b0 := decide_eq_true c7
   clear c7
   by_cases c8 : x17_1 < (l0.length : Int)
   {
   rw [if_pos c8] at H
   have c8b0 := decide_eq_true c8
   clear c8
   have H' := aM H
   clear H
   have p289 : 0 ≤ (x17_1 : Int) := dt_
   have q289 : x17_1 < (l0.length : Int) := dt_
   obtain ⟨ad289, A289_0, c289_0, e289, hx289_0, hl289_0, hi289_0⟩ := at_L1 HR0.out x17_1 p289 q289
   cases e289
   replace hx289_0 := cB_ hx289_0
   have HR289_0 := aM hi289_0
   have HC289_0 := aM hl289_0
   clear hi289_0 hl289_0
   replace p289 := eq_true p289
   replace q289 := eq_true q289
   go_wp2
   repeat (go_quiet (fail); try go_wp2)
   go_loopg [5, 6, 24] k1 (fun kq v5 v6 v24 w' => ∃ (x5_2 : List Int) (x6_2 : Int) (x24_2 : Int), v6 = .int .i64 x6_2 ∧ v24 = .int .i64 x24_2 ∧ Aside0 (impl_Match.l1 kq t284 x5_2 x6_2 x17_1 (rd_L1 l0 x17_1) l0 (l0.length : Int) x17_1 ((rd_L1 l0 x17_1).length : Int) x24_2 = some (r1, r2)) ∧ Aside0 (kq ≤ k1) ∧ Aside0 (Kd.S (Kd.slice 3 (Kd.int .i64)) 24 w' w.heap.size (fun k_ => some k_ ≠ (v5 : Value).ownBlock) v285 t284) ∧ Aside0 (Kd.R (Kd.int .i64) 3 w' w.heap.size (fun _ => True) v5 x5_2) ∧ Aside0 (Below w.heap.size w w'))
   case atStart => exact ⟨(x5_1), (x6_1), (0), qz3, qz3, H', ⟨Nat.le_refl _⟩, ⟨rs_ HO_4.out⟩, ⟨rr_ HO_5.out⟩, ⟨qz1⟩⟩
   case round =>
    clear H'
    try clear c1
    try clear c2
    try clear p2
    try clear q2
    try clear hx2
    try clear c3
    try clear c6
    try clear c6b0
    try clear c7
    try clear c7b0
    try clear c8
    try clear c8b0
    try clear hx289_0
    try clear p289
    try clear q289
    obtain ⟨x5_2, x6_2, x24_2, rfl, rfl, HA, HK2, HO_4, HO_5, HB⟩ := hrel
    cases gk with
    | zero => exact absurd HA.out (by simp [impl_Match.l1])
    | succ k2 =>
     have H := HA.out
     clear HA
     simp only [impl_Match.l1] at H
     by_cases c9 : x24_2 < ((rd_L1 l0 x17_1).length : Int)
     {
     rw [if_pos c9] at H
     have c9b0 := decide_eq_true c9
     clear c9
     by_cases c10 : 0 ≤ x24_2
     {
     rw [if_pos c10] at H
     have c10b0 := eq_true c10
     have c10b1 := decide_eq_true c10
     clear c10
     obtain ⟨ji11, hji11⟩ : ∃ j_ : Int, (shr .i64 x6_2 x24_2) = j_ := ⟨_, rfl⟩
     replace H : (if (Go.bits .and .i64 (ji11) 1) = 1 then (impl_Match.l1 k2 t284 x5_2 x6_2 x17_1 (rd_L1 l0 x17_1) l0 (l0.length : Int) x17_1 ((rd_L1 l0 x17_1).length : Int) (wrap64 (x24_2 + 1))) else (if 0 ≤ (wrap64 (x17_1 + 1)) then (if (wrap64 (x17_1 + 1)) < (t284.length : Int) then (if 0 ≤ (Go.bits .or .i64 x6_2 (shl .i64 1 x24_2)) then (if (Go.bits .or .i64 x6_2 (shl .i64 1 x24_2)) < ((rd_L1 t284 (wrap64 (x17_1 + 1))).length : Int) then (if (rd (rd_L1 t284 (wrap64 (x17_1 + 1))) (Go.bits .or .i64 x6_2 (shl .i64 1 x24_2))) < 0 then (impl_Match.l1 k2 t284 x5_2 x6_2 x17_1 (rd_L1 l0 x17_1) l0 (l0.length : Int) x17_1 ((rd_L1 l0 x17_1).length : Int) (wrap64 (x24_2 + 1))) else (if x24_2 < ((rd_L1 l0 x17_1).length : Int) then (if 0 ≤ x17_1 then (if x17_1 < (t284.length : Int) then (if 0 ≤ x6_2 then (if x6_2 < ((rd_L1 t284 x17_1).length : Int) then (if (wrap64 ((rd (rd_L1 l0 x17_1) x24_2) + (rd (rd_L1 t284 (wrap64 (x17_1 + 1))) (Go.bits .or .i64 x6_2 (shl .i64 1 x24_2))))) = (rd (rd_L1 t284 x17_1) x6_2) then (if x5_2.length < 17592186044416 then (impl_Match.l0 k2 t284 (x5_2 ++ [x24_2]) (Go.bits .or .i64 x6_2 (shl .i64 1 x24_2)) l0 (l0.length : Int) (wrap64 (x17_1 + 1))) else (none)) else (impl_Match.l1 k2 t284 x5_2 x6_2 x17_1 (rd_L1 l0 x17_1) l0 (l0.length : Int) x17_1 ((rd_L1 l0 x17_1).length : Int) (wrap64 (x24_2 + 1)))) else (none)) else (none)) else (none)) else (none)) else (none))) else (none)) else (none)) else (none)) else (none))) = some (r1, r2) := by first | (rw [hji11] at H; exact H) | (simp only [hji11] at H ⊢; exact H)
     have hji11_ : (x6_2 / 2 ^ min x24_2.toNat 64) = ji11 := hji11
     have hji11z : x24_2 ≤ 64 → (x6_2 / 2 ^ x24_2.toNat) = ji11 := shr_small hji11
     by_cases c12 : (Go.bits .and .i64 (ji11) 1) = 1
     {
     rw [if_pos c12] at H
     have c12b0 := beq_iff_eq.mpr c12
     have c12b1 := bne_eq_false_iff_eq.mpr c12
     clear c12
     have H' := aM H
     clear H
     go_wp2
     repeat (go_quiet (fail); try go_wp2)
     go_roundg k2
     case measure => have := HK1.out; have := HK2.out; omega
     case rel => exact ⟨(x5_2), (x6_2), (wrap64 (x24_2 + 1)), qz3, qz3, H', ⟨by have := HK1.out; have := HK2.out; omega⟩, ⟨rm_ HO_4.out⟩, ⟨rm_ HO_5.out⟩, ⟨qz1⟩⟩
     }
     {
     rw [if_neg c12] at H
     have c12b0 := beq_eq_false_iff_ne.mpr c12
     have c12b1 := bne_iff_ne.mpr c12
     obtain ⟨ji13, hji13⟩ : ∃ j_ : Int, (wrap64 (x17_1 + 1)) = j_ := ⟨_, rfl⟩
     replace H : (if 0 ≤ (ji13) then (if (ji13) < (t284.length : Int) then (if 0 ≤ (Go.bits .or .i64 x6_2 (shl .i64 1 x24_2)) then (if (Go.bits .or .i64 x6_2 (shl .i64 1 x24_2)) < ((rd_L1 t284 (ji13)).length : Int) then (if (rd (rd_L1 t284 (ji13)) (Go.bits .or .i64 x6_2 (shl .i64 1 x24_2))) < 0 then (impl_Match.l1 k2 t284 x5_2 x6_2 x17_1 (rd_L1 l0 x17_1) l0 (l0.length : Int) x17_1 ((rd_L1 l0 x17_1).length : Int) (wrap64 (x24_2 + 1))) else (if x24_2 < ((rd_L1 l0 x17_1).length : Int) then (if 0 ≤ x17_1 then (if x17_1 < (t284.length : Int) then (if 0 ≤ x6_2 then (if x6_2 < ((rd_L1 t284 x17_1).length : Int) then (if (wrap64 ((rd (rd_L1 l0 x17_1) x24_2) + (rd (rd_L1 t284 (ji13)) (Go.bits .or .i64 x6_2 (shl .i64 1 x24_2))))) = (rd (rd_L1 t284 x17_1) x6_2) then (if x5_2.length < 17592186044416 then (impl_Match.l0 k2 t284 (x5_2 ++ [x24_2]) (Go.bits .or .i64 x6_2 (shl .i64 1 x24_2)) l0 (l0.length : Int) ji13) else (none)) else (impl_Match.l1 k2 t284 x5_2 x6_2 x17_1 (rd_L1 l0 x17_1) l0 (l0.length : Int) x17_1 ((rd_L1 l0 x17_1).length : Int) (wrap64 (x24_2 + 1)))) else (none)) else (none)) else (none)) else (none)) else (none))) else (none)) else (none)) else (none)) else (none)) = some (r1, r2) := by first | (rw [hji13] at H; exact H) | (simp only [hji13] at H ⊢; exact H)
     have hji13w : (IntKind.i64.wrap (x17_1 + 1)) = ji13 := (i64_w _).trans hji13
     by_cases c14 : 0 ≤ (ji13)
     {
     rw [if_pos c14] at H
     have c14b0 := decide_eq_true c14
     clear c14
     by_cases c15 : (ji13) < (t284.length : Int)
     {
     rw [if_pos c15] at H
     have c15b0 := decide_eq_true c15
     clear c15
     have c16b0 := eq_true (dt_ : 0 ≤ x24_2)
     obtain ⟨ji17, hji17⟩ : ∃ j_ : Int, (shl .i64 1 x24_2) = j_ := ⟨_, rfl⟩
     replace H : (if 0 ≤ (Go.bits .or .i64 x6_2 (ji17)) then (if (Go.bits .or .i64 x6_2 (ji17)) < ((rd_L1 t284 (ji13)).length : Int) then (if (rd (rd_L1 t284 (ji13)) (Go.bits .or .i64 x6_2 (ji17))) < 0 then (impl_Match.l1 k2 t284 x5_2 x6_2 x17_1 (rd_L1 l0 x17_1) l0 (l0.length : Int) x17_1 ((rd_L1 l0 x17_1).length : Int) (wrap64 (x24_2 + 1))) else (if x24_2 < ((rd_L1 l0 x17_1).length : Int) then (if 0 ≤ x17_1 then (if x17_1 < (t284.length : Int) then (if 0 ≤ x6_2 then (if x6_2 < ((rd_L1 t284 x17_1).length : Int) then (if (wrap64 ((rd (rd_L1 l0 x17_1) x24_2) + (rd (rd_L1 t284 (ji13)) (Go.bits .or .i64 x6_2 (ji17))))) = (rd (rd_L1 t284 x17_1) x6_2) then (if x5_2.length < 17592186044416 then (impl_Match.l0 k2 t284 (x5_2 ++ [x24_2]) (Go.bits .or .i64 x6_2 (ji17)) l0 (l0.length : Int) ji13) else (none)) else (impl_Match.l1 k2 t284 x5_2 x6_2 x17_1 (rd_L1 l0 x17_1) l0 (l0.length : Int) x17_1 ((rd_L1 l0 x17_1).length : Int) (wrap64 (x24_2 + 1)))) else (none)) else (none)) else (none)) else (none)) else (none))) else (none)) else (none)) = some (r1, r2) := by first | (rw [hji17] at H; exact H) | (simp only [hji17] at H ⊢; exact H)
     have hji17_ : (IntKind.i64.wrap (1 * 2 ^ min x24_2.toNat 64)) = ji17 := hji17
     have hji17z : x24_2 ≤ 64 → (IntKind.i64.wrap (1 * 2 ^ x24_2.toNat)) = ji17 := shl_small hji17
     have hji17u : (IntKind.i64.wrap (2 ^ min x24_2.toNat 64)) = ji17 := by have h_ := hji17_; rw [Int.one_mul] at h_; exact h_
     have hji17v : x24_2 ≤ 64 → (IntKind.i64.wrap (2 ^ x24_2.toNat)) = ji17 := fun hle_ => by have h_ := hji17z hle_; rw [Int.one_mul] at h_; exact h_
     have hji17y : (wrap64 (1 * 2 ^ min x24_2.toNat 64)) = ji17 := (i64_w _).symm.trans hji17_
     have hji17x : x24_2 ≤ 64 → (wrap64 (1 * 2 ^ x24_2.toNat)) = ji17 := fun h_ => (i64_w _).symm.trans (hji17z h_)
     by_cases c18 : 0 ≤ (Go.bits .or .i64 x6_2 (ji17))
     {
     rw [if_pos c18] at H
     have c18b0 := decide_eq_true c18
     clear c18
     by_cases c19 : (Go.bits .or .i64 x6_2 (ji17)) < ((rd_L1 t284 (ji13)).length : Int)
     {
     rw [if_pos c19] at H
     have c19b0 := decide_eq_true c19
     clear c19
     by_cases c20 : (rd (rd_L1 t284 (ji13)) (Go.bits .or .i64 x6_2 (ji17))) < 0
     {
     rw [if_pos c20] at H
     have c20b0 := decide_eq_true c20
     clear c20
     have H' := aM H
     clear H
     obtain ⟨Ao21, co21, eo21⟩ := Kd.S_slice HO_4.out
     subst eo21
     have p290 : 0 ≤ ((ji13) : Int) := dt_
     have q290 : (ji13) < (t284.length : Int) := dt_
     obtain ⟨ad290, A290_0, c290_0, e290, hx290_0, hl290_0, hi290_0⟩ := at_L1 (Kd.S_reads' HO_4.out).2.2 (ji13) p290 q290
     cases e290
     obtain ⟨ce290, hce290, hMe290, hcc290⟩ := Kd.S_get HO_4.out [] (ji13) p290 (by first | exact q290 | exact dt_ | (have e_ := (Kd.S_reads' HO_4.out).1; omega))
     obtain ⟨ve290_0, rfl, ge290_0⟩ := hMe290
     have hv290_0 := hcc290 0 _ rfl
     rw [Nat.add_zero, show ((Kd.slice 3 (Kd.int .i64))).sz = 1 from rfl, Nat.mul_one] at hv290_0
     replace hv290_0 := Option.some.inj (hv290_0.symm.trans hx290_0)
     rw [hv290_0] at ge290_0
     have HL290_0 := aM (show Kd.R (Kd.int .i64) 3 _ _ _ _ (rd_L1 t284 (ji13)) from ge290_0)
     clear hv290_0 ge290_0 hcc290 hce290
     have HR290_0 := aM hi290_0
     have HC290_0 := aM hl290_0
     clear hi290_0 hl290_0
     replace p290 := eq_true p290
     replace q290 := eq_true q290
     have p291 : 0 ≤ ((Go.bits .or .i64 x6_2 (ji17)) : Int) := dt_
     have q291 : (Go.bits .or .i64 x6_2 (ji17)) < ((rd_L1 t284 (ji13)).length : Int) := dt_
     obtain ⟨ad291, e291, hx291_0⟩ := Kd.at_int qz24 (Go.bits .or .i64 x6_2 (ji17)) p291 q291
     cases e291
     replace p291 := eq_true p291
     replace q291 := eq_true q291
     go_wp2
     repeat (go_quiet (fail); try go_wp2)
     go_roundg k2
     case measure => have := HK1.out; have := HK2.out; omega
     case rel => exact ⟨(x5_2), (x6_2), (wrap64 (x24_2 + 1)), qz3, qz3, H', ⟨by have := HK1.out; have := HK2.out; omega⟩, ⟨rm_ HO_4.out⟩, ⟨rm_ HO_5.out⟩, ⟨qz1⟩⟩
     }
     {
     rw [if_neg c20] at H
     have c20b0 := decide_eq_false c20
     clear c20
     by_cases c22 : x24_2 < ((rd_L1 l0 x17_1).length : Int)
     {
     rw [if_pos c22] at H
     have c22b0 := decide_eq_true c22
     clear c22
     have c23b0 := eq_true (dt_ : 0 ≤ x24_2)
     by_cases c25 : 0 ≤ x17_1
     {
     rw [if_pos c25] at H
     have c25b0 := decide_eq_true c25
     clear c25
     by_cases c26 : x17_1 < (t284.length : Int)
     {
     rw [if_pos c26] at H
     have c26b0 := decide_eq_true c26
     clear c26
     by_cases c27 : 0 ≤ x6_2
     {
     rw [if_pos c27] at H
     have c27b0 := decide_eq_true c27
     clear c27
     by_cases c28 : x6_2 < ((rd_L1 t284 x17_1).length : Int)
     {
     rw [if_pos c28] at H
     have c28b0 := decide_eq_true c28
     clear c28
     by_cases c29 : (wrap64 ((rd (rd_L1 l0 x17_1) x24_2) + (rd (rd_L1 t284 (ji13)) (Go.bits .or .i64 x6_2 (ji17))))) = (rd (rd_L1 t284 x17_1) x6_2)
     {
     rw [if_pos c29] at H
     have c29b0 := beq_iff_eq.mpr c29
     have c29b1 := bne_eq_false_iff_eq.mpr c29
     clear c29
     by_cases c30 : x5_2.length < 17592186044416
     {
     rw [if_pos c30] at H
     have LMc30 := aM c30
     clear c30
     obtain ⟨y297, hy297⟩ : ∃ y_ : List Int, y_ = (x5_2 ++ [x24_2]) := ⟨_, rfl⟩
     replace H : (impl_Match.l0 k2 t284 y297 (Go.bits .or .i64 x6_2 (ji17)) l0 (l0.length : Int) ji13) = some (r1, r2) := by first | (rw [hy297]; with_reducible exact H) | (have H2_ := (Option.bind_some _ _).symm.trans H; rw [hy297]; with_reducible exact H2_) | (have H2_ := (Option.bind_some _ _).symm.trans H; with_reducible exact H2_) | with_reducible exact H | (rw [hy297]; exact H) | exact H
     have Ny297 := aM hy297
     clear hy297
     have c31b0 := eq_true (dt_ : 0 ≤ x24_2)
     have H' := aM H
     clear H
     obtain ⟨Ao33, co33, eo33⟩ := Kd.S_slice HO_4.out
     subst eo33
     have p290 : 0 ≤ ((ji13) : Int) := dt_
     have q290 : (ji13) < (t284.length : Int) := dt_
     obtain ⟨ad290, A290_0, c290_0, e290, hx290_0, hl290_0, hi290_0⟩ := at_L1 (Kd.S_reads' HO_4.out).2.2 (ji13) p290 q290
     cases e290
     obtain ⟨ce290, hce290, hMe290, hcc290⟩ := Kd.S_get HO_4.out [] (ji13) p290 (by first | exact q290 | exact dt_ | (have e_ := (Kd.S_reads' HO_4.out).1; omega))
     obtain ⟨ve290_0, rfl, ge290_0⟩ := hMe290
     have hv290_0 := hcc290 0 _ rfl
     rw [Nat.add_zero, show ((Kd.slice 3 (Kd.int .i64))).sz = 1 from rfl, Nat.mul_one] at hv290_0
     replace hv290_0 := Option.some.inj (hv290_0.symm.trans hx290_0)
     rw [hv290_0] at ge290_0
     have HL290_0 := aM (show Kd.R (Kd.int .i64) 3 _ _ _ _ (rd_L1 t284 (ji13)) from ge290_0)
     clear hv290_0 ge290_0 hcc290 hce290
     have HR290_0 := aM hi290_0
     have HC290_0 := aM hl290_0
     clear hi290_0 hl290_0
     replace p290 := eq_true p290
     replace q290 := eq_true q290
     have p291 : 0 ≤ ((Go.bits .or .i64 x6_2 (ji17)) : Int) := dt_
     have q291 : (Go.bits .or .i64 x6_2 (ji17)) < ((rd_L1 t284 (ji13)).length : Int) := dt_
     obtain ⟨ad291, e291, hx291_0⟩ := Kd.at_int qz24 (Go.bits .or .i64 x6_2 (ji17)) p291 q291
     cases e291
     replace p291 := eq_true p291
     replace q291 := eq_true q291
     have p292 : 0 ≤ (x24_2 : Int) := dt_
     have q292 : x24_2 < ((rd_L1 l0 x17_1).length : Int) := dt_
     obtain ⟨ad292, e292, hx292_0⟩ := Kd.at_int HR289_0.out x24_2 p292 q292
     cases e292
     replace hx292_0 := cB_ hx292_0
     replace p292 := eq_true p292
     replace q292 := eq_true q292
     have p293 : 0 ≤ ((ji13) : Int) := dt_
     have q293 : (ji13) < (t284.length : Int) := dt_
     obtain ⟨ad293, A293_0, c293_0, e293, hx293_0, hl293_0, hi293_0⟩ := at_L1 (Kd.S_reads' HO_4.out).2.2 (ji13) p293 q293
     obtain rfl : ad290 = ad293 := (by injection e293)
     obtain ⟨ce293, hce293, hMe293, hcc293⟩ := Kd.S_get HO_4.out [] (ji13) p293 (by first | exact q293 | exact dt_ | (have e_ := (Kd.S_reads' HO_4.out).1; omega))
     obtain ⟨ve293_0, rfl, ge293_0⟩ := hMe293
     have hv293_0 := hcc293 0 _ rfl
     rw [Nat.add_zero, show ((Kd.slice 3 (Kd.int .i64))).sz = 1 from rfl, Nat.mul_one] at hv293_0
     replace hv293_0 := Option.some.inj (hv293_0.symm.trans hx293_0)
     rw [hv293_0] at ge293_0
     have HL293_0 := aM (show Kd.R (Kd.int .i64) 3 _ _ _ _ (rd_L1 t284 (ji13)) from ge293_0)
     clear hv293_0 ge293_0 hcc293 hce293
     have HR293_0 := aM hi293_0
     have HC293_0 := aM hl293_0
     clear hi293_0 hl293_0
     replace p293 := eq_true p293
     replace q293 := eq_true q293
     have ea_ := Option.some.inj (hx290_0.symm.trans hx293_0)
     injection ea_ with ea_ en_ ec_
     subst ea_
     subst ec_
     clear en_
     have p294 : 0 ≤ ((Go.bits .or .i64 x6_2 (ji17)) : Int) := dt_
     have q294 : (Go.bits .or .i64 x6_2 (ji17)) < ((rd_L1 t284 (ji13)).length : Int) := dt_
     obtain ⟨ad294, e294, hx294_0⟩ := Kd.at_int qz37 (Go.bits .or .i64 x6_2 (ji17)) p294 q294
     cases e294
     replace p294 := eq_true p294
     replace q294 := eq_true q294
     have p295 : 0 ≤ (x17_1 : Int) := dt_
     have q295 : x17_1 < (t284.length : Int) := dt_
     obtain ⟨ad295, A295_0, c295_0, e295, hx295_0, hl295_0, hi295_0⟩ := at_L1 (Kd.S_reads' HO_4.out).2.2 x17_1 p295 q295
     obtain rfl : ad290 = ad295 := (by injection e295)
     obtain ⟨ce295, hce295, hMe295, hcc295⟩ := Kd.S_get HO_4.out [] x17_1 p295 (by first | exact q295 | exact dt_ | (have e_ := (Kd.S_reads' HO_4.out).1; omega))
     obtain ⟨ve295_0, rfl, ge295_0⟩ := hMe295
     have hv295_0 := hcc295 0 _ rfl
     rw [Nat.add_zero, show ((Kd.slice 3 (Kd.int .i64))).sz = 1 from rfl, Nat.mul_one] at hv295_0
     replace hv295_0 := Option.some.inj (hv295_0.symm.trans hx295_0)
     rw [hv295_0] at ge295_0
     have HL295_0 := aM (show Kd.R (Kd.int .i64) 3 _ _ _ _ (rd_L1 t284 x17_1) from ge295_0)
     clear hv295_0 ge295_0 hcc295 hce295
     have HR295_0 := aM hi295_0
     have HC295_0 := aM hl295_0
     clear hi295_0 hl295_0
     replace p295 := eq_true p295
     replace q295 := eq_true q295
     have p296 : 0 ≤ (x6_2 : Int) := dt_
     have q296 : x6_2 < ((rd_L1 t284 x17_1).length : Int) := dt_
     obtain ⟨ad296, e296, hx296_0⟩ := Kd.at_int qz38 x6_2 p296 q296
     cases e296
     replace p296 := eq_true p296
     replace q296 := eq_true q296
     go_wp2_with (first | ((with_reducible refine gate_builtin (b := .append) (xs := #[.tmp 72, .tmp 74]) rfl ?_); at_builtin; refine Kd.R_append (Kd.int .i64) (w0 := w) w.heap.size rfl (.tmp 72) (.tmp 74) 24 3 (.int .i64 0) 8 rfl Try.underlying24 info3 rfl (by decide) (by omega) u5 x5_2 x24_2 [.int .i64 x24_2] (fun _ => True) (fun _ => False) rfl rfl ?aP (fun _ hk => hk.elim) ?aF ?aO ?aB ?aS ?aL ?_; (case aP => exact rfl); (case aB => exact qz1); (case aF => exact (fun _ _ => trivial)); (case aO => exact (rr_ HO_5.out)); (case aS => exact (below_size qz1)); (case aL => have := LMc30.out; omega); intro v298 w34 ho hb hg hat; rw [← Ny297.out] at ho; replace HO_4 := aM (Kd.S_after (ok := (fun _ => True)) qz32 hg hat); replace HL290_0 := aM (Kd.R_after (ok := (fun k_ => some k_ ≠ (.slice (some ad290) t284.length co33 : Value).ownBlock)) qz29 hg hat); replace HL293_0 := aM (Kd.R_after (ok := (fun k_ => some k_ ≠ (.slice (some ad290) t284.length co33 : Value).ownBlock)) qz30 hg hat); replace HL295_0 := aM (Kd.R_after (ok := (fun k_ => some k_ ≠ (.slice (some ad290) t284.length co33 : Value).ownBlock)) qz31 hg hat); replace HB := aM (hb); have HO299 := aM (ho); clear HO_5; clear ho hb hg hat))
     repeat (go_quiet (first | ((with_reducible refine gate_builtin (b := .append) (xs := #[.tmp 72, .tmp 74]) rfl ?_); at_builtin; refine Kd.R_append (Kd.int .i64) (w0 := w) w.heap.size rfl (.tmp 72) (.tmp 74) 24 3 (.int .i64 0) 8 rfl Try.underlying24 info3 rfl (by decide) (by omega) u5 x5_2 x24_2 [.int .i64 x24_2] (fun _ => True) (fun _ => False) rfl rfl ?aP (fun _ hk => hk.elim) ?aF ?aO ?aB ?aS ?aL ?_; (case aP => exact rfl); (case aB => exact qz1); (case aF => exact (fun _ _ => trivial)); (case aO => exact (rr_ HO_5.out)); (case aS => exact (below_size qz1)); (case aL => have := LMc30.out; omega); intro v298 w34 ho hb hg hat; rw [← Ny297.out] at ho; replace HO_4 := aM (Kd.S_after (ok := (fun _ => True)) qz32 hg hat); replace HL290_0 := aM (Kd.R_after (ok := (fun k_ => some k_ ≠ (.slice (some ad290) t284.length co33 : Value).ownBlock)) qz29 hg hat); replace HL293_0 := aM (Kd.R_after (ok := (fun k_ => some k_ ≠ (.slice (some ad290) t284.length co33 : Value).ownBlock)) qz30 hg hat); replace HL295_0 := aM (Kd.R_after (ok := (fun k_ => some k_ ≠ (.slice (some ad290) t284.length co33 : Value).ownBlock)) qz31 hg hat); replace HB := aM (hb); have HO299 := aM (ho); clear HO_5; clear ho hb hg hat)); try go_wp2_with (first | ((with_reducible refine gate_builtin (b := .append) (xs := #[.tmp 72, .tmp 74]) rfl ?_); at_builtin; refine Kd.R_append (Kd.int .i64) (w0 := w) w.heap.size rfl (.tmp 72) (.tmp 74) 24 3 (.int .i64 0) 8 rfl Try.underlying24 info3 rfl (by decide) (by omega) u5 x5_2 x24_2 [.int .i64 x24_2] (fun _ => True) (fun _ => False) rfl rfl ?aP (fun _ hk => hk.elim) ?aF ?aO ?aB ?aS ?aL ?_; (case aP => exact rfl); (case aB => exact qz1); (case aF => exact (fun _ _ => trivial)); (case aO => exact (rr_ HO_5.out)); (case aS => exact (below_size qz1)); (case aL => have := LMc30.out; omega); intro v298 w34 ho hb hg hat; rw [← Ny297.out] at ho; replace HO_4 := aM (Kd.S_after (ok := (fun _ => True)) qz32 hg hat); replace HL290_0 := aM (Kd.R_after (ok := (fun k_ => some k_ ≠ (.slice (some ad290) t284.length co33 : Value).ownBlock)) qz29 hg hat); replace HL293_0 := aM (Kd.R_after (ok := (fun k_ => some k_ ≠ (.slice (some ad290) t284.length co33 : Value).ownBlock)) qz30 hg hat); replace HL295_0 := aM (Kd.R_after (ok := (fun k_ => some k_ ≠ (.slice (some ad290) t284.length co33 : Value).ownBlock)) qz31 hg hat); replace HB := aM (hb); have HO299 := aM (ho); clear HO_5; clear ho hb hg hat)))
     go_roundg k2
     case measure => have := HK1.out; have := HK2.out; omega
     case rel => exact ⟨(y297), (Go.bits .or .i64 x6_2 (ji17)), (ji13), (by first | rfl | (simp; done) | (simp only [← hji17] <;> (first | rfl | simp)) | (simp [*]; done)), (by first | rfl | (simp; done) | (simp only [← hji13] <;> (first | rfl | simp)) | (simp [*]; done)), H', ⟨by have := HK1.out; have := HK2.out; omega⟩, ⟨by (with_reducible repeat (first | apply Kd.S_alloc | apply Kd.S_drewN | apply Kd.S_drew)); exact Kd.S_mono HO_4.out (fun _ hk => hk.2)⟩, ⟨rm_ HO299.out⟩, ⟨qz1⟩⟩
     }
     {
     exact an_ c30 H
     }
     }
     {
     rw [if_neg c29] at H
     have c29b0 := beq_eq_false_iff_ne.mpr c29
     have c29b1 := bne_iff_ne.mpr c29
     have H' := aM H
     clear H
     obtain ⟨Ao35, co35, eo35⟩ := Kd.S_slice HO_4.out
     subst eo35
     have p290 : 0 ≤ ((ji13) : Int) := dt_
     have q290 : (ji13) < (t284.length : Int) := dt_
     obtain ⟨ad290, A290_0, c290_0, e290, hx290_0, hl290_0, hi290_0⟩ := at_L1 (Kd.S_reads' HO_4.out).2.2 (ji13) p290 q290
     cases e290
     obtain ⟨ce290, hce290, hMe290, hcc290⟩ := Kd.S_get HO_4.out [] (ji13) p290 (by first | exact q290 | exact dt_ | (have e_ := (Kd.S_reads' HO_4.out).1; omega))
     obtain ⟨ve290_0, rfl, ge290_0⟩ := hMe290
     have hv290_0 := hcc290 0 _ rfl
     rw [Nat.add_zero, show ((Kd.slice 3 (Kd.int .i64))).sz = 1 from rfl, Nat.mul_one] at hv290_0
     replace hv290_0 := Option.some.inj (hv290_0.symm.trans hx290_0)
     rw [hv290_0] at ge290_0
     have HL290_0 := aM (show Kd.R (Kd.int .i64) 3 _ _ _ _ (rd_L1 t284 (ji13)) from ge290_0)
     clear hv290_0 ge290_0 hcc290 hce290
     have HR290_0 := aM hi290_0
     have HC290_0 := aM hl290_0
     clear hi290_0 hl290_0
     replace p290 := eq_true p290
     replace q290 := eq_true q290
     have p291 : 0 ≤ ((Go.bits .or .i64 x6_2 (ji17)) : Int) := dt_
     have q291 : (Go.bits .or .i64 x6_2 (ji17)) < ((rd_L1 t284 (ji13)).length : Int) := dt_
     obtain ⟨ad291, e291, hx291_0⟩ := Kd.at_int qz24 (Go.bits .or .i64 x6_2 (ji17)) p291 q291
     cases e291
     replace p291 := eq_true p291
     replace q291 := eq_true q291
     have p292 : 0 ≤ (x24_2 : Int) := dt_
     have q292 : x24_2 < ((rd_L1 l0 x17_1).length : Int) := dt_
     obtain ⟨ad292, e292, hx292_0⟩ := Kd.at_int HR289_0.out x24_2 p292 q292
     cases e292
     replace hx292_0 := cB_ hx292_0
     replace p292 := eq_true p292
     replace q292 := eq_true q292
     have p293 : 0 ≤ ((ji13) : Int) := dt_
     have q293 : (ji13) < (t284.length : Int) := dt_
     obtain ⟨ad293, A293_0, c293_0, e293, hx293_0, hl293_0, hi293_0⟩ := at_L1 (Kd.S_reads' HO_4.out).2.2 (ji13) p293 q293
     obtain rfl : ad290 = ad293 := (by injection e293)
     obtain ⟨ce293, hce293, hMe293, hcc293⟩ := Kd.S_get HO_4.out [] (ji13) p293 (by first | exact q293 | exact dt_ | (have e_ := (Kd.S_reads' HO_4.out).1; omega))
     obtain ⟨ve293_0, rfl, ge293_0⟩ := hMe293
     have hv293_0 := hcc293 0 _ rfl
     rw [Nat.add_zero, show ((Kd.slice 3 (Kd.int .i64))).sz = 1 from rfl, Nat.mul_one] at hv293_0
     replace hv293_0 := Option.some.inj (hv293_0.symm.trans hx293_0)
     rw [hv293_0] at ge293_0
     have HL293_0 := aM (show Kd.R (Kd.int .i64) 3 _ _ _ _ (rd_L1 t284 (ji13)) from ge293_0)
     clear hv293_0 ge293_0 hcc293 hce293
     have HR293_0 := aM hi293_0
     have HC293_0 := aM hl293_0
     clear hi293_0 hl293_0
     replace p293 := eq_true p293
     replace q293 := eq_true q293
     have ea_ := Option.some.inj (hx290_0.symm.trans hx293_0)
     injection ea_ with ea_ en_ ec_
     subst ea_
     subst ec_
     clear en_
     have p294 : 0 ≤ ((Go.bits .or .i64 x6_2 (ji17)) : Int) := dt_
     have q294 : (Go.bits .or .i64 x6_2 (ji17)) < ((rd_L1 t284 (ji13)).length : Int) := dt_
     obtain ⟨ad294, e294, hx294_0⟩ := Kd.at_int qz37 (Go.bits .or .i64 x6_2 (ji17)) p294 q294
     cases e294
     replace p294 := eq_true p294
     replace q294 := eq_true q294
     have p295 : 0 ≤ (x17_1 : Int) := dt_
     have q295 : x17_1 < (t284.length : Int) := dt_
     obtain ⟨ad295, A295_0, c295_0, e295, hx295_0, hl295_0, hi295_0⟩ := at_L1 (Kd.S_reads' HO_4.out).2.2 x17_1 p295 q295
     obtain rfl : ad290 = ad295 := (by injection e295)
     obtain ⟨ce295, hce295, hMe295, hcc295⟩ := Kd.S_get HO_4.out [] x17_1 p295 (by first | exact q295 | exact dt_ | (have e_ := (Kd.S_reads' HO_4.out).1; omega))
     obtain ⟨ve295_0, rfl, ge295_0⟩ := hMe295
     have hv295_0 := hcc295 0 _ rfl
     rw [Nat.add_zero, show ((Kd.slice 3 (Kd.int .i64))).sz = 1 from rfl, Nat.mul_one] at hv295_0
     replace hv295_0 := Option.some.inj (hv295_0.symm.trans hx295_0)
     rw [hv295_0] at ge295_0
     have HL295_0 := aM (show Kd.R (Kd.int .i64) 3 _ _ _ _ (rd_L1 t284 x17_1) from ge295_0)
     clear hv295_0 ge295_0 hcc295 hce295
     have HR295_0 := aM hi295_0
     have HC295_0 := aM hl295_0
     clear hi295_0 hl295_0
     replace p295 := eq_true p295
     replace q295 := eq_true q295
     have p296 : 0 ≤ (x6_2 : Int) := dt_
     have q296 : x6_2 < ((rd_L1 t284 x17_1).length : Int) := dt_
     obtain ⟨ad296, e296, hx296_0⟩ := Kd.at_int qz38 x6_2 p296 q296
     cases e296
     replace p296 := eq_true p296
     replace q296 := eq_true q296
     go_wp2
     repeat (go_quiet (fail); try go_wp2)
     go_roundg k2
     case measure => have := HK1.out; have := HK2.out; omega
     case rel => exact ⟨(x5_2), (x6_2), (wrap64 (x24_2 + 1)), qz3, qz3, H', ⟨by have := HK1.out; have := HK2.out; omega⟩, ⟨rm_ HO_4.out⟩, ⟨rm_ HO_5.out⟩, ⟨qz1⟩⟩
     }
     }
     {
     exact an_ c28 H
     }
     }
     {
     exact an_ c27 H
     }
     }
     {
     exact an_ c26 H
     }
     }
     {
     exact an_ c25 H
     }
     }
     {
     exact an_ c22 H
     }
     }
     }
     {
     exact an_ c19 H
     }
     }
     {
     exact an_ c18 H
     }
     }
     {
     exact an_ c15 H
     }
     }
     {
     exact an_ c14 H
     }
     }
     }
     {
     exact an_ c10 H
     }
     }
     {
     rw [if_neg c9] at H
     have c9b0 := decide_eq_false c9
     clear c9
     have H' := aM H
     clear H
     go_wp2
     repeat (go_quiet (fail); try go_wp2)
     go_roundg k2
     case measure => have := HK1.out; have := HK2.out; omega
     case rel => exact ⟨(x5_2), (x6_2), (wrap64 (x17_1 + 1)), qz3, qz3, H', ⟨by have := HK1.out; have := HK2.out; omega⟩, ⟨rm_ HO_4.out⟩, ⟨rm_ HO_5.out⟩, ⟨qz1⟩⟩
     }
   }
   {
   exact an_ c8 H
   }
   }
   {
   exact an_ c7 H
   }
   }
   {
   rw [if_neg c6] at H
   have c6b0 := decide_eq_false c6
   clear c6
   by_cases c36 : 0 < (t284.length : Int)
   {
   rw [if_pos c36] at H
   have c36b0 := decide_eq_true c36
   have c36b1 : decide (0 < t284.length) = true := decide_eq_true (by omega)
   clear c36
   by_cases c37 : 0 < ((rd_L1 t284 0).length : Int)
   {
   rw [if_pos c37] at H
   have c37b0 := decide_eq_true c37
   have c37b1 : decide (0 < (rd_L1 t284 0).length) = true := decide_eq_true (by omega)
   clear c37
   simp only [Option.some.injEq, Prod.mk.injEq] at H
   obtain ⟨rfl, rfl⟩ := H
   obtain ⟨Ao38, co38, eo38⟩ := Kd.S_slice HO_4.out
   subst eo38
   have p287 : 0 ≤ (0 : Int) := (by omega)
   have q287 : 0 < (t284.length : Int) := dt_
   obtain ⟨ad287, A287_0, c287_0, e287, hx287_0, hl287_0, hi287_0⟩ := at_L1 (Kd.S_reads' HO_4.out).2.2 0 p287 q287
   cases e287
   obtain ⟨ce287, hce287, hMe287, hcc287⟩ := Kd.S_get HO_4.out [] 0 p287 (by first | exact q287 | exact dt_ | (have e_ := (Kd.S_reads' HO_4.out).1; omega))
   obtain ⟨ve287_0, rfl, ge287_0⟩ := hMe287
   have hv287_0 := hcc287 0 _ rfl
   rw [Nat.add_zero, show ((Kd.slice 3 (Kd.int .i64))).sz = 1 from rfl, Nat.mul_one] at hv287_0
   replace hv287_0 := Option.some.inj (hv287_0.symm.trans hx287_0)
   rw [hv287_0] at ge287_0
   have HL287_0 := aM (show Kd.R (Kd.int .i64) 3 _ _ _ _ (rd_L1 t284 0) from ge287_0)
   clear hv287_0 ge287_0 hcc287 hce287
   have qi287 : (0 < t284.length) = True := eq_true (by omega)
   (try rw [show ((0 : Int)).toNat = 0 from rfl] at hx287_0)
   (try rw [Addr.add_zero'] at hx287_0)
   have HR287_0 := aM hi287_0
   have HC287_0 := aM hl287_0
   clear hi287_0 hl287_0
   replace p287 := eq_true p287
   replace q287 := eq_true q287
   have p288 : 0 ≤ (0 : Int) := (by omega)
   have q288 : 0 < ((rd_L1 t284 0).length : Int) := dt_
   obtain ⟨ad288, e288, hx288_0⟩ := Kd.at_int (by repeat (first | (with_reducible exact HR287_0.out) | (with_reducible refine Kd.C_alloc ?_ _) | (with_reducible refine Kd.C_drewN ?_ _) | (with_reducible refine Kd.C_drew ?_) | exact HR287_0.out)) 0 p288 q288
   cases e288
   have qi288 : (0 < (rd_L1 t284 0).length) = True := eq_true (by omega)
   (try rw [show ((0 : Int)).toNat = 0 from rfl] at hx288_0)
   (try rw [Addr.add_zero'] at hx288_0)
   replace p288 := eq_true p288
   replace q288 := eq_true q288
   go_wp2
   repeat (go_quiet (fail); try go_wp2)
   go_ret2
   exact ⟨_, qzw, by (with_reducible repeat (first | apply Kd.R_alloc | apply Kd.R_drewN | apply Kd.R_drew)); exact HO_5.out, qz1⟩
   }
   {
   exact an_ c37 H
   }
   }
   {
   exact an_ c36 H
   }
   }
 }
 {
 replace c3 := Bool.eq_false_iff.mpr c3
 subst c3
 rw [if_neg (show ¬ (false = true) by decide)] at H
 simp only [Option.some.injEq, Prod.mk.injEq] at H
 obtain ⟨rfl, rfl⟩ := H
 go_enter Try.func10, Try.ntmps10
 go_wp2_with (first | (go_at_call 18; (with_reducible refine (impl_CostsOk.calls k _ _ l0 false _ ?side1 ?side2 A2.out).mono ?_); (case side1 => exact qz5); (case side2 => exact HC0.out); rintro e w' ⟨rfl, ⟨nd, rfl⟩⟩; (try first | exact ⟨rfl, _, World.drewN_drewN _ _ _⟩ | exact ⟨rfl, _, Eq.trans (World.drewN_drewN _ _ _) (congrArg (World.drewN _) (Nat.add_assoc _ _ _))⟩)))
 repeat (go_quiet (first | (go_at_call 18; (with_reducible refine (impl_CostsOk.calls k _ _ l0 false _ ?side1 ?side2 A2.out).mono ?_); (case side1 => exact qz5); (case side2 => exact HC0.out); rintro e w' ⟨rfl, ⟨nd, rfl⟩⟩; (try first | exact ⟨rfl, _, World.drewN_drewN _ _ _⟩ | exact ⟨rfl, _, Eq.trans (World.drewN_drewN _ _ _) (congrArg (World.drewN _) (Nat.add_assoc _ _ _))⟩))); try go_wp2_with (first | (go_at_call 18; (with_reducible refine (impl_CostsOk.calls k _ _ l0 false _ ?side1 ?side2 A2.out).mono ?_); (case side1 => exact qz5); (case side2 => exact HC0.out); rintro e w' ⟨rfl, ⟨nd, rfl⟩⟩; (try first | exact ⟨rfl, _, World.drewN_drewN _ _ _⟩ | exact ⟨rfl, _, Eq.trans (World.drewN_drewN _ _ _) (congrArg (World.drewN _) (Nat.add_assoc _ _ _))⟩))))
 go_ret2
 exact ⟨_, qzw, by first | exact Kd.R_nil _ _ _ _ _ | exact Kd.N_nil _ _ _ _ _ | exact Kd.V_nil _ _ _ _ _ | exact Kd.Q_nil _ _ _ _ _ | exact Kd.S_nil _ _ _ _ _, qz1⟩

 }
/-! ### laws_eqIntS: function 11 -/
def laws_eqIntS.l0 : Nat → List Int → List Int → Int → Option (Bool)
 | 0, _, _, _ => none
 | k + 1, x0, x1, x5 => if x5 < (x0.length : Int) then (if 0 ≤ x5 then (if x5 < (x1.length : Int) then (if (rd x0 x5) = (rd x1 x5) then (laws_eqIntS.l0 k x0 x1 (wrap64 (x5 + 1))) else (some false)) else (none)) else (none)) else (some true)
def laws_eqIntS.f (k : Nat) (l0 : List Int) (l1 : List Int) : Option (Bool) := if (l0.length : Int) = (l1.length : Int) then (laws_eqIntS.l0 k l0 l1 0) else (some false)
theorem laws_eqIntS.mono_l : ∀ k, (∀ y0 y1 y2, LeO (laws_eqIntS.l0 k y0 y1 y2) (laws_eqIntS.l0 (k + 1) y0 y1 y2))
 | 0 => fun _ _ _ r h => by simp [laws_eqIntS.l0] at h
 | k + 1 => by
  have ih0 := laws_eqIntS.mono_l k
  {
  intro y0 y1 y2
  unfold laws_eqIntS.l0
  exact qL
  }
theorem laws_eqIntS.mono : ∀ a0 a1 k, LeO (laws_eqIntS.f k a0 a1) (laws_eqIntS.f (k + 1) a0 a1) := by
 intro a0 a1 k
 have ih0 := laws_eqIntS.mono_l k
 unfold laws_eqIntS.f
 exact qL
set_option maxHeartbeats 8000000 in
set_option maxRecDepth 100000 in
theorem laws_eqIntS.calls (k : Nat) (A0 : Option Addr) (c0 : Nat) (l0 : List Int) (A1 : Option Addr) (c1 : Nat) (l1 : List Int) (r : Bool) (w : World) (hr0 : Kd.C (Kd.int .i64) w A0 l0.length l0) (hc0 : l0.length ≤ c0) (hr1 : Kd.C (Kd.int .i64) w A1 l1.length l1) (hc1 : l1.length ≤ c1) (h : laws_eqIntS.f k l0 l1 = some r) :
  Calls Try.prog 11 #[.slice A0 l0.length c0, .slice A1 l1.length c1] w fun e w' => e = .returned (.bool r) ∧ Drawn0 w w' := by
 have HR0 := aM hr0
 have HC0 := aM hc0
 clear hr0 hc0
 have HR1 := aM hr1
 have HC1 := aM hc1
 clear hr1 hc1
 have H : (if (l0.length : Int) = (l1.length : Int) then (laws_eqIntS.l0 k l0 l1 0) else (some false)) = some r := h
 clear h
 by_cases c3 : (l0.length : Int) = (l1.length : Int)
 {
 rw [if_pos c3] at H
 have c3b0 := beq_iff_eq.mpr c3
 have c3b1 := bne_eq_false_iff_eq.mpr c3
 have c3b2 : (l0.length == l1.length) = true := by first | simpa using c3 | (simp at c3 ⊢; omega)
 clear c3
 have H' := aM H
 clear H
 go_enter Try.func11, Try.ntmps11
 go_wp2
 repeat (go_quiet (fail); try go_wp2)
 go_loopg [5] k (fun kq v5 w' => ∃ (x5_1 : Int), v5 = .int .i64 x5_1 ∧ Aside0 (laws_eqIntS.l0 kq l0 l1 x5_1 = some r) ∧ Aside0 (kq ≤ k) ∧ Drawn0 w w')
 case atStart => exact ⟨(0), qz3, H', ⟨Nat.le_refl _⟩, by repeat (first | exact Drawn0.refl _ | apply Drawn0.step)⟩
 case round =>
  clear H'
  try clear c1
  try clear p2
  try clear c3
  try clear c3b0
  try clear c3b1
  try clear c3b2
  obtain ⟨x5_1, rfl, HA, HK1, ⟨m1, rfl⟩⟩ := hrel
  cases gk with
  | zero => exact absurd HA.out (by simp [laws_eqIntS.l0])
  | succ k1 =>
   have H := HA.out
   clear HA
   simp only [laws_eqIntS.l0] at H
   by_cases c4 : x5_1 < (l0.length : Int)
   {
   rw [if_pos c4] at H
   have c4b0 := decide_eq_true c4
   clear c4
   by_cases c5 : 0 ≤ x5_1
   {
   rw [if_pos c5] at H
   have c5b0 := decide_eq_true c5
   clear c5
   by_cases c6 : x5_1 < (l1.length : Int)
   {
   rw [if_pos c6] at H
   have c6b0 := decide_eq_true c6
   clear c6
   by_cases c7 : (rd l0 x5_1) = (rd l1 x5_1)
   {
   rw [if_pos c7] at H
   have c7b0 := beq_iff_eq.mpr c7
   have c7b1 := bne_eq_false_iff_eq.mpr c7
   clear c7
   have H' := aM H
   clear H
   have p300 : 0 ≤ (x5_1 : Int) := dt_
   have q300 : x5_1 < (l0.length : Int) := dt_
   obtain ⟨ad300, e300, hx300_0⟩ := Kd.at_int HR0.out x5_1 p300 q300
   cases e300
   replace p300 := eq_true p300
   replace q300 := eq_true q300
   have p301 : 0 ≤ (x5_1 : Int) := dt_
   have q301 : x5_1 < (l1.length : Int) := dt_
   obtain ⟨ad301, e301, hx301_0⟩ := Kd.at_int HR1.out x5_1 p301 q301
   cases e301
   replace p301 := eq_true p301
   replace q301 := eq_true q301
   go_wp2
   repeat (go_quiet (fail); try go_wp2)
   go_roundg k1
   case measure => have := HK1.out; omega
   case rel => exact ⟨(wrap64 (x5_1 + 1)), qz3, H', ⟨by have := HK1.out; omega⟩, by repeat (first | exact Drawn0.refl _ | apply Drawn0.step)⟩
   }
   {
   rw [if_neg c7] at H
   have c7b0 := beq_eq_false_iff_ne.mpr c7
   have c7b1 := bne_iff_ne.mpr c7
   obtain rfl := Option.some.inj H
   simp only [Option.some.injEq, Prod.mk.injEq] at H
   obtain ⟨rfl⟩ := H
   have p300 : 0 ≤ (x5_1 : Int) := dt_
   have q300 : x5_1 < (l0.length : Int) := dt_
   obtain ⟨ad300, e300, hx300_0⟩ := Kd.at_int HR0.out x5_1 p300 q300
   cases e300
   replace p300 := eq_true p300
   replace q300 := eq_true q300
   have p301 : 0 ≤ (x5_1 : Int) := dt_
   have q301 : x5_1 < (l1.length : Int) := dt_
   obtain ⟨ad301, e301, hx301_0⟩ := Kd.at_int HR1.out x5_1 p301 q301
   cases e301
   replace p301 := eq_true p301
   replace q301 := eq_true q301
   go_wp2
   repeat (go_quiet (fail); try go_wp2)
   go_ret
   exact ⟨by first | rfl | (simp; done) | (simp [*]; done), by repeat (first | exact Drawn0.refl _ | apply Drawn0.step)⟩
   }
   }
   {
   exact an_ c6 H
   }
   }
   {
   exact an_ c5 H
   }
   }
   {
   rw [if_neg c4] at H
   have c4b0 := decide_eq_false c4
   clear c4
   obtain rfl := Option.some.inj H
   simp only [Option.some.injEq, Prod.mk.injEq] at H
   obtain ⟨rfl⟩ := H
   go_wp2
   repeat (go_quiet (fail); try go_wp2)
   go_ret
   exact ⟨by first | rfl | (simp; done) | (simp [*]; done), by repeat (first | exact Drawn0.refl _ | apply Drawn0.step)⟩
   }
 }
 {
 rw [if_neg c3] at H
 have c3b0 := beq_eq_false_iff_ne.mpr c3
 have c3b1 := bne_iff_ne.mpr c3
 have c3b2 : (l0.length == l1.length) = false := by first | simpa using c3 | (simp at c3 ⊢; omega)
 obtain rfl := Option.some.inj H
 simp only [Option.some.injEq, Prod.mk.injEq] at H
 obtain ⟨rfl⟩ := H
 go_enter Try.func11, Try.ntmps11
 go_wp2
 repeat (go_quiet (fail); try go_wp2)
 go_ret
 exact ⟨by first | rfl | (simp; done) | (simp [*]; done), by repeat (first | exact Drawn0.refl _ | apply Drawn0.step)⟩

 }
end Go.Proofs.Ytbebfhlejnidkaa.PFnExactMatch
