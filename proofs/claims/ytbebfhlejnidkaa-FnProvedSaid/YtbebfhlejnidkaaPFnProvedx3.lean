-- Made by a program of this session out of the translation. Lean checks it.
import Derived.Test.YtbebfhlejnidkaaPFnProvedx1
import Derived.Test.YtbebfhlejnidkaaPFnProvedx2
namespace Go.Proofs.Ytbebfhlejnidkaa.PFnProved
open Go.RowKit Go.Proofs.YtbebfhlejnidkaaW.PrintWords Go.Proofs.YtbebfhlejnidkaaW.PrintLast Go.Proofs.YtbebfhlejnidkaaW.PrintMore
attribute [local go_sem] max2_int min2_int max_two min_two max_three min_three max_four min_four   -- for this text's walks alone
set_option linter.unusedVariables false
set_option linter.unusedSimpArgs false

/-! ### impl_Match: function 10 -/
mutual
def impl_Match.l0 : Nat → List (List Int) → List Int → Int → List (List Int) → Int → Int → Option (List Int × Int)
 | 0, _, _, _, _, _, _ => none
 | k + 1, x4, x5, x6, x15, x16, x17 => if x17 < x16 then (if 0 ≤ x17 then (if x17 < (x15.length : Int) then (impl_Match.l1 k x4 x5 x6 x17 (rd_L1 x15 x17) x15 x16 x17 ((rd_L1 x15 x17).length : Int) 0) else (none)) else (none)) else (if 0 < (x4.length : Int) then (if 0 < ((rd_L1 x4 0).length : Int) then (some (x5, rd (rd_L1 x4 0) 0)) else (none)) else (none))
def impl_Match.l1 : Nat → List (List Int) → List Int → Int → Int → List Int → List (List Int) → Int → Int → Int → Int → Option (List Int × Int)
 | 0, _, _, _, _, _, _, _, _, _, _ => none
 | k + 1, x4, x5, x6, x7, x8, x15, x16, x17, x23, x24 => if x24 < x23 then (if 0 ≤ x24 then (if (Go.bits .and .i64 (shr .i64 x6 x24) 1) = 1 then (impl_Match.l1 k x4 x5 x6 x7 x8 x15 x16 x17 x23 (wrap64 (x24 + 1))) else (if 0 ≤ (wrap64 (x7 + 1)) then (if (wrap64 (x7 + 1)) < (x4.length : Int) then (if 0 ≤ (Go.bits .or .i64 x6 (shl .i64 1 x24)) then (if (Go.bits .or .i64 x6 (shl .i64 1 x24)) < ((rd_L1 x4 (wrap64 (x7 + 1))).length : Int) then (if (rd (rd_L1 x4 (wrap64 (x7 + 1))) (Go.bits .or .i64 x6 (shl .i64 1 x24))) < 0 then (impl_Match.l1 k x4 x5 x6 x7 x8 x15 x16 x17 x23 (wrap64 (x24 + 1))) else (if x24 < (x8.length : Int) then (if 0 ≤ x7 then (if x7 < (x4.length : Int) then (if 0 ≤ x6 then (if x6 < ((rd_L1 x4 x7).length : Int) then (if (wrap64 ((rd x8 x24) + (rd (rd_L1 x4 (wrap64 (x7 + 1))) (Go.bits .or .i64 x6 (shl .i64 1 x24))))) = (rd (rd_L1 x4 x7) x6) then (if x5.length < 17592186044416 then (impl_Match.l0 k x4 (x5 ++ [x24]) (Go.bits .or .i64 x6 (shl .i64 1 x24)) x15 x16 (wrap64 (x17 + 1))) else (none)) else (impl_Match.l1 k x4 x5 x6 x7 x8 x15 x16 x17 x23 (wrap64 (x24 + 1)))) else (none)) else (none)) else (none)) else (none)) else (none))) else (none)) else (none)) else (none)) else (none))) else (none)) else (impl_Match.l0 k x4 x5 x6 x15 x16 (wrap64 (x17 + 1)))
end
def impl_Match.f (k : Nat) (l0 : List (List Int)) : Option (List Int × Int) := (impl_CostsOk.f k l0).bind fun t144 => (if t144 = true then ((impl_least.f k l0).bind fun t145 => (impl_Match.l0 k t145 ([] : List Int) 0 l0 (l0.length : Int) 0)) else (some (([] : List Int), (-1))))
theorem impl_Match.mono_l : ∀ k, (∀ y0 y1 y2 y3 y4 y5, LeO (impl_Match.l0 k y0 y1 y2 y3 y4 y5) (impl_Match.l0 (k + 1) y0 y1 y2 y3 y4 y5)) ∧ (∀ y0 y1 y2 y3 y4 y5 y6 y7 y8 y9, LeO (impl_Match.l1 k y0 y1 y2 y3 y4 y5 y6 y7 y8 y9) (impl_Match.l1 (k + 1) y0 y1 y2 y3 y4 y5 y6 y7 y8 y9))
 | 0 => ⟨fun _ _ _ _ _ _ r h => by simp [impl_Match.l0] at h, fun _ _ _ _ _ _ _ _ _ _ r h => by simp [impl_Match.l1] at h⟩
 | k + 1 => by
  obtain ⟨ih0, ih1⟩ := impl_Match.mono_l k
  refine ⟨?_, ?_⟩
  {
  intro y0 y1 y2 y3 y4 y5
  unfold impl_Match.l0
  have j0 := @impl_CostsOk.mono
  have j1 := @impl_least.mono
  exact qL
  }
  {
  intro y0 y1 y2 y3 y4 y5 y6 y7 y8 y9
  unfold impl_Match.l1
  have j0 := @impl_CostsOk.mono
  have j1 := @impl_least.mono
  exact qL
  }
theorem impl_Match.mono : ∀ a0 k, LeO (impl_Match.f k a0) (impl_Match.f (k + 1) a0) := by
 intro a0 k
 obtain ⟨ih0, ih1⟩ := impl_Match.mono_l k
 unfold impl_Match.f
 have j0 := @impl_CostsOk.mono
 have j1 := @impl_least.mono
 exact qL
set_option maxHeartbeats 8000000 in
set_option maxRecDepth 100000 in
theorem impl_Match.calls (k : Nat) (A0 : Option Addr) (c0 : Nat) (l0 : List (List Int)) (r1 : List Int) (r2 : Int) (w : World) (hr0 : Kd.C (Kd.slice 3 (Kd.int .i64)) w A0 l0.length l0) (hc0 : l0.length ≤ c0) (h : impl_Match.f k l0 = some (r1, r2)) :
  Calls Try.prog 10 #[.slice A0 l0.length c0] w fun e w' => ∃ v0_ : Value, e = .returned (.tuple #[v0_, .int .i64 r2]) ∧ Kd.R (Kd.int .i64) 3 w' w.heap.size (fun _ => True) v0_ r1 ∧ Below w.heap.size w w' := by
 have HR0 := aM hr0
 have HC0 := aM hc0
 clear hr0 hc0
 have HB := aM (Below.refl w.heap.size w)
 have H : ((impl_CostsOk.f k l0).bind fun t144 => (if t144 = true then ((impl_least.f k l0).bind fun t145 => (impl_Match.l0 k t145 ([] : List Int) 0 l0 (l0.length : Int) 0)) else (some (([] : List Int), (-1))))) = some (r1, r2) := h
 clear h
 replace H := Option.bind_eq_some_iff.mp H
 obtain ⟨t144, A20, H⟩ := H
 replace H : (if t144 = true then ((impl_least.f k l0).bind fun t145 => (impl_Match.l0 k t145 ([] : List Int) 0 l0 (l0.length : Int) 0)) else (some (([] : List Int), (-1)))) = some (r1, r2) := H
 have A2 := aM A20
 clear A20
 by_cases c3 : t144 = true
 {
 subst c3
 rw [if_pos rfl] at H
 replace H := Option.bind_eq_some_iff.mp H
 obtain ⟨t145, A40, H⟩ := H
 replace H : (impl_Match.l0 k t145 ([] : List Int) 0 l0 (l0.length : Int) 0) = some (r1, r2) := H
 have A4 := aM A40
 clear A40
 have H' := aM H
 clear H
 go_enter Try.func10, Try.ntmps10
 go_wp2_with (first | (go_at_call 18; (with_reducible refine (impl_CostsOk.calls k _ _ l0 true _ ?side1 ?side2 A2.out).mono ?_); (case side1 => exact qz7); (case side2 => exact HC0.out); rintro e w' ⟨rfl, ⟨nd, rfl⟩⟩; (try first | exact ⟨rfl, _, World.drewN_drewN _ _ _⟩ | exact ⟨rfl, _, Eq.trans (World.drewN_drewN _ _ _) (congrArg (World.drewN _) (Nat.add_assoc _ _ _))⟩)) | (go_at_call 38; (with_reducible refine (impl_least.calls k _ _ l0 t145 _ ?side1 ?side2 A4.out).mono ?_); (case side1 => exact qz7); (case side2 => exact HC0.out); rintro e w5 ⟨v146, rfl, ho0, hb⟩; have HO147 := aM (Kd.S_lower ho0 (below_size qz1)); replace HB := bS_ hb; (try clear hb ho0)))
 repeat (go_quiet (first | (go_at_call 18; (with_reducible refine (impl_CostsOk.calls k _ _ l0 true _ ?side1 ?side2 A2.out).mono ?_); (case side1 => exact qz7); (case side2 => exact HC0.out); rintro e w' ⟨rfl, ⟨nd, rfl⟩⟩; (try first | exact ⟨rfl, _, World.drewN_drewN _ _ _⟩ | exact ⟨rfl, _, Eq.trans (World.drewN_drewN _ _ _) (congrArg (World.drewN _) (Nat.add_assoc _ _ _))⟩)) | (go_at_call 38; (with_reducible refine (impl_least.calls k _ _ l0 t145 _ ?side1 ?side2 A4.out).mono ?_); (case side1 => exact qz7); (case side2 => exact HC0.out); rintro e w5 ⟨v146, rfl, ho0, hb⟩; have HO147 := aM (Kd.S_lower ho0 (below_size qz1)); replace HB := bS_ hb; (try clear hb ho0))); try go_wp2_with (first | (go_at_call 18; (with_reducible refine (impl_CostsOk.calls k _ _ l0 true _ ?side1 ?side2 A2.out).mono ?_); (case side1 => exact qz7); (case side2 => exact HC0.out); rintro e w' ⟨rfl, ⟨nd, rfl⟩⟩; (try first | exact ⟨rfl, _, World.drewN_drewN _ _ _⟩ | exact ⟨rfl, _, Eq.trans (World.drewN_drewN _ _ _) (congrArg (World.drewN _) (Nat.add_assoc _ _ _))⟩)) | (go_at_call 38; (with_reducible refine (impl_least.calls k _ _ l0 t145 _ ?side1 ?side2 A4.out).mono ?_); (case side1 => exact qz7); (case side2 => exact HC0.out); rintro e w5 ⟨v146, rfl, ho0, hb⟩; have HO147 := aM (Kd.S_lower ho0 (below_size qz1)); replace HB := bS_ hb; (try clear hb ho0))))
 go_loopg [5, 6, 17] k (fun kq v5 v6 v17 w' => ∃ (x5_1 : List Int) (x6_1 : Int) (x17_1 : Int), v6 = .int .i64 x6_1 ∧ v17 = .int .i64 x17_1 ∧ Aside0 (impl_Match.l0 kq t145 x5_1 x6_1 l0 (l0.length : Int) x17_1 = some (r1, r2)) ∧ Aside0 (kq ≤ k) ∧ Aside0 (Kd.S (Kd.slice 3 (Kd.int .i64)) 24 w' w.heap.size (fun k_ => some k_ ≠ (v5 : Value).ownBlock) v146 t145) ∧ Aside0 (Kd.R (Kd.int .i64) 3 w' w.heap.size (fun _ => True) v5 x5_1) ∧ Aside0 (Below w.heap.size w w'))
 case atStart => exact ⟨(([] : List Int)), (0), (0), qz5, qz5, H', ⟨Nat.le_refl _⟩, ⟨by (with_reducible repeat (first | apply Kd.S_alloc | apply Kd.S_drewN | apply Kd.S_drew)); exact Kd.S_mono HO147.out (fun _ hk => (by simp [Value.ownBlock]))⟩, ⟨by first | exact Kd.R_nil _ _ _ _ _ | exact Kd.N_nil _ _ _ _ _ | exact Kd.V_nil _ _ _ _ _ | exact Kd.Q_nil _ _ _ _ _ | exact Kd.S_nil _ _ _ _ _⟩, ⟨qz1⟩⟩
 case round =>
  clear H'
  try clear c1
  try clear p2
  try clear c3
  obtain ⟨x5_1, x6_1, x17_1, rfl, rfl, HA, HK1, HO_4, HO_5, HB⟩ := hrel
  cases gk with
  | zero => exact absurd HA.out (by simp [impl_Match.l0])
  | succ k1 =>
   have H := HA.out
   clear HA
   simp only [impl_Match.l0] at H
   by_cases c6 : x17_1 < (l0.length : Int)
   {
   rw [if_pos c6] at H
   have c6b0 := decide_eq_true c6
   clear c6
   by_cases c7 : 0 ≤ x17_1
   {
   rw [if_pos c7] at H
   have c7b0 := decide_eq_true c7
   clear c7
   by_cases c8 : x17_1 < (l0.length : Int)
   {
   rw [if_pos c8] at H
   have c8b0 := decide_eq_true c8
   clear c8
   have H' := aM H
   clear H
   have p150 : 0 ≤ (x17_1 : Int) := dt_
   have q150 : x17_1 < (l0.length : Int) := dt_
   obtain ⟨ad150, A150_0, c150_0, e150, hx150_0, hl150_0, hi150_0⟩ := at_L1 HR0.out x17_1 p150 q150
   cases e150
   replace hx150_0 := cB_ hx150_0
   have HR150_0 := aM hi150_0
   have HC150_0 := aM hl150_0
   clear hi150_0 hl150_0
   replace p150 := eq_true p150
   replace q150 := eq_true q150
   go_wp2
   repeat (go_quiet (fail); try go_wp2)
   go_loopg [5, 6, 24] k1 (fun kq v5 v6 v24 w' => ∃ (x5_2 : List Int) (x6_2 : Int) (x24_2 : Int), v6 = .int .i64 x6_2 ∧ v24 = .int .i64 x24_2 ∧ Aside0 (impl_Match.l1 kq t145 x5_2 x6_2 x17_1 (rd_L1 l0 x17_1) l0 (l0.length : Int) x17_1 ((rd_L1 l0 x17_1).length : Int) x24_2 = some (r1, r2)) ∧ Aside0 (kq ≤ k1) ∧ Aside0 (Kd.S (Kd.slice 3 (Kd.int .i64)) 24 w' w.heap.size (fun k_ => some k_ ≠ (v5 : Value).ownBlock) v146 t145) ∧ Aside0 (Kd.R (Kd.int .i64) 3 w' w.heap.size (fun _ => True) v5 x5_2) ∧ Aside0 (Below w.heap.size w w'))
   case atStart => exact ⟨(x5_1), (x6_1), (0), qz5, qz5, H', ⟨Nat.le_refl _⟩, ⟨rs_ HO_4.out⟩, ⟨rr_ HO_5.out⟩, ⟨qz1⟩⟩
   case round =>
    clear H'
    try clear c1
    try clear p1
    try clear q1
    try clear hx1
    try clear p2
    try clear c3
    try clear c6
    try clear c6b0
    try clear c7
    try clear c7b0
    try clear c8
    try clear c8b0
    try clear hx150_0
    try clear p150
    try clear q150
    obtain ⟨x5_2, x6_2, x24_2, rfl, rfl, HA, HK2, HO_4, HO_5, HB⟩ := hrel
    cases gk with
    | zero => exact absurd HA.out (by simp [impl_Match.l1])
    | succ k2 =>
     have H := HA.out
     clear HA
     simp only [impl_Match.l1] at H
     by_cases c9 : x24_2 < ((rd_L1 l0 x17_1).length : Int)
     {
     rw [if_pos c9] at H
     have c9b0 := decide_eq_true c9
     clear c9
     by_cases c10 : 0 ≤ x24_2
     {
     rw [if_pos c10] at H
     have c10b0 := eq_true c10
     have c10b1 := decide_eq_true c10
     clear c10
     obtain ⟨ji11, hji11⟩ : ∃ j_ : Int, (shr .i64 x6_2 x24_2) = j_ := ⟨_, rfl⟩
     replace H : (if (Go.bits .and .i64 (ji11) 1) = 1 then (impl_Match.l1 k2 t145 x5_2 x6_2 x17_1 (rd_L1 l0 x17_1) l0 (l0.length : Int) x17_1 ((rd_L1 l0 x17_1).length : Int) (wrap64 (x24_2 + 1))) else (if 0 ≤ (wrap64 (x17_1 + 1)) then (if (wrap64 (x17_1 + 1)) < (t145.length : Int) then (if 0 ≤ (Go.bits .or .i64 x6_2 (shl .i64 1 x24_2)) then (if (Go.bits .or .i64 x6_2 (shl .i64 1 x24_2)) < ((rd_L1 t145 (wrap64 (x17_1 + 1))).length : Int) then (if (rd (rd_L1 t145 (wrap64 (x17_1 + 1))) (Go.bits .or .i64 x6_2 (shl .i64 1 x24_2))) < 0 then (impl_Match.l1 k2 t145 x5_2 x6_2 x17_1 (rd_L1 l0 x17_1) l0 (l0.length : Int) x17_1 ((rd_L1 l0 x17_1).length : Int) (wrap64 (x24_2 + 1))) else (if x24_2 < ((rd_L1 l0 x17_1).length : Int) then (if 0 ≤ x17_1 then (if x17_1 < (t145.length : Int) then (if 0 ≤ x6_2 then (if x6_2 < ((rd_L1 t145 x17_1).length : Int) then (if (wrap64 ((rd (rd_L1 l0 x17_1) x24_2) + (rd (rd_L1 t145 (wrap64 (x17_1 + 1))) (Go.bits .or .i64 x6_2 (shl .i64 1 x24_2))))) = (rd (rd_L1 t145 x17_1) x6_2) then (if x5_2.length < 17592186044416 then (impl_Match.l0 k2 t145 (x5_2 ++ [x24_2]) (Go.bits .or .i64 x6_2 (shl .i64 1 x24_2)) l0 (l0.length : Int) (wrap64 (x17_1 + 1))) else (none)) else (impl_Match.l1 k2 t145 x5_2 x6_2 x17_1 (rd_L1 l0 x17_1) l0 (l0.length : Int) x17_1 ((rd_L1 l0 x17_1).length : Int) (wrap64 (x24_2 + 1)))) else (none)) else (none)) else (none)) else (none)) else (none))) else (none)) else (none)) else (none)) else (none))) = some (r1, r2) := by first | (rw [hji11] at H; exact H) | (simp only [hji11] at H ⊢; exact H)
     have hji11_ : (x6_2 / 2 ^ min x24_2.toNat 64) = ji11 := hji11
     have hji11z : x24_2 ≤ 64 → (x6_2 / 2 ^ x24_2.toNat) = ji11 := shr_small hji11
     by_cases c12 : (Go.bits .and .i64 (ji11) 1) = 1
     {
     rw [if_pos c12] at H
     have c12b0 := beq_iff_eq.mpr c12
     have c12b1 := bne_eq_false_iff_eq.mpr c12
     clear c12
     have H' := aM H
     clear H
     go_wp2
     repeat (go_quiet (fail); try go_wp2)
     go_roundg k2
     case measure => have := HK1.out; have := HK2.out; omega
     case rel => exact ⟨(x5_2), (x6_2), (wrap64 (x24_2 + 1)), qz5, qz5, H', ⟨by have := HK1.out; have := HK2.out; omega⟩, ⟨rm_ HO_4.out⟩, ⟨rm_ HO_5.out⟩, ⟨qz1⟩⟩
     }
     {
     rw [if_neg c12] at H
     have c12b0 := beq_eq_false_iff_ne.mpr c12
     have c12b1 := bne_iff_ne.mpr c12
     obtain ⟨ji13, hji13⟩ : ∃ j_ : Int, (wrap64 (x17_1 + 1)) = j_ := ⟨_, rfl⟩
     replace H : (if 0 ≤ (ji13) then (if (ji13) < (t145.length : Int) then (if 0 ≤ (Go.bits .or .i64 x6_2 (shl .i64 1 x24_2)) then (if (Go.bits .or .i64 x6_2 (shl .i64 1 x24_2)) < ((rd_L1 t145 (ji13)).length : Int) then (if (rd (rd_L1 t145 (ji13)) (Go.bits .or .i64 x6_2 (shl .i64 1 x24_2))) < 0 then (impl_Match.l1 k2 t145 x5_2 x6_2 x17_1 (rd_L1 l0 x17_1) l0 (l0.length : Int) x17_1 ((rd_L1 l0 x17_1).length : Int) (wrap64 (x24_2 + 1))) else (if x24_2 < ((rd_L1 l0 x17_1).length : Int) then (if 0 ≤ x17_1 then (if x17_1 < (t145.length : Int) then (if 0 ≤ x6_2 then (if x6_2 < ((rd_L1 t145 x17_1).length : Int) then (if (wrap64 ((rd (rd_L1 l0 x17_1) x24_2) + (rd (rd_L1 t145 (ji13)) (Go.bits .or .i64 x6_2 (shl .i64 1 x24_2))))) = (rd (rd_L1 t145 x17_1) x6_2) then (if x5_2.length < 17592186044416 then (impl_Match.l0 k2 t145 (x5_2 ++ [x24_2]) (Go.bits .or .i64 x6_2 (shl .i64 1 x24_2)) l0 (l0.length : Int) ji13) else (none)) else (impl_Match.l1 k2 t145 x5_2 x6_2 x17_1 (rd_L1 l0 x17_1) l0 (l0.length : Int) x17_1 ((rd_L1 l0 x17_1).length : Int) (wrap64 (x24_2 + 1)))) else (none)) else (none)) else (none)) else (none)) else (none))) else (none)) else (none)) else (none)) else (none)) = some (r1, r2) := by first | (rw [hji13] at H; exact H) | (simp only [hji13] at H ⊢; exact H)
     have hji13w : (IntKind.i64.wrap (x17_1 + 1)) = ji13 := (i64_w _).trans hji13
     by_cases c14 : 0 ≤ (ji13)
     {
     rw [if_pos c14] at H
     have c14b0 := decide_eq_true c14
     clear c14
     by_cases c15 : (ji13) < (t145.length : Int)
     {
     rw [if_pos c15] at H
     have c15b0 := decide_eq_true c15
     clear c15
     have c16b0 := eq_true (dt_ : 0 ≤ x24_2)
     obtain ⟨ji17, hji17⟩ : ∃ j_ : Int, (shl .i64 1 x24_2) = j_ := ⟨_, rfl⟩
     replace H : (if 0 ≤ (Go.bits .or .i64 x6_2 (ji17)) then (if (Go.bits .or .i64 x6_2 (ji17)) < ((rd_L1 t145 (ji13)).length : Int) then (if (rd (rd_L1 t145 (ji13)) (Go.bits .or .i64 x6_2 (ji17))) < 0 then (impl_Match.l1 k2 t145 x5_2 x6_2 x17_1 (rd_L1 l0 x17_1) l0 (l0.length : Int) x17_1 ((rd_L1 l0 x17_1).length : Int) (wrap64 (x24_2 + 1))) else (if x24_2 < ((rd_L1 l0 x17_1).length : Int) then (if 0 ≤ x17_1 then (if x17_1 < (t145.length : Int) then (if 0 ≤ x6_2 then (if x6_2 < ((rd_L1 t145 x17_1).length : Int) then (if (wrap64 ((rd (rd_L1 l0 x17_1) x24_2) + (rd (rd_L1 t145 (ji13)) (Go.bits .or .i64 x6_2 (ji17))))) = (rd (rd_L1 t145 x17_1) x6_2) then (if x5_2.length < 17592186044416 then (impl_Match.l0 k2 t145 (x5_2 ++ [x24_2]) (Go.bits .or .i64 x6_2 (ji17)) l0 (l0.length : Int) ji13) else (none)) else (impl_Match.l1 k2 t145 x5_2 x6_2 x17_1 (rd_L1 l0 x17_1) l0 (l0.length : Int) x17_1 ((rd_L1 l0 x17_1).length : Int) (wrap64 (x24_2 + 1)))) else (none)) else (none)) else (none)) else (none)) else (none))) else (none)) else (none)) = some (r1, r2) := by first | (rw [hji17] at H; exact H) | (simp only [hji17] at H ⊢; exact H)
     have hji17_ : (IntKind.i64.wrap (1 * 2 ^ min x24_2.toNat 64)) = ji17 := hji17
     have hji17z : x24_2 ≤ 64 → (IntKind.i64.wrap (1 * 2 ^ x24_2.toNat)) = ji17 := shl_small hji17
     have hji17u : (IntKind.i64.wrap (2 ^ min x24_2.toNat 64)) = ji17 := by have h_ := hji17_; rw [Int.one_mul] at h_; exact h_
     have hji17v : x24_2 ≤ 64 → (IntKind.i64.wrap (2 ^ x24_2.toNat)) = ji17 := fun hle_ => by have h_ := hji17z hle_; rw [Int.one_mul] at h_; exact h_
     have hji17y : (wrap64 (1 * 2 ^ min x24_2.toNat 64)) = ji17 := (i64_w _).symm.trans hji17_
     have hji17x : x24_2 ≤ 64 → (wrap64 (1 * 2 ^ x24_2.toNat)) = ji17 := fun h_ => (i64_w _).symm.trans (hji17z h_)
     by_cases c18 : 0 ≤ (Go.bits .or .i64 x6_2 (ji17))
     {
     rw [if_pos c18] at H
     have c18b0 := decide_eq_true c18
     clear c18
     by_cases c19 : (Go.bits .or .i64 x6_2 (ji17)) < ((rd_L1 t145 (ji13)).length : Int)
     {
     rw [if_pos c19] at H
     have c19b0 := decide_eq_true c19
     clear c19
     by_cases c20 : (rd (rd_L1 t145 (ji13)) (Go.bits .or .i64 x6_2 (ji17))) < 0
     {
     rw [if_pos c20] at H
     have c20b0 := decide_eq_true c20
     clear c20
     have H' := aM H
     clear H
     obtain ⟨Ao21, co21, eo21⟩ := Kd.S_slice HO_4.out
     subst eo21
     have p151 : 0 ≤ ((ji13) : Int) := dt_
     have q151 : (ji13) < (t145.length : Int) := dt_
     obtain ⟨ad151, A151_0, c151_0, e151, hx151_0, hl151_0, hi151_0⟩ := at_L1 (Kd.S_reads' HO_4.out).2.2 (ji13) p151 q151
     cases e151
     obtain ⟨ce151, hce151, hMe151, hcc151⟩ := Kd.S_get HO_4.out [] (ji13) p151 (by first | exact q151 | exact dt_ | (have e_ := (Kd.S_reads' HO_4.out).1; omega))
     obtain ⟨ve151_0, rfl, ge151_0⟩ := hMe151
     have hv151_0 := hcc151 0 _ rfl
     rw [Nat.add_zero, show ((Kd.slice 3 (Kd.int .i64))).sz = 1 from rfl, Nat.mul_one] at hv151_0
     replace hv151_0 := Option.some.inj (hv151_0.symm.trans hx151_0)
     rw [hv151_0] at ge151_0
     have HL151_0 := aM (show Kd.R (Kd.int .i64) 3 _ _ _ _ (rd_L1 t145 (ji13)) from ge151_0)
     clear hv151_0 ge151_0 hcc151 hce151
     have HR151_0 := aM hi151_0
     have HC151_0 := aM hl151_0
     clear hi151_0 hl151_0
     replace p151 := eq_true p151
     replace q151 := eq_true q151
     have p152 : 0 ≤ ((Go.bits .or .i64 x6_2 (ji17)) : Int) := dt_
     have q152 : (Go.bits .or .i64 x6_2 (ji17)) < ((rd_L1 t145 (ji13)).length : Int) := dt_
     obtain ⟨ad152, e152, hx152_0⟩ := Kd.at_int qz31 (Go.bits .or .i64 x6_2 (ji17)) p152 q152
     cases e152
     replace p152 := eq_true p152
     replace q152 := eq_true q152
     go_wp2
     repeat (go_quiet (fail); try go_wp2)
     go_roundg k2
     case measure => have := HK1.out; have := HK2.out; omega
     case rel => exact ⟨(x5_2), (x6_2), (wrap64 (x24_2 + 1)), qz5, qz5, H', ⟨by have := HK1.out; have := HK2.out; omega⟩, ⟨rm_ HO_4.out⟩, ⟨rm_ HO_5.out⟩, ⟨qz1⟩⟩
     }
     {
     rw [if_neg c20] at H
     have c20b0 := decide_eq_false c20
     clear c20
     by_cases c22 : x24_2 < ((rd_L1 l0 x17_1).length : Int)
     {
     rw [if_pos c22] at H
     have c22b0 := decide_eq_true c22
     clear c22
     have c23b0 := eq_true (dt_ : 0 ≤ x24_2)
     by_cases c25 : 0 ≤ x17_1
     {
     rw [if_pos c25] at H
     have c25b0 := decide_eq_true c25
     clear c25
     by_cases c26 : x17_1 < (t145.length : Int)
     {
     rw [if_pos c26] at H
     have c26b0 := decide_eq_true c26
     clear c26
     by_cases c27 : 0 ≤ x6_2
     {
     rw [if_pos c27] at H
     have c27b0 := decide_eq_true c27
     clear c27
     by_cases c28 : x6_2 < ((rd_L1 t145 x17_1).length : Int)
     {
     rw [if_pos c28] at H
     have c28b0 := decide_eq_true c28
     clear c28
     by_cases c29 : (wrap64 ((rd (rd_L1 l0 x17_1) x24_2) + (rd (rd_L1 t145 (ji13)) (Go.bits .or .i64 x6_2 (ji17))))) = (rd (rd_L1 t145 x17_1) x6_2)
     {
     rw [if_pos c29] at H
     have c29b0 := beq_iff_eq.mpr c29
     have c29b1 := bne_eq_false_iff_eq.mpr c29
     clear c29
     by_cases c30 : x5_2.length < 17592186044416
     {
     rw [if_pos c30] at H
     have LMc30 := aM c30
     clear c30
     obtain ⟨y158, hy158⟩ : ∃ y_ : List Int, y_ = (x5_2 ++ [x24_2]) := ⟨_, rfl⟩
     replace H : (impl_Match.l0 k2 t145 y158 (Go.bits .or .i64 x6_2 (ji17)) l0 (l0.length : Int) ji13) = some (r1, r2) := by first | (rw [hy158]; with_reducible exact H) | (have H2_ := (Option.bind_some _ _).symm.trans H; rw [hy158]; with_reducible exact H2_) | (have H2_ := (Option.bind_some _ _).symm.trans H; with_reducible exact H2_) | with_reducible exact H | (rw [hy158]; exact H) | exact H
     have Ny158 := aM hy158
     clear hy158
     have c31b0 := eq_true (dt_ : 0 ≤ x24_2)
     have H' := aM H
     clear H
     obtain ⟨Ao33, co33, eo33⟩ := Kd.S_slice HO_4.out
     subst eo33
     have p151 : 0 ≤ ((ji13) : Int) := dt_
     have q151 : (ji13) < (t145.length : Int) := dt_
     obtain ⟨ad151, A151_0, c151_0, e151, hx151_0, hl151_0, hi151_0⟩ := at_L1 (Kd.S_reads' HO_4.out).2.2 (ji13) p151 q151
     cases e151
     obtain ⟨ce151, hce151, hMe151, hcc151⟩ := Kd.S_get HO_4.out [] (ji13) p151 (by first | exact q151 | exact dt_ | (have e_ := (Kd.S_reads' HO_4.out).1; omega))
     obtain ⟨ve151_0, rfl, ge151_0⟩ := hMe151
     have hv151_0 := hcc151 0 _ rfl
     rw [Nat.add_zero, show ((Kd.slice 3 (Kd.int .i64))).sz = 1 from rfl, Nat.mul_one] at hv151_0
     replace hv151_0 := Option.some.inj (hv151_0.symm.trans hx151_0)
     rw [hv151_0] at ge151_0
     have HL151_0 := aM (show Kd.R (Kd.int .i64) 3 _ _ _ _ (rd_L1 t145 (ji13)) from ge151_0)
     clear hv151_0 ge151_0 hcc151 hce151
     have HR151_0 := aM hi151_0
     have HC151_0 := aM hl151_0
     clear hi151_0 hl151_0
     replace p151 := eq_true p151
     replace q151 := eq_true q151
     have p152 : 0 ≤ ((Go.bits .or .i64 x6_2 (ji17)) : Int) := dt_
     have q152 : (Go.bits .or .i64 x6_2 (ji17)) < ((rd_L1 t145 (ji13)).length : Int) := dt_
     obtain ⟨ad152, e152, hx152_0⟩ := Kd.at_int qz31 (Go.bits .or .i64 x6_2 (ji17)) p152 q152
     cases e152
     replace p152 := eq_true p152
     replace q152 := eq_true q152
     have p153 : 0 ≤ (x24_2 : Int) := dt_
     have q153 : x24_2 < ((rd_L1 l0 x17_1).length : Int) := dt_
     obtain ⟨ad153, e153, hx153_0⟩ := Kd.at_int HR150_0.out x24_2 p153 q153
     cases e153
     replace hx153_0 := cB_ hx153_0
     replace p153 := eq_true p153
     replace q153 := eq_true q153
     have p154 : 0 ≤ ((ji13) : Int) := dt_
     have q154 : (ji13) < (t145.length : Int) := dt_
     obtain ⟨ad154, A154_0, c154_0, e154, hx154_0, hl154_0, hi154_0⟩ := at_L1 (Kd.S_reads' HO_4.out).2.2 (ji13) p154 q154
     obtain rfl : ad151 = ad154 := (by injection e154)
     obtain ⟨ce154, hce154, hMe154, hcc154⟩ := Kd.S_get HO_4.out [] (ji13) p154 (by first | exact q154 | exact dt_ | (have e_ := (Kd.S_reads' HO_4.out).1; omega))
     obtain ⟨ve154_0, rfl, ge154_0⟩ := hMe154
     have hv154_0 := hcc154 0 _ rfl
     rw [Nat.add_zero, show ((Kd.slice 3 (Kd.int .i64))).sz = 1 from rfl, Nat.mul_one] at hv154_0
     replace hv154_0 := Option.some.inj (hv154_0.symm.trans hx154_0)
     rw [hv154_0] at ge154_0
     have HL154_0 := aM (show Kd.R (Kd.int .i64) 3 _ _ _ _ (rd_L1 t145 (ji13)) from ge154_0)
     clear hv154_0 ge154_0 hcc154 hce154
     have HR154_0 := aM hi154_0
     have HC154_0 := aM hl154_0
     clear hi154_0 hl154_0
     replace p154 := eq_true p154
     replace q154 := eq_true q154
     have ea_ := Option.some.inj (hx151_0.symm.trans hx154_0)
     injection ea_ with ea_ en_ ec_
     subst ea_
     subst ec_
     clear en_
     have p155 : 0 ≤ ((Go.bits .or .i64 x6_2 (ji17)) : Int) := dt_
     have q155 : (Go.bits .or .i64 x6_2 (ji17)) < ((rd_L1 t145 (ji13)).length : Int) := dt_
     obtain ⟨ad155, e155, hx155_0⟩ := Kd.at_int qz49 (Go.bits .or .i64 x6_2 (ji17)) p155 q155
     cases e155
     replace p155 := eq_true p155
     replace q155 := eq_true q155
     have p156 : 0 ≤ (x17_1 : Int) := dt_
     have q156 : x17_1 < (t145.length : Int) := dt_
     obtain ⟨ad156, A156_0, c156_0, e156, hx156_0, hl156_0, hi156_0⟩ := at_L1 (Kd.S_reads' HO_4.out).2.2 x17_1 p156 q156
     obtain rfl : ad151 = ad156 := (by injection e156)
     obtain ⟨ce156, hce156, hMe156, hcc156⟩ := Kd.S_get HO_4.out [] x17_1 p156 (by first | exact q156 | exact dt_ | (have e_ := (Kd.S_reads' HO_4.out).1; omega))
     obtain ⟨ve156_0, rfl, ge156_0⟩ := hMe156
     have hv156_0 := hcc156 0 _ rfl
     rw [Nat.add_zero, show ((Kd.slice 3 (Kd.int .i64))).sz = 1 from rfl, Nat.mul_one] at hv156_0
     replace hv156_0 := Option.some.inj (hv156_0.symm.trans hx156_0)
     rw [hv156_0] at ge156_0
     have HL156_0 := aM (show Kd.R (Kd.int .i64) 3 _ _ _ _ (rd_L1 t145 x17_1) from ge156_0)
     clear hv156_0 ge156_0 hcc156 hce156
     have HR156_0 := aM hi156_0
     have HC156_0 := aM hl156_0
     clear hi156_0 hl156_0
     replace p156 := eq_true p156
     replace q156 := eq_true q156
     have p157 : 0 ≤ (x6_2 : Int) := dt_
     have q157 : x6_2 < ((rd_L1 t145 x17_1).length : Int) := dt_
     obtain ⟨ad157, e157, hx157_0⟩ := Kd.at_int qz50 x6_2 p157 q157
     cases e157
     replace p157 := eq_true p157
     replace q157 := eq_true q157
     go_wp2_with (first | ((with_reducible refine gate_builtin (b := .append) (xs := #[.tmp 72, .tmp 74]) rfl ?_); at_builtin; refine Kd.R_append (Kd.int .i64) (w0 := w) w.heap.size rfl (.tmp 72) (.tmp 74) 24 3 (.int .i64 0) 8 rfl Try.underlying24 info3 rfl (by decide) (by omega) u5 x5_2 x24_2 [.int .i64 x24_2] (fun _ => True) (fun _ => False) rfl rfl ?aP (fun _ hk => hk.elim) ?aF ?aO ?aB ?aS ?aL ?_; (case aP => exact rfl); (case aB => exact qz1); (case aF => exact (fun _ _ => trivial)); (case aO => exact (rr_ HO_5.out)); (case aS => exact (below_size qz1)); (case aL => have := LMc30.out; omega); intro v159 w34 ho hb hg hat; rw [← Ny158.out] at ho; replace HO_4 := aM (Kd.S_after (ok := (fun _ => True)) qz44 hg hat); replace HL151_0 := aM (Kd.R_after (ok := (fun k_ => some k_ ≠ (.slice (some ad151) t145.length co33 : Value).ownBlock)) qz41 hg hat); replace HL154_0 := aM (Kd.R_after (ok := (fun k_ => some k_ ≠ (.slice (some ad151) t145.length co33 : Value).ownBlock)) qz42 hg hat); replace HL156_0 := aM (Kd.R_after (ok := (fun k_ => some k_ ≠ (.slice (some ad151) t145.length co33 : Value).ownBlock)) qz43 hg hat); replace HB := aM (hb); have HO160 := aM (ho); clear HO_5; clear ho hb hg hat))
     repeat (go_quiet (first | ((with_reducible refine gate_builtin (b := .append) (xs := #[.tmp 72, .tmp 74]) rfl ?_); at_builtin; refine Kd.R_append (Kd.int .i64) (w0 := w) w.heap.size rfl (.tmp 72) (.tmp 74) 24 3 (.int .i64 0) 8 rfl Try.underlying24 info3 rfl (by decide) (by omega) u5 x5_2 x24_2 [.int .i64 x24_2] (fun _ => True) (fun _ => False) rfl rfl ?aP (fun _ hk => hk.elim) ?aF ?aO ?aB ?aS ?aL ?_; (case aP => exact rfl); (case aB => exact qz1); (case aF => exact (fun _ _ => trivial)); (case aO => exact (rr_ HO_5.out)); (case aS => exact (below_size qz1)); (case aL => have := LMc30.out; omega); intro v159 w34 ho hb hg hat; rw [← Ny158.out] at ho; replace HO_4 := aM (Kd.S_after (ok := (fun _ => True)) qz44 hg hat); replace HL151_0 := aM (Kd.R_after (ok := (fun k_ => some k_ ≠ (.slice (some ad151) t145.length co33 : Value).ownBlock)) qz41 hg hat); replace HL154_0 := aM (Kd.R_after (ok := (fun k_ => some k_ ≠ (.slice (some ad151) t145.length co33 : Value).ownBlock)) qz42 hg hat); replace HL156_0 := aM (Kd.R_after (ok := (fun k_ => some k_ ≠ (.slice (some ad151) t145.length co33 : Value).ownBlock)) qz43 hg hat); replace HB := aM (hb); have HO160 := aM (ho); clear HO_5; clear ho hb hg hat)); try go_wp2_with (first | ((with_reducible refine gate_builtin (b := .append) (xs := #[.tmp 72, .tmp 74]) rfl ?_); at_builtin; refine Kd.R_append (Kd.int .i64) (w0 := w) w.heap.size rfl (.tmp 72) (.tmp 74) 24 3 (.int .i64 0) 8 rfl Try.underlying24 info3 rfl (by decide) (by omega) u5 x5_2 x24_2 [.int .i64 x24_2] (fun _ => True) (fun _ => False) rfl rfl ?aP (fun _ hk => hk.elim) ?aF ?aO ?aB ?aS ?aL ?_; (case aP => exact rfl); (case aB => exact qz1); (case aF => exact (fun _ _ => trivial)); (case aO => exact (rr_ HO_5.out)); (case aS => exact (below_size qz1)); (case aL => have := LMc30.out; omega); intro v159 w34 ho hb hg hat; rw [← Ny158.out] at ho; replace HO_4 := aM (Kd.S_after (ok := (fun _ => True)) qz44 hg hat); replace HL151_0 := aM (Kd.R_after (ok := (fun k_ => some k_ ≠ (.slice (some ad151) t145.length co33 : Value).ownBlock)) qz41 hg hat); replace HL154_0 := aM (Kd.R_after (ok := (fun k_ => some k_ ≠ (.slice (some ad151) t145.length co33 : Value).ownBlock)) qz42 hg hat); replace HL156_0 := aM (Kd.R_after (ok := (fun k_ => some k_ ≠ (.slice (some ad151) t145.length co33 : Value).ownBlock)) qz43 hg hat); replace HB := aM (hb); have HO160 := aM (ho); clear HO_5; clear ho hb hg hat)))
     go_roundg k2
     case measure => have := HK1.out; have := HK2.out; omega
     case rel => exact ⟨(y158), (Go.bits .or .i64 x6_2 (ji17)), (ji13), (by first | rfl | (simp; done) | (simp only [← hji17] <;> (first | rfl | simp)) | (simp [*]; done)), (by first | rfl | (simp; done) | (simp only [← hji13] <;> (first | rfl | simp)) | (simp [*]; done)), H', ⟨by have := HK1.out; have := HK2.out; omega⟩, ⟨by (with_reducible repeat (first | apply Kd.S_alloc | apply Kd.S_drewN | apply Kd.S_drew)); exact Kd.S_mono HO_4.out (fun _ hk => hk.2)⟩, ⟨rm_ HO160.out⟩, ⟨qz1⟩⟩
     }
     {
     exact an_ c30 H
     }
     }
     {
     rw [if_neg c29] at H
     have c29b0 := beq_eq_false_iff_ne.mpr c29
     have c29b1 := bne_iff_ne.mpr c29
     have H' := aM H
     clear H
     obtain ⟨Ao35, co35, eo35⟩ := Kd.S_slice HO_4.out
     subst eo35
     have p151 : 0 ≤ ((ji13) : Int) := dt_
     have q151 : (ji13) < (t145.length : Int) := dt_
     obtain ⟨ad151, A151_0, c151_0, e151, hx151_0, hl151_0, hi151_0⟩ := at_L1 (Kd.S_reads' HO_4.out).2.2 (ji13) p151 q151
     cases e151
     obtain ⟨ce151, hce151, hMe151, hcc151⟩ := Kd.S_get HO_4.out [] (ji13) p151 (by first | exact q151 | exact dt_ | (have e_ := (Kd.S_reads' HO_4.out).1; omega))
     obtain ⟨ve151_0, rfl, ge151_0⟩ := hMe151
     have hv151_0 := hcc151 0 _ rfl
     rw [Nat.add_zero, show ((Kd.slice 3 (Kd.int .i64))).sz = 1 from rfl, Nat.mul_one] at hv151_0
     replace hv151_0 := Option.some.inj (hv151_0.symm.trans hx151_0)
     rw [hv151_0] at ge151_0
     have HL151_0 := aM (show Kd.R (Kd.int .i64) 3 _ _ _ _ (rd_L1 t145 (ji13)) from ge151_0)
     clear hv151_0 ge151_0 hcc151 hce151
     have HR151_0 := aM hi151_0
     have HC151_0 := aM hl151_0
     clear hi151_0 hl151_0
     replace p151 := eq_true p151
     replace q151 := eq_true q151
     have p152 : 0 ≤ ((Go.bits .or .i64 x6_2 (ji17)) : Int) := dt_
     have q152 : (Go.bits .or .i64 x6_2 (ji17)) < ((rd_L1 t145 (ji13)).length : Int) := dt_
     obtain ⟨ad152, e152, hx152_0⟩ := Kd.at_int qz31 (Go.bits .or .i64 x6_2 (ji17)) p152 q152
     cases e152
     replace p152 := eq_true p152
     replace q152 := eq_true q152
     have p153 : 0 ≤ (x24_2 : Int) := dt_
     have q153 : x24_2 < ((rd_L1 l0 x17_1).length : Int) := dt_
     obtain ⟨ad153, e153, hx153_0⟩ := Kd.at_int HR150_0.out x24_2 p153 q153
     cases e153
     replace hx153_0 := cB_ hx153_0
     replace p153 := eq_true p153
     replace q153 := eq_true q153
     have p154 : 0 ≤ ((ji13) : Int) := dt_
     have q154 : (ji13) < (t145.length : Int) := dt_
     obtain ⟨ad154, A154_0, c154_0, e154, hx154_0, hl154_0, hi154_0⟩ := at_L1 (Kd.S_reads' HO_4.out).2.2 (ji13) p154 q154
     obtain rfl : ad151 = ad154 := (by injection e154)
     obtain ⟨ce154, hce154, hMe154, hcc154⟩ := Kd.S_get HO_4.out [] (ji13) p154 (by first | exact q154 | exact dt_ | (have e_ := (Kd.S_reads' HO_4.out).1; omega))
     obtain ⟨ve154_0, rfl, ge154_0⟩ := hMe154
     have hv154_0 := hcc154 0 _ rfl
     rw [Nat.add_zero, show ((Kd.slice 3 (Kd.int .i64))).sz = 1 from rfl, Nat.mul_one] at hv154_0
     replace hv154_0 := Option.some.inj (hv154_0.symm.trans hx154_0)
     rw [hv154_0] at ge154_0
     have HL154_0 := aM (show Kd.R (Kd.int .i64) 3 _ _ _ _ (rd_L1 t145 (ji13)) from ge154_0)
     clear hv154_0 ge154_0 hcc154 hce154
     have HR154_0 := aM hi154_0
     have HC154_0 := aM hl154_0
     clear hi154_0 hl154_0
     replace p154 := eq_true p154
     replace q154 := eq_true q154
     have ea_ := Option.some.inj (hx151_0.symm.trans hx154_0)
     injection ea_ with ea_ en_ ec_
     subst ea_
     subst ec_
     clear en_
     have p155 : 0 ≤ ((Go.bits .or .i64 x6_2 (ji17)) : Int) := dt_
     have q155 : (Go.bits .or .i64 x6_2 (ji17)) < ((rd_L1 t145 (ji13)).length : Int) := dt_
     obtain ⟨ad155, e155, hx155_0⟩ := Kd.at_int qz49 (Go.bits .or .i64 x6_2 (ji17)) p155 q155
     cases e155
     replace p155 := eq_true p155
     replace q155 := eq_true q155
     have p156 : 0 ≤ (x17_1 : Int) := dt_
     have q156 : x17_1 < (t145.length : Int) := dt_
     obtain ⟨ad156, A156_0, c156_0, e156, hx156_0, hl156_0, hi156_0⟩ := at_L1 (Kd.S_reads' HO_4.out).2.2 x17_1 p156 q156
     obtain rfl : ad151 = ad156 := (by injection e156)
     obtain ⟨ce156, hce156, hMe156, hcc156⟩ := Kd.S_get HO_4.out [] x17_1 p156 (by first | exact q156 | exact dt_ | (have e_ := (Kd.S_reads' HO_4.out).1; omega))
     obtain ⟨ve156_0, rfl, ge156_0⟩ := hMe156
     have hv156_0 := hcc156 0 _ rfl
     rw [Nat.add_zero, show ((Kd.slice 3 (Kd.int .i64))).sz = 1 from rfl, Nat.mul_one] at hv156_0
     replace hv156_0 := Option.some.inj (hv156_0.symm.trans hx156_0)
     rw [hv156_0] at ge156_0
     have HL156_0 := aM (show Kd.R (Kd.int .i64) 3 _ _ _ _ (rd_L1 t145 x17_1) from ge156_0)
     clear hv156_0 ge156_0 hcc156 hce156
     have HR156_0 := aM hi156_0
     have HC156_0 := aM hl156_0
     clear hi156_0 hl156_0
     replace p156 := eq_true p156
     replace q156 := eq_true q156
     have p157 : 0 ≤ (x6_2 : Int) := dt_
     have q157 : x6_2 < ((rd_L1 t145 x17_1).length : Int) := dt_
     obtain ⟨ad157, e157, hx157_0⟩ := Kd.at_int qz50 x6_2 p157 q157
     cases e157
     replace p157 := eq_true p157
     replace q157 := eq_true q157
     go_wp2
     repeat (go_quiet (fail); try go_wp2)
     go_roundg k2
     case measure => have := HK1.out; have := HK2.out; omega
     case rel => exact ⟨(x5_2), (x6_2), (wrap64 (x24_2 + 1)), qz5, qz5, H', ⟨by have := HK1.out; have := HK2.out; omega⟩, ⟨rm_ HO_4.out⟩, ⟨rm_ HO_5.out⟩, ⟨qz1⟩⟩
     }
     }
     {
     exact an_ c28 H
     }
     }
     {
     exact an_ c27 H
     }
     }
     {
     exact an_ c26 H
     }
     }
     {
     exact an_ c25 H
     }
     }
     {
     exact an_ c22 H
     }
     }
     }
     {
     exact an_ c19 H
     }
     }
     {
     exact an_ c18 H
     }
     }
     {
     exact an_ c15 H
     }
     }
     {
     exact an_ c14 H
     }
     }
     }
     {
     exact an_ c10 H
     }
     }
     {
     rw [if_neg c9] at H
     have c9b0 := decide_eq_false c9
     clear c9
     have H' := aM H
     clear H
     go_wp2
     repeat (go_quiet (fail); try go_wp2)
     go_roundg k2
     case measure => have := HK1.out; have := HK2.out; omega
     case rel => exact ⟨(x5_2), (x6_2), (wrap64 (x17_1 + 1)), qz5, qz5, H', ⟨by have := HK1.out; have := HK2.out; omega⟩, ⟨rm_ HO_4.out⟩, ⟨rm_ HO_5.out⟩, ⟨qz1⟩⟩
     }
   }
   {
   exact an_ c8 H
   }
   }
   {
   exact an_ c7 H
   }
   }
   {
   rw [if_neg c6] at H
   have c6b0 := decide_eq_false c6
   clear c6
   by_cases c36 : 0 < (t145.length : Int)
   {
   rw [if_pos c36] at H
   have c36b0 := decide_eq_true c36
   have c36b1 : decide (0 < t145.length) = true := decide_eq_true (by omega)
   clear c36
   by_cases c37 : 0 < ((rd_L1 t145 0).length : Int)
   {
   rw [if_pos c37] at H
   have c37b0 := decide_eq_true c37
   have c37b1 : decide (0 < (rd_L1 t145 0).length) = true := decide_eq_true (by omega)
   clear c37
   simp only [Option.some.injEq, Prod.mk.injEq] at H
   obtain ⟨rfl, rfl⟩ := H
   obtain ⟨Ao38, co38, eo38⟩ := Kd.S_slice HO_4.out
   subst eo38
   have p148 : 0 ≤ (0 : Int) := (by omega)
   have q148 : 0 < (t145.length : Int) := dt_
   obtain ⟨ad148, A148_0, c148_0, e148, hx148_0, hl148_0, hi148_0⟩ := at_L1 (Kd.S_reads' HO_4.out).2.2 0 p148 q148
   cases e148
   obtain ⟨ce148, hce148, hMe148, hcc148⟩ := Kd.S_get HO_4.out [] 0 p148 (by first | exact q148 | exact dt_ | (have e_ := (Kd.S_reads' HO_4.out).1; omega))
   obtain ⟨ve148_0, rfl, ge148_0⟩ := hMe148
   have hv148_0 := hcc148 0 _ rfl
   rw [Nat.add_zero, show ((Kd.slice 3 (Kd.int .i64))).sz = 1 from rfl, Nat.mul_one] at hv148_0
   replace hv148_0 := Option.some.inj (hv148_0.symm.trans hx148_0)
   rw [hv148_0] at ge148_0
   have HL148_0 := aM (show Kd.R (Kd.int .i64) 3 _ _ _ _ (rd_L1 t145 0) from ge148_0)
   clear hv148_0 ge148_0 hcc148 hce148
   have qi148 : (0 < t145.length) = True := eq_true (by omega)
   (try rw [show ((0 : Int)).toNat = 0 from rfl] at hx148_0)
   (try rw [Addr.add_zero'] at hx148_0)
   have HR148_0 := aM hi148_0
   have HC148_0 := aM hl148_0
   clear hi148_0 hl148_0
   replace p148 := eq_true p148
   replace q148 := eq_true q148
   have p149 : 0 ≤ (0 : Int) := (by omega)
   have q149 : 0 < ((rd_L1 t145 0).length : Int) := dt_
   obtain ⟨ad149, e149, hx149_0⟩ := Kd.at_int (by repeat (first | (with_reducible exact HR148_0.out) | (with_reducible refine Kd.C_alloc ?_ _) | (with_reducible refine Kd.C_drewN ?_ _) | (with_reducible refine Kd.C_drew ?_) | exact HR148_0.out)) 0 p149 q149
   cases e149
   have qi149 : (0 < (rd_L1 t145 0).length) = True := eq_true (by omega)
   (try rw [show ((0 : Int)).toNat = 0 from rfl] at hx149_0)
   (try rw [Addr.add_zero'] at hx149_0)
   replace p149 := eq_true p149
   replace q149 := eq_true q149
   go_wp2
   repeat (go_quiet (fail); try go_wp2)
   go_ret2
   exact ⟨_, qzw, by (with_reducible repeat (first | apply Kd.R_alloc | apply Kd.R_drewN | apply Kd.R_drew)); exact HO_5.out, qz1⟩
   }
   {
   exact an_ c37 H
   }
   }
   {
   exact an_ c36 H
   }
   }
 }
 {
 replace c3 := Bool.eq_false_iff.mpr c3
 subst c3
 rw [if_neg (show ¬ (false = true) by decide)] at H
 simp only [Option.some.injEq, Prod.mk.injEq] at H
 obtain ⟨rfl, rfl⟩ := H
 go_enter Try.func10, Try.ntmps10
 go_wp2_with (first | (go_at_call 18; (with_reducible refine (impl_CostsOk.calls k _ _ l0 false _ ?side1 ?side2 A2.out).mono ?_); (case side1 => exact qz7); (case side2 => exact HC0.out); rintro e w' ⟨rfl, ⟨nd, rfl⟩⟩; (try first | exact ⟨rfl, _, World.drewN_drewN _ _ _⟩ | exact ⟨rfl, _, Eq.trans (World.drewN_drewN _ _ _) (congrArg (World.drewN _) (Nat.add_assoc _ _ _))⟩)))
 repeat (go_quiet (first | (go_at_call 18; (with_reducible refine (impl_CostsOk.calls k _ _ l0 false _ ?side1 ?side2 A2.out).mono ?_); (case side1 => exact qz7); (case side2 => exact HC0.out); rintro e w' ⟨rfl, ⟨nd, rfl⟩⟩; (try first | exact ⟨rfl, _, World.drewN_drewN _ _ _⟩ | exact ⟨rfl, _, Eq.trans (World.drewN_drewN _ _ _) (congrArg (World.drewN _) (Nat.add_assoc _ _ _))⟩))); try go_wp2_with (first | (go_at_call 18; (with_reducible refine (impl_CostsOk.calls k _ _ l0 false _ ?side1 ?side2 A2.out).mono ?_); (case side1 => exact qz7); (case side2 => exact HC0.out); rintro e w' ⟨rfl, ⟨nd, rfl⟩⟩; (try first | exact ⟨rfl, _, World.drewN_drewN _ _ _⟩ | exact ⟨rfl, _, Eq.trans (World.drewN_drewN _ _ _) (congrArg (World.drewN _) (Nat.add_assoc _ _ _))⟩))))
 go_ret2
 exact ⟨_, qzw, by first | exact Kd.R_nil _ _ _ _ _ | exact Kd.N_nil _ _ _ _ _ | exact Kd.V_nil _ _ _ _ _ | exact Kd.Q_nil _ _ _ _ _ | exact Kd.S_nil _ _ _ _ _, qz1⟩

 }
/-! ### laws_big: function 16 -/
def laws_big.f (l0 : List Int) : Option (Bool) := some (decide ((l0.length : Int) > 1048576))
set_option maxHeartbeats 8000000 in
set_option maxRecDepth 100000 in
theorem laws_big.calls (A0 : Option Addr) (c0 : Nat) (l0 : List Int) (r : Bool) (w : World) (hr0 : Kd.C (Kd.int .u8) w A0 l0.length l0) (hc0 : l0.length ≤ c0) (h : laws_big.f l0 = some r) :
  Calls Try.prog 16 #[.slice A0 l0.length c0] w fun e w' => e = .returned (.bool r) ∧ Drawn0 w w' := by
 have HR0 := aM hr0
 have HC0 := aM hc0
 clear hr0 hc0
 have H : (some (decide ((l0.length : Int) > 1048576))) = some r := h
 clear h
 obtain rfl := Option.some.inj H
 simp only [Option.some.injEq, Prod.mk.injEq] at H
 obtain ⟨rfl⟩ := H
 go_enter Try.func16, Try.ntmps16
 go_wp2
 go_ret
 exact ⟨by first | rfl | (simp; done) | (simp [*]; done), by repeat (first | exact Drawn0.refl _ | apply Drawn0.step)⟩

end Go.Proofs.Ytbebfhlejnidkaa.PFnProved
