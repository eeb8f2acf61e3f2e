-- Made by a program of this session out of the translation. Lean checks it.
import Derived.Test.YtbebfhlejnidkaaPFnMatchedx1
import Derived.Test.YtbebfhlejnidkaaPFnMatchedx2
namespace Go.Proofs.Ytbebfhlejnidkaa.PFnMatched
open Go.RowKit Go.Proofs.YtbebfhlejnidkaaW.PrintWords Go.Proofs.YtbebfhlejnidkaaW.PrintLast Go.Proofs.YtbebfhlejnidkaaW.PrintMore
attribute [local go_sem] max2_int min2_int max_two min_two max_three min_three max_four min_four   -- for this text's walks alone
set_option linter.unusedVariables false
set_option linter.unusedSimpArgs false

/-! ### impl_Match: function 10 -/
mutual
def impl_Match.l0 : Nat → List (List Int) → List Int → Int → List (List Int) → Int → Int → Option (List Int × Int)
 | 0, _, _, _, _, _, _ => none
 | k + 1, x4, x5, x6, x15, x16, x17 => if x17 < x16 then (if 0 ≤ x17 then (if x17 < (x15.length : Int) then (impl_Match.l1 k x4 x5 x6 x17 (rd_L1 x15 x17) x15 x16 x17 ((rd_L1 x15 x17).length : Int) 0) else (none)) else (none)) else (if 0 < (x4.length : Int) then (if 0 < ((rd_L1 x4 0).length : Int) then (some (x5, rd (rd_L1 x4 0) 0)) else (none)) else (none))
def impl_Match.l1 : Nat → List (List Int) → List Int → Int → Int → List Int → List (List Int) → Int → Int → Int → Int → Option (List Int × Int)
 | 0, _, _, _, _, _, _, _, _, _, _ => none
 | k + 1, x4, x5, x6, x7, x8, x15, x16, x17, x23, x24 => if x24 < x23 then (if 0 ≤ x24 then (if (Go.bits .and .i64 (shr .i64 x6 x24) 1) = 1 then (impl_Match.l1 k x4 x5 x6 x7 x8 x15 x16 x17 x23 (wrap64 (x24 + 1))) else (if 0 ≤ (wrap64 (x7 + 1)) then (if (wrap64 (x7 + 1)) < (x4.length : Int) then (if 0 ≤ (Go.bits .or .i64 x6 (shl .i64 1 x24)) then (if (Go.bits .or .i64 x6 (shl .i64 1 x24)) < ((rd_L1 x4 (wrap64 (x7 + 1))).length : Int) then (if (rd (rd_L1 x4 (wrap64 (x7 + 1))) (Go.bits .or .i64 x6 (shl .i64 1 x24))) < 0 then (impl_Match.l1 k x4 x5 x6 x7 x8 x15 x16 x17 x23 (wrap64 (x24 + 1))) else (if x24 < (x8.length : Int) then (if 0 ≤ x7 then (if x7 < (x4.length : Int) then (if 0 ≤ x6 then (if x6 < ((rd_L1 x4 x7).length : Int) then (if (wrap64 ((rd x8 x24) + (rd (rd_L1 x4 (wrap64 (x7 + 1))) (Go.bits .or .i64 x6 (shl .i64 1 x24))))) = (rd (rd_L1 x4 x7) x6) then (if x5.length < 17592186044416 then (impl_Match.l0 k x4 (x5 ++ [x24]) (Go.bits .or .i64 x6 (shl .i64 1 x24)) x15 x16 (wrap64 (x17 + 1))) else (none)) else (impl_Match.l1 k x4 x5 x6 x7 x8 x15 x16 x17 x23 (wrap64 (x24 + 1)))) else (none)) else (none)) else (none)) else (none)) else (none))) else (none)) else (none)) else (none)) else (none))) else (none)) else (impl_Match.l0 k x4 x5 x6 x15 x16 (wrap64 (x17 + 1)))
end
def impl_Match.f (k : Nat) (l0 : List (List Int)) : Option (List Int × Int) := (impl_CostsOk.f k l0).bind fun t144 => (if t144 = true then ((impl_least.f k l0).bind fun t145 => (impl_Match.l0 k t145 ([] : List Int) 0 l0 (l0.length : Int) 0)) else (some (([] : List Int), (-1))))
theorem impl_Match.mono_l : ∀ k, (∀ y0 y1 y2 y3 y4 y5, LeO (impl_Match.l0 k y0 y1 y2 y3 y4 y5) (impl_Match.l0 (k + 1) y0 y1 y2 y3 y4 y5)) ∧ (∀ y0 y1 y2 y3 y4 y5 y6 y7 y8 y9, LeO (impl_Match.l1 k y0 y1 y2 y3 y4 y5 y6 y7 y8 y9) (impl_Match.l1 (k + 1) y0 y1 y2 y3 y4 y5 y6 y7 y8 y9))
 | 0 => ⟨fun _ _ _ _ _ _ r h => by simp [impl_Match.l0] at h, fun _ _ _ _ _ _ _ _ _ _ r h => by simp [impl_Match.l1] at h⟩
 | k + 1 => by
  obtain ⟨ih0, ih1⟩ := impl_Match.mono_l k
  refine ⟨?_, ?_⟩
  {
  intro y0 y1 y2 y3 y4 y5
  unfold impl_Match.l0
  have j0 := @impl_CostsOk.mono
  have j1 := @impl_least.mono
  exact qL
  }
  {
  intro y0 y1 y2 y3 y4 y5 y6 y7 y8 y9
  unfold impl_Match.l1
  have j0 := @impl_CostsOk.mono
  have j1 := @impl_least.mono
  exact qL
  }
theorem impl_Match.mono : ∀ a0 k, LeO (impl_Match.f k a0) (impl_Match.f (k + 1) a0) := by
 intro a0 k
 obtain ⟨ih0, ih1⟩ := impl_Match.mono_l k
 unfold impl_Match.f
 have j0 := @impl_CostsOk.mono
 have j1 := @impl_least.mono
 exact qL
set_option maxHeartbeats 8000000 in
set_option maxRecDepth 100000 in
theorem impl_Match.calls (k : Nat) (A0 : Option Addr) (c0 : Nat) (l0 : List (List Int)) (r1 : List Int) (r2 : Int) (w : World) (hr0 : Kd.C (Kd.slice 3 (Kd.int .i64)) w A0 l0.length l0) (hc0 : l0.length ≤ c0) (h : impl_Match.f k l0 = some (r1, r2)) :
  Calls Try.prog 10 #[.slice A0 l0.length c0] w fun e w' => ∃ v0_ : Value, e = .returned (.tuple #[v0_, .int .i64 r2]) ∧ Kd.R (Kd.int .i64) 3 w' w.heap.size (fun _ => True) v0_ r1 ∧ Below w.heap.size w w' := by
 have HR0 := aM hr0
 have HC0 := aM hc0
 clear hr0 hc0
 have HB := aM (Below.refl w.heap.size w)
 unfold impl_Match.f at h
 have H := h
 clear h
 replace H := Option.bind_eq_some_iff.mp H
 obtain ⟨t144, A20, H⟩ := H
 have A2 := aM A20
 clear A20
 replace H := iB_ H
 rcases H with ⟨rfl, H⟩ | ⟨rfl, H⟩
 {
 replace H := Option.bind_eq_some_iff.mp H
 obtain ⟨t145, A40, H⟩ := H
 have A4 := aM A40
 clear A40
 have H' := aM H
 clear H
 go_enter Try.func10, Try.ntmps10
 go_wp2_with (first | (go_at_call 18; (with_reducible refine (impl_CostsOk.calls k _ _ l0 true _ ?_ ?_ A2.out).mono ?_); exact qz6; exact HC0.out; rintro e w' ⟨rfl, ⟨nd, rfl⟩⟩; (try first | exact ⟨rfl, _, World.drewN_drewN _ _ _⟩ | exact ⟨rfl, _, Eq.trans (World.drewN_drewN _ _ _) (congrArg (World.drewN _) (Nat.add_assoc _ _ _))⟩)) | (go_at_call 38; (with_reducible refine (impl_least.calls k _ _ l0 t145 _ ?_ ?_ A4.out).mono ?_); exact qz6; exact HC0.out; rintro e w5 ⟨v146, rfl, ho0, hb⟩; have HO147 := aM (Kd.S_lower ho0 (below_size qz1)); replace HB := bS_ hb; (try clear hb ho0)) | go_quiet (first | (go_at_call 18; (with_reducible refine (impl_CostsOk.calls k _ _ l0 true _ ?_ ?_ A2.out).mono ?_); exact qz6; exact HC0.out; rintro e w' ⟨rfl, ⟨nd, rfl⟩⟩; (try first | exact ⟨rfl, _, World.drewN_drewN _ _ _⟩ | exact ⟨rfl, _, Eq.trans (World.drewN_drewN _ _ _) (congrArg (World.drewN _) (Nat.add_assoc _ _ _))⟩)) | (go_at_call 38; (with_reducible refine (impl_least.calls k _ _ l0 t145 _ ?_ ?_ A4.out).mono ?_); exact qz6; exact HC0.out; rintro e w5 ⟨v146, rfl, ho0, hb⟩; have HO147 := aM (Kd.S_lower ho0 (below_size qz1)); replace HB := bS_ hb; (try clear hb ho0))))
 go_loopg [5, 6, 17] k (fun kq v5 v6 v17 w' => ∃ (x5_1 : List Int) (x6_1 : Int) (x17_1 : Int), v6 = .int .i64 x6_1 ∧ v17 = .int .i64 x17_1 ∧ Aside0 (impl_Match.l0 kq t145 x5_1 x6_1 l0 (l0.length : Int) x17_1 = some (r1, r2)) ∧ Aside0 (kq ≤ k) ∧ Aside0 (Kd.S (Kd.slice 3 (Kd.int .i64)) 24 w' w.heap.size (fun k_ => some k_ ≠ (v5 : Value).ownBlock) v146 t145) ∧ Aside0 (Kd.R (Kd.int .i64) 3 w' w.heap.size (fun _ => True) v5 x5_1) ∧ Aside0 (Below w.heap.size w w'))
 case atStart => exact ⟨(([] : List Int)), (0), (0), qz3, qz3, H', ⟨Nat.le_refl _⟩, ⟨by (with_reducible repeat (first | apply Kd.S_alloc | apply Kd.S_drewN | apply Kd.S_drew)); exact Kd.S_mono HO147.out (fun _ hk => (by simp [Value.ownBlock]))⟩, ⟨by first | exact Kd.R_nil _ _ _ _ _ | exact Kd.N_nil _ _ _ _ _ | exact Kd.V_nil _ _ _ _ _ | exact Kd.Q_nil _ _ _ _ _ | exact Kd.S_nil _ _ _ _ _⟩, ⟨qz1⟩⟩
 case round =>
 clear H'
 try clear c3
 obtain ⟨x5_1, x6_1, x17_1, rfl, rfl, HA, HK1, HO_4, HO_5, HB⟩ := hrel
 cases gk with
 | zero => exact absurd HA.out (by simp [impl_Match.l0])
 | succ k1 =>
 have H := HA.out
 clear HA
 simp only [impl_Match.l0] at H
 replace H := iE_ H
 rcases H with ⟨c6b0, H⟩ | ⟨c6b0, H⟩
 {
 replace H := iD_ H
 obtain ⟨c7b0, H⟩ := H
 replace H := iD_ H
 obtain ⟨c8b0, H⟩ := H
 have H' := aM H
 clear H
 have p150 : (0 ≤ (x17_1 : Int)) = True := et_
 have q150 : (x17_1 < (l0.length : Int)) = True := et_
 obtain ⟨ad150, A150_0, c150_0, e150, hx150_0, hl150_0, hi150_0⟩ := at_L1 HR0.out x17_1 dt_ dt_
 cases e150
 replace hx150_0 := cB_ hx150_0
 have HR150_0 := aM hi150_0
 have HC150_0 := aM hl150_0
 clear hi150_0 hl150_0
 go_wp2
 repeat (go_quiet (fail); try go_wp2)
 go_loopg [5, 6, 24] k1 (fun kq v5 v6 v24 w' => ∃ (x5_2 : List Int) (x6_2 : Int) (x24_2 : Int), v6 = .int .i64 x6_2 ∧ v24 = .int .i64 x24_2 ∧ Aside0 (impl_Match.l1 kq t145 x5_2 x6_2 x17_1 (rd_L1 l0 x17_1) l0 (l0.length : Int) x17_1 ((rd_L1 l0 x17_1).length : Int) x24_2 = some (r1, r2)) ∧ Aside0 (kq ≤ k1) ∧ Aside0 (Kd.S (Kd.slice 3 (Kd.int .i64)) 24 w' w.heap.size (fun k_ => some k_ ≠ (v5 : Value).ownBlock) v146 t145) ∧ Aside0 (Kd.R (Kd.int .i64) 3 w' w.heap.size (fun _ => True) v5 x5_2) ∧ Aside0 (Below w.heap.size w w'))
 case atStart => exact ⟨(x5_1), (x6_1), (0), qz3, qz3, H', ⟨Nat.le_refl _⟩, ⟨rs_ HO_4.out⟩, ⟨rr_ HO_5.out⟩, ⟨qz1⟩⟩
 case round =>
 clear H'
 try clear c3
 try clear c6
 try clear c6b0
 try clear c7
 try clear c7b0
 try clear c8
 try clear c8b0
 try clear hx150_0
 try clear p150
 try clear q150
 obtain ⟨x5_2, x6_2, x24_2, rfl, rfl, HA, HK2, HO_4, HO_5, HB⟩ := hrel
 cases gk with
 | zero => exact absurd HA.out (by simp [impl_Match.l1])
 | succ k2 =>
 have H := HA.out
 clear HA
 simp only [impl_Match.l1] at H
 replace H := iE_ H
 rcases H with ⟨c9b0, H⟩ | ⟨c9b0, H⟩
 {
 replace H := iN_ H
 obtain ⟨c10, H⟩ := H
 have c10b0 := eq_true c10
 have c10b1 := decide_eq_true c10
 clear c10
 obtain ⟨ji11, hji11⟩ : ∃ j_ : Int, (shr .i64 x6_2 x24_2) = j_ := ⟨_, rfl⟩
 replace H : (if (Go.bits .and .i64 (ji11) 1) = 1 then (impl_Match.l1 k2 t145 x5_2 x6_2 x17_1 (rd_L1 l0 x17_1) l0 (l0.length : Int) x17_1 ((rd_L1 l0 x17_1).length : Int) (wrap64 (x24_2 + 1))) else (if 0 ≤ (wrap64 (x17_1 + 1)) then (if (wrap64 (x17_1 + 1)) < (t145.length : Int) then (if 0 ≤ (Go.bits .or .i64 x6_2 (shl .i64 1 x24_2)) then (if (Go.bits .or .i64 x6_2 (shl .i64 1 x24_2)) < ((rd_L1 t145 (wrap64 (x17_1 + 1))).length : Int) then (if (rd (rd_L1 t145 (wrap64 (x17_1 + 1))) (Go.bits .or .i64 x6_2 (shl .i64 1 x24_2))) < 0 then (impl_Match.l1 k2 t145 x5_2 x6_2 x17_1 (rd_L1 l0 x17_1) l0 (l0.length : Int) x17_1 ((rd_L1 l0 x17_1).length : Int) (wrap64 (x24_2 + 1))) else (if x24_2 < ((rd_L1 l0 x17_1).length : Int) then (if 0 ≤ x17_1 then (if x17_1 < (t145.length : Int) then (if 0 ≤ x6_2 then (if x6_2 < ((rd_L1 t145 x17_1).length : Int) then (if (wrap64 ((rd (rd_L1 l0 x17_1) x24_2) + (rd (rd_L1 t145 (wrap64 (x17_1 + 1))) (Go.bits .or .i64 x6_2 (shl .i64 1 x24_2))))) = (rd (rd_L1 t145 x17_1) x6_2) then (if x5_2.length < 17592186044416 then (impl_Match.l0 k2 t145 (x5_2 ++ [x24_2]) (Go.bits .or .i64 x6_2 (shl .i64 1 x24_2)) l0 (l0.length : Int) (wrap64 (x17_1 + 1))) else (none)) else (impl_Match.l1 k2 t145 x5_2 x6_2 x17_1 (rd_L1 l0 x17_1) l0 (l0.length : Int) x17_1 ((rd_L1 l0 x17_1).length : Int) (wrap64 (x24_2 + 1)))) else (none)) else (none)) else (none)) else (none)) else (none))) else (none)) else (none)) else (none)) else (none))) = some (r1, r2) := by first | (rw [hji11] at H; exact H) | (simp only [hji11] at H ⊢; exact H)
 have hji11_ : (x6_2 / 2 ^ min x24_2.toNat 64) = ji11 := hji11
 have hji11z : x24_2 ≤ 64 → (x6_2 / 2 ^ x24_2.toNat) = ji11 := shr_small hji11
 replace H := iQ_ H
 rcases H with ⟨c12b0, c12b1, H⟩ | ⟨c12, c12b0, c12b1, H⟩
 {
 have H' := aM H
 clear H
 go_wp2
 repeat (go_quiet (fail); try go_wp2)
 go_roundg k2
 case measure => have := HK1.out; have := HK2.out; omega
 case rel => exact ⟨(x5_2), (x6_2), (wrap64 (x24_2 + 1)), qz3, qz3, H', ⟨by have := HK1.out; have := HK2.out; omega⟩, ⟨rm_ HO_4.out⟩, ⟨rm_ HO_5.out⟩, ⟨qz1⟩⟩
 }
 {
 obtain ⟨ji13, hji13⟩ : ∃ j_ : Int, (wrap64 (x17_1 + 1)) = j_ := ⟨_, rfl⟩
 replace H : (if 0 ≤ (ji13) then (if (ji13) < (t145.length : Int) then (if 0 ≤ (Go.bits .or .i64 x6_2 (shl .i64 1 x24_2)) then (if (Go.bits .or .i64 x6_2 (shl .i64 1 x24_2)) < ((rd_L1 t145 (ji13)).length : Int) then (if (rd (rd_L1 t145 (ji13)) (Go.bits .or .i64 x6_2 (shl .i64 1 x24_2))) < 0 then (impl_Match.l1 k2 t145 x5_2 x6_2 x17_1 (rd_L1 l0 x17_1) l0 (l0.length : Int) x17_1 ((rd_L1 l0 x17_1).length : Int) (wrap64 (x24_2 + 1))) else (if x24_2 < ((rd_L1 l0 x17_1).length : Int) then (if 0 ≤ x17_1 then (if x17_1 < (t145.length : Int) then (if 0 ≤ x6_2 then (if x6_2 < ((rd_L1 t145 x17_1).length : Int) then (if (wrap64 ((rd (rd_L1 l0 x17_1) x24_2) + (rd (rd_L1 t145 (ji13)) (Go.bits .or .i64 x6_2 (shl .i64 1 x24_2))))) = (rd (rd_L1 t145 x17_1) x6_2) then (if x5_2.length < 17592186044416 then (impl_Match.l0 k2 t145 (x5_2 ++ [x24_2]) (Go.bits .or .i64 x6_2 (shl .i64 1 x24_2)) l0 (l0.length : Int) ji13) else (none)) else (impl_Match.l1 k2 t145 x5_2 x6_2 x17_1 (rd_L1 l0 x17_1) l0 (l0.length : Int) x17_1 ((rd_L1 l0 x17_1).length : Int) (wrap64 (x24_2 + 1)))) else (none)) else (none)) else (none)) else (none)) else (none))) else (none)) else (none)) else (none)) else (none)) = some (r1, r2) := by first | (rw [hji13] at H; exact H) | (simp only [hji13] at H ⊢; exact H)
 have hji13w : (IntKind.i64.wrap (x17_1 + 1)) = ji13 := (i64_w _).trans hji13
 replace H := iD_ H
 obtain ⟨c14b0, H⟩ := H
 replace H := iD_ H
 obtain ⟨c15b0, H⟩ := H
 have c16b0 := eq_true (dt_ : 0 ≤ x24_2)
 obtain ⟨ji17, hji17⟩ : ∃ j_ : Int, (shl .i64 1 x24_2) = j_ := ⟨_, rfl⟩
 replace H : (if 0 ≤ (Go.bits .or .i64 x6_2 (ji17)) then (if (Go.bits .or .i64 x6_2 (ji17)) < ((rd_L1 t145 (ji13)).length : Int) then (if (rd (rd_L1 t145 (ji13)) (Go.bits .or .i64 x6_2 (ji17))) < 0 then (impl_Match.l1 k2 t145 x5_2 x6_2 x17_1 (rd_L1 l0 x17_1) l0 (l0.length : Int) x17_1 ((rd_L1 l0 x17_1).length : Int) (wrap64 (x24_2 + 1))) else (if x24_2 < ((rd_L1 l0 x17_1).length : Int) then (if 0 ≤ x17_1 then (if x17_1 < (t145.length : Int) then (if 0 ≤ x6_2 then (if x6_2 < ((rd_L1 t145 x17_1).length : Int) then (if (wrap64 ((rd (rd_L1 l0 x17_1) x24_2) + (rd (rd_L1 t145 (ji13)) (Go.bits .or .i64 x6_2 (ji17))))) = (rd (rd_L1 t145 x17_1) x6_2) then (if x5_2.length < 17592186044416 then (impl_Match.l0 k2 t145 (x5_2 ++ [x24_2]) (Go.bits .or .i64 x6_2 (ji17)) l0 (l0.length : Int) ji13) else (none)) else (impl_Match.l1 k2 t145 x5_2 x6_2 x17_1 (rd_L1 l0 x17_1) l0 (l0.length : Int) x17_1 ((rd_L1 l0 x17_1).length : Int) (wrap64 (x24_2 + 1)))) else (none)) else (none)) else (none)) else (none)) else (none))) else (none)) else (none)) = some (r1, r2) := by first | (rw [hji17] at H; exact H) | (simp only [hji17] at H ⊢; exact H)
 have hji17_ : (IntKind.i64.wrap (1 * 2 ^ min x24_2.toNat 64)) = ji17 := hji17
 have hji17z : x24_2 ≤ 64 → (IntKind.i64.wrap (1 * 2 ^ x24_2.toNat)) = ji17 := shl_small hji17
 have hji17u : (IntKind.i64.wrap (2 ^ min x24_2.toNat 64)) = ji17 := by have h_ := hji17_; rw [Int.one_mul] at h_; exact h_
 have hji17v : x24_2 ≤ 64 → (IntKind.i64.wrap (2 ^ x24_2.toNat)) = ji17 := fun hle_ => by have h_ := hji17z hle_; rw [Int.one_mul] at h_; exact h_
 have hji17y : (wrap64 (1 * 2 ^ min x24_2.toNat 64)) = ji17 := (i64_w _).symm.trans hji17_
 have hji17x : x24_2 ≤ 64 → (wrap64 (1 * 2 ^ x24_2.toNat)) = ji17 := fun h_ => (i64_w _).symm.trans (hji17z h_)
 replace H := iD_ H
 obtain ⟨c18b0, H⟩ := H
 replace H := iD_ H
 obtain ⟨c19b0, H⟩ := H
 replace H := iE_ H
 rcases H with ⟨c20b0, H⟩ | ⟨c20b0, H⟩
 {
 have H' := aM H
 clear H
 obtain ⟨Ao21, co21, eo21⟩ := Kd.S_slice HO_4.out
 subst eo21
 have p151 : 0 ≤ ((ji13) : Int) := dt_
 have q151 : (ji13) < (t145.length : Int) := dt_
 obtain ⟨ad151, A151_0, c151_0, e151, hx151_0, hl151_0, hi151_0⟩ := at_L1 (Kd.S_reads' HO_4.out).2.2 (ji13) p151 q151
 cases e151
 obtain ⟨ce151, hce151, hMe151, hcc151⟩ := Kd.S_get HO_4.out [] (ji13) p151 (by first | exact q151 | exact dt_ | (have e_ := (Kd.S_reads' HO_4.out).1; omega))
 obtain ⟨ve151_0, rfl, ge151_0⟩ := hMe151
 have hv151_0 := hcc151 0 _ rfl
 rw [Nat.add_zero, show ((Kd.slice 3 (Kd.int .i64))).sz = 1 from rfl, Nat.mul_one] at hv151_0
 replace hv151_0 := Option.some.inj (hv151_0.symm.trans hx151_0)
 rw [hv151_0] at ge151_0
 have HL151_0 := aM (show Kd.R (Kd.int .i64) 3 _ _ _ _ (rd_L1 t145 (ji13)) from ge151_0)
 clear hv151_0 ge151_0 hcc151 hce151
 have HR151_0 := aM hi151_0
 have HC151_0 := aM hl151_0
 clear hi151_0 hl151_0
 replace p151 := eq_true p151
 replace q151 := eq_true q151
 have p152 : (0 ≤ ((Go.bits .or .i64 x6_2 (ji17)) : Int)) = True := et_
 have q152 : ((Go.bits .or .i64 x6_2 (ji17)) < ((rd_L1 t145 (ji13)).length : Int)) = True := et_
 obtain ⟨ad152, e152, hx152_0⟩ := Kd.at_int qz22 (Go.bits .or .i64 x6_2 (ji17)) dt_ dt_
 cases e152
 go_wp2
 repeat (go_quiet (fail); try go_wp2)
 go_roundg k2
 case measure => have := HK1.out; have := HK2.out; omega
 case rel => exact ⟨(x5_2), (x6_2), (wrap64 (x24_2 + 1)), qz3, qz3, H', ⟨by have := HK1.out; have := HK2.out; omega⟩, ⟨rm_ HO_4.out⟩, ⟨rm_ HO_5.out⟩, ⟨qz1⟩⟩
 }
 {
 replace H := iD_ H
 obtain ⟨c22b0, H⟩ := H
 have c23b0 := eq_true (dt_ : 0 ≤ x24_2)
 replace H := iD_ H
 obtain ⟨c25b0, H⟩ := H
 replace H := iD_ H
 obtain ⟨c26b0, H⟩ := H
 replace H := iD_ H
 obtain ⟨c27b0, H⟩ := H
 replace H := iD_ H
 obtain ⟨c28b0, H⟩ := H
 replace H := iQ_ H
 rcases H with ⟨c29b0, c29b1, H⟩ | ⟨c29, c29b0, c29b1, H⟩
 {
 replace H := iN_ H
 obtain ⟨c30, H⟩ := H
 have LMc30 := aM c30
 clear c30
 obtain ⟨y158, hy158⟩ : ∃ y_ : List Int, y_ = (x5_2 ++ [x24_2]) := ⟨_, rfl⟩
 replace H : (impl_Match.l0 k2 t145 y158 (Go.bits .or .i64 x6_2 (ji17)) l0 (l0.length : Int) ji13) = some (r1, r2) := by first | (rw [hy158]; exact H) | exact H
 have Ny158 := aM hy158
 clear hy158
 have c31b0 := eq_true (dt_ : 0 ≤ x24_2)
 have H' := aM H
 clear H
 obtain ⟨Ao33, co33, eo33⟩ := Kd.S_slice HO_4.out
 subst eo33
 have p151 : 0 ≤ ((ji13) : Int) := dt_
 have q151 : (ji13) < (t145.length : Int) := dt_
 obtain ⟨ad151, A151_0, c151_0, e151, hx151_0, hl151_0, hi151_0⟩ := at_L1 (Kd.S_reads' HO_4.out).2.2 (ji13) p151 q151
 cases e151
 obtain ⟨ce151, hce151, hMe151, hcc151⟩ := Kd.S_get HO_4.out [] (ji13) p151 (by first | exact q151 | exact dt_ | (have e_ := (Kd.S_reads' HO_4.out).1; omega))
 obtain ⟨ve151_0, rfl, ge151_0⟩ := hMe151
 have hv151_0 := hcc151 0 _ rfl
 rw [Nat.add_zero, show ((Kd.slice 3 (Kd.int .i64))).sz = 1 from rfl, Nat.mul_one] at hv151_0
 replace hv151_0 := Option.some.inj (hv151_0.symm.trans hx151_0)
 rw [hv151_0] at ge151_0
 have HL151_0 := aM (show Kd.R (Kd.int .i64) 3 _ _ _ _ (rd_L1 t145 (ji13)) from ge151_0)
 clear hv151_0 ge151_0 hcc151 hce151
 have HR151_0 := aM hi151_0
 have HC151_0 := aM hl151_0
 clear hi151_0 hl151_0
 replace p151 := eq_true p151
 replace q151 := eq_true q151
 have p152 : (0 ≤ ((Go.bits .or .i64 x6_2 (ji17)) : Int)) = True := et_
 have q152 : ((Go.bits .or .i64 x6_2 (ji17)) < ((rd_L1 t145 (ji13)).length : Int)) = True := et_
 obtain ⟨ad152, e152, hx152_0⟩ := Kd.at_int qz22 (Go.bits .or .i64 x6_2 (ji17)) dt_ dt_
 cases e152
 have p153 : (0 ≤ (x24_2 : Int)) = True := et_
 have q153 : (x24_2 < ((rd_L1 l0 x17_1).length : Int)) = True := et_
 obtain ⟨ad153, e153, hx153_0⟩ := tC1_ (Kd.at_int HR150_0.out x24_2 dt_ dt_)
 cases e153
 have p154 : 0 ≤ ((ji13) : Int) := dt_
 have q154 : (ji13) < (t145.length : Int) := dt_
 obtain ⟨ad154, A154_0, c154_0, e154, hx154_0, hl154_0, hi154_0⟩ := at_L1 (Kd.S_reads' HO_4.out).2.2 (ji13) p154 q154
 obtain rfl : ad151 = ad154 := (by injection e154)
 obtain ⟨ce154, hce154, hMe154, hcc154⟩ := Kd.S_get HO_4.out [] (ji13) p154 (by first | exact q154 | exact dt_ | (have e_ := (Kd.S_reads' HO_4.out).1; omega))
 obtain ⟨ve154_0, rfl, ge154_0⟩ := hMe154
 have hv154_0 := hcc154 0 _ rfl
 rw [Nat.add_zero, show ((Kd.slice 3 (Kd.int .i64))).sz = 1 from rfl, Nat.mul_one] at hv154_0
 replace hv154_0 := Option.some.inj (hv154_0.symm.trans hx154_0)
 rw [hv154_0] at ge154_0
 have HL154_0 := aM (show Kd.R (Kd.int .i64) 3 _ _ _ _ (rd_L1 t145 (ji13)) from ge154_0)
 clear hv154_0 ge154_0 hcc154 hce154
 have HR154_0 := aM hi154_0
 have HC154_0 := aM hl154_0
 clear hi154_0 hl154_0
 replace p154 := eq_true p154
 replace q154 := eq_true q154
 have ea_ := Option.some.inj (hx151_0.symm.trans hx154_0)
 injection ea_ with ea_ en_ ec_
 subst ea_
 subst ec_
 clear en_
 have p155 : (0 ≤ ((Go.bits .or .i64 x6_2 (ji17)) : Int)) = True := et_
 have q155 : ((Go.bits .or .i64 x6_2 (ji17)) < ((rd_L1 t145 (ji13)).length : Int)) = True := et_
 obtain ⟨ad155, e155, hx155_0⟩ := Kd.at_int qz26 (Go.bits .or .i64 x6_2 (ji17)) dt_ dt_
 cases e155
 have p156 : 0 ≤ (x17_1 : Int) := dt_
 have q156 : x17_1 < (t145.length : Int) := dt_
 obtain ⟨ad156, A156_0, c156_0, e156, hx156_0, hl156_0, hi156_0⟩ := at_L1 (Kd.S_reads' HO_4.out).2.2 x17_1 p156 q156
 obtain rfl : ad151 = ad156 := (by injection e156)
 obtain ⟨ce156, hce156, hMe156, hcc156⟩ := Kd.S_get HO_4.out [] x17_1 p156 (by first | exact q156 | exact dt_ | (have e_ := (Kd.S_reads' HO_4.out).1; omega))
 obtain ⟨ve156_0, rfl, ge156_0⟩ := hMe156
 have hv156_0 := hcc156 0 _ rfl
 rw [Nat.add_zero, show ((Kd.slice 3 (Kd.int .i64))).sz = 1 from rfl, Nat.mul_one] at hv156_0
 replace hv156_0 := Option.some.inj (hv156_0.symm.trans hx156_0)
 rw [hv156_0] at ge156_0
 have HL156_0 := aM (show Kd.R (Kd.int .i64) 3 _ _ _ _ (rd_L1 t145 x17_1) from ge156_0)
 clear hv156_0 ge156_0 hcc156 hce156
 have HR156_0 := aM hi156_0
 have HC156_0 := aM hl156_0
 clear hi156_0 hl156_0
 replace p156 := eq_true p156
 replace q156 := eq_true q156
 have p157 : (0 ≤ (x6_2 : Int)) = True := et_
 have q157 : (x6_2 < ((rd_L1 t145 x17_1).length : Int)) = True := et_
 obtain ⟨ad157, e157, hx157_0⟩ := Kd.at_int qz27 x6_2 dt_ dt_
 cases e157
 go_wp2_with (first | ((with_reducible refine gate_builtin (b := .append) (xs := #[.tmp 72, .tmp 74]) rfl ?_); at_builtin; refine Kd.R_append (Kd.int .i64) (w0 := w) w.heap.size rfl (.tmp 72) (.tmp 74) 24 3 (.int .i64 0) 8 rfl Try.underlying24 info3 rfl (by decide) (by omega) u5 x5_2 x24_2 [.int .i64 x24_2] (fun _ => True) (fun _ => False) rfl rfl ?aP (fun _ hk => hk.elim) ?aF ?aO ?aB ?aS ?aL ?_; (case aP => exact rfl); (case aB => exact qz1); (case aF => exact (fun _ _ => trivial)); (case aO => exact (rr_ HO_5.out)); (case aS => exact (below_size qz1)); (case aL => have := LMc30.out; omega); intro v159 w34 ho hb hg hat; rw [← Ny158.out] at ho; replace HO_4 := aM (Kd.S_after (ok := (fun _ => True)) (by (with_reducible repeat (first | apply Kd.S_alloc | apply Kd.S_drewN | apply Kd.S_drew)); exact Kd.S_mono HO_4.out (fun _ hk => ⟨trivial, hk⟩)) hg hat); replace HL151_0 := aM (Kd.R_after (ok := (fun k_ => some k_ ≠ (.slice (some ad151) t145.length co33 : Value).ownBlock)) (by (with_reducible repeat (first | apply Kd.R_alloc | apply Kd.R_drewN | apply Kd.R_drew)); exact Kd.R_mono HL151_0.out (fun _ hk => ⟨hk.2, hk.1⟩)) hg hat); replace HL154_0 := aM (Kd.R_after (ok := (fun k_ => some k_ ≠ (.slice (some ad151) t145.length co33 : Value).ownBlock)) (by (with_reducible repeat (first | apply Kd.R_alloc | apply Kd.R_drewN | apply Kd.R_drew)); exact Kd.R_mono HL154_0.out (fun _ hk => ⟨hk.2, hk.1⟩)) hg hat); replace HL156_0 := aM (Kd.R_after (ok := (fun k_ => some k_ ≠ (.slice (some ad151) t145.length co33 : Value).ownBlock)) (by (with_reducible repeat (first | apply Kd.R_alloc | apply Kd.R_drewN | apply Kd.R_drew)); exact Kd.R_mono HL156_0.out (fun _ hk => ⟨hk.2, hk.1⟩)) hg hat); replace HB := aM (hb); have HO160 := aM (ho); clear HO_5; clear ho hb hg hat) | go_quiet (fail))
 go_roundg k2
 case measure => have := HK1.out; have := HK2.out; omega
 case rel => exact ⟨(y158), (Go.bits .or .i64 x6_2 (ji17)), (ji13), (by first | rfl | (simp; done) | (simp only [← hji17] <;> (first | rfl | simp)) | (simp [*]; done)), (by first | rfl | (simp; done) | (simp only [← hji13] <;> (first | rfl | simp)) | (simp [*]; done)), H', ⟨by have := HK1.out; have := HK2.out; omega⟩, ⟨by (with_reducible repeat (first | apply Kd.S_alloc | apply Kd.S_drewN | apply Kd.S_drew)); exact Kd.S_mono HO_4.out (fun _ hk => hk.2)⟩, ⟨rm_ HO160.out⟩, ⟨qz1⟩⟩
 }
 {
 have H' := aM H
 clear H
 obtain ⟨Ao35, co35, eo35⟩ := Kd.S_slice HO_4.out
 subst eo35
 have p151 : 0 ≤ ((ji13) : Int) := dt_
 have q151 : (ji13) < (t145.length : Int) := dt_
 obtain ⟨ad151, A151_0, c151_0, e151, hx151_0, hl151_0, hi151_0⟩ := at_L1 (Kd.S_reads' HO_4.out).2.2 (ji13) p151 q151
 cases e151
 obtain ⟨ce151, hce151, hMe151, hcc151⟩ := Kd.S_get HO_4.out [] (ji13) p151 (by first | exact q151 | exact dt_ | (have e_ := (Kd.S_reads' HO_4.out).1; omega))
 obtain ⟨ve151_0, rfl, ge151_0⟩ := hMe151
 have hv151_0 := hcc151 0 _ rfl
 rw [Nat.add_zero, show ((Kd.slice 3 (Kd.int .i64))).sz = 1 from rfl, Nat.mul_one] at hv151_0
 replace hv151_0 := Option.some.inj (hv151_0.symm.trans hx151_0)
 rw [hv151_0] at ge151_0
 have HL151_0 := aM (show Kd.R (Kd.int .i64) 3 _ _ _ _ (rd_L1 t145 (ji13)) from ge151_0)
 clear hv151_0 ge151_0 hcc151 hce151
 have HR151_0 := aM hi151_0
 have HC151_0 := aM hl151_0
 clear hi151_0 hl151_0
 replace p151 := eq_true p151
 replace q151 := eq_true q151
 have p152 : (0 ≤ ((Go.bits .or .i64 x6_2 (ji17)) : Int)) = True := et_
 have q152 : ((Go.bits .or .i64 x6_2 (ji17)) < ((rd_L1 t145 (ji13)).length : Int)) = True := et_
 obtain ⟨ad152, e152, hx152_0⟩ := Kd.at_int qz22 (Go.bits .or .i64 x6_2 (ji17)) dt_ dt_
 cases e152
 have p153 : (0 ≤ (x24_2 : Int)) = True := et_
 have q153 : (x24_2 < ((rd_L1 l0 x17_1).length : Int)) = True := et_
 obtain ⟨ad153, e153, hx153_0⟩ := tC1_ (Kd.at_int HR150_0.out x24_2 dt_ dt_)
 cases e153
 have p154 : 0 ≤ ((ji13) : Int) := dt_
 have q154 : (ji13) < (t145.length : Int) := dt_
 obtain ⟨ad154, A154_0, c154_0, e154, hx154_0, hl154_0, hi154_0⟩ := at_L1 (Kd.S_reads' HO_4.out).2.2 (ji13) p154 q154
 obtain rfl : ad151 = ad154 := (by injection e154)
 obtain ⟨ce154, hce154, hMe154, hcc154⟩ := Kd.S_get HO_4.out [] (ji13) p154 (by first | exact q154 | exact dt_ | (have e_ := (Kd.S_reads' HO_4.out).1; omega))
 obtain ⟨ve154_0, rfl, ge154_0⟩ := hMe154
 have hv154_0 := hcc154 0 _ rfl
 rw [Nat.add_zero, show ((Kd.slice 3 (Kd.int .i64))).sz = 1 from rfl, Nat.mul_one] at hv154_0
 replace hv154_0 := Option.some.inj (hv154_0.symm.trans hx154_0)
 rw [hv154_0] at ge154_0
 have HL154_0 := aM (show Kd.R (Kd.int .i64) 3 _ _ _ _ (rd_L1 t145 (ji13)) from ge154_0)
 clear hv154_0 ge154_0 hcc154 hce154
 have HR154_0 := aM hi154_0
 have HC154_0 := aM hl154_0
 clear hi154_0 hl154_0
 replace p154 := eq_true p154
 replace q154 := eq_true q154
 have ea_ := Option.some.inj (hx151_0.symm.trans hx154_0)
 injection ea_ with ea_ en_ ec_
 subst ea_
 subst ec_
 clear en_
 have p155 : (0 ≤ ((Go.bits .or .i64 x6_2 (ji17)) : Int)) = True := et_
 have q155 : ((Go.bits .or .i64 x6_2 (ji17)) < ((rd_L1 t145 (ji13)).length : Int)) = True := et_
 obtain ⟨ad155, e155, hx155_0⟩ := Kd.at_int qz26 (Go.bits .or .i64 x6_2 (ji17)) dt_ dt_
 cases e155
 have p156 : 0 ≤ (x17_1 : Int) := dt_
 have q156 : x17_1 < (t145.length : Int) := dt_
 obtain ⟨ad156, A156_0, c156_0, e156, hx156_0, hl156_0, hi156_0⟩ := at_L1 (Kd.S_reads' HO_4.out).2.2 x17_1 p156 q156
 obtain rfl : ad151 = ad156 := (by injection e156)
 obtain ⟨ce156, hce156, hMe156, hcc156⟩ := Kd.S_get HO_4.out [] x17_1 p156 (by first | exact q156 | exact dt_ | (have e_ := (Kd.S_reads' HO_4.out).1; omega))
 obtain ⟨ve156_0, rfl, ge156_0⟩ := hMe156
 have hv156_0 := hcc156 0 _ rfl
 rw [Nat.add_zero, show ((Kd.slice 3 (Kd.int .i64))).sz = 1 from rfl, Nat.mul_one] at hv156_0
 replace hv156_0 := Option.some.inj (hv156_0.symm.trans hx156_0)
 rw [hv156_0] at ge156_0
 have HL156_0 := aM (show Kd.R (Kd.int .i64) 3 _ _ _ _ (rd_L1 t145 x17_1) from ge156_0)
 clear hv156_0 ge156_0 hcc156 hce156
 have HR156_0 := aM hi156_0
 have HC156_0 := aM hl156_0
 clear hi156_0 hl156_0
 replace p156 := eq_true p156
 replace q156 := eq_true q156
 have p157 : (0 ≤ (x6_2 : Int)) = True := et_
 have q157 : (x6_2 < ((rd_L1 t145 x17_1).length : Int)) = True := et_
 obtain ⟨ad157, e157, hx157_0⟩ := Kd.at_int qz27 x6_2 dt_ dt_
 cases e157
 go_wp2
 repeat (go_quiet (fail); try go_wp2)
 go_roundg k2
 case measure => have := HK1.out; have := HK2.out; omega
 case rel => exact ⟨(x5_2), (x6_2), (wrap64 (x24_2 + 1)), qz3, qz3, H', ⟨by have := HK1.out; have := HK2.out; omega⟩, ⟨rm_ HO_4.out⟩, ⟨rm_ HO_5.out⟩, ⟨qz1⟩⟩
 }
 }
 }
 }
 {
 have H' := aM H
 clear H
 go_wp2
 repeat (go_quiet (fail); try go_wp2)
 go_roundg k2
 case measure => have := HK1.out; have := HK2.out; omega
 case rel => exact ⟨(x5_2), (x6_2), (wrap64 (x17_1 + 1)), qz3, qz3, H', ⟨by have := HK1.out; have := HK2.out; omega⟩, ⟨rm_ HO_4.out⟩, ⟨rm_ HO_5.out⟩, ⟨qz1⟩⟩
 }
 }
 {
 replace H := iN_ H
 obtain ⟨c36, H⟩ := H
 have c36b0 := decide_eq_true c36
 have c36b1 : decide (0 < t145.length) = true := decide_eq_true (by omega)
 clear c36
 replace H := iN_ H
 obtain ⟨c37, H⟩ := H
 have c37b0 := decide_eq_true c37
 have c37b1 : decide (0 < (rd_L1 t145 0).length) = true := decide_eq_true (by omega)
 clear c37
 simp only [Option.some.injEq, Prod.mk.injEq] at H
 obtain ⟨rfl, rfl⟩ := H
 obtain ⟨Ao38, co38, eo38⟩ := Kd.S_slice HO_4.out
 subst eo38
 have p148 : 0 ≤ (0 : Int) := (by omega)
 have q148 : 0 < (t145.length : Int) := dt_
 obtain ⟨ad148, A148_0, c148_0, e148, hx148_0, hl148_0, hi148_0⟩ := at_L1 (Kd.S_reads' HO_4.out).2.2 0 p148 q148
 cases e148
 obtain ⟨ce148, hce148, hMe148, hcc148⟩ := Kd.S_get HO_4.out [] 0 p148 (by first | exact q148 | exact dt_ | (have e_ := (Kd.S_reads' HO_4.out).1; omega))
 obtain ⟨ve148_0, rfl, ge148_0⟩ := hMe148
 have hv148_0 := hcc148 0 _ rfl
 rw [Nat.add_zero, show ((Kd.slice 3 (Kd.int .i64))).sz = 1 from rfl, Nat.mul_one] at hv148_0
 replace hv148_0 := Option.some.inj (hv148_0.symm.trans hx148_0)
 rw [hv148_0] at ge148_0
 have HL148_0 := aM (show Kd.R (Kd.int .i64) 3 _ _ _ _ (rd_L1 t145 0) from ge148_0)
 clear hv148_0 ge148_0 hcc148 hce148
 have qi148 : (0 < t145.length) = True := eq_true (by omega)
 (try rw [show ((0 : Int)).toNat = 0 from rfl] at hx148_0)
 (try rw [Addr.add_zero'] at hx148_0)
 have HR148_0 := aM hi148_0
 have HC148_0 := aM hl148_0
 clear hi148_0 hl148_0
 replace p148 := eq_true p148
 replace q148 := eq_true q148
 have p149 : 0 ≤ (0 : Int) := (by omega)
 have q149 : 0 < ((rd_L1 t145 0).length : Int) := dt_
 obtain ⟨ad149, e149, hx149_0⟩ := Kd.at_int (by repeat (first | (with_reducible exact HR148_0.out) | (with_reducible refine Kd.C_alloc ?_ _) | (with_reducible refine Kd.C_drewN ?_ _) | (with_reducible refine Kd.C_drew ?_) | exact HR148_0.out)) 0 p149 q149
 cases e149
 have qi149 : (0 < (rd_L1 t145 0).length) = True := eq_true (by omega)
 (try rw [show ((0 : Int)).toNat = 0 from rfl] at hx149_0)
 (try rw [Addr.add_zero'] at hx149_0)
 replace p149 := eq_true p149
 replace q149 := eq_true q149
 go_wp2
 repeat (go_quiet (fail); try go_wp2)
 go_ret2
 exact ⟨_, qzw, by (with_reducible repeat (first | apply Kd.R_alloc | apply Kd.R_drewN | apply Kd.R_drew)); exact HO_5.out, qz1⟩
 }
 }
 {
 simp only [Option.some.injEq, Prod.mk.injEq] at H
 obtain ⟨rfl, rfl⟩ := H
 go_enter Try.func10, Try.ntmps10
 go_wp2_with (first | (go_at_call 18; (with_reducible refine (impl_CostsOk.calls k _ _ l0 false _ ?_ ?_ A2.out).mono ?_); exact qz6; exact HC0.out; rintro e w' ⟨rfl, ⟨nd, rfl⟩⟩; (try first | exact ⟨rfl, _, World.drewN_drewN _ _ _⟩ | exact ⟨rfl, _, Eq.trans (World.drewN_drewN _ _ _) (congrArg (World.drewN _) (Nat.add_assoc _ _ _))⟩)) | go_quiet (first | (go_at_call 18; (with_reducible refine (impl_CostsOk.calls k _ _ l0 false _ ?_ ?_ A2.out).mono ?_); exact qz6; exact HC0.out; rintro e w' ⟨rfl, ⟨nd, rfl⟩⟩; (try first | exact ⟨rfl, _, World.drewN_drewN _ _ _⟩ | exact ⟨rfl, _, Eq.trans (World.drewN_drewN _ _ _) (congrArg (World.drewN _) (Nat.add_assoc _ _ _))⟩))))
 go_ret2
 exact ⟨_, qzw, by first | exact Kd.R_nil _ _ _ _ _ | exact Kd.N_nil _ _ _ _ _ | exact Kd.V_nil _ _ _ _ _ | exact Kd.Q_nil _ _ _ _ _ | exact Kd.S_nil _ _ _ _ _, qz1⟩
 }
/-! ### laws_big: function 16 -/
def laws_big.f (l0 : List Int) : Option (Bool) := some (decide ((l0.length : Int) > 1048576))
set_option maxHeartbeats 8000000 in
set_option maxRecDepth 100000 in
theorem laws_big.calls (A0 : Option Addr) (c0 : Nat) (l0 : List Int) (r : Bool) (w : World) (hr0 : Kd.C (Kd.int .u8) w A0 l0.length l0) (hc0 : l0.length ≤ c0) (h : laws_big.f l0 = some r) :
  Calls Try.prog 16 #[.slice A0 l0.length c0] w fun e w' => e = .returned (.bool r) ∧ Drawn0 w w' := by
 have HR0 := aM hr0
 have HC0 := aM hc0
 clear hr0 hc0
 unfold laws_big.f at h
 have H := h
 clear h
 obtain rfl := Option.some.inj H
 go_enter Try.func16, Try.ntmps16
 go_wp2
 go_ret
 exact ⟨by first | rfl | (simp; done) | (simp [*]; done), by repeat (first | exact Drawn0.refl _ | apply Drawn0.step)⟩

/-- A state of type 77 at block g of W; what its slices lead to came in by w0. -/
def IsS77 (w0 W : World) (g : Nat) (f0 : List Int) (f1 : Int) (f2 : Int) : Prop := ∃ A0 c0, W.heap[g]? = some (.cells #[.slice A0 f0.length c0, .int .i64 f1, .int .i64 f2] 77 (0, 0)) ∧ w0.heap.size ≤ g ∧ Kd.C (Kd.int .u8) w0 A0 f0.length f0
theorem IsS77.grown {w0 W : World} {g : Nat} {f0 : List Int} {f1 : Int} {f2 : Int} {W1 : World} {row : Option Nat} (h : IsS77 w0 W g f0 f1 f2) (hw : W.grownBy W1 row) (hne : some g ≠ row) : IsS77 w0 W1 g f0 f1 f2 := by
 obtain ⟨A0, c0, hb, hg, hr0⟩ := h
 exact ⟨A0, c0, blk_grown hb hw hne, hg, hr0⟩
theorem IsS77.own_neN {w0 W : World} {g : Nat} {f0 : List Int} {f1 : Int} {f2 : Int} {α : Type} {d : Kd α} {e : Nat} {base : Nat} {ok : Nat → Prop} {v : Value} {xs : List α} (h : IsS77 w0 W g f0 f1 f2) (ho : Kd.N d e W base ok v xs) (ht : e ≠ 77) : some g ≠ v.ownBlock := by
 obtain ⟨A0, c0, hb, hg, hr0⟩ := h
 exact Kd.N_ne ho hb ht
theorem IsS77.fresh {w0 W : World} {g : Nat} {f0 : List Int} {f1 : Int} {f2 : Int} (h : IsS77 w0 W g f0 f1 f2) : ∀ k, W.heap.size ≤ k → k ≠ g := by
 obtain ⟨A0, c0, hb, hg, hr0⟩ := h
 exact Kd.freshB hb
theorem IsS77.kept {w0 W : World} {g : Nat} {f0 : List Int} {f1 : Int} {f2 : Int} {W1 : World} {S : Nat → Prop} (h : IsS77 w0 W g f0 f1 f2) (hk : Kept W W1 S) (hne : ¬ S g) : IsS77 w0 W1 g f0 f1 f2 := by
 obtain ⟨A0, c0, hb, hg, hr0⟩ := h
 exact ⟨A0, c0, blk_kept hb hk hne, hg, hr0⟩
theorem IsS77.below {w0 W : World} {g : Nat} {f0 : List Int} {f1 : Int} {f2 : Int} {W1 : World} (h : IsS77 w0 W g f0 f1 f2) (hw : Below W.heap.size W W1) : IsS77 w0 W1 g f0 f1 f2 := h.grown (grown_of_below hw none) (by simp)
theorem IsS77.alloc {w0 W : World} {g : Nat} {f0 : List Int} {f1 : Int} {f2 : Int} (h : IsS77 w0 W g f0 f1 f2) (o : Obj) : IsS77 w0 (W.alloc o) g f0 f1 f2 := h.below (below_alloc (Below.refl _ _) o)
theorem IsS77.drewN {w0 W : World} {g : Nat} {f0 : List Int} {f1 : Int} {f2 : Int} (h : IsS77 w0 W g f0 f1 f2) (m : Nat) : IsS77 w0 (W.drewN m) g f0 f1 f2 := h
theorem IsS77.drew {w0 W : World} {g : Nat} {f0 : List Int} {f1 : Int} {f2 : Int} (h : IsS77 w0 W g f0 f1 f2) : IsS77 w0 W.drew g f0 f1 f2 := h
theorem IsS77.at_ {w0 W : World} {g : Nat} {f0 : List Int} {f1 : Int} {f2 : Int} {w' : World} {m : Nat} (hq : W.drewN m = w') (h : IsS77 w0 W g f0 f1 f2) : IsS77 w0 w' g f0 f1 f2 := by subst hq; exact IsS77.drewN h m
theorem IsS77.apart {w0 W : World} {g : Nat} {f0 : List Int} {f1 : Int} {f2 : Int} {α : Type} {d : Kd α} {e : Nat} {base : Nat} {ok : Nat → Prop} {v : Value} {xs : List α} (h : IsS77 w0 W g f0 f1 f2) (ho : d.R e W base ok v xs) (ht : ∀ q, q ∈ e :: d.E → q ≠ 77) : d.R e W base (fun k => ok k ∧ k ≠ g) v xs := by
 obtain ⟨A0, c0, hb, hg, hr0⟩ := h
 exact Kd.R_types ho hb ht
theorem IsS77.own_ne {w0 W : World} {g : Nat} {f0 : List Int} {f1 : Int} {f2 : Int} {α : Type} {d : Kd α} {e : Nat} {base : Nat} {ok : Nat → Prop} {v : Value} {xs : List α} (h : IsS77 w0 W g f0 f1 f2) (ho : d.R e W base ok v xs) (ht : e ≠ 77) : some g ≠ v.ownBlock := by
 obtain ⟨A0, c0, hb, hg, hr0⟩ := h
 exact Kd.R_ne ho hb ht
theorem IsS77.apartQ {w0 W : World} {g : Nat} {f0 : List Int} {f1 : Int} {f2 : Int} {α : Type} {d : Kd α} {e : Nat} {base : Nat} {ok : Nat → Prop} {v : Value} {xs : List α} (h : IsS77 w0 W g f0 f1 f2) (ho : d.Q e W base ok v xs) (ht : ∀ q, q ∈ e :: d.E → q ≠ 77) : d.Q e W base (fun k => ok k ∧ k ≠ g) v xs := by
 obtain ⟨A0, c0, hb, hg, hr0⟩ := h
 exact Kd.Q_types ho hb ht
theorem IsS77.own_neQ {w0 W : World} {g : Nat} {f0 : List Int} {f1 : Int} {f2 : Int} {α : Type} {d : Kd α} {e : Nat} {base : Nat} {ok : Nat → Prop} {v : Value} {xs : List α} (h : IsS77 w0 W g f0 f1 f2) (ho : d.Q e W base ok v xs) (ht : e ≠ 77) : some g ≠ v.ownBlock := by
 obtain ⟨A0, c0, hb, hg, hr0⟩ := h
 exact Kd.Q_ne ho hb ht
theorem IsS77.apartS {w0 W : World} {g : Nat} {f0 : List Int} {f1 : Int} {f2 : Int} {α : Type} {d : Kd α} {e : Nat} {base : Nat} {ok : Nat → Prop} {v : Value} {xs : List α} (h : IsS77 w0 W g f0 f1 f2) (ho : d.S e W base ok v xs) (ht : ∀ q, q ∈ e :: d.E → q ≠ 77) : d.S e W base (fun k => ok k ∧ k ≠ g) v xs := by
 obtain ⟨A0, c0, hb, hg, hr0⟩ := h
 exact Kd.S_types ho hb ht
theorem IsS77.own_neS {w0 W : World} {g : Nat} {f0 : List Int} {f1 : Int} {f2 : Int} {α : Type} {d : Kd α} {e : Nat} {base : Nat} {ok : Nat → Prop} {v : Value} {xs : List α} (h : IsS77 w0 W g f0 f1 f2) (ho : d.S e W base ok v xs) (ht : e ≠ 77) : some g ≠ v.ownBlock := by
 obtain ⟨A0, c0, hb, hg, hr0⟩ := h
 exact Kd.S_ne ho hb ht
theorem IsS77.lt {w0 W : World} {g : Nat} {f0 : List Int} {f1 : Int} {f2 : Int} (h : IsS77 w0 W g f0 f1 f2) : g < W.heap.size := by
 obtain ⟨A0, c0, hb, hg, hr0⟩ := h
 exact blk_lt hb
theorem IsS77.ge {w0 W : World} {g : Nat} {f0 : List Int} {f1 : Int} {f2 : Int} (h : IsS77 w0 W g f0 f1 f2) : w0.heap.size ≤ g := by
 obtain ⟨A0, c0, hb, hg, hr0⟩ := h
 exact hg
theorem IsS77.ne_blk {w0 W : World} {g : Nat} {f0 : List Int} {f1 : Int} {f2 : Int} {a : Nat} {cs : Array Value} {t : TypeId} {fr : Nat × Nat} (h : IsS77 w0 W g f0 f1 f2) (hb2 : W.heap[a]? = some (.cells cs t fr)) (ht : t ≠ 77) : g ≠ a := by
 obtain ⟨A0, c0, hb, hg, hr0⟩ := h
 rintro rfl
 rw [hb] at hb2
 injection hb2 with hb2
 injection hb2 with _ ht2
 exact ht ht2.symm
theorem IsS77.far {w0 W : World} {g : Nat} {f0 : List Int} {f1 : Int} {f2 : Int} {p : Addr} (h : IsS77 w0 W g f0 f1 f2) (hne : g ≠ p.block) (u : Value) : IsS77 w0 (W.setCell p u) g f0 f1 f2 := by
 obtain ⟨A0, c0, hb, hg, hr0⟩ := h
 exact ⟨A0, c0, blk_far hb hne u, hg, hr0⟩
theorem cellS77_0 {W : World} {g : Nat} {A0 : Option Addr} {c0 : Nat} {f0 : List Int} {f1 : Int} {f2 : Int} (h : W.heap[g]? = some (.cells #[.slice A0 f0.length c0, .int .i64 f1, .int .i64 f2] 77 (0, 0))) : W.cell? ⟨g, 0, none⟩ = some (.slice A0 f0.length c0) := (blk_cell h 0).trans rfl
theorem cellS77_1 {W : World} {g : Nat} {A0 : Option Addr} {c0 : Nat} {f0 : List Int} {f1 : Int} {f2 : Int} (h : W.heap[g]? = some (.cells #[.slice A0 f0.length c0, .int .i64 f1, .int .i64 f2] 77 (0, 0))) : W.cell? ⟨g, 1, none⟩ = some (.int .i64 f1) := (blk_cell h 1).trans rfl
theorem IsS77.set_1 {w0 W : World} {g : Nat} {f0 : List Int} {f1 : Int} {f2 : Int} (h : IsS77 w0 W g f0 f1 f2) (x : Int) : IsS77 w0 (W.setCell ⟨g, 1, none⟩ (.int .i64 x)) g f0 x f2 := by
 obtain ⟨A0, c0, hb, hg, hr0⟩ := h
 exact ⟨A0, c0, by simpa using blk_set hb 1 (.int .i64 x), hg, hr0⟩
theorem cellS77_2 {W : World} {g : Nat} {A0 : Option Addr} {c0 : Nat} {f0 : List Int} {f1 : Int} {f2 : Int} (h : W.heap[g]? = some (.cells #[.slice A0 f0.length c0, .int .i64 f1, .int .i64 f2] 77 (0, 0))) : W.cell? ⟨g, 2, none⟩ = some (.int .i64 f2) := (blk_cell h 2).trans rfl
theorem IsS77.set_2 {w0 W : World} {g : Nat} {f0 : List Int} {f1 : Int} {f2 : Int} (h : IsS77 w0 W g f0 f1 f2) (x : Int) : IsS77 w0 (W.setCell ⟨g, 2, none⟩ (.int .i64 x)) g f0 f1 x := by
 obtain ⟨A0, c0, hb, hg, hr0⟩ := h
 exact ⟨A0, c0, by simpa using blk_set hb 2 (.int .i64 x), hg, hr0⟩
theorem IsS77.new (w0 W : World) (A0 : Option Addr) (c0 : Nat) (f0 : List Int) (f1 : Int) (f2 : Int) (hB : Below w0.heap.size w0 W) (hr0 : Kd.C (Kd.int .u8) w0 A0 f0.length f0) : IsS77 w0 (W.alloc (.cells #[.slice A0 f0.length c0, .int .i64 f1, .int .i64 f2] 77)) W.heap.size f0 f1 f2 := ⟨A0, c0, by simpa using heap_alloc_new W _, hB.size, hr0⟩

/-! ### spec_l1New: function 39 -/
def spec_l1New.l0 : Nat → List Int → Int → Int → Option (List Int × Int × Int)
 | 0, _, _, _ => none
 | k + 1, x0, x3, x4 => if x4 < (x0.length : Int) then (if x4 < 4000 then (if 0 ≤ x4 then (spec_l1New.l0 k x0 (Go.bits .and .i64 (wrap64 ((wrap64 ((wrap64 (x3 * 137)) + (wrap64 (rd x0 x4)))) + 11)) 1073741823) (wrap64 (x4 + 1))) else (none)) else (some (x0, 0, x3))) else (some (x0, 0, x3))
def spec_l1New.f (k : Nat) (l0 : List Int) : Option (List Int × Int × Int) := spec_l1New.l0 k l0 (wrap64 (275275 + (l0.length : Int))) 0
theorem spec_l1New.mono_l : ∀ k, (∀ y0 y1 y2, LeO (spec_l1New.l0 k y0 y1 y2) (spec_l1New.l0 (k + 1) y0 y1 y2))
 | 0 => fun _ _ _ r h => by simp [spec_l1New.l0] at h
 | k + 1 => by
  have ih0 := spec_l1New.mono_l k
  {
  intro y0 y1 y2
  unfold spec_l1New.l0
  exact qL
  }
theorem spec_l1New.mono : ∀ a0 k, LeO (spec_l1New.f k a0) (spec_l1New.f (k + 1) a0) := by
 intro a0 k
 have ih0 := spec_l1New.mono_l k
 unfold spec_l1New.f
 exact qL
set_option maxHeartbeats 8000000 in
set_option maxRecDepth 100000 in
theorem spec_l1New.calls (k : Nat) (A0 : Option Addr) (c0 : Nat) (l0 : List Int) (r1 : List Int) (r2 : Int) (r3 : Int) (w0 w : World) (hB : Below w0.heap.size w0 w) (hr0 : Kd.C (Kd.int .u8) w0 A0 l0.length l0) (hc0 : l0.length ≤ c0) (h : spec_l1New.f k l0 = some (r1, r2, r3)) :
  Calls Try.prog 39 #[.slice A0 l0.length c0] w fun e w' => ∃ g_ : Nat, e = .returned (.pointer (some ⟨g_, 0, none⟩)) ∧ IsS77 w0 w' g_ r1 r2 r3 ∧ Below w0.heap.size w0 w' ∧ Below w.heap.size w w' := by
 have hu77 := Try.underlying77
 have HR0 := aM hr0
 have HC0 := aM hc0
 clear hr0 hc0
 have HBW := aM (Below.refl w.heap.size w)
 have HW0 := aM hB.size
 have HB := aM hB
 clear hB
 unfold spec_l1New.f at h
 have H := h
 clear h
 have H' := aM H
 clear H
 go_enter Try.func39, Try.ntmps39
 go_wp2
 go_loopg [3, 4] k (fun kq v3 v4 w' => ∃ (x3_1 : Int) (x4_1 : Int), v3 = .int .i64 x3_1 ∧ v4 = .int .i64 x4_1 ∧ Aside0 (spec_l1New.l0 kq l0 x3_1 x4_1 = some (r1, r2, r3)) ∧ Aside0 (kq ≤ k) ∧ Aside0 (Below w.heap.size w w') ∧ Aside0 (Below w0.heap.size w0 w'))
 case atStart => exact ⟨(wrap64 (275275 + (l0.length : Int))), (0), qz3, qz3, H', ⟨Nat.le_refl _⟩, ⟨qz8⟩, ⟨qz1⟩⟩
 case round =>
 clear H'
 obtain ⟨x3_1, x4_1, rfl, rfl, HA, HK1, HBW, HB⟩ := hrel
 cases gk with
 | zero => exact absurd HA.out (by simp [spec_l1New.l0])
 | succ k1 =>
 have H := HA.out
 clear HA
 simp only [spec_l1New.l0] at H
 replace H := iE_ H
 rcases H with ⟨c2b0, H⟩ | ⟨c2b0, H⟩
 {
 replace H := iE_ H
 rcases H with ⟨c3b0, H⟩ | ⟨c3b0, H⟩
 {
 replace H := iD_ H
 obtain ⟨c4b0, H⟩ := H
 have H' := aM H
 clear H
 have p161 : (0 ≤ (x4_1 : Int)) = True := et_
 have q161 : (x4_1 < (l0.length : Int)) = True := et_
 obtain ⟨ad161, e161, hx161_0⟩ := tC1_ (Kd.at_int HR0.out x4_1 dt_ dt_)
 cases e161
 go_wp2
 go_roundg k1
 case measure => have := HK1.out; omega
 case rel => exact ⟨(Go.bits .and .i64 (wrap64 ((wrap64 ((wrap64 (x3_1 * 137)) + (wrap64 (rd l0 x4_1)))) + 11)) 1073741823), (wrap64 (x4_1 + 1)), qz3, qz3, H', ⟨by have := HK1.out; omega⟩, ⟨qz8⟩, ⟨qz1⟩⟩
 }
 {
 simp only [Option.some.injEq, Prod.mk.injEq] at H
 obtain ⟨rfl, rfl, rfl⟩ := H
 go_wp2_with (first | ((with_reducible refine gate_dst (N := 31) rfl ?_); refine bx_ 31 #[.slice A0 l0.length c0, .int .i64 0, .int .i64 x3_1] 77 ?_; intro gb162 hg w5 hbox hb; replace HB := bS_ hb; have BK162 := aM (hbox); have GW162 := aM (bz_ w hg qz8); have GE162 := aM ((Nat.le_trans HW0.out (by rw [hg]; exact (below_size qz8) : w.heap.size ≤ gb162) : w0.heap.size ≤ gb162)); replace HBW := aM (below_step HBW.out hb); clear hb hbox hg))
 go_ret
 exact ⟨_, rfl, (show IsS77 w0 _ gb162 l0 0 x3_1 from ⟨_, _, by (with_reducible repeat (first | refine blk_drewN ?_ _ | refine blk_drew ?_ | refine blk_alloc ?_ _)); exact BK162.out, GE162.out, HR0.out⟩), qz1, qz8⟩
 }
 }
 {
 simp only [Option.some.injEq, Prod.mk.injEq] at H
 obtain ⟨rfl, rfl, rfl⟩ := H
 go_wp2_with (first | ((with_reducible refine gate_dst (N := 31) rfl ?_); refine bx_ 31 #[.slice A0 l0.length c0, .int .i64 0, .int .i64 x3_1] 77 ?_; intro gb163 hg w6 hbox hb; replace HB := bS_ hb; have BK163 := aM (hbox); have GW163 := aM (bz_ w hg qz8); have GE163 := aM ((Nat.le_trans HW0.out (by rw [hg]; exact (below_size qz8) : w.heap.size ≤ gb163) : w0.heap.size ≤ gb163)); replace HBW := aM (below_step HBW.out hb); clear hb hbox hg))
 go_ret
 exact ⟨_, rfl, (show IsS77 w0 _ gb163 l0 0 x3_1 from ⟨_, _, by (with_reducible repeat (first | refine blk_drewN ?_ _ | refine blk_drew ?_ | refine blk_alloc ?_ _)); exact BK163.out, GE163.out, HR0.out⟩), qz1, qz8⟩
 }
/-! ### spec_l1Byte: function 77 -/
def spec_l1Byte.f (s0_0 : List Int) (s0_1 : Int) (s0_2 : Int) : Option (Int × Int × Int) := if s0_1 < (s0_0.length : Int) then (if 0 ≤ s0_1 then (some (Go.bits .and .i64 (wrap64 ((Go.bits .and .i64 (Go.bits .xor .i64 ((wrap64 ((wrap64 (s0_2 * 6364136223846793005)) + 1442695040888963407)) / 8589934592) ((wrap64 ((wrap64 (s0_2 * 6364136223846793005)) + 1442695040888963407)) / 140737488355328)) 255) + (wrap64 (rd s0_0 s0_1)))) 255, wrap64 (s0_1 + 1), wrap64 ((wrap64 (s0_2 * 6364136223846793005)) + 1442695040888963407))) else (none)) else (some (Go.bits .and .i64 (Go.bits .xor .i64 ((wrap64 ((wrap64 (s0_2 * 6364136223846793005)) + 1442695040888963407)) / 8589934592) ((wrap64 ((wrap64 (s0_2 * 6364136223846793005)) + 1442695040888963407)) / 140737488355328)) 255, s0_1, wrap64 ((wrap64 (s0_2 * 6364136223846793005)) + 1442695040888963407)))
set_option maxHeartbeats 8000000 in
set_option maxRecDepth 100000 in
theorem spec_l1Byte.calls (g : Nat) (s0_0 : List Int) (s0_1 : Int) (s0_2 : Int) (r1 : Int) (r2 : Int) (r3 : Int) (w0 w : World) (hI : IsS77 w0 w g s0_0 s0_1 s0_2) (hB : Below w0.heap.size w0 w) (h : spec_l1Byte.f s0_0 s0_1 s0_2 = some (r1, r2, r3)) :
  Calls Try.prog 77 #[.pointer (some ⟨g, 0, none⟩)] w fun e w' => e = .returned (.int .i64 r1) ∧ IsS77 w0 w' g s0_0 r2 r3 ∧ Below w0.heap.size w0 w' ∧ KeepBut w w' g none := by
 have HI0 := aM hI
 have HK := aM (KeepBut.refl w g none)
 have HL := aM hB.size
 clear hI
 have HW0 := aM hB.size
 have HB := aM hB
 clear hB
 unfold spec_l1Byte.f at h
 have H := h
 clear h
 replace H := iE_ H
 rcases H with ⟨c2b0, H⟩ | ⟨c2b0, H⟩
 {
 replace H := iD_ H
 obtain ⟨c3b0, H⟩ := H
 simp only [Option.some.injEq, Prod.mk.injEq] at H
 obtain ⟨rfl, rfl, rfl⟩ := H
 obtain ⟨ASz4_0, cSz4_0, HGz4, hgz4, HSz4_0⟩ := HI0.out
 have hcz4_0 := cellS77_0 HGz4
 have hcz4_1 := cellS77_1 HGz4
 have hcz4_2 := cellS77_2 HGz4
 have hfz4_1 := blk_frozen HGz4 1
 have hfz4_2 := blk_frozen HGz4 2
 clear HGz4 hgz4
 have p164 : (0 ≤ (s0_1 : Int)) = True := et_
 have q164 : (s0_1 < (s0_0.length : Int)) = True := et_
 obtain ⟨ad164, e164, hx164_0⟩ := Kd.at_int HSz4_0 s0_1 dt_ dt_
 cases e164
 have hn164_0 : ad164.block ≠ g := Nat.ne_of_lt (Nat.lt_of_lt_of_le (by have := World.block_lt_of_cell? _ _ hx164_0; first | rwa [add_block] at this | exact this) (IsS77.ge HI0.out))
 replace hx164_0 := cB_ hx164_0
 replace hx164_0 := (cell_far (p := ⟨g, 2, none⟩) (by first | (rw [add_block]; exact hn164_0) | (show (Addr.add _ _).block ≠ _; rw [add_block]; exact hn164_0) | exact hn164_0) (.int .i64 (wrap64 ((wrap64 (s0_2 * 6364136223846793005)) + 1442695040888963407)))).trans hx164_0
 (try have hy164_0 := fun (n_ : Nat) => (show (((w.drewN n_).setCell ⟨g, 2, none⟩ (.int .i64 (wrap64 ((wrap64 (s0_2 * 6364136223846793005)) + 1442695040888963407))))).cell? _ = some _ from hx164_0))
 clear hn164_0
 go_enter Try.func77, Try.ntmps77
 go_wp2
 repeat (go_quiet (fail); try go_wp2)
 go_ret
 exact ⟨qzw, qz5, qz1, qz2⟩
 }
 {
 simp only [Option.some.injEq, Prod.mk.injEq] at H
 obtain ⟨rfl, rfl, rfl⟩ := H
 obtain ⟨ASz5_0, cSz5_0, HGz5, hgz5, HSz5_0⟩ := HI0.out
 have hcz5_0 := cellS77_0 HGz5
 have hcz5_1 := cellS77_1 HGz5
 have hcz5_2 := cellS77_2 HGz5
 have hfz5_1 := blk_frozen HGz5 1
 have hfz5_2 := blk_frozen HGz5 2
 clear HGz5 hgz5
 go_enter Try.func77, Try.ntmps77
 go_wp2
 repeat (go_quiet (fail); try go_wp2)
 go_ret
 exact ⟨qzw, qz5, qz1, qz2⟩
 }
end Go.Proofs.Ytbebfhlejnidkaa.PFnMatched
