-- Made by a program of this session out of the translation. Lean checks it.
import Derived.Test.YtbebfhlejnidkaaPFnMatchedx1
namespace Go.Proofs.Ytbebfhlejnidkaa.PFnMatched
open Go.RowKit Go.Proofs.YtbebfhlejnidkaaW.PrintWords Go.Proofs.YtbebfhlejnidkaaW.PrintLast Go.Proofs.YtbebfhlejnidkaaW.PrintMore
attribute [local go_sem] max2_int min2_int max_two min_two max_three min_three max_four min_four   -- for this text's walks alone
set_option linter.unusedVariables false
set_option linter.unusedSimpArgs false

/-! ### impl_SumOf: function 20 -/
mutual
def impl_SumOf.j0 : Nat → List (List Int) → List Int → Bool → Option (Int)
 | 0, _, _, _ => none
 | k + 1, x0, x1, x18 => if x18 = true then (some (-1)) else (impl_SumOf.l0 k x0 0 0 x1 (x1.length : Int) 0)
def impl_SumOf.l0 : Nat → List (List Int) → Int → Int → List Int → Int → Int → Option (Int)
 | 0, _, _, _, _, _, _ => none
 | k + 1, x0, x5, x6, x19, x20, x21 => if x21 < x20 then (if 0 ≤ x21 then (if x21 < (x19.length : Int) then (if x21 < (x0.length : Int) then ((impl_in.f (rd x19 x21) 0 (wrap64 (((rd_L1 x0 x21).length : Int) - 1))).bind fun t297 => (if t297 = true then (if 0 ≤ (rd x19 x21) then (if (Go.bits .and .i64 (shr .i64 x6 (rd x19 x21)) 1) = 1 then (some (-1)) else (if (rd x19 x21) < ((rd_L1 x0 x21).length : Int) then (impl_SumOf.l0 k x0 (wrap64 (x5 + (rd (rd_L1 x0 x21) (rd x19 x21)))) (Go.bits .or .i64 x6 (shl .i64 1 (rd x19 x21))) x19 x20 (wrap64 (x21 + 1))) else (none))) else (none)) else (some (-1)))) else (none)) else (none)) else (none)) else (some x5)
end
def impl_SumOf.f (k : Nat) (l0 : List (List Int)) (l1 : List Int) : Option (Int) := (impl_CostsOk.f k l0).bind fun t294 => (if t294 = true then (impl_SumOf.j0 k l0 l1 ((l1.length : Int) != (l0.length : Int))) else (impl_SumOf.j0 k l0 l1 true))
theorem impl_SumOf.mono_l : ∀ k, (∀ y0 y1 y2, LeO (impl_SumOf.j0 k y0 y1 y2) (impl_SumOf.j0 (k + 1) y0 y1 y2)) ∧ (∀ y0 y1 y2 y3 y4 y5, LeO (impl_SumOf.l0 k y0 y1 y2 y3 y4 y5) (impl_SumOf.l0 (k + 1) y0 y1 y2 y3 y4 y5))
 | 0 => ⟨fun _ _ _ r h => by simp [impl_SumOf.j0] at h, fun _ _ _ _ _ _ r h => by simp [impl_SumOf.l0] at h⟩
 | k + 1 => by
  obtain ⟨ih0, ih1⟩ := impl_SumOf.mono_l k
  refine ⟨?_, ?_⟩
  {
  intro y0 y1 y2
  unfold impl_SumOf.j0
  have j0 := @impl_CostsOk.mono
  exact qL
  }
  {
  intro y0 y1 y2 y3 y4 y5
  unfold impl_SumOf.l0
  have j0 := @impl_CostsOk.mono
  exact qL
  }
theorem impl_SumOf.mono : ∀ a0 a1 k, LeO (impl_SumOf.f k a0 a1) (impl_SumOf.f (k + 1) a0 a1) := by
 intro a0 a1 k
 obtain ⟨ih0, ih1⟩ := impl_SumOf.mono_l k
 unfold impl_SumOf.f
 have j0 := @impl_CostsOk.mono
 exact qL
set_option maxHeartbeats 8000000 in
set_option maxRecDepth 100000 in
theorem impl_SumOf.calls (k : Nat) (A0 : Option Addr) (c0 : Nat) (l0 : List (List Int)) (A1 : Option Addr) (c1 : Nat) (l1 : List Int) (r : Int) (w : World) (hr0 : Kd.C (Kd.slice 3 (Kd.int .i64)) w A0 l0.length l0) (hc0 : l0.length ≤ c0) (hr1 : Kd.C (Kd.int .i64) w A1 l1.length l1) (hc1 : l1.length ≤ c1) (h : impl_SumOf.f k l0 l1 = some r) :
  Calls Try.prog 20 #[.slice A0 l0.length c0, .slice A1 l1.length c1] w fun e w' => e = .returned (.int .i64 r) ∧ Drawn0 w w' := by
 have HR0 := aM hr0
 have HC0 := aM hc0
 clear hr0 hc0
 have HR1 := aM hr1
 have HC1 := aM hc1
 clear hr1 hc1
 unfold impl_SumOf.f at h
 have H := h
 clear h
 have HC3 := aM H
 clear H
 go_enter Try.func20, Try.ntmps20
 go_upto_region 1 with (fail)
 go_cut [18] (fun v18 wc => ∃ (kq : Nat) (x18_2 : Bool), v18 = .bool x18_2 ∧ Aside0 (impl_SumOf.j0 kq l0 l1 x18_2 = some r) ∧ Aside0 (kq ≤ k) ∧ Drawn0 w wc)
 case first =>
  have H := HC3.out
  clear HC3
  replace H := Option.bind_eq_some_iff.mp H
  obtain ⟨t294, A40, H⟩ := H
  have A4 := aM A40
  clear A40
  replace H := iB_ H
  rcases H with ⟨rfl, H⟩ | ⟨rfl, H⟩
  {
  have H' := aM H
  clear H
  go_wp2_with (first | ((with_reducible refine gate_callee (f := 18) rfl ?_); refine goesL_ (some 10) rfl rfl Try.func18 (by kernel_rfl) rfl #[.slice A0 l0.length c0] rfl qz4 ?_; (with_reducible refine (impl_CostsOk.calls k _ _ l0 true _ ?_ ?_ A4.out).mono ?_); exact qz6; exact HC0.out; rintro e w' ⟨rfl, ⟨nd, rfl⟩⟩; refine ⟨_, rfl, ?_⟩))
  go_meet
  case rel => exact ⟨_, (((l1.length : Int) != (l0.length : Int))), qz3, H', ⟨by first | omega | exact Nat.le_refl _⟩, by repeat (first | exact Drawn0.refl _ | apply Drawn0.step)⟩
  }
  {
  have H' := aM H
  clear H
  go_wp2_with (first | ((with_reducible refine gate_callee (f := 18) rfl ?_); refine goesL_ (some 10) rfl rfl Try.func18 (by kernel_rfl) rfl #[.slice A0 l0.length c0] rfl qz4 ?_; (with_reducible refine (impl_CostsOk.calls k _ _ l0 false _ ?_ ?_ A4.out).mono ?_); exact qz6; exact HC0.out; rintro e w' ⟨rfl, ⟨nd, rfl⟩⟩; refine ⟨_, rfl, ?_⟩))
  go_meet
  case rel => exact ⟨_, (true), qz3, H', ⟨by first | omega | exact Nat.le_refl _⟩, by repeat (first | exact Drawn0.refl _ | apply Drawn0.step)⟩
  }
 case rest =>
 clear HC3
 try clear c1
 obtain ⟨kq, x18_2, rfl, HA, HJ2, ⟨mc2, rfl⟩⟩ := hcut
 cases kq with
 | zero => exact absurd HA.out (by simp [impl_SumOf.j0])
 | succ kj2 =>
 have H := HA.out
 clear HA
 simp only [impl_SumOf.j0] at H
 replace H := iB_ H
 rcases H with ⟨rfl, H⟩ | ⟨rfl, H⟩
 {
 obtain rfl := Option.some.inj H
 go_wp2
 go_ret
 exact ⟨by first | rfl | (simp; done) | (simp [*]; done), by repeat (first | exact Drawn0.refl _ | apply Drawn0.step)⟩
 }
 {
 have H' := aM H
 clear H
 go_wp2
 go_loopg [5, 6, 21] kj2 (fun kq v5 v6 v21 w' => ∃ (x5_2 : Int) (x6_2 : Int) (x21_2 : Int), v5 = .int .i64 x5_2 ∧ v6 = .int .i64 x6_2 ∧ v21 = .int .i64 x21_2 ∧ Aside0 (impl_SumOf.l0 kq l0 x5_2 x6_2 l1 (l1.length : Int) x21_2 = some r) ∧ Aside0 (kq ≤ kj2) ∧ Drawn0 w w')
 case atStart => exact ⟨(0), (0), (0), qz3, qz3, qz3, H', ⟨Nat.le_refl _⟩, by repeat (first | exact Drawn0.refl _ | apply Drawn0.step)⟩
 case round =>
 clear H'
 try clear c1
 try clear c6
 obtain ⟨x5_2, x6_2, x21_2, rfl, rfl, rfl, HA, HK2, ⟨m2, rfl⟩⟩ := hrel
 cases gk with
 | zero => exact absurd HA.out (by simp [impl_SumOf.l0])
 | succ k2 =>
 have H := HA.out
 clear HA
 simp only [impl_SumOf.l0] at H
 replace H := iE_ H
 rcases H with ⟨c7b0, H⟩ | ⟨c7b0, H⟩
 {
 replace H := iD_ H
 obtain ⟨c8b0, H⟩ := H
 replace H := iD_ H
 obtain ⟨c9b0, H⟩ := H
 replace H := iD_ H
 obtain ⟨c10b0, H⟩ := H
 replace H := Option.bind_eq_some_iff.mp H
 obtain ⟨t297, A110, H⟩ := H
 have A11 := aM A110
 clear A110
 replace H := iB_ H
 rcases H with ⟨rfl, H⟩ | ⟨rfl, H⟩
 {
 replace H := iN_ H
 obtain ⟨c13, H⟩ := H
 have c13b0 := eq_true c13
 have c13b1 := decide_eq_true c13
 clear c13
 obtain ⟨ji14, hji14⟩ : ∃ j_ : Int, (shr .i64 x6_2 (rd l1 x21_2)) = j_ := ⟨_, rfl⟩
 replace H : (if (Go.bits .and .i64 (ji14) 1) = 1 then (some (-1)) else (if (rd l1 x21_2) < ((rd_L1 l0 x21_2).length : Int) then (impl_SumOf.l0 k2 l0 (wrap64 (x5_2 + (rd (rd_L1 l0 x21_2) (rd l1 x21_2)))) (Go.bits .or .i64 x6_2 (shl .i64 1 (rd l1 x21_2))) l1 (l1.length : Int) (wrap64 (x21_2 + 1))) else (none))) = some r := by first | (rw [hji14] at H; exact H) | (simp only [hji14] at H ⊢; exact H)
 (try rw [hji14] at A11)
 have hji14_ : (x6_2 / 2 ^ min (rd l1 x21_2).toNat 64) = ji14 := hji14
 have hji14z : (rd l1 x21_2) ≤ 64 → (x6_2 / 2 ^ (rd l1 x21_2).toNat) = ji14 := shr_small hji14
 replace H := iQ_ H
 rcases H with ⟨c15b0, c15b1, H⟩ | ⟨c15, c15b0, c15b1, H⟩
 {
 obtain rfl := Option.some.inj H
 have p295 : (0 ≤ (x21_2 : Int)) = True := et_
 have q295 : (x21_2 < (l1.length : Int)) = True := et_
 obtain ⟨ad295, e295, hx295_0⟩ := Kd.at_int HR1.out x21_2 dt_ dt_
 cases e295
 have p296 : (0 ≤ (x21_2 : Int)) = True := et_
 have q296 : (x21_2 < (l0.length : Int)) = True := et_
 obtain ⟨ad296, A296_0, c296_0, e296, hx296_0, hl296_0, hi296_0⟩ := at_L1 HR0.out x21_2 dt_ dt_
 cases e296
 have HR296_0 := aM hi296_0
 have HC296_0 := aM hl296_0
 clear hi296_0 hl296_0
 go_wp2_with (first | ((with_reducible refine gate_callee (f := 42) rfl ?_); refine goesL_ (some 33) rfl rfl Try.func42 (by kernel_rfl) rfl #[.int .i64 (rd l1 x21_2), .int .i64 0, .int .i64 (wrap64 (((rd_L1 l0 x21_2).length : Int) - 1))] rfl qz4 ?_; (with_reducible refine (impl_in.calls (rd l1 x21_2) 0 (wrap64 (((rd_L1 l0 x21_2).length : Int) - 1)) true _ A11.out).mono ?_); rintro e w' ⟨rfl, ⟨nd, rfl⟩⟩; refine ⟨_, rfl, ?_⟩))
 go_ret
 exact ⟨by first | rfl | (simp; done) | (simp only [← hji14] <;> (first | rfl | simp)) | (simp [*]; done), by repeat (first | exact Drawn0.refl _ | apply Drawn0.step)⟩
 }
 {
 have c16b0 := eq_true (dt_ : 0 ≤ (rd l1 x21_2))
 obtain ⟨ji17, hji17⟩ : ∃ j_ : Int, (shl .i64 1 (rd l1 x21_2)) = j_ := ⟨_, rfl⟩
 replace H : (if (rd l1 x21_2) < ((rd_L1 l0 x21_2).length : Int) then (impl_SumOf.l0 k2 l0 (wrap64 (x5_2 + (rd (rd_L1 l0 x21_2) (rd l1 x21_2)))) (Go.bits .or .i64 x6_2 (ji17)) l1 (l1.length : Int) (wrap64 (x21_2 + 1))) else (none)) = some r := by first | (rw [hji17] at H; exact H) | (simp only [hji17] at H ⊢; exact H)
 (try rw [hji17] at A11)
 have hji17_ : (IntKind.i64.wrap (1 * 2 ^ min (rd l1 x21_2).toNat 64)) = ji17 := hji17
 have hji17z : (rd l1 x21_2) ≤ 64 → (IntKind.i64.wrap (1 * 2 ^ (rd l1 x21_2).toNat)) = ji17 := shl_small hji17
 have hji17u : (IntKind.i64.wrap (2 ^ min (rd l1 x21_2).toNat 64)) = ji17 := by have h_ := hji17_; rw [Int.one_mul] at h_; exact h_
 have hji17v : (rd l1 x21_2) ≤ 64 → (IntKind.i64.wrap (2 ^ (rd l1 x21_2).toNat)) = ji17 := fun hle_ => by have h_ := hji17z hle_; rw [Int.one_mul] at h_; exact h_
 have hji17y : (wrap64 (1 * 2 ^ min (rd l1 x21_2).toNat 64)) = ji17 := (i64_w _).symm.trans hji17_
 have hji17x : (rd l1 x21_2) ≤ 64 → (wrap64 (1 * 2 ^ (rd l1 x21_2).toNat)) = ji17 := fun h_ => (i64_w _).symm.trans (hji17z h_)
 replace H := iD_ H
 obtain ⟨c18b0, H⟩ := H
 have H' := aM H
 clear H
 have p295 : (0 ≤ (x21_2 : Int)) = True := et_
 have q295 : (x21_2 < (l1.length : Int)) = True := et_
 obtain ⟨ad295, e295, hx295_0⟩ := Kd.at_int HR1.out x21_2 dt_ dt_
 cases e295
 have p296 : (0 ≤ (x21_2 : Int)) = True := et_
 have q296 : (x21_2 < (l0.length : Int)) = True := et_
 obtain ⟨ad296, A296_0, c296_0, e296, hx296_0, hl296_0, hi296_0⟩ := at_L1 HR0.out x21_2 dt_ dt_
 cases e296
 have HR296_0 := aM hi296_0
 have HC296_0 := aM hl296_0
 clear hi296_0 hl296_0
 go_wp2_with (first | ((with_reducible refine gate_callee (f := 42) rfl ?_); refine goesL_ (some 33) rfl rfl Try.func42 (by kernel_rfl) rfl #[.int .i64 (rd l1 x21_2), .int .i64 0, .int .i64 (wrap64 (((rd_L1 l0 x21_2).length : Int) - 1))] rfl qz4 ?_; (with_reducible refine (impl_in.calls (rd l1 x21_2) 0 (wrap64 (((rd_L1 l0 x21_2).length : Int) - 1)) true _ A11.out).mono ?_); rintro e w' ⟨rfl, ⟨nd, rfl⟩⟩; refine ⟨_, rfl, ?_⟩; have p298 : 0 ≤ (x21_2 : Int) := dt_; have q298 : x21_2 < (l0.length : Int) := dt_; obtain ⟨ad298, A298_0, c298_0, e298, hx298_0, hl298_0, hi298_0⟩ := at_L1 HR0.out x21_2 p298 q298; obtain rfl : ad296 = ad298 := (by injection e298); have HR298_0 := aM hi298_0; have HC298_0 := aM hl298_0; clear hi298_0 hl298_0; replace p298 := eq_true p298; replace q298 := eq_true q298; have ea_ := Option.some.inj (hx296_0.symm.trans hx298_0); injection ea_ with ea_ en_ ec_; subst ea_; subst ec_; clear en_; have p299 : 0 ≤ ((rd l1 x21_2) : Int) := dt_; have q299 : (rd l1 x21_2) < ((rd_L1 l0 x21_2).length : Int) := dt_; obtain ⟨ad299, e299, hx299_0⟩ := Kd.at_int HR298_0.out (rd l1 x21_2) p299 q299; cases e299; replace p299 := eq_true p299; replace q299 := eq_true q299))
 go_roundg k2
 case measure => have := HJ2.out; have := HK2.out; omega
 case rel => exact ⟨(wrap64 (x5_2 + (rd (rd_L1 l0 x21_2) (rd l1 x21_2)))), (Go.bits .or .i64 x6_2 (ji17)), (wrap64 (x21_2 + 1)), qz3, (by first | rfl | (simp; done) | (simp only [← hji17] <;> (first | rfl | simp)) | (simp [*]; done)), qz3, H', ⟨by have := HJ2.out; have := HK2.out; omega⟩, by repeat (first | exact Drawn0.refl _ | apply Drawn0.step)⟩
 }
 }
 {
 obtain rfl := Option.some.inj H
 have p295 : (0 ≤ (x21_2 : Int)) = True := et_
 have q295 : (x21_2 < (l1.length : Int)) = True := et_
 obtain ⟨ad295, e295, hx295_0⟩ := Kd.at_int HR1.out x21_2 dt_ dt_
 cases e295
 have p296 : (0 ≤ (x21_2 : Int)) = True := et_
 have q296 : (x21_2 < (l0.length : Int)) = True := et_
 obtain ⟨ad296, A296_0, c296_0, e296, hx296_0, hl296_0, hi296_0⟩ := at_L1 HR0.out x21_2 dt_ dt_
 cases e296
 have HR296_0 := aM hi296_0
 have HC296_0 := aM hl296_0
 clear hi296_0 hl296_0
 go_wp2_with (first | ((with_reducible refine gate_callee (f := 42) rfl ?_); refine goesL_ (some 33) rfl rfl Try.func42 (by kernel_rfl) rfl #[.int .i64 (rd l1 x21_2), .int .i64 0, .int .i64 (wrap64 (((rd_L1 l0 x21_2).length : Int) - 1))] rfl qz4 ?_; (with_reducible refine (impl_in.calls (rd l1 x21_2) 0 (wrap64 (((rd_L1 l0 x21_2).length : Int) - 1)) false _ A11.out).mono ?_); rintro e w' ⟨rfl, ⟨nd, rfl⟩⟩; refine ⟨_, rfl, ?_⟩))
 go_ret
 exact ⟨by first | rfl | (simp; done) | (simp [*]; done), by repeat (first | exact Drawn0.refl _ | apply Drawn0.step)⟩
 }
 }
 {
 obtain rfl := Option.some.inj H
 go_wp2
 go_ret
 exact ⟨by first | rfl | (simp; done) | (simp [*]; done), by repeat (first | exact Drawn0.refl _ | apply Drawn0.step)⟩
 }
 }
/-! ### impl_pricesOk: function 43 -/
def impl_pricesOk.l0 : Nat → List Int → Int → Int → Option (Bool)
 | 0, _, _, _ => none
 | k + 1, x5, x6, x7 => if x7 < x6 then (if 0 ≤ x7 then (if x7 < (x5.length : Int) then ((impl_in.f (rd x5 x7) (-1000000) 1000000).bind fun t301 => (if t301 = true then (impl_pricesOk.l0 k x5 x6 (wrap64 (x7 + 1))) else (some false))) else (none)) else (none)) else (some true)
def impl_pricesOk.f (k : Nat) (l0 : List Int) : Option (Bool) := impl_pricesOk.l0 k l0 (l0.length : Int) 0
theorem impl_pricesOk.mono_l : ∀ k, (∀ y0 y1 y2, LeO (impl_pricesOk.l0 k y0 y1 y2) (impl_pricesOk.l0 (k + 1) y0 y1 y2))
 | 0 => fun _ _ _ r h => by simp [impl_pricesOk.l0] at h
 | k + 1 => by
  have ih0 := impl_pricesOk.mono_l k
  {
  intro y0 y1 y2
  unfold impl_pricesOk.l0
  exact qL
  }
theorem impl_pricesOk.mono : ∀ a0 k, LeO (impl_pricesOk.f k a0) (impl_pricesOk.f (k + 1) a0) := by
 intro a0 k
 have ih0 := impl_pricesOk.mono_l k
 unfold impl_pricesOk.f
 exact qL
set_option maxHeartbeats 8000000 in
set_option maxRecDepth 100000 in
theorem impl_pricesOk.calls (k : Nat) (A0 : Option Addr) (c0 : Nat) (l0 : List Int) (r : Bool) (w : World) (hr0 : Kd.C (Kd.int .i64) w A0 l0.length l0) (hc0 : l0.length ≤ c0) (h : impl_pricesOk.f k l0 = some r) :
  Calls Try.prog 43 #[.slice A0 l0.length c0] w fun e w' => e = .returned (.bool r) ∧ Drawn0 w w' := by
 have HR0 := aM hr0
 have HC0 := aM hc0
 clear hr0 hc0
 unfold impl_pricesOk.f at h
 have H := h
 clear h
 have H' := aM H
 clear H
 go_enter Try.func43, Try.ntmps43
 go_wp2
 go_loopg [7] k (fun kq v7 w' => ∃ (x7_1 : Int), v7 = .int .i64 x7_1 ∧ Aside0 (impl_pricesOk.l0 kq l0 (l0.length : Int) x7_1 = some r) ∧ Aside0 (kq ≤ k) ∧ Drawn0 w w')
 case atStart => exact ⟨(0), qz3, H', ⟨Nat.le_refl _⟩, by repeat (first | exact Drawn0.refl _ | apply Drawn0.step)⟩
 case round =>
 clear H'
 obtain ⟨x7_1, rfl, HA, HK1, ⟨m1, rfl⟩⟩ := hrel
 cases gk with
 | zero => exact absurd HA.out (by simp [impl_pricesOk.l0])
 | succ k1 =>
 have H := HA.out
 clear HA
 simp only [impl_pricesOk.l0] at H
 replace H := iE_ H
 rcases H with ⟨c2b0, H⟩ | ⟨c2b0, H⟩
 {
 replace H := iD_ H
 obtain ⟨c3b0, H⟩ := H
 replace H := iD_ H
 obtain ⟨c4b0, H⟩ := H
 replace H := Option.bind_eq_some_iff.mp H
 obtain ⟨t301, A50, H⟩ := H
 have A5 := aM A50
 clear A50
 replace H := iB_ H
 rcases H with ⟨rfl, H⟩ | ⟨rfl, H⟩
 {
 have H' := aM H
 clear H
 have p300 : (0 ≤ (x7_1 : Int)) = True := et_
 have q300 : (x7_1 < (l0.length : Int)) = True := et_
 obtain ⟨ad300, e300, hx300_0⟩ := Kd.at_int HR0.out x7_1 dt_ dt_
 cases e300
 go_wp2_with (first | ((with_reducible refine gate_callee (f := 42) rfl ?_); refine goesL_ (some 12) rfl rfl Try.func42 (by kernel_rfl) rfl #[.int .i64 (rd l0 x7_1), .int .i64 (-1000000), .int .i64 1000000] rfl qz4 ?_; (with_reducible refine (impl_in.calls (rd l0 x7_1) (-1000000) 1000000 true _ A5.out).mono ?_); rintro e w' ⟨rfl, ⟨nd, rfl⟩⟩; refine ⟨_, rfl, ?_⟩))
 go_roundg k1
 case measure => have := HK1.out; omega
 case rel => exact ⟨(wrap64 (x7_1 + 1)), qz3, H', ⟨by have := HK1.out; omega⟩, by repeat (first | exact Drawn0.refl _ | apply Drawn0.step)⟩
 }
 {
 obtain rfl := Option.some.inj H
 have p300 : (0 ≤ (x7_1 : Int)) = True := et_
 have q300 : (x7_1 < (l0.length : Int)) = True := et_
 obtain ⟨ad300, e300, hx300_0⟩ := Kd.at_int HR0.out x7_1 dt_ dt_
 cases e300
 go_wp2_with (first | ((with_reducible refine gate_callee (f := 42) rfl ?_); refine goesL_ (some 12) rfl rfl Try.func42 (by kernel_rfl) rfl #[.int .i64 (rd l0 x7_1), .int .i64 (-1000000), .int .i64 1000000] rfl qz4 ?_; (with_reducible refine (impl_in.calls (rd l0 x7_1) (-1000000) 1000000 false _ A5.out).mono ?_); rintro e w' ⟨rfl, ⟨nd, rfl⟩⟩; refine ⟨_, rfl, ?_⟩))
 go_ret
 exact ⟨by first | rfl | (simp; done) | (simp [*]; done), by repeat (first | exact Drawn0.refl _ | apply Drawn0.step)⟩
 }
 }
 {
 obtain rfl := Option.some.inj H
 go_wp2
 go_ret
 exact ⟨by first | rfl | (simp; done) | (simp [*]; done), by repeat (first | exact Drawn0.refl _ | apply Drawn0.step)⟩
 }
/-! ### impl_hasInt: function 44 -/
def impl_hasInt.l0 : Nat → Int → List Int → Int → Int → Option (Bool)
 | 0, _, _, _, _ => none
 | k + 1, x1, x7, x8, x9 => if x9 < x8 then (if 0 ≤ x9 then (if x9 < (x7.length : Int) then (if (rd x7 x9) = x1 then (some true) else (impl_hasInt.l0 k x1 x7 x8 (wrap64 (x9 + 1)))) else (none)) else (none)) else (some false)
def impl_hasInt.f (k : Nat) (l0 : List Int) (a1 : Int) : Option (Bool) := impl_hasInt.l0 k a1 l0 (l0.length : Int) 0
theorem impl_hasInt.mono_l : ∀ k, (∀ y0 y1 y2 y3, LeO (impl_hasInt.l0 k y0 y1 y2 y3) (impl_hasInt.l0 (k + 1) y0 y1 y2 y3))
 | 0 => fun _ _ _ _ r h => by simp [impl_hasInt.l0] at h
 | k + 1 => by
  have ih0 := impl_hasInt.mono_l k
  {
  intro y0 y1 y2 y3
  unfold impl_hasInt.l0
  exact qL
  }
theorem impl_hasInt.mono : ∀ a0 a1 k, LeO (impl_hasInt.f k a0 a1) (impl_hasInt.f (k + 1) a0 a1) := by
 intro a0 a1 k
 have ih0 := impl_hasInt.mono_l k
 unfold impl_hasInt.f
 exact qL
set_option maxHeartbeats 8000000 in
set_option maxRecDepth 100000 in
theorem impl_hasInt.calls (k : Nat) (A0 : Option Addr) (c0 : Nat) (l0 : List Int) (a1 : Int) (r : Bool) (w : World) (hr0 : Kd.C (Kd.int .i64) w A0 l0.length l0) (hc0 : l0.length ≤ c0) (h : impl_hasInt.f k l0 a1 = some r) :
  Calls Try.prog 44 #[.slice A0 l0.length c0, .int .i64 a1] w fun e w' => e = .returned (.bool r) ∧ Drawn0 w w' := by
 have HR0 := aM hr0
 have HC0 := aM hc0
 clear hr0 hc0
 unfold impl_hasInt.f at h
 have H := h
 clear h
 have H' := aM H
 clear H
 go_enter Try.func44, Try.ntmps44
 go_wp2
 go_loopg [9] k (fun kq v9 w' => ∃ (x9_1 : Int), v9 = .int .i64 x9_1 ∧ Aside0 (impl_hasInt.l0 kq a1 l0 (l0.length : Int) x9_1 = some r) ∧ Aside0 (kq ≤ k) ∧ Drawn0 w w')
 case atStart => exact ⟨(0), qz3, H', ⟨Nat.le_refl _⟩, by repeat (first | exact Drawn0.refl _ | apply Drawn0.step)⟩
 case round =>
 clear H'
 obtain ⟨x9_1, rfl, HA, HK1, ⟨m1, rfl⟩⟩ := hrel
 cases gk with
 | zero => exact absurd HA.out (by simp [impl_hasInt.l0])
 | succ k1 =>
 have H := HA.out
 clear HA
 simp only [impl_hasInt.l0] at H
 replace H := iE_ H
 rcases H with ⟨c3b0, H⟩ | ⟨c3b0, H⟩
 {
 replace H := iD_ H
 obtain ⟨c4b0, H⟩ := H
 replace H := iD_ H
 obtain ⟨c5b0, H⟩ := H
 replace H := iQ_ H
 rcases H with ⟨c6b0, c6b1, H⟩ | ⟨c6, c6b0, c6b1, H⟩
 {
 obtain rfl := Option.some.inj H
 have p302 : (0 ≤ (x9_1 : Int)) = True := et_
 have q302 : (x9_1 < (l0.length : Int)) = True := et_
 obtain ⟨ad302, e302, hx302_0⟩ := Kd.at_int HR0.out x9_1 dt_ dt_
 cases e302
 go_wp2
 go_ret
 exact ⟨by first | rfl | (simp; done) | (simp [*]; done), by repeat (first | exact Drawn0.refl _ | apply Drawn0.step)⟩
 }
 {
 have H' := aM H
 clear H
 have p302 : (0 ≤ (x9_1 : Int)) = True := et_
 have q302 : (x9_1 < (l0.length : Int)) = True := et_
 obtain ⟨ad302, e302, hx302_0⟩ := Kd.at_int HR0.out x9_1 dt_ dt_
 cases e302
 go_wp2
 go_roundg k1
 case measure => have := HK1.out; omega
 case rel => exact ⟨(wrap64 (x9_1 + 1)), qz3, H', ⟨by have := HK1.out; omega⟩, by repeat (first | exact Drawn0.refl _ | apply Drawn0.step)⟩
 }
 }
 {
 obtain rfl := Option.some.inj H
 go_wp2
 go_ret
 exact ⟨by first | rfl | (simp; done) | (simp [*]; done), by repeat (first | exact Drawn0.refl _ | apply Drawn0.step)⟩
 }
end Go.Proofs.Ytbebfhlejnidkaa.PFnMatched
