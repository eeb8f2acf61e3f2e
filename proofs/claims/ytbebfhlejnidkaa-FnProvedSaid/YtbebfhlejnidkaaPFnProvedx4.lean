-- Made by a program of this session out of the translation. Lean checks it.
import Derived.Test.YtbebfhlejnidkaaPFnProvedx1
namespace Go.Proofs.Ytbebfhlejnidkaa.PFnProved
open Go.RowKit Go.Proofs.YtbebfhlejnidkaaW.PrintWords Go.Proofs.YtbebfhlejnidkaaW.PrintLast Go.Proofs.YtbebfhlejnidkaaW.PrintMore
attribute [local go_sem] max2_int min2_int max_two min_two max_three min_three max_four min_four   -- for this text's walks alone
set_option linter.unusedVariables false
set_option linter.unusedSimpArgs false

/-! ### impl_SumOf: function 20 -/
mutual
def impl_SumOf.j0 : Nat → List (List Int) → List Int → Bool → Option (Int)
 | 0, _, _, _ => none
 | k + 1, x0, x1, x18 => if x18 = true then (some (-1)) else (impl_SumOf.l0 k x0 0 0 x1 (x1.length : Int) 0)
def impl_SumOf.l0 : Nat → List (List Int) → Int → Int → List Int → Int → Int → Option (Int)
 | 0, _, _, _, _, _, _ => none
 | k + 1, x0, x5, x6, x19, x20, x21 => if x21 < x20 then (if 0 ≤ x21 then (if x21 < (x19.length : Int) then (if x21 < (x0.length : Int) then ((impl_in.f (rd x19 x21) 0 (wrap64 (((rd_L1 x0 x21).length : Int) - 1))).bind fun t164 => (if t164 = true then (if 0 ≤ (rd x19 x21) then (if (Go.bits .and .i64 (shr .i64 x6 (rd x19 x21)) 1) = 1 then (some (-1)) else (if (rd x19 x21) < ((rd_L1 x0 x21).length : Int) then (impl_SumOf.l0 k x0 (wrap64 (x5 + (rd (rd_L1 x0 x21) (rd x19 x21)))) (Go.bits .or .i64 x6 (shl .i64 1 (rd x19 x21))) x19 x20 (wrap64 (x21 + 1))) else (none))) else (none)) else (some (-1)))) else (none)) else (none)) else (none)) else (some x5)
end
def impl_SumOf.f (k : Nat) (l0 : List (List Int)) (l1 : List Int) : Option (Int) := (impl_CostsOk.f k l0).bind fun t161 => (if t161 = true then (impl_SumOf.j0 k l0 l1 ((l1.length : Int) != (l0.length : Int))) else (impl_SumOf.j0 k l0 l1 true))
theorem impl_SumOf.mono_l : ∀ k, (∀ y0 y1 y2, LeO (impl_SumOf.j0 k y0 y1 y2) (impl_SumOf.j0 (k + 1) y0 y1 y2)) ∧ (∀ y0 y1 y2 y3 y4 y5, LeO (impl_SumOf.l0 k y0 y1 y2 y3 y4 y5) (impl_SumOf.l0 (k + 1) y0 y1 y2 y3 y4 y5))
 | 0 => ⟨fun _ _ _ r h => by simp [impl_SumOf.j0] at h, fun _ _ _ _ _ _ r h => by simp [impl_SumOf.l0] at h⟩
 | k + 1 => by
  obtain ⟨ih0, ih1⟩ := impl_SumOf.mono_l k
  refine ⟨?_, ?_⟩
  {
  intro y0 y1 y2
  unfold impl_SumOf.j0
  have j0 := @impl_CostsOk.mono
  exact qL
  }
  {
  intro y0 y1 y2 y3 y4 y5
  unfold impl_SumOf.l0
  have j0 := @impl_CostsOk.mono
  exact qL
  }
theorem impl_SumOf.mono : ∀ a0 a1 k, LeO (impl_SumOf.f k a0 a1) (impl_SumOf.f (k + 1) a0 a1) := by
 intro a0 a1 k
 obtain ⟨ih0, ih1⟩ := impl_SumOf.mono_l k
 unfold impl_SumOf.f
 have j0 := @impl_CostsOk.mono
 exact qL
set_option maxHeartbeats 8000000 in
set_option maxRecDepth 100000 in
theorem impl_SumOf.calls (k : Nat) (A0 : Option Addr) (c0 : Nat) (l0 : List (List Int)) (A1 : Option Addr) (c1 : Nat) (l1 : List Int) (r : Int) (w : World) (hr0 : Kd.C (Kd.slice 3 (Kd.int .i64)) w A0 l0.length l0) (hc0 : l0.length ≤ c0) (hr1 : Kd.C (Kd.int .i64) w A1 l1.length l1) (hc1 : l1.length ≤ c1) (h : impl_SumOf.f k l0 l1 = some r) :
  Calls Try.prog 20 #[.slice A0 l0.length c0, .slice A1 l1.length c1] w fun e w' => e = .returned (.int .i64 r) ∧ Drawn0 w w' := by
 have HR0 := aM hr0
 have HC0 := aM hc0
 clear hr0 hc0
 have HR1 := aM hr1
 have HC1 := aM hc1
 clear hr1 hc1
 have H : ((impl_CostsOk.f k l0).bind fun t161 => (if t161 = true then (impl_SumOf.j0 k l0 l1 ((l1.length : Int) != (l0.length : Int))) else (impl_SumOf.j0 k l0 l1 true))) = some r := h
 clear h
 have HC3 := aM H
 clear H
 go_enter Try.func20, Try.ntmps20
 go_upto_region 1 with (fail)
 go_cut [18] (fun v18 wc => ∃ (kq : Nat) (x18_2 : Bool), v18 = .bool x18_2 ∧ Aside0 (impl_SumOf.j0 kq l0 l1 x18_2 = some r) ∧ Aside0 (kq ≤ k) ∧ Drawn0 w wc)
 case first =>
  have H := HC3.out
  clear HC3
  replace H := Option.bind_eq_some_iff.mp H
  obtain ⟨t161, A40, H⟩ := H
  replace H : (if t161 = true then (impl_SumOf.j0 k l0 l1 ((l1.length : Int) != (l0.length : Int))) else (impl_SumOf.j0 k l0 l1 true)) = some r := H
  have A4 := aM A40
  clear A40
  by_cases c5 : t161 = true
  {
  subst c5
  rw [if_pos rfl] at H
  have H' := aM H
  clear H
  go_wp2_with (first | ((with_reducible refine gate_callee (f := 18) rfl ?_); refine goesL_ (some 10) rfl rfl Try.func18 (by kernel_rfl) rfl #[.slice A0 l0.length c0] rfl qz3 ?_; (with_reducible refine (impl_CostsOk.calls k _ _ l0 true _ ?side1 ?side2 A4.out).mono ?_); (case side1 => exact qz7); (case side2 => exact HC0.out); rintro e w' ⟨rfl, ⟨nd, rfl⟩⟩; refine ⟨_, rfl, ?_⟩))
  go_meet
  case rel => exact ⟨_, (((l1.length : Int) != (l0.length : Int))), qz5, H', ⟨by first | omega | exact Nat.le_refl _⟩, by repeat (first | exact Drawn0.refl _ | apply Drawn0.step)⟩
  }
  {
  replace c5 := Bool.eq_false_iff.mpr c5
  subst c5
  rw [if_neg (show ¬ (false = true) by decide)] at H
  have H' := aM H
  clear H
  go_wp2_with (first | ((with_reducible refine gate_callee (f := 18) rfl ?_); refine goesL_ (some 10) rfl rfl Try.func18 (by kernel_rfl) rfl #[.slice A0 l0.length c0] rfl qz3 ?_; (with_reducible refine (impl_CostsOk.calls k _ _ l0 false _ ?side1 ?side2 A4.out).mono ?_); (case side1 => exact qz7); (case side2 => exact HC0.out); rintro e w' ⟨rfl, ⟨nd, rfl⟩⟩; refine ⟨_, rfl, ?_⟩))
  go_meet
  case rel => exact ⟨_, (true), qz5, H', ⟨by first | omega | exact Nat.le_refl _⟩, by repeat (first | exact Drawn0.refl _ | apply Drawn0.step)⟩
  }
 case rest =>
  clear HC3
  try clear c1
  try clear c2
  try clear p2
  try clear c5
  obtain ⟨kq, x18_2, rfl, HA, HJ2, ⟨mc2, rfl⟩⟩ := hcut
  cases kq with
  | zero => exact absurd HA.out (by simp [impl_SumOf.j0])
  | succ kj2 =>
   have H := HA.out
   clear HA
   simp only [impl_SumOf.j0] at H
   by_cases c6 : x18_2 = true
   {
   subst c6
   rw [if_pos rfl] at H
   obtain rfl := Option.some.inj H
   simp only [Option.some.injEq, Prod.mk.injEq] at H
   obtain ⟨rfl⟩ := H
   go_wp2
   go_ret
   exact ⟨by first | rfl | (simp; done) | (simp [*]; done), by repeat (first | exact Drawn0.refl _ | apply Drawn0.step)⟩
   }
   {
   replace c6 := Bool.eq_false_iff.mpr c6
   subst c6
   rw [if_neg (show ¬ (false = true) by decide)] at H
   have H' := aM H
   clear H
   go_wp2
   go_loopg [5, 6, 21] kj2 (fun kq v5 v6 v21 w' => ∃ (x5_2 : Int) (x6_2 : Int) (x21_2 : Int), v5 = .int .i64 x5_2 ∧ v6 = .int .i64 x6_2 ∧ v21 = .int .i64 x21_2 ∧ Aside0 (impl_SumOf.l0 kq l0 x5_2 x6_2 l1 (l1.length : Int) x21_2 = some r) ∧ Aside0 (kq ≤ kj2) ∧ Drawn0 w w')
   case atStart => exact ⟨(0), (0), (0), qz5, qz5, qz5, H', ⟨Nat.le_refl _⟩, by repeat (first | exact Drawn0.refl _ | apply Drawn0.step)⟩
   case round =>
    clear H'
    try clear c1
    try clear c2
    try clear p2
    try clear c5
    try clear c6
    obtain ⟨x5_2, x6_2, x21_2, rfl, rfl, rfl, HA, HK2, ⟨m2, rfl⟩⟩ := hrel
    cases gk with
    | zero => exact absurd HA.out (by simp [impl_SumOf.l0])
    | succ k2 =>
     have H := HA.out
     clear HA
     simp only [impl_SumOf.l0] at H
     by_cases c7 : x21_2 < (l1.length : Int)
     {
     rw [if_pos c7] at H
     have c7b0 := decide_eq_true c7
     clear c7
     by_cases c8 : 0 ≤ x21_2
     {
     rw [if_pos c8] at H
     have c8b0 := decide_eq_true c8
     clear c8
     by_cases c9 : x21_2 < (l1.length : Int)
     {
     rw [if_pos c9] at H
     have c9b0 := decide_eq_true c9
     clear c9
     by_cases c10 : x21_2 < (l0.length : Int)
     {
     rw [if_pos c10] at H
     have c10b0 := decide_eq_true c10
     clear c10
     replace H := Option.bind_eq_some_iff.mp H
     obtain ⟨t164, A110, H⟩ := H
     replace H : (if t164 = true then (if 0 ≤ (rd l1 x21_2) then (if (Go.bits .and .i64 (shr .i64 x6_2 (rd l1 x21_2)) 1) = 1 then (some (-1)) else (if (rd l1 x21_2) < ((rd_L1 l0 x21_2).length : Int) then (impl_SumOf.l0 k2 l0 (wrap64 (x5_2 + (rd (rd_L1 l0 x21_2) (rd l1 x21_2)))) (Go.bits .or .i64 x6_2 (shl .i64 1 (rd l1 x21_2))) l1 (l1.length : Int) (wrap64 (x21_2 + 1))) else (none))) else (none)) else (some (-1))) = some r := H
     have A11 := aM A110
     clear A110
     by_cases c12 : t164 = true
     {
     subst c12
     rw [if_pos rfl] at H
     by_cases c13 : 0 ≤ (rd l1 x21_2)
     {
     rw [if_pos c13] at H
     have c13b0 := eq_true c13
     have c13b1 := decide_eq_true c13
     clear c13
     obtain ⟨ji14, hji14⟩ : ∃ j_ : Int, (shr .i64 x6_2 (rd l1 x21_2)) = j_ := ⟨_, rfl⟩
     replace H : (if (Go.bits .and .i64 (ji14) 1) = 1 then (some (-1)) else (if (rd l1 x21_2) < ((rd_L1 l0 x21_2).length : Int) then (impl_SumOf.l0 k2 l0 (wrap64 (x5_2 + (rd (rd_L1 l0 x21_2) (rd l1 x21_2)))) (Go.bits .or .i64 x6_2 (shl .i64 1 (rd l1 x21_2))) l1 (l1.length : Int) (wrap64 (x21_2 + 1))) else (none))) = some r := by first | (rw [hji14] at H; exact H) | (simp only [hji14] at H ⊢; exact H)
     (try rw [hji14] at A11)
     have hji14_ : (x6_2 / 2 ^ min (rd l1 x21_2).toNat 64) = ji14 := hji14
     have hji14z : (rd l1 x21_2) ≤ 64 → (x6_2 / 2 ^ (rd l1 x21_2).toNat) = ji14 := shr_small hji14
     by_cases c15 : (Go.bits .and .i64 (ji14) 1) = 1
     {
     rw [if_pos c15] at H
     have c15b0 := beq_iff_eq.mpr c15
     have c15b1 := bne_eq_false_iff_eq.mpr c15
     clear c15
     obtain rfl := Option.some.inj H
     simp only [Option.some.injEq, Prod.mk.injEq] at H
     obtain ⟨rfl⟩ := H
     have p162 : 0 ≤ (x21_2 : Int) := dt_
     have q162 : x21_2 < (l1.length : Int) := dt_
     obtain ⟨ad162, e162, hx162_0⟩ := Kd.at_int HR1.out x21_2 p162 q162
     cases e162
     replace p162 := eq_true p162
     replace q162 := eq_true q162
     have p163 : 0 ≤ (x21_2 : Int) := dt_
     have q163 : x21_2 < (l0.length : Int) := dt_
     obtain ⟨ad163, A163_0, c163_0, e163, hx163_0, hl163_0, hi163_0⟩ := at_L1 HR0.out x21_2 p163 q163
     cases e163
     have HR163_0 := aM hi163_0
     have HC163_0 := aM hl163_0
     clear hi163_0 hl163_0
     replace p163 := eq_true p163
     replace q163 := eq_true q163
     go_wp2_with (first | ((with_reducible refine gate_callee (f := 42) rfl ?_); refine goesL_ (some 33) rfl rfl Try.func42 (by kernel_rfl) rfl #[.int .i64 (rd l1 x21_2), .int .i64 0, .int .i64 (wrap64 (((rd_L1 l0 x21_2).length : Int) - 1))] rfl qz3 ?_; (with_reducible refine (impl_in.calls (rd l1 x21_2) 0 (wrap64 (((rd_L1 l0 x21_2).length : Int) - 1)) true _ A11.out).mono ?_); rintro e w' ⟨rfl, ⟨nd, rfl⟩⟩; refine ⟨_, rfl, ?_⟩))
     go_ret
     exact ⟨by first | rfl | (simp; done) | (simp only [← hji14] <;> (first | rfl | simp)) | (simp [*]; done), by repeat (first | exact Drawn0.refl _ | apply Drawn0.step)⟩
     }
     {
     rw [if_neg c15] at H
     have c15b0 := beq_eq_false_iff_ne.mpr c15
     have c15b1 := bne_iff_ne.mpr c15
     have c16b0 := eq_true (dt_ : 0 ≤ (rd l1 x21_2))
     obtain ⟨ji17, hji17⟩ : ∃ j_ : Int, (shl .i64 1 (rd l1 x21_2)) = j_ := ⟨_, rfl⟩
     replace H : (if (rd l1 x21_2) < ((rd_L1 l0 x21_2).length : Int) then (impl_SumOf.l0 k2 l0 (wrap64 (x5_2 + (rd (rd_L1 l0 x21_2) (rd l1 x21_2)))) (Go.bits .or .i64 x6_2 (ji17)) l1 (l1.length : Int) (wrap64 (x21_2 + 1))) else (none)) = some r := by first | (rw [hji17] at H; exact H) | (simp only [hji17] at H ⊢; exact H)
     (try rw [hji17] at A11)
     have hji17_ : (IntKind.i64.wrap (1 * 2 ^ min (rd l1 x21_2).toNat 64)) = ji17 := hji17
     have hji17z : (rd l1 x21_2) ≤ 64 → (IntKind.i64.wrap (1 * 2 ^ (rd l1 x21_2).toNat)) = ji17 := shl_small hji17
     have hji17u : (IntKind.i64.wrap (2 ^ min (rd l1 x21_2).toNat 64)) = ji17 := by have h_ := hji17_; rw [Int.one_mul] at h_; exact h_
     have hji17v : (rd l1 x21_2) ≤ 64 → (IntKind.i64.wrap (2 ^ (rd l1 x21_2).toNat)) = ji17 := fun hle_ => by have h_ := hji17z hle_; rw [Int.one_mul] at h_; exact h_
     have hji17y : (wrap64 (1 * 2 ^ min (rd l1 x21_2).toNat 64)) = ji17 := (i64_w _).symm.trans hji17_
     have hji17x : (rd l1 x21_2) ≤ 64 → (wrap64 (1 * 2 ^ (rd l1 x21_2).toNat)) = ji17 := fun h_ => (i64_w _).symm.trans (hji17z h_)
     by_cases c18 : (rd l1 x21_2) < ((rd_L1 l0 x21_2).length : Int)
     {
     rw [if_pos c18] at H
     have c18b0 := decide_eq_true c18
     clear c18
     have H' := aM H
     clear H
     have p162 : 0 ≤ (x21_2 : Int) := dt_
     have q162 : x21_2 < (l1.length : Int) := dt_
     obtain ⟨ad162, e162, hx162_0⟩ := Kd.at_int HR1.out x21_2 p162 q162
     cases e162
     replace p162 := eq_true p162
     replace q162 := eq_true q162
     have p163 : 0 ≤ (x21_2 : Int) := dt_
     have q163 : x21_2 < (l0.length : Int) := dt_
     obtain ⟨ad163, A163_0, c163_0, e163, hx163_0, hl163_0, hi163_0⟩ := at_L1 HR0.out x21_2 p163 q163
     cases e163
     have HR163_0 := aM hi163_0
     have HC163_0 := aM hl163_0
     clear hi163_0 hl163_0
     replace p163 := eq_true p163
     replace q163 := eq_true q163
     go_wp2_with (first | ((with_reducible refine gate_callee (f := 42) rfl ?_); refine goesL_ (some 33) rfl rfl Try.func42 (by kernel_rfl) rfl #[.int .i64 (rd l1 x21_2), .int .i64 0, .int .i64 (wrap64 (((rd_L1 l0 x21_2).length : Int) - 1))] rfl qz3 ?_; (with_reducible refine (impl_in.calls (rd l1 x21_2) 0 (wrap64 (((rd_L1 l0 x21_2).length : Int) - 1)) true _ A11.out).mono ?_); rintro e w' ⟨rfl, ⟨nd, rfl⟩⟩; refine ⟨_, rfl, ?_⟩; have p165 : 0 ≤ (x21_2 : Int) := dt_; have q165 : x21_2 < (l0.length : Int) := dt_; obtain ⟨ad165, A165_0, c165_0, e165, hx165_0, hl165_0, hi165_0⟩ := at_L1 HR0.out x21_2 p165 q165; obtain rfl : ad163 = ad165 := (by injection e165); have HR165_0 := aM hi165_0; have HC165_0 := aM hl165_0; clear hi165_0 hl165_0; replace p165 := eq_true p165; replace q165 := eq_true q165; have ea_ := Option.some.inj (hx163_0.symm.trans hx165_0); injection ea_ with ea_ en_ ec_; subst ea_; subst ec_; clear en_; have p166 : 0 ≤ ((rd l1 x21_2) : Int) := dt_; have q166 : (rd l1 x21_2) < ((rd_L1 l0 x21_2).length : Int) := dt_; obtain ⟨ad166, e166, hx166_0⟩ := Kd.at_int HR165_0.out (rd l1 x21_2) p166 q166; cases e166; replace p166 := eq_true p166; replace q166 := eq_true q166))
     go_roundg k2
     case measure => have := HJ2.out; have := HK2.out; omega
     case rel => exact ⟨(wrap64 (x5_2 + (rd (rd_L1 l0 x21_2) (rd l1 x21_2)))), (Go.bits .or .i64 x6_2 (ji17)), (wrap64 (x21_2 + 1)), qz5, (by first | rfl | (simp; done) | (simp only [← hji17] <;> (first | rfl | simp)) | (simp [*]; done)), qz5, H', ⟨by have := HJ2.out; have := HK2.out; omega⟩, by repeat (first | exact Drawn0.refl _ | apply Drawn0.step)⟩
     }
     {
     exact an_ c18 H
     }
     }
     }
     {
     exact an_ c13 H
     }
     }
     {
     replace c12 := Bool.eq_false_iff.mpr c12
     subst c12
     rw [if_neg (show ¬ (false = true) by decide)] at H
     obtain rfl := Option.some.inj H
     simp only [Option.some.injEq, Prod.mk.injEq] at H
     obtain ⟨rfl⟩ := H
     have p162 : 0 ≤ (x21_2 : Int) := dt_
     have q162 : x21_2 < (l1.length : Int) := dt_
     obtain ⟨ad162, e162, hx162_0⟩ := Kd.at_int HR1.out x21_2 p162 q162
     cases e162
     replace p162 := eq_true p162
     replace q162 := eq_true q162
     have p163 : 0 ≤ (x21_2 : Int) := dt_
     have q163 : x21_2 < (l0.length : Int) := dt_
     obtain ⟨ad163, A163_0, c163_0, e163, hx163_0, hl163_0, hi163_0⟩ := at_L1 HR0.out x21_2 p163 q163
     cases e163
     have HR163_0 := aM hi163_0
     have HC163_0 := aM hl163_0
     clear hi163_0 hl163_0
     replace p163 := eq_true p163
     replace q163 := eq_true q163
     go_wp2_with (first | ((with_reducible refine gate_callee (f := 42) rfl ?_); refine goesL_ (some 33) rfl rfl Try.func42 (by kernel_rfl) rfl #[.int .i64 (rd l1 x21_2), .int .i64 0, .int .i64 (wrap64 (((rd_L1 l0 x21_2).length : Int) - 1))] rfl qz3 ?_; (with_reducible refine (impl_in.calls (rd l1 x21_2) 0 (wrap64 (((rd_L1 l0 x21_2).length : Int) - 1)) false _ A11.out).mono ?_); rintro e w' ⟨rfl, ⟨nd, rfl⟩⟩; refine ⟨_, rfl, ?_⟩))
     go_ret
     exact ⟨by first | rfl | (simp; done) | (simp [*]; done), by repeat (first | exact Drawn0.refl _ | apply Drawn0.step)⟩
     }
     }
     {
     exact an_ c10 H
     }
     }
     {
     exact an_ c9 H
     }
     }
     {
     exact an_ c8 H
     }
     }
     {
     rw [if_neg c7] at H
     have c7b0 := decide_eq_false c7
     clear c7
     obtain rfl := Option.some.inj H
     simp only [Option.some.injEq, Prod.mk.injEq] at H
     obtain ⟨rfl⟩ := H
     go_wp2
     go_ret
     exact ⟨by first | rfl | (simp; done) | (simp [*]; done), by repeat (first | exact Drawn0.refl _ | apply Drawn0.step)⟩

     }
   }
/-! ### impl_pricesOk: function 43 -/
def impl_pricesOk.l0 : Nat → List Int → Int → Int → Option (Bool)
 | 0, _, _, _ => none
 | k + 1, x5, x6, x7 => if x7 < x6 then (if 0 ≤ x7 then (if x7 < (x5.length : Int) then ((impl_in.f (rd x5 x7) (-1000000) 1000000).bind fun t168 => (if t168 = true then (impl_pricesOk.l0 k x5 x6 (wrap64 (x7 + 1))) else (some false))) else (none)) else (none)) else (some true)
def impl_pricesOk.f (k : Nat) (l0 : List Int) : Option (Bool) := impl_pricesOk.l0 k l0 (l0.length : Int) 0
theorem impl_pricesOk.mono_l : ∀ k, (∀ y0 y1 y2, LeO (impl_pricesOk.l0 k y0 y1 y2) (impl_pricesOk.l0 (k + 1) y0 y1 y2))
 | 0 => fun _ _ _ r h => by simp [impl_pricesOk.l0] at h
 | k + 1 => by
  have ih0 := impl_pricesOk.mono_l k
  {
  intro y0 y1 y2
  unfold impl_pricesOk.l0
  exact qL
  }
theorem impl_pricesOk.mono : ∀ a0 k, LeO (impl_pricesOk.f k a0) (impl_pricesOk.f (k + 1) a0) := by
 intro a0 k
 have ih0 := impl_pricesOk.mono_l k
 unfold impl_pricesOk.f
 exact qL
set_option maxHeartbeats 8000000 in
set_option maxRecDepth 100000 in
theorem impl_pricesOk.calls (k : Nat) (A0 : Option Addr) (c0 : Nat) (l0 : List Int) (r : Bool) (w : World) (hr0 : Kd.C (Kd.int .i64) w A0 l0.length l0) (hc0 : l0.length ≤ c0) (h : impl_pricesOk.f k l0 = some r) :
  Calls Try.prog 43 #[.slice A0 l0.length c0] w fun e w' => e = .returned (.bool r) ∧ Drawn0 w w' := by
 have HR0 := aM hr0
 have HC0 := aM hc0
 clear hr0 hc0
 have H : (impl_pricesOk.l0 k l0 (l0.length : Int) 0) = some r := h
 clear h
 have H' := aM H
 clear H
 go_enter Try.func43, Try.ntmps43
 go_wp2
 go_loopg [7] k (fun kq v7 w' => ∃ (x7_1 : Int), v7 = .int .i64 x7_1 ∧ Aside0 (impl_pricesOk.l0 kq l0 (l0.length : Int) x7_1 = some r) ∧ Aside0 (kq ≤ k) ∧ Drawn0 w w')
 case atStart => exact ⟨(0), qz5, H', ⟨Nat.le_refl _⟩, by repeat (first | exact Drawn0.refl _ | apply Drawn0.step)⟩
 case round =>
  clear H'
  obtain ⟨x7_1, rfl, HA, HK1, ⟨m1, rfl⟩⟩ := hrel
  cases gk with
  | zero => exact absurd HA.out (by simp [impl_pricesOk.l0])
  | succ k1 =>
   have H := HA.out
   clear HA
   simp only [impl_pricesOk.l0] at H
   by_cases c2 : x7_1 < (l0.length : Int)
   {
   rw [if_pos c2] at H
   have c2b0 := decide_eq_true c2
   clear c2
   by_cases c3 : 0 ≤ x7_1
   {
   rw [if_pos c3] at H
   have c3b0 := decide_eq_true c3
   clear c3
   by_cases c4 : x7_1 < (l0.length : Int)
   {
   rw [if_pos c4] at H
   have c4b0 := decide_eq_true c4
   clear c4
   replace H := Option.bind_eq_some_iff.mp H
   obtain ⟨t168, A50, H⟩ := H
   replace H : (if t168 = true then (impl_pricesOk.l0 k1 l0 (l0.length : Int) (wrap64 (x7_1 + 1))) else (some false)) = some r := H
   have A5 := aM A50
   clear A50
   by_cases c6 : t168 = true
   {
   subst c6
   rw [if_pos rfl] at H
   have H' := aM H
   clear H
   have p167 : 0 ≤ (x7_1 : Int) := dt_
   have q167 : x7_1 < (l0.length : Int) := dt_
   obtain ⟨ad167, e167, hx167_0⟩ := Kd.at_int HR0.out x7_1 p167 q167
   cases e167
   replace p167 := eq_true p167
   replace q167 := eq_true q167
   go_wp2_with (first | ((with_reducible refine gate_callee (f := 42) rfl ?_); refine goesL_ (some 12) rfl rfl Try.func42 (by kernel_rfl) rfl #[.int .i64 (rd l0 x7_1), .int .i64 (-1000000), .int .i64 1000000] rfl qz3 ?_; (with_reducible refine (impl_in.calls (rd l0 x7_1) (-1000000) 1000000 true _ A5.out).mono ?_); rintro e w' ⟨rfl, ⟨nd, rfl⟩⟩; refine ⟨_, rfl, ?_⟩))
   go_roundg k1
   case measure => have := HK1.out; omega
   case rel => exact ⟨(wrap64 (x7_1 + 1)), qz5, H', ⟨by have := HK1.out; omega⟩, by repeat (first | exact Drawn0.refl _ | apply Drawn0.step)⟩
   }
   {
   replace c6 := Bool.eq_false_iff.mpr c6
   subst c6
   rw [if_neg (show ¬ (false = true) by decide)] at H
   obtain rfl := Option.some.inj H
   simp only [Option.some.injEq, Prod.mk.injEq] at H
   obtain ⟨rfl⟩ := H
   have p167 : 0 ≤ (x7_1 : Int) := dt_
   have q167 : x7_1 < (l0.length : Int) := dt_
   obtain ⟨ad167, e167, hx167_0⟩ := Kd.at_int HR0.out x7_1 p167 q167
   cases e167
   replace p167 := eq_true p167
   replace q167 := eq_true q167
   go_wp2_with (first | ((with_reducible refine gate_callee (f := 42) rfl ?_); refine goesL_ (some 12) rfl rfl Try.func42 (by kernel_rfl) rfl #[.int .i64 (rd l0 x7_1), .int .i64 (-1000000), .int .i64 1000000] rfl qz3 ?_; (with_reducible refine (impl_in.calls (rd l0 x7_1) (-1000000) 1000000 false _ A5.out).mono ?_); rintro e w' ⟨rfl, ⟨nd, rfl⟩⟩; refine ⟨_, rfl, ?_⟩))
   go_ret
   exact ⟨by first | rfl | (simp; done) | (simp [*]; done), by repeat (first | exact Drawn0.refl _ | apply Drawn0.step)⟩
   }
   }
   {
   exact an_ c4 H
   }
   }
   {
   exact an_ c3 H
   }
   }
   {
   rw [if_neg c2] at H
   have c2b0 := decide_eq_false c2
   clear c2
   obtain rfl := Option.some.inj H
   simp only [Option.some.injEq, Prod.mk.injEq] at H
   obtain ⟨rfl⟩ := H
   go_wp2
   go_ret
   exact ⟨by first | rfl | (simp; done) | (simp [*]; done), by repeat (first | exact Drawn0.refl _ | apply Drawn0.step)⟩

   }
/-! ### impl_hasInt: function 44 -/
def impl_hasInt.l0 : Nat → Int → List Int → Int → Int → Option (Bool)
 | 0, _, _, _, _ => none
 | k + 1, x1, x7, x8, x9 => if x9 < x8 then (if 0 ≤ x9 then (if x9 < (x7.length : Int) then (if (rd x7 x9) = x1 then (some true) else (impl_hasInt.l0 k x1 x7 x8 (wrap64 (x9 + 1)))) else (none)) else (none)) else (some false)
def impl_hasInt.f (k : Nat) (l0 : List Int) (a1 : Int) : Option (Bool) := impl_hasInt.l0 k a1 l0 (l0.length : Int) 0
theorem impl_hasInt.mono_l : ∀ k, (∀ y0 y1 y2 y3, LeO (impl_hasInt.l0 k y0 y1 y2 y3) (impl_hasInt.l0 (k + 1) y0 y1 y2 y3))
 | 0 => fun _ _ _ _ r h => by simp [impl_hasInt.l0] at h
 | k + 1 => by
  have ih0 := impl_hasInt.mono_l k
  {
  intro y0 y1 y2 y3
  unfold impl_hasInt.l0
  exact qL
  }
theorem impl_hasInt.mono : ∀ a0 a1 k, LeO (impl_hasInt.f k a0 a1) (impl_hasInt.f (k + 1) a0 a1) := by
 intro a0 a1 k
 have ih0 := impl_hasInt.mono_l k
 unfold impl_hasInt.f
 exact qL
set_option maxHeartbeats 8000000 in
set_option maxRecDepth 100000 in
theorem impl_hasInt.calls (k : Nat) (A0 : Option Addr) (c0 : Nat) (l0 : List Int) (a1 : Int) (r : Bool) (w : World) (hr0 : Kd.C (Kd.int .i64) w A0 l0.length l0) (hc0 : l0.length ≤ c0) (h : impl_hasInt.f k l0 a1 = some r) :
  Calls Try.prog 44 #[.slice A0 l0.length c0, .int .i64 a1] w fun e w' => e = .returned (.bool r) ∧ Drawn0 w w' := by
 have HR0 := aM hr0
 have HC0 := aM hc0
 clear hr0 hc0
 have H : (impl_hasInt.l0 k a1 l0 (l0.length : Int) 0) = some r := h
 clear h
 have H' := aM H
 clear H
 go_enter Try.func44, Try.ntmps44
 go_wp2
 go_loopg [9] k (fun kq v9 w' => ∃ (x9_1 : Int), v9 = .int .i64 x9_1 ∧ Aside0 (impl_hasInt.l0 kq a1 l0 (l0.length : Int) x9_1 = some r) ∧ Aside0 (kq ≤ k) ∧ Drawn0 w w')
 case atStart => exact ⟨(0), qz5, H', ⟨Nat.le_refl _⟩, by repeat (first | exact Drawn0.refl _ | apply Drawn0.step)⟩
 case round =>
  clear H'
  try clear p2
  obtain ⟨x9_1, rfl, HA, HK1, ⟨m1, rfl⟩⟩ := hrel
  cases gk with
  | zero => exact absurd HA.out (by simp [impl_hasInt.l0])
  | succ k1 =>
   have H := HA.out
   clear HA
   simp only [impl_hasInt.l0] at H
   by_cases c3 : x9_1 < (l0.length : Int)
   {
   rw [if_pos c3] at H
   have c3b0 := decide_eq_true c3
   clear c3
   by_cases c4 : 0 ≤ x9_1
   {
   rw [if_pos c4] at H
   have c4b0 := decide_eq_true c4
   clear c4
   by_cases c5 : x9_1 < (l0.length : Int)
   {
   rw [if_pos c5] at H
   have c5b0 := decide_eq_true c5
   clear c5
   by_cases c6 : (rd l0 x9_1) = a1
   {
   rw [if_pos c6] at H
   have c6b0 := beq_iff_eq.mpr c6
   have c6b1 := bne_eq_false_iff_eq.mpr c6
   clear c6
   obtain rfl := Option.some.inj H
   simp only [Option.some.injEq, Prod.mk.injEq] at H
   obtain ⟨rfl⟩ := H
   have p169 : 0 ≤ (x9_1 : Int) := dt_
   have q169 : x9_1 < (l0.length : Int) := dt_
   obtain ⟨ad169, e169, hx169_0⟩ := Kd.at_int HR0.out x9_1 p169 q169
   cases e169
   replace p169 := eq_true p169
   replace q169 := eq_true q169
   go_wp2
   go_ret
   exact ⟨by first | rfl | (simp; done) | (simp [*]; done), by repeat (first | exact Drawn0.refl _ | apply Drawn0.step)⟩
   }
   {
   rw [if_neg c6] at H
   have c6b0 := beq_eq_false_iff_ne.mpr c6
   have c6b1 := bne_iff_ne.mpr c6
   have H' := aM H
   clear H
   have p169 : 0 ≤ (x9_1 : Int) := dt_
   have q169 : x9_1 < (l0.length : Int) := dt_
   obtain ⟨ad169, e169, hx169_0⟩ := Kd.at_int HR0.out x9_1 p169 q169
   cases e169
   replace p169 := eq_true p169
   replace q169 := eq_true q169
   go_wp2
   go_roundg k1
   case measure => have := HK1.out; omega
   case rel => exact ⟨(wrap64 (x9_1 + 1)), qz5, H', ⟨by have := HK1.out; omega⟩, by repeat (first | exact Drawn0.refl _ | apply Drawn0.step)⟩
   }
   }
   {
   exact an_ c5 H
   }
   }
   {
   exact an_ c4 H
   }
   }
   {
   rw [if_neg c3] at H
   have c3b0 := decide_eq_false c3
   clear c3
   obtain rfl := Option.some.inj H
   simp only [Option.some.injEq, Prod.mk.injEq] at H
   obtain ⟨rfl⟩ := H
   go_wp2
   go_ret
   exact ⟨by first | rfl | (simp; done) | (simp [*]; done), by repeat (first | exact Drawn0.refl _ | apply Drawn0.step)⟩

   }
end Go.Proofs.Ytbebfhlejnidkaa.PFnProved
