-- Made by a program of this session out of the translation. Lean checks it.
import Derived.Test.YtbebfhlejnidkaaPFnProvedx3
import Derived.Test.YtbebfhlejnidkaaPFnProvedx5
import Derived.Test.YtbebfhlejnidkaaPFnProvedx12
import Derived.Test.YtbebfhlejnidkaaPFnProvedx14
namespace Go.Proofs.Ytbebfhlejnidkaa.PFnProved
open Go.RowKit Go.Proofs.YtbebfhlejnidkaaW.PrintWords Go.Proofs.YtbebfhlejnidkaaW.PrintLast Go.Proofs.YtbebfhlejnidkaaW.PrintMore
attribute [local go_sem] max2_int min2_int max_two min_two max_three min_three max_four min_four   -- for this text's walks alone
set_option linter.unusedVariables false
set_option linter.unusedSimpArgs false

/-! ### laws_FnProved: function 5 -/
def laws_FnProved.j0 : Nat → List (List Int) → Bool → Int → Int → Bool → Option (Bool)
 | 0, _, _, _, _, _ => none
 | k + 1, x3, x7, x8, x10, x46 => if x46 = true then (some false) else ((spec_CostsOk.f k x3).bind fun t530 => (if t530 = true then (if x7 = true then (if x8 = x10 then (if x8 = (-1) then (some true) else (some (decide (x8 ≥ x10)))) else (some false)) else (if x8 = (-1) then (some true) else (some (decide (x8 ≥ x10))))) else (if x7 = true then (some false) else (if x8 = (-1) then (some (x10 == (-1))) else (some false)))))
def laws_FnProved.f (k : Nat) (l0 : List Int) : Option (Bool) := (laws_big.f l0).bind fun t509 => (if t509 = true then (some true) else ((spec_DrawProves.f k l0).bind fun bt510 => ((impl_Proves.f k bt510.1 bt510.2.1 bt510.2.2.1 bt510.2.2.2).bind fun t522 => ((impl_SumOf.f k bt510.1 bt510.2.1).bind fun t523 => ((impl_Match.f k bt510.1).bind fun bt524 => ((spec_Proves.f k bt510.1 bt510.2.1 bt510.2.2.1 bt510.2.2.2).bind fun t528 => (if (t522 != t528) = true then (laws_FnProved.j0 k bt510.1 t522 t523 bt524.2 true) else ((spec_SumOf.f k bt510.1 bt510.2.1).bind fun t529 => (laws_FnProved.j0 k bt510.1 t522 t523 bt524.2 (t523 != t529))))))))))
theorem laws_FnProved.mono_l : ∀ k, (∀ y0 y1 y2 y3 y4, LeO (laws_FnProved.j0 k y0 y1 y2 y3 y4) (laws_FnProved.j0 (k + 1) y0 y1 y2 y3 y4))
 | 0 => fun _ _ _ _ _ r h => by simp [laws_FnProved.j0] at h
 | k + 1 => by
  have ih0 := laws_FnProved.mono_l k
  {
  intro y0 y1 y2 y3 y4
  unfold laws_FnProved.j0
  have j0 := @impl_Match.mono
  have j1 := @impl_Proves.mono
  have j2 := @impl_SumOf.mono
  have j3 := @spec_CostsOk.mono
  have j4 := @spec_DrawProves.mono
  have j5 := @spec_Proves.mono
  have j6 := @spec_SumOf.mono
  exact qL
  }
theorem laws_FnProved.mono : ∀ a0 k, LeO (laws_FnProved.f k a0) (laws_FnProved.f (k + 1) a0) := by
 intro a0 k
 have ih0 := laws_FnProved.mono_l k
 unfold laws_FnProved.f
 have j0 := @impl_Match.mono
 have j1 := @impl_Proves.mono
 have j2 := @impl_SumOf.mono
 have j3 := @spec_CostsOk.mono
 have j4 := @spec_DrawProves.mono
 have j5 := @spec_Proves.mono
 have j6 := @spec_SumOf.mono
 exact qL
set_option maxHeartbeats 8000000 in
set_option maxRecDepth 100000 in
theorem laws_FnProved.calls (k : Nat) (A0 : Option Addr) (c0 : Nat) (l0 : List Int) (r : Bool) (w : World) (hr0 : Kd.C (Kd.int .u8) w A0 l0.length l0) (hc0 : l0.length ≤ c0) (hT : r = true) (h : laws_FnProved.f k l0 = some r) :
  Calls Try.prog 5 #[.slice A0 l0.length c0] w fun e w' => e = .returned (.bool r) ∧ Below w.heap.size w w' := by
 have HTR_ := aM hT
 clear hT
 have HR0 := aM hr0
 have HC0 := aM hc0
 clear hr0 hc0
 have HB := aM (Below.refl w.heap.size w)
 have H : ((laws_big.f l0).bind fun t509 => (if t509 = true then (some true) else ((spec_DrawProves.f k l0).bind fun bt510 => ((impl_Proves.f k bt510.1 bt510.2.1 bt510.2.2.1 bt510.2.2.2).bind fun t522 => ((impl_SumOf.f k bt510.1 bt510.2.1).bind fun t523 => ((impl_Match.f k bt510.1).bind fun bt524 => ((spec_Proves.f k bt510.1 bt510.2.1 bt510.2.2.1 bt510.2.2.2).bind fun t528 => (if (t522 != t528) = true then (laws_FnProved.j0 k bt510.1 t522 t523 bt524.2 true) else ((spec_SumOf.f k bt510.1 bt510.2.1).bind fun t529 => (laws_FnProved.j0 k bt510.1 t522 t523 bt524.2 (t523 != t529))))))))))) = some r := h
 clear h
 replace H := Option.bind_eq_some_iff.mp H
 obtain ⟨t509, A20, H⟩ := H
 replace H : (if t509 = true then (some true) else ((spec_DrawProves.f k l0).bind fun bt510 => ((impl_Proves.f k bt510.1 bt510.2.1 bt510.2.2.1 bt510.2.2.2).bind fun t522 => ((impl_SumOf.f k bt510.1 bt510.2.1).bind fun t523 => ((impl_Match.f k bt510.1).bind fun bt524 => ((spec_Proves.f k bt510.1 bt510.2.1 bt510.2.2.1 bt510.2.2.2).bind fun t528 => (if (t522 != t528) = true then (laws_FnProved.j0 k bt510.1 t522 t523 bt524.2 true) else ((spec_SumOf.f k bt510.1 bt510.2.1).bind fun t529 => (laws_FnProved.j0 k bt510.1 t522 t523 bt524.2 (t523 != t529)))))))))) = some r := H
 have A2 := aM A20
 clear A20
 by_cases c3 : t509 = true
 {
 subst c3
 rw [if_pos rfl] at H
 obtain rfl := Option.some.inj H
 simp only [Option.some.injEq, Prod.mk.injEq] at H
 obtain ⟨rfl⟩ := H
 go_enter Try.func5, Try.ntmps5
 go_wp2_with (first | ((with_reducible refine gate_callee (f := 16) rfl ?_); refine goesL_ (some 12) rfl rfl Try.func16 (by kernel_rfl) rfl #[.slice A0 l0.length c0] rfl qz3 ?_; (with_reducible refine (laws_big.calls _ _ l0 true _ ?side1 ?side2 A2.out).mono ?_); (case side1 => exact qz7); (case side2 => exact HC0.out); rintro e w' ⟨rfl, ⟨nd, rfl⟩⟩; refine ⟨_, rfl, ?_⟩))
 go_ret
 exact ⟨qzw, qz1⟩
 }
 {
 replace c3 := Bool.eq_false_iff.mpr c3
 subst c3
 rw [if_neg (show ¬ (false = true) by decide)] at H
 replace H := Option.bind_eq_some_iff.mp H
 obtain ⟨⟨t510, t511, t512, t513⟩, A40, H⟩ := H
 replace H : ((impl_Proves.f k t510 t511 t512 t513).bind fun t522 => ((impl_SumOf.f k t510 t511).bind fun t523 => ((impl_Match.f k t510).bind fun bt524 => ((spec_Proves.f k t510 t511 t512 t513).bind fun t528 => (if (t522 != t528) = true then (laws_FnProved.j0 k t510 t522 t523 bt524.2 true) else ((spec_SumOf.f k t510 t511).bind fun t529 => (laws_FnProved.j0 k t510 t522 t523 bt524.2 (t523 != t529)))))))) = some r := H
 have A4 := aM A40
 clear A40
 replace H := Option.bind_eq_some_iff.mp H
 obtain ⟨t522, A50, H⟩ := H
 replace H : ((impl_SumOf.f k t510 t511).bind fun t523 => ((impl_Match.f k t510).bind fun bt524 => ((spec_Proves.f k t510 t511 t512 t513).bind fun t528 => (if (t522 != t528) = true then (laws_FnProved.j0 k t510 t522 t523 bt524.2 true) else ((spec_SumOf.f k t510 t511).bind fun t529 => (laws_FnProved.j0 k t510 t522 t523 bt524.2 (t523 != t529))))))) = some r := H
 have A5 := aM A50
 clear A50
 replace H := Option.bind_eq_some_iff.mp H
 obtain ⟨t523, A60, H⟩ := H
 replace H : ((impl_Match.f k t510).bind fun bt524 => ((spec_Proves.f k t510 t511 t512 t513).bind fun t528 => (if (t522 != t528) = true then (laws_FnProved.j0 k t510 t522 t523 bt524.2 true) else ((spec_SumOf.f k t510 t511).bind fun t529 => (laws_FnProved.j0 k t510 t522 t523 bt524.2 (t523 != t529)))))) = some r := H
 have A6 := aM A60
 clear A60
 replace H := Option.bind_eq_some_iff.mp H
 obtain ⟨⟨t524, t525⟩, A70, H⟩ := H
 replace H : ((spec_Proves.f k t510 t511 t512 t513).bind fun t528 => (if (t522 != t528) = true then (laws_FnProved.j0 k t510 t522 t523 t525 true) else ((spec_SumOf.f k t510 t511).bind fun t529 => (laws_FnProved.j0 k t510 t522 t523 t525 (t523 != t529))))) = some r := H
 have A7 := aM A70
 clear A70
 have HC8 := aM H
 clear H
 go_enter Try.func5, Try.ntmps5
 go_upto_region 7 with (first | ((with_reducible refine gate_callee (f := 16) rfl ?_); refine goesL_ (some 12) rfl rfl Try.func16 (by kernel_rfl) rfl #[.slice A0 l0.length c0] rfl qz3 ?_; (with_reducible refine (laws_big.calls _ _ l0 false _ ?side1 ?side2 A2.out).mono ?_); (case side1 => exact qz7); (case side2 => exact HC0.out); rintro e w' ⟨rfl, ⟨nd, rfl⟩⟩; refine ⟨_, rfl, ?_⟩) | ((with_reducible refine gate_callee (f := 22) rfl ?_); refine goesL_ (some 15) rfl rfl Try.func22 (by kernel_rfl) rfl #[.slice A0 l0.length c0] rfl qz3 ?_; (with_reducible refine (spec_DrawProves.calls k _ _ l0 t510 t511 t512 t513 _ ?side1 ?side2 A4.out).mono ?_); (case side1 => exact qz7); (case side2 => exact HC0.out); rintro e w9 ⟨v514, v516, v518, v520, rfl, ho0, ho1, ho2, ho3, hb⟩; refine ⟨_, rfl, ?_⟩; have HO515 := aM (Kd.S_lower ho0 (below_size qz1)); have HO517 := aM (Kd.R_lower ho1 (below_size qz1)); have HO519 := aM (Kd.Q_lower ho2 (below_size qz1)); have HO521 := aM (Kd.Q_lower ho3 (below_size qz1)); replace HB := bS_ hb; (try clear hb ho0 ho1 ho2 ho3); obtain ⟨Ao10, co10, eo10⟩ := Kd.S_slice HO515.out; subst eo10; obtain ⟨Ao11, co11, eo11⟩ := Kd.R_slice HO517.out; subst eo11; obtain ⟨Ao12, co12, eo12, _⟩ := Kd.Q_slice HO519.out; subst eo12; obtain ⟨Ao13, co13, eo13, _⟩ := Kd.Q_slice HO521.out; subst eo13) | ((with_reducible refine gate_callee (f := 21) rfl ?_); refine goesL_ (some 24) rfl rfl Try.func21 (by kernel_rfl) rfl #[.slice Ao10 t510.length co10, .slice Ao11 t511.length co11, .slice Ao12 t512.length co12, .slice Ao13 t513.length co13] rfl qz3 ?_; (with_reducible refine (impl_Proves.calls k _ _ t510 _ _ t511 _ _ t512 _ _ t513 t522 _ ?side1 ?side2 ?side3 ?side4 ?side5 ?side6 ?side7 ?side8 A5.out).mono ?_); (case side1 => exact qz16); (case side2 => exact (Kd.S_reads' HO515.out).2.1); (case side3 => exact qz20); (case side4 => exact (Kd.R_reads' HO517.out).2.1); (case side5 => exact qz34); (case side6 => exact (Kd.Q_reads' HO519.out).2.1); (case side7 => exact qz35); (case side8 => exact (Kd.Q_reads' HO521.out).2.1); rintro e w' ⟨rfl, ⟨nd, rfl⟩⟩; refine ⟨_, rfl, ?_⟩) | ((with_reducible refine gate_callee (f := 20) rfl ?_); refine goesL_ (some 27) rfl rfl Try.func20 (by kernel_rfl) rfl #[.slice Ao10 t510.length co10, .slice Ao11 t511.length co11] rfl qz3 ?_; (with_reducible refine (impl_SumOf.calls k _ _ t510 _ _ t511 t523 _ ?side1 ?side2 ?side3 ?side4 A6.out).mono ?_); (case side1 => exact qz16); (case side2 => exact (Kd.S_reads' HO515.out).2.1); (case side3 => exact qz20); (case side4 => exact (Kd.R_reads' HO517.out).2.1); rintro e w' ⟨rfl, ⟨nd, rfl⟩⟩; refine ⟨_, rfl, ?_⟩) | ((with_reducible refine gate_callee (f := 10) rfl ?_); refine goesL_ (some 30) rfl rfl Try.func10 (by kernel_rfl) rfl #[.slice Ao10 t510.length co10] rfl qz3 ?_; (with_reducible refine (impl_Match.calls k _ _ t510 t524 t525 _ ?side1 ?side2 A7.out).mono ?_); (case side1 => exact qz16); (case side2 => exact (Kd.S_reads' HO515.out).2.1); rintro e w14 ⟨v526, rfl, ho0, hb⟩; refine ⟨_, rfl, ?_⟩; replace HO515 := aM (Kd.S_elder' (rs_ HO515.out) (Kd.R_base ho0) hb); have HO527 := aM (Kd.R_lower (Kd.R_new' (Kd.R_new' (Kd.R_new' ho0 (Kd.R_lt (rr_ HO517.out))) (Kd.Q_lt qz38)) (Kd.Q_lt qz39)) (below_size qz1)); replace HO517 := aM (Kd.R_elder' (rr_ HO517.out) (Kd.R_base ho0) hb); replace HO519 := aM (Kd.Q_elder' qz38 (Kd.R_base ho0) hb); replace HO521 := aM (Kd.Q_elder' qz39 (Kd.R_base ho0) hb); replace HB := bS_ hb; (try clear hb ho0)))
 (try simp only [Act.put, List.setIfInBounds_toArray, List.set_cons_zero, List.set_cons_succ])
 go_cut [46] (fun v46 wc => ∃ (kq : Nat) (x46_7 : Bool), v46 = .bool x46_7 ∧ Aside0 (laws_FnProved.j0 kq t510 t522 t523 t525 x46_7 = some r) ∧ Aside0 (kq ≤ k) ∧ Aside0 (Kd.S (Kd.slice 3 (Kd.int .i64)) 24 wc w.heap.size (fun _ => True) (.slice Ao10 t510.length co10) t510) ∧ Aside0 (Below w.heap.size w wc))
 case first =>
  have H := HC8.out
  clear HC8
  replace H := Option.bind_eq_some_iff.mp H
  obtain ⟨t528, A150, H⟩ := H
  replace H : (if (t522 != t528) = true then (laws_FnProved.j0 k t510 t522 t523 t525 true) else ((spec_SumOf.f k t510 t511).bind fun t529 => (laws_FnProved.j0 k t510 t522 t523 t525 (t523 != t529)))) = some r := H
  have A15 := aM A150
  clear A150
  by_cases c16 : (t522 != t528) = true
  {
  rw [if_pos c16] at H
  have c16b0 : (t522 != t528) = true := c16
  (try (have c16b1 : decide (t522 = t528) = false := by simpa using c16))
  (try (have c16b2 : (t522 == t528) = false := by simpa using c16))
  (try (have c16b3 : ¬ (t522 = t528) := by simpa using c16))
  clear c16
  (first | rw [c16b0] | (simp only [i64_w, i32_w]; rw [c16b0]) | rw [@decide_eq_true _ _ (of_decide_eq_true c16b0)] | rw [@decide_eq_true _ _ (of_decide_eq_true c16b1)] | skip)
  have H' := aM H
  clear H
  go_wp2_with (first | ((with_reducible refine gate_callee (f := 23) rfl ?_); refine goesL_ (some 38) rfl rfl Try.func23 (by kernel_rfl) rfl #[.slice Ao10 t510.length co10, .slice Ao11 t511.length co11, .slice Ao12 t512.length co12, .slice Ao13 t513.length co13] rfl qz3 ?_; (with_reducible refine (spec_Proves.calls k _ _ t510 _ _ t511 _ _ t512 _ _ t513 t528 _ ?side1 ?side2 ?side3 ?side4 ?side5 ?side6 ?side7 ?side8 A15.out).mono ?_); (case side1 => exact qz16); (case side2 => exact (Kd.S_reads' HO515.out).2.1); (case side3 => exact qz20); (case side4 => exact (Kd.R_reads' HO517.out).2.1); (case side5 => exact qz34); (case side6 => exact (Kd.Q_reads' HO519.out).2.1); (case side7 => exact qz35); (case side8 => exact (Kd.Q_reads' HO521.out).2.1); rintro e w17 ⟨rfl, hb⟩; refine ⟨_, rfl, ?_⟩; replace HO515 := aM (Kd.S_below (rs_ HO515.out) hb); replace HO517 := aM (Kd.R_below (rr_ HO517.out) hb); replace HO519 := aM (Kd.Q_below qz38 hb); replace HO521 := aM (Kd.Q_below qz39 hb); replace HO527 := aM (Kd.R_below (rr_ HO527.out) hb); replace HB := bS_ hb; (try clear hb)))
  go_meet
  case rel => exact ⟨_, (true), qz5, H', ⟨by first | omega | exact Nat.le_refl _⟩, ⟨by (with_reducible repeat (first | apply Kd.S_alloc | apply Kd.S_drewN | apply Kd.S_drew)); exact Kd.S_mono HO515.out (fun _ hk => trivial)⟩, ⟨qz1⟩⟩
  }
  {
  rw [if_neg c16] at H
  have c16b0 : (t522 != t528) = false := by simpa using c16
  (try (have c16b1 : decide (t522 = t528) = true := by simpa using c16))
  (try (have c16b2 : (t522 == t528) = true := by simpa using c16))
  clear c16
  (first | rw [c16b0] | (simp only [i64_w, i32_w]; rw [c16b0]) | rw [@decide_eq_false _ _ (of_decide_eq_false c16b0)] | rw [@decide_eq_false _ _ (of_decide_eq_false c16b1)] | skip)
  replace H := Option.bind_eq_some_iff.mp H
  obtain ⟨t529, A180, H⟩ := H
  replace H : (laws_FnProved.j0 k t510 t522 t523 t525 (t523 != t529)) = some r := H
  have A18 := aM A180
  clear A180
  have H' := aM H
  clear H
  go_wp2_with (first | ((with_reducible refine gate_callee (f := 23) rfl ?_); refine goesL_ (some 38) rfl rfl Try.func23 (by kernel_rfl) rfl #[.slice Ao10 t510.length co10, .slice Ao11 t511.length co11, .slice Ao12 t512.length co12, .slice Ao13 t513.length co13] rfl qz3 ?_; (with_reducible refine (spec_Proves.calls k _ _ t510 _ _ t511 _ _ t512 _ _ t513 t528 _ ?side1 ?side2 ?side3 ?side4 ?side5 ?side6 ?side7 ?side8 A15.out).mono ?_); (case side1 => exact qz16); (case side2 => exact (Kd.S_reads' HO515.out).2.1); (case side3 => exact qz20); (case side4 => exact (Kd.R_reads' HO517.out).2.1); (case side5 => exact qz34); (case side6 => exact (Kd.Q_reads' HO519.out).2.1); (case side7 => exact qz35); (case side8 => exact (Kd.Q_reads' HO521.out).2.1); rintro e w19 ⟨rfl, hb⟩; refine ⟨_, rfl, ?_⟩; replace HO515 := aM (Kd.S_below (rs_ HO515.out) hb); replace HO517 := aM (Kd.R_below (rr_ HO517.out) hb); replace HO519 := aM (Kd.Q_below qz38 hb); replace HO521 := aM (Kd.Q_below qz39 hb); replace HO527 := aM (Kd.R_below (rr_ HO527.out) hb); replace HB := bS_ hb; (try clear hb)) | (go_at_call 24; (with_reducible refine (spec_SumOf.calls k _ _ t510 _ _ t511 t529 _ ?side1 ?side2 ?side3 ?side4 A18.out).mono ?_); (case side1 => exact qz16); (case side2 => exact (Kd.S_reads' HO515.out).2.1); (case side3 => exact qz20); (case side4 => exact (Kd.R_reads' HO517.out).2.1); rintro e w' ⟨rfl, ⟨nd, rfl⟩⟩))
  go_meet
  case rel => exact ⟨_, ((t523 != t529)), qz5, H', ⟨by first | omega | exact Nat.le_refl _⟩, ⟨by (with_reducible repeat (first | apply Kd.S_alloc | apply Kd.S_drewN | apply Kd.S_drew)); exact Kd.S_mono HO515.out (fun _ hk => trivial)⟩, ⟨qz1⟩⟩
  }
 case rest =>
  clear HC8
  try clear c1
  try clear c2
  try clear p2
  try clear c3
  try clear c5
  try clear c10
  try clear c16
  try clear c16b0
  try clear c16b1
  try clear c16b2
  obtain ⟨kq, x46_7, rfl, HA, HJ7, HO_3, HB⟩ := hcut
  cases kq with
  | zero => exact absurd HA.out (by simp [laws_FnProved.j0])
  | succ kj7 =>
   have H := HA.out
   clear HA
   simp only [laws_FnProved.j0] at H
   by_cases c20 : x46_7 = true
   {
   subst c20
   rw [if_pos rfl] at H
   obtain rfl := Option.some.inj H
   exact absurd HTR_.out (by decide)
   }
   {
   replace c20 := Bool.eq_false_iff.mpr c20
   subst c20
   rw [if_neg (show ¬ (false = true) by decide)] at H
   replace H := Option.bind_eq_some_iff.mp H
   obtain ⟨t530, A210, H⟩ := H
   replace H : (if t530 = true then (if t522 = true then (if t523 = t525 then (if t523 = (-1) then (some true) else (some (decide (t523 ≥ t525)))) else (some false)) else (if t523 = (-1) then (some true) else (some (decide (t523 ≥ t525))))) else (if t522 = true then (some false) else (if t523 = (-1) then (some (t525 == (-1))) else (some false)))) = some r := H
   have A21 := aM A210
   clear A210
   by_cases c22 : t530 = true
   {
   subst c22
   rw [if_pos rfl] at H
   by_cases c23 : t522 = true
   {
   subst c23
   rw [if_pos rfl] at H
   by_cases c24 : t523 = t525
   {
   rw [if_pos c24] at H
   have c24b0 := beq_iff_eq.mpr c24
   have c24b1 := bne_eq_false_iff_eq.mpr c24
   clear c24
   by_cases c25 : t523 = (-1)
   {
   rw [if_pos c25] at H
   have c25b0 := beq_iff_eq.mpr c25
   have c25b1 := bne_eq_false_iff_eq.mpr c25
   clear c25
   obtain rfl := Option.some.inj H
   simp only [Option.some.injEq, Prod.mk.injEq] at H
   obtain ⟨rfl⟩ := H
   go_wp2_with (first | ((with_reducible refine gate_callee (f := 25) rfl ?_); refine goesL_ (some 48) rfl rfl Try.func25 (by kernel_rfl) rfl #[.slice Ao10 t510.length co10] rfl qz3 ?_; (with_reducible refine (spec_CostsOk.calls kj7 _ _ t510 true _ ?side1 ?side2 A21.out).mono ?_); (case side1 => exact qz21); (case side2 => exact (Kd.S_reads' HO_3.out).2.1); rintro e w' ⟨rfl, ⟨nd, rfl⟩⟩; refine ⟨_, rfl, ?_⟩))
   go_ret
   exact ⟨qzw, qz1⟩
   }
   {
   rw [if_neg c25] at H
   have c25b0 := beq_eq_false_iff_ne.mpr c25
   have c25b1 := bne_iff_ne.mpr c25
   obtain rfl := Option.some.inj H
   simp only [Option.some.injEq, Prod.mk.injEq] at H
   obtain ⟨rfl⟩ := H
   go_wp2_with (first | ((with_reducible refine gate_callee (f := 25) rfl ?_); refine goesL_ (some 48) rfl rfl Try.func25 (by kernel_rfl) rfl #[.slice Ao10 t510.length co10] rfl qz3 ?_; (with_reducible refine (spec_CostsOk.calls kj7 _ _ t510 true _ ?side1 ?side2 A21.out).mono ?_); (case side1 => exact qz21); (case side2 => exact (Kd.S_reads' HO_3.out).2.1); rintro e w' ⟨rfl, ⟨nd, rfl⟩⟩; refine ⟨_, rfl, ?_⟩))
   go_ret
   exact ⟨qzw, qz1⟩
   }
   }
   {
   rw [if_neg c24] at H
   have c24b0 := beq_eq_false_iff_ne.mpr c24
   have c24b1 := bne_iff_ne.mpr c24
   obtain rfl := Option.some.inj H
   exact absurd HTR_.out (by decide)
   }
   }
   {
   replace c23 := Bool.eq_false_iff.mpr c23
   subst c23
   rw [if_neg (show ¬ (false = true) by decide)] at H
   by_cases c26 : t523 = (-1)
   {
   rw [if_pos c26] at H
   have c26b0 := beq_iff_eq.mpr c26
   have c26b1 := bne_eq_false_iff_eq.mpr c26
   clear c26
   obtain rfl := Option.some.inj H
   simp only [Option.some.injEq, Prod.mk.injEq] at H
   obtain ⟨rfl⟩ := H
   go_wp2_with (first | ((with_reducible refine gate_callee (f := 25) rfl ?_); refine goesL_ (some 48) rfl rfl Try.func25 (by kernel_rfl) rfl #[.slice Ao10 t510.length co10] rfl qz3 ?_; (with_reducible refine (spec_CostsOk.calls kj7 _ _ t510 true _ ?side1 ?side2 A21.out).mono ?_); (case side1 => exact qz21); (case side2 => exact (Kd.S_reads' HO_3.out).2.1); rintro e w' ⟨rfl, ⟨nd, rfl⟩⟩; refine ⟨_, rfl, ?_⟩))
   go_ret
   exact ⟨qzw, qz1⟩
   }
   {
   rw [if_neg c26] at H
   have c26b0 := beq_eq_false_iff_ne.mpr c26
   have c26b1 := bne_iff_ne.mpr c26
   obtain rfl := Option.some.inj H
   simp only [Option.some.injEq, Prod.mk.injEq] at H
   obtain ⟨rfl⟩ := H
   go_wp2_with (first | ((with_reducible refine gate_callee (f := 25) rfl ?_); refine goesL_ (some 48) rfl rfl Try.func25 (by kernel_rfl) rfl #[.slice Ao10 t510.length co10] rfl qz3 ?_; (with_reducible refine (spec_CostsOk.calls kj7 _ _ t510 true _ ?side1 ?side2 A21.out).mono ?_); (case side1 => exact qz21); (case side2 => exact (Kd.S_reads' HO_3.out).2.1); rintro e w' ⟨rfl, ⟨nd, rfl⟩⟩; refine ⟨_, rfl, ?_⟩))
   go_ret
   exact ⟨qzw, qz1⟩
   }
   }
   }
   {
   replace c22 := Bool.eq_false_iff.mpr c22
   subst c22
   rw [if_neg (show ¬ (false = true) by decide)] at H
   by_cases c27 : t522 = true
   {
   subst c27
   rw [if_pos rfl] at H
   obtain rfl := Option.some.inj H
   exact absurd HTR_.out (by decide)
   }
   {
   replace c27 := Bool.eq_false_iff.mpr c27
   subst c27
   rw [if_neg (show ¬ (false = true) by decide)] at H
   by_cases c28 : t523 = (-1)
   {
   rw [if_pos c28] at H
   have c28b0 := beq_iff_eq.mpr c28
   have c28b1 := bne_eq_false_iff_eq.mpr c28
   clear c28
   obtain rfl := Option.some.inj H
   simp only [Option.some.injEq, Prod.mk.injEq] at H
   obtain ⟨rfl⟩ := H
   go_wp2_with (first | ((with_reducible refine gate_callee (f := 25) rfl ?_); refine goesL_ (some 48) rfl rfl Try.func25 (by kernel_rfl) rfl #[.slice Ao10 t510.length co10] rfl qz3 ?_; (with_reducible refine (spec_CostsOk.calls kj7 _ _ t510 false _ ?side1 ?side2 A21.out).mono ?_); (case side1 => exact qz21); (case side2 => exact (Kd.S_reads' HO_3.out).2.1); rintro e w' ⟨rfl, ⟨nd, rfl⟩⟩; refine ⟨_, rfl, ?_⟩))
   go_ret
   exact ⟨qzw, qz1⟩
   }
   {
   rw [if_neg c28] at H
   have c28b0 := beq_eq_false_iff_ne.mpr c28
   have c28b1 := bne_iff_ne.mpr c28
   obtain rfl := Option.some.inj H
   exact absurd HTR_.out (by decide)

   }
   }
   }
   }
 }
/-- THE ONE PURE STATEMENT of laws_FnProved: yours. -/
def laws_FnProved.Pure : Prop := ∀ (l0 : List Int), l0.length ≤ maxLen → l0.length * 1 ≤ 140737488351232 → (∀ x ∈ l0, (Lit.int .u8 x).wf = true) → ∃ k, laws_FnProved.f k l0 = some true
theorem laws_FnProved.walk (P : laws_FnProved.Pure) (a0 : Option Addr) (len0 cap0 : Nat) (z0 : List Int) (w : World) (w0 : (a0 = none ∧ len0 = 0 ∧ cap0 = 0 ∧ z0 = []) ∨ ∃ x, a0 = some x ∧ len0 ≤ cap0 ∧ cap0 ≤ maxLen ∧ z0.length = cap0 ∧ (∀ i, i < z0.length → w.cell? (x.add i) = some (.int .u8 (z0.getD i 0))) ∧ ∀ n ∈ z0, (Lit.int .u8 n).wf = true) (y0 : len0 * 1 ≤ 140737488351232) :
  Calls Try.prog 5 #[.slice a0 len0 cap0] w fun e w' => e = .returned (.bool true) ∧ Below w.heap.size w w' := by
 obtain ⟨l0, rfl, hr0, hm0, hw0, hc0⟩ := ReadsInt.ofRowC w0
 obtain ⟨k, h⟩ := P l0 hm0 y0 hw0
 refine (laws_FnProved.calls k _ _ l0 true w (Kd.C_of_reads (d := (0 : Int)) (h1 := fun _ => rfl) hr0) hc0 rfl h).mono ?_
 rintro e w' ⟨rfl, hd⟩
 exact ⟨rfl, hd⟩

end Go.Proofs.Ytbebfhlejnidkaa.PFnProved
