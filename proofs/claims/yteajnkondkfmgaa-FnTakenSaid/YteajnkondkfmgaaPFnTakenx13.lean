-- Made by a program of this session out of the translation. Lean checks it.
import Derived.Test.YteajnkondkfmgaaPFnTakenx0
import Derived.Test.YteajnkondkfmgaaPFnTakenx12
namespace Go.Proofs.Yteajnkondkfmgaa.PFnTaken
open Go.RowKit Go.Proofs.YteajnkondkfmgaaW.PrintWords Go.Proofs.YteajnkondkfmgaaW.PrintLast Go.Proofs.YteajnkondkfmgaaW.PrintMore
attribute [local go_sem] max2_int min2_int max_two min_two max_three min_three max_four min_four   -- for this text's walks alone
set_option linter.unusedVariables false
set_option linter.unusedSimpArgs false

/-! ### spec_l5Stacks: function 82 -/
def spec_l5Stacks.l0 : Nat → List (S72) → Int → Option (Bool)
 | 0, _, _ => none
 | k + 1, x0, x3 => if x3 < (x0.length : Int) then (if 0 ≤ x3 then ((spec_l1In.f ((rd_T72 x0 x3).f0) 1 50).bind fun t328 => (if t328 = true then ((spec_l1In.f ((rd_T72 x0 x3).f1) 1 1000).bind fun t330 => (if t330 = true then ((spec_l1In.f ((rd_T72 x0 x3).f2) 0 ((rd_T72 x0 x3).f1)).bind fun t333 => (if t333 = true then (if x3 > 0 then (if 0 ≤ (wrap64 (x3 - 1)) then (if (wrap64 (x3 - 1)) < (x0.length : Int) then (if ((rd_T72 x0 (wrap64 (x3 - 1))).f0) ≥ ((rd_T72 x0 x3).f0) then (some false) else (spec_l5Stacks.l0 k x0 (wrap64 (x3 + 1)))) else (none)) else (none)) else (spec_l5Stacks.l0 k x0 (wrap64 (x3 + 1)))) else (some false))) else (some false))) else (some false))) else (none)) else (some (decide ((x0.length : Int) ≤ 8)))
def spec_l5Stacks.f (k : Nat) (l0 : List (S72)) : Option (Bool) := spec_l5Stacks.l0 k l0 0
theorem spec_l5Stacks.mono_l : ∀ k, (∀ y0 y1, LeO (spec_l5Stacks.l0 k y0 y1) (spec_l5Stacks.l0 (k + 1) y0 y1))
 | 0 => fun _ _ r h => by simp [spec_l5Stacks.l0] at h
 | k + 1 => by
  have ih0 := spec_l5Stacks.mono_l k
  {
  intro y0 y1
  unfold spec_l5Stacks.l0
  exact qL
  }
theorem spec_l5Stacks.mono : ∀ a0 k, LeO (spec_l5Stacks.f k a0) (spec_l5Stacks.f (k + 1) a0) := by
 intro a0 k
 have ih0 := spec_l5Stacks.mono_l k
 unfold spec_l5Stacks.f
 exact qL
def spec_l5Stacks.T4 : Bool × List (List Nat × List Nat) := (true, [([], []), ([], []), ([0, 1], [0, 1]), ([2], [2]), ([3], [3]), ([4], [4]), ([5], [5]), ([6, 5], [6]), ([7], [7]), ([7], [7]), ([8, 9, 7], [7, 8, 9]), ([10, 7], [7, 10]), ([11, 7], [7, 11]), ([12, 7, 7], [7, 12]), ([13, 7], [7, 13]), ([7, 14], [7, 14]), ([15, 13], [15]), ([16], [16]), ([16], [16]), ([17, 18, 16], [16, 17, 18]), ([19, 16], [16, 19]), ([20, 16], [16, 20]), ([16], [16]), ([16], [16]), ([22, 23, 16], [16, 22, 23]), ([24, 16], [16, 24]), ([25, 16], [16, 25]), ([21, 26, 16, 16], [16, 21, 26]), ([27, 16], [16, 27]), ([16, 28], [16, 28]), ([29, 27], [29]), ([30], [30]), ([31, 30], [30, 31]), ([32, 30, 30], [30, 32]), ([33], [33]), ([33], [33]), ([35, 33], [33, 35]), ([34, 36, 33], [33, 34, 36]), ([37, 33], [33, 37]), ([38, 33], [33, 38]), ([33], [33]), ([33], [33]), ([40, 41, 33], [33, 40, 41]), ([42, 33], [33, 42]), ([43, 33], [33, 43]), ([39, 44, 33], [33, 39, 44]), ([33, 45, 30], [30, 33, 45]), ([30, 46], [30, 46])])
def spec_l5Stacks.B4 : List Nat := [0, 0, 3, 7, 15, 31, 63, 127, 255, 255, 1023, 2047, 4095, 8191, 16383, 32767, 65535, 131071, 131071, 524287, 1048575, 2097151, 131071, 131071, 12713983, 29491199, 63045631, 134217727, 268435455, 536870911, 1073741823, 2147483647, 4294967295, 8589934591, 17179869183, 17179869183, 51539607551, 137438953471, 274877906943, 549755813887, 17179869183, 17179869183, 3315714752511, 7713761263615, 16509854285823, 35184372088831, 70368744177663, 140737488355327]
theorem spec_l5Stacks.tab4 : rtab .any (opsOf Try.f82 4) = spec_l5Stacks.T4 := by kernel_rfl
theorem spec_l5Stacks.bits4 : waitsOk spec_l5Stacks.T4.2 spec_l5Stacks.B4 = true := by kernel_rfl
set_option maxHeartbeats 8000000 in
set_option maxRecDepth 100000 in
theorem spec_l5Stacks.calls (k : Nat) (A0 : Option Addr) (c0 : Nat) (l0 : List (S72)) (r : Bool) (w : World) (hr0 : Kd.C k72 w A0 l0.length l0) (hc0 : l0.length ≤ c0) (h : spec_l5Stacks.f k l0 = some r) :
  Calls Try.prog 82 #[.slice A0 l0.length c0] w fun e w' => e = .returned (.bool r) ∧ Below w.heap.size w w' := by
 have HR0 := aM hr0
 have HC0 := aM hc0
 clear hr0 hc0
 have HB := aM (Below.refl w.heap.size w)
 have H : (spec_l5Stacks.l0 k l0 0) = some r := h
 clear h
 have H' := aM H
 clear H
 go_enter Try.func82, Try.ntmps82
 go_wp2
 go_loopg [3] k (fun kq v3 w' => ∃ (x3_1 : Int), v3 = .int .i64 x3_1 ∧ Aside0 (spec_l5Stacks.l0 kq l0 x3_1 = some r) ∧ Aside0 (kq ≤ k) ∧ Aside0 (Below w.heap.size w w'))
 case atStart => exact ⟨(0), qz6, H', ⟨Nat.le_refl _⟩, ⟨qz1⟩⟩
 case round =>
  clear H'
  obtain ⟨x3_1, rfl, HA, HK1, HB⟩ := hrel
  cases gk with
  | zero => exact absurd HA.out (by simp [spec_l5Stacks.l0])
  | succ k1 =>
   have H := HA.out
   clear HA
   simp only [spec_l5Stacks.l0] at H
   by_cases c2 : x3_1 < (l0.length : Int)
   {
   rw [if_pos c2] at H
   have c2b0 := decide_eq_true c2
   clear c2
   by_cases c3 : 0 ≤ x3_1
   {
   rw [if_pos c3] at H
   have c3b0 := decide_eq_true c3
   clear c3
   replace H := Option.bind_eq_some_iff.mp H
   obtain ⟨t328, A40, H⟩ := H
   replace H : (if t328 = true then ((spec_l1In.f ((rd_T72 l0 x3_1).f1) 1 1000).bind fun t330 => (if t330 = true then ((spec_l1In.f ((rd_T72 l0 x3_1).f2) 0 ((rd_T72 l0 x3_1).f1)).bind fun t333 => (if t333 = true then (if x3_1 > 0 then (if 0 ≤ (wrap64 (x3_1 - 1)) then (if (wrap64 (x3_1 - 1)) < (l0.length : Int) then (if ((rd_T72 l0 (wrap64 (x3_1 - 1))).f0) ≥ ((rd_T72 l0 x3_1).f0) then (some false) else (spec_l5Stacks.l0 k1 l0 (wrap64 (x3_1 + 1)))) else (none)) else (none)) else (spec_l5Stacks.l0 k1 l0 (wrap64 (x3_1 + 1)))) else (some false))) else (some false))) else (some false)) = some r := H
   have A4 := aM A40
   clear A40
   by_cases c5 : t328 = true
   {
   subst c5
   rw [if_pos rfl] at H
   replace H := Option.bind_eq_some_iff.mp H
   obtain ⟨t330, A60, H⟩ := H
   replace H : (if t330 = true then ((spec_l1In.f ((rd_T72 l0 x3_1).f2) 0 ((rd_T72 l0 x3_1).f1)).bind fun t333 => (if t333 = true then (if x3_1 > 0 then (if 0 ≤ (wrap64 (x3_1 - 1)) then (if (wrap64 (x3_1 - 1)) < (l0.length : Int) then (if ((rd_T72 l0 (wrap64 (x3_1 - 1))).f0) ≥ ((rd_T72 l0 x3_1).f0) then (some false) else (spec_l5Stacks.l0 k1 l0 (wrap64 (x3_1 + 1)))) else (none)) else (none)) else (spec_l5Stacks.l0 k1 l0 (wrap64 (x3_1 + 1)))) else (some false))) else (some false)) = some r := H
   have A6 := aM A60
   clear A60
   by_cases c7 : t330 = true
   {
   subst c7
   rw [if_pos rfl] at H
   replace H := Option.bind_eq_some_iff.mp H
   obtain ⟨t333, A80, H⟩ := H
   replace H : (if t333 = true then (if x3_1 > 0 then (if 0 ≤ (wrap64 (x3_1 - 1)) then (if (wrap64 (x3_1 - 1)) < (l0.length : Int) then (if ((rd_T72 l0 (wrap64 (x3_1 - 1))).f0) ≥ ((rd_T72 l0 x3_1).f0) then (some false) else (spec_l5Stacks.l0 k1 l0 (wrap64 (x3_1 + 1)))) else (none)) else (none)) else (spec_l5Stacks.l0 k1 l0 (wrap64 (x3_1 + 1)))) else (some false)) = some r := H
   have A8 := aM A80
   clear A80
   by_cases c9 : t333 = true
   {
   subst c9
   rw [if_pos rfl] at H
   by_cases c10 : x3_1 > 0
   {
   rw [if_pos c10] at H
   have c10b0 := decide_eq_true c10
   clear c10
   obtain ⟨ji11, hji11⟩ : ∃ j_ : Int, (wrap64 (x3_1 - 1)) = j_ := ⟨_, rfl⟩
   replace H : (if 0 ≤ (ji11) then (if (ji11) < (l0.length : Int) then (if ((rd_T72 l0 (ji11)).f0) ≥ ((rd_T72 l0 x3_1).f0) then (some false) else (spec_l5Stacks.l0 k1 l0 (wrap64 (x3_1 + 1)))) else (none)) else (none)) = some r := by first | (rw [hji11] at H; exact H) | (simp only [hji11] at H ⊢; exact H)
   (try rw [hji11] at A4)
   (try rw [hji11] at A6)
   (try rw [hji11] at A8)
   have hji11w : (IntKind.i64.wrap (x3_1 - 1)) = ji11 := (i64_w _).trans hji11
   by_cases c12 : 0 ≤ (ji11)
   {
   rw [if_pos c12] at H
   have c12b0 := decide_eq_true c12
   clear c12
   by_cases c13 : (ji11) < (l0.length : Int)
   {
   rw [if_pos c13] at H
   have c13b0 := decide_eq_true c13
   clear c13
   by_cases c14 : ((rd_T72 l0 (ji11)).f0) ≥ ((rd_T72 l0 x3_1).f0)
   {
   rw [if_pos c14] at H
   have c14b0 := decide_eq_true c14
   clear c14
   obtain rfl := Option.some.inj H
   simp only [Option.some.injEq, Prod.mk.injEq] at H
   obtain ⟨rfl⟩ := H
   try go_wp2
   replace HB := aM (below_drew1 HB.out)
   have p327 : 0 ≤ (x3_1 : Int) := dt_
   have q327 : x3_1 < (l0.length : Int) := dt_
   obtain ⟨ad327, e327, hx327_0, hx327_1, hx327_2⟩ := at_T72 HR0.out x3_1 p327 q327
   have hw327_2 := hx327_2
   have hw327_1 := hx327_1
   have hw327_0 := hx327_0
   cases e327
   replace hx327_0 := cB_ hx327_0
   replace hx327_1 := cB_ hx327_1
   replace hx327_2 := cB_ hx327_2
   replace p327 := eq_true p327
   replace q327 := eq_true q327
   have p329 : 0 ≤ (x3_1 : Int) := dt_
   have q329 : x3_1 < (l0.length : Int) := dt_
   obtain ⟨ad329, e329, hx329_0, hx329_1, hx329_2⟩ := at_T72 HR0.out x3_1 p329 q329
   have hw329_2 := hx329_2
   have hw329_1 := hx329_1
   have hw329_0 := hx329_0
   obtain rfl : ad327 = ad329 := (by injection e329)
   replace hx329_0 := cB_ hx329_0
   replace hx329_1 := cB_ hx329_1
   replace hx329_2 := cB_ hx329_2
   replace p329 := eq_true p329
   replace q329 := eq_true q329
   have p331 : 0 ≤ (x3_1 : Int) := dt_
   have q331 : x3_1 < (l0.length : Int) := dt_
   obtain ⟨ad331, e331, hx331_0, hx331_1, hx331_2⟩ := at_T72 HR0.out x3_1 p331 q331
   have hw331_2 := hx331_2
   have hw331_1 := hx331_1
   have hw331_0 := hx331_0
   obtain rfl : ad327 = ad331 := (by injection e331)
   replace hx331_0 := cB_ hx331_0
   replace hx331_1 := cB_ hx331_1
   replace hx331_2 := cB_ hx331_2
   replace p331 := eq_true p331
   replace q331 := eq_true q331
   have p332 : 0 ≤ (x3_1 : Int) := dt_
   have q332 : x3_1 < (l0.length : Int) := dt_
   obtain ⟨ad332, e332, hx332_0, hx332_1, hx332_2⟩ := at_T72 HR0.out x3_1 p332 q332
   have hw332_2 := hx332_2
   have hw332_1 := hx332_1
   have hw332_0 := hx332_0
   obtain rfl : ad327 = ad332 := (by injection e332)
   replace hx332_0 := cB_ hx332_0
   replace hx332_1 := cB_ hx332_1
   replace hx332_2 := cB_ hx332_2
   replace p332 := eq_true p332
   replace q332 := eq_true q332
   have p334 : 0 ≤ ((ji11) : Int) := dt_
   have q334 : (ji11) < (l0.length : Int) := dt_
   obtain ⟨ad334, e334, hx334_0, hx334_1, hx334_2⟩ := at_T72 HR0.out (ji11) p334 q334
   have hw334_2 := hx334_2
   have hw334_1 := hx334_1
   have hw334_0 := hx334_0
   obtain rfl : ad327 = ad334 := (by injection e334)
   replace hx334_0 := cB_ hx334_0
   replace hx334_1 := cB_ hx334_1
   replace hx334_2 := cB_ hx334_2
   replace p334 := eq_true p334
   replace q334 := eq_true q334
   have p335 : 0 ≤ (x3_1 : Int) := dt_
   have q335 : x3_1 < (l0.length : Int) := dt_
   obtain ⟨ad335, e335, hx335_0, hx335_1, hx335_2⟩ := at_T72 HR0.out x3_1 p335 q335
   have hw335_2 := hx335_2
   have hw335_1 := hx335_1
   have hw335_0 := hx335_0
   obtain rfl : ad327 = ad335 := (by injection e335)
   replace hx335_0 := cB_ hx335_0
   replace hx335_1 := cB_ hx335_1
   replace hx335_2 := cB_ hx335_2
   replace p335 := eq_true p335
   replace q335 := eq_true q335
   refine start_ (n := 48) (S := fun w' => w'.cell? (ad327.add ((x3_1).toNat * 3)) = some (.int .i64 ((rd_T72 l0 x3_1).f0)) ∧ w'.cell? ⟨(ad327.add ((x3_1).toNat * 3)).block, (ad327.add ((x3_1).toNat * 3)).off + 1, none⟩ = some (.int .i64 ((rd_T72 l0 x3_1).f1)) ∧ w'.cell? ⟨(ad327.add ((x3_1).toNat * 3)).block, (ad327.add ((x3_1).toNat * 3)).off + 2, none⟩ = some (.int .i64 ((rd_T72 l0 x3_1).f2)) ∧ w'.cell? (ad327.add ((x3_1).toNat * 3)) = some (.int .i64 ((rd_T72 l0 x3_1).f0)) ∧ w'.cell? ⟨(ad327.add ((x3_1).toNat * 3)).block, (ad327.add ((x3_1).toNat * 3)).off + 1, none⟩ = some (.int .i64 ((rd_T72 l0 x3_1).f1)) ∧ w'.cell? ⟨(ad327.add ((x3_1).toNat * 3)).block, (ad327.add ((x3_1).toNat * 3)).off + 2, none⟩ = some (.int .i64 ((rd_T72 l0 x3_1).f2)) ∧ w'.cell? (ad327.add ((x3_1).toNat * 3)) = some (.int .i64 ((rd_T72 l0 x3_1).f0)) ∧ w'.cell? ⟨(ad327.add ((x3_1).toNat * 3)).block, (ad327.add ((x3_1).toNat * 3)).off + 1, none⟩ = some (.int .i64 ((rd_T72 l0 x3_1).f1)) ∧ w'.cell? ⟨(ad327.add ((x3_1).toNat * 3)).block, (ad327.add ((x3_1).toNat * 3)).off + 2, none⟩ = some (.int .i64 ((rd_T72 l0 x3_1).f2)) ∧ w'.cell? (ad327.add ((x3_1).toNat * 3)) = some (.int .i64 ((rd_T72 l0 x3_1).f0)) ∧ w'.cell? ⟨(ad327.add ((x3_1).toNat * 3)).block, (ad327.add ((x3_1).toNat * 3)).off + 1, none⟩ = some (.int .i64 ((rd_T72 l0 x3_1).f1)) ∧ w'.cell? ⟨(ad327.add ((x3_1).toNat * 3)).block, (ad327.add ((x3_1).toNat * 3)).off + 2, none⟩ = some (.int .i64 ((rd_T72 l0 x3_1).f2)) ∧ w'.cell? (ad327.add (((ji11)).toNat * 3)) = some (.int .i64 ((rd_T72 l0 (ji11)).f0)) ∧ w'.cell? ⟨(ad327.add (((ji11)).toNat * 3)).block, (ad327.add (((ji11)).toNat * 3)).off + 1, none⟩ = some (.int .i64 ((rd_T72 l0 (ji11)).f1)) ∧ w'.cell? ⟨(ad327.add (((ji11)).toNat * 3)).block, (ad327.add (((ji11)).toNat * 3)).off + 2, none⟩ = some (.int .i64 ((rd_T72 l0 (ji11)).f2)) ∧ w'.cell? (ad327.add ((x3_1).toNat * 3)) = some (.int .i64 ((rd_T72 l0 x3_1).f0)) ∧ w'.cell? ⟨(ad327.add ((x3_1).toNat * 3)).block, (ad327.add ((x3_1).toNat * 3)).off + 1, none⟩ = some (.int .i64 ((rd_T72 l0 x3_1).f1)) ∧ w'.cell? ⟨(ad327.add ((x3_1).toNat * 3)).block, (ad327.add ((x3_1).toNat * 3)).off + 2, none⟩ = some (.int .i64 ((rd_T72 l0 x3_1).f2))) (ds := []) #[false, false, false, false, false, false, false, false, false, false, false, false, false, false, false, false, false, false, false, false, false, false, false, false, false, false, false, false, false, false, false, false, false, false, false, false, false, false, false, false, false, false, false, false, false, false, false, false] (by kernel_rfl) rfl rfl ⟨(cB_ hw327_0), (cB_ hw327_1), (cB_ hw327_2), (cB_ hw329_0), (cB_ hw329_1), (cB_ hw329_2), (cB_ hw331_0), (cB_ hw331_1), (cB_ hw331_2), (cB_ hw332_0), (cB_ hw332_1), (cB_ hw332_2), (cB_ hw334_0), (cB_ hw334_1), (cB_ hw334_2), (cB_ hw335_0), (cB_ hw335_1), (cB_ hw335_2)⟩ (fun hHeld => ?_); refine with_tabW spec_l5Stacks.tab4 spec_l5Stacks.bits4 (fun HT_ HW_ => ?_)
   generalize wr.drew = w15 at HB hx327_0 hx327_1 hx327_2 hx329_0 hx329_1 hx329_2 hx331_0 hx331_1 hx331_2 hx332_0 hx332_1 hx332_2 hx334_0 hx334_1 hx334_2 hx335_0 hx335_1 hx335_2 hHeld ⊢
   refine pI_ 0 10 (bqz 48 1) ?_
   refine jI_ 1 11 ?_
   refine jI_ 2 12 ?_
   refine jI_ 3 13 ?_
   refine sI18_ 4 14 ?_
   refine one_ (i := 5) (N := some 15) (bqz 48 63) rfl rfl qzc (by decide) (fun K hK => ?_)
   refine goes_ Try.func81 (by kernel_rfl) rfl #[.int .i64 ((rd_T72 l0 x3_1).f0), .int .i64 1, .int .i64 50] (by rfl) rfl rfl qz4 ?_
   with_reducible refine (spec_l1In.calls ((rd_T72 l0 x3_1).f0) 1 50 true _ A4.out).mono ?_
   rintro e w' ⟨rfl, ⟨nd, rfl⟩⟩
   refine ⟨_, rfl, ?_⟩
   refine hK.out _ _ ⟨(cB_ hw327_0), (cB_ hw327_1), (cB_ hw327_2), (cB_ hw329_0), (cB_ hw329_1), (cB_ hw329_2), (cB_ hw331_0), (cB_ hw331_1), (cB_ hw331_2), (cB_ hw332_0), (cB_ hw332_1), (cB_ hw332_2), (cB_ hw334_0), (cB_ hw334_1), (cB_ hw334_2), (cB_ hw335_0), (cB_ hw335_1), (cB_ hw335_2)⟩ (fun hHeld => ?_)
   clear hK K
   refine nm_ 15 ?_
   refine jI_ 6 16 ?_
   refine jI_ 7 17 ?_
   refine jI_ 8 18 ?_
   refine jI_ 9 19 ?_
   refine jI_ 10 20 ?_
   refine jI_ 11 21 ?_
   refine sI18_ 12 22 ?_
   refine one_ (i := 13) (N := some 23) (bqz 48 16383) rfl rfl qzc (by decide) (fun K hK => ?_)
   refine goes_ Try.func81 (by kernel_rfl) rfl #[.int .i64 ((rd_T72 l0 x3_1).f1), .int .i64 1, .int .i64 1000] (by rfl) rfl rfl qz4 ?_
   with_reducible refine (spec_l1In.calls ((rd_T72 l0 x3_1).f1) 1 1000 true _ A6.out).mono ?_
   rintro e w' ⟨rfl, ⟨nd, rfl⟩⟩
   refine ⟨_, rfl, ?_⟩
   refine hK.out _ _ ⟨(cB_ hw327_0), (cB_ hw327_1), (cB_ hw327_2), (cB_ hw329_0), (cB_ hw329_1), (cB_ hw329_2), (cB_ hw331_0), (cB_ hw331_1), (cB_ hw331_2), (cB_ hw332_0), (cB_ hw332_1), (cB_ hw332_2), (cB_ hw334_0), (cB_ hw334_1), (cB_ hw334_2), (cB_ hw335_0), (cB_ hw335_1), (cB_ hw335_2)⟩ (fun hHeld => ?_)
   clear hK K
   refine nm_ 23 ?_
   refine jI_ 14 24 ?_
   refine jI_ 15 25 ?_
   refine jI_ 16 26 ?_
   refine jI_ 17 27 ?_
   refine jI_ 18 28 ?_
   refine jI_ 19 29 ?_
   refine jI_ 20 30 ?_
   refine jI_ 22 32 ?_
   refine jI_ 23 33 ?_
   refine jI_ 24 34 ?_
   refine jI_ 25 35 ?_
   refine sI18_ 21 31 ?_
   refine sI18_ 26 36 ?_
   refine one_ (i := 27) (N := some 37) (bqz 48 268435455) rfl rfl qzc (by decide) (fun K hK => ?_)
   refine goes_ Try.func81 (by kernel_rfl) rfl #[.int .i64 ((rd_T72 l0 x3_1).f2), .int .i64 0, .int .i64 ((rd_T72 l0 x3_1).f1)] (by rfl) rfl rfl qz4 ?_
   with_reducible refine (spec_l1In.calls ((rd_T72 l0 x3_1).f2) 0 ((rd_T72 l0 x3_1).f1) true _ A8.out).mono ?_
   rintro e w' ⟨rfl, ⟨nd, rfl⟩⟩
   refine ⟨_, rfl, ?_⟩
   refine hK.out _ _ ⟨(cB_ hw327_0), (cB_ hw327_1), (cB_ hw327_2), (cB_ hw329_0), (cB_ hw329_1), (cB_ hw329_2), (cB_ hw331_0), (cB_ hw331_1), (cB_ hw331_2), (cB_ hw332_0), (cB_ hw332_1), (cB_ hw332_2), (cB_ hw334_0), (cB_ hw334_1), (cB_ hw334_2), (cB_ hw335_0), (cB_ hw335_1), (cB_ hw335_2)⟩ (fun hHeld => ?_)
   clear hK K
   refine nm_ 37 ?_
   refine jI_ 28 38 ?_
   refine jI_ 29 39 ?_
   refine jI_ 30 40 ?_
   refine jI_ 31 41 ?_
   refine jI_ 32 42 ?_
   refine jI_ 33 43 ?_
   refine jI_ 34 44 ?_
   refine jI_ 35 45 ?_
   refine jI_ 36 46 ?_
   refine jI_ 37 47 ?_
   refine jI_ 38 48 ?_
   refine jI_ 40 50 ?_
   refine jI_ 41 51 ?_
   refine jI_ 42 52 ?_
   refine jI_ 43 53 ?_
   refine sI18_ 39 49 ?_
   refine sI18_ 44 54 ?_
   refine jI_ 45 55 ?_
   refine jI_ 46 56 ?_
   refine jI_ 47 57 ?_
   refine done_ (done_of HT_.out (by kernel_rfl)) ?_
   try go_wp2
   go_ret
   exact ⟨by first | rfl | (simp [errW_none, errW_some] <;> rfl) | (simp only [← hji11]; first | rfl | (simp [errW_none, errW_some] <;> rfl)) | (simp [*, errW_none, errW_some] <;> rfl), qz1⟩
   }
   {
   rw [if_neg c14] at H
   have c14b0 := decide_eq_false c14
   clear c14
   have H' := aM H
   clear H
   try go_wp2
   replace HB := aM (below_drew1 HB.out)
   have p327 : 0 ≤ (x3_1 : Int) := dt_
   have q327 : x3_1 < (l0.length : Int) := dt_
   obtain ⟨ad327, e327, hx327_0, hx327_1, hx327_2⟩ := at_T72 HR0.out x3_1 p327 q327
   have hw327_2 := hx327_2
   have hw327_1 := hx327_1
   have hw327_0 := hx327_0
   cases e327
   replace hx327_0 := cB_ hx327_0
   replace hx327_1 := cB_ hx327_1
   replace hx327_2 := cB_ hx327_2
   replace p327 := eq_true p327
   replace q327 := eq_true q327
   have p329 : 0 ≤ (x3_1 : Int) := dt_
   have q329 : x3_1 < (l0.length : Int) := dt_
   obtain ⟨ad329, e329, hx329_0, hx329_1, hx329_2⟩ := at_T72 HR0.out x3_1 p329 q329
   have hw329_2 := hx329_2
   have hw329_1 := hx329_1
   have hw329_0 := hx329_0
   obtain rfl : ad327 = ad329 := (by injection e329)
   replace hx329_0 := cB_ hx329_0
   replace hx329_1 := cB_ hx329_1
   replace hx329_2 := cB_ hx329_2
   replace p329 := eq_true p329
   replace q329 := eq_true q329
   have p331 : 0 ≤ (x3_1 : Int) := dt_
   have q331 : x3_1 < (l0.length : Int) := dt_
   obtain ⟨ad331, e331, hx331_0, hx331_1, hx331_2⟩ := at_T72 HR0.out x3_1 p331 q331
   have hw331_2 := hx331_2
   have hw331_1 := hx331_1
   have hw331_0 := hx331_0
   obtain rfl : ad327 = ad331 := (by injection e331)
   replace hx331_0 := cB_ hx331_0
   replace hx331_1 := cB_ hx331_1
   replace hx331_2 := cB_ hx331_2
   replace p331 := eq_true p331
   replace q331 := eq_true q331
   have p332 : 0 ≤ (x3_1 : Int) := dt_
   have q332 : x3_1 < (l0.length : Int) := dt_
   obtain ⟨ad332, e332, hx332_0, hx332_1, hx332_2⟩ := at_T72 HR0.out x3_1 p332 q332
   have hw332_2 := hx332_2
   have hw332_1 := hx332_1
   have hw332_0 := hx332_0
   obtain rfl : ad327 = ad332 := (by injection e332)
   replace hx332_0 := cB_ hx332_0
   replace hx332_1 := cB_ hx332_1
   replace hx332_2 := cB_ hx332_2
   replace p332 := eq_true p332
   replace q332 := eq_true q332
   have p334 : 0 ≤ ((ji11) : Int) := dt_
   have q334 : (ji11) < (l0.length : Int) := dt_
   obtain ⟨ad334, e334, hx334_0, hx334_1, hx334_2⟩ := at_T72 HR0.out (ji11) p334 q334
   have hw334_2 := hx334_2
   have hw334_1 := hx334_1
   have hw334_0 := hx334_0
   obtain rfl : ad327 = ad334 := (by injection e334)
   replace hx334_0 := cB_ hx334_0
   replace hx334_1 := cB_ hx334_1
   replace hx334_2 := cB_ hx334_2
   replace p334 := eq_true p334
   replace q334 := eq_true q334
   have p335 : 0 ≤ (x3_1 : Int) := dt_
   have q335 : x3_1 < (l0.length : Int) := dt_
   obtain ⟨ad335, e335, hx335_0, hx335_1, hx335_2⟩ := at_T72 HR0.out x3_1 p335 q335
   have hw335_2 := hx335_2
   have hw335_1 := hx335_1
   have hw335_0 := hx335_0
   obtain rfl : ad327 = ad335 := (by injection e335)
   replace hx335_0 := cB_ hx335_0
   replace hx335_1 := cB_ hx335_1
   replace hx335_2 := cB_ hx335_2
   replace p335 := eq_true p335
   replace q335 := eq_true q335
   refine start_ (n := 48) (S := fun w' => w'.cell? (ad327.add ((x3_1).toNat * 3)) = some (.int .i64 ((rd_T72 l0 x3_1).f0)) ∧ w'.cell? ⟨(ad327.add ((x3_1).toNat * 3)).block, (ad327.add ((x3_1).toNat * 3)).off + 1, none⟩ = some (.int .i64 ((rd_T72 l0 x3_1).f1)) ∧ w'.cell? ⟨(ad327.add ((x3_1).toNat * 3)).block, (ad327.add ((x3_1).toNat * 3)).off + 2, none⟩ = some (.int .i64 ((rd_T72 l0 x3_1).f2)) ∧ w'.cell? (ad327.add ((x3_1).toNat * 3)) = some (.int .i64 ((rd_T72 l0 x3_1).f0)) ∧ w'.cell? ⟨(ad327.add ((x3_1).toNat * 3)).block, (ad327.add ((x3_1).toNat * 3)).off + 1, none⟩ = some (.int .i64 ((rd_T72 l0 x3_1).f1)) ∧ w'.cell? ⟨(ad327.add ((x3_1).toNat * 3)).block, (ad327.add ((x3_1).toNat * 3)).off + 2, none⟩ = some (.int .i64 ((rd_T72 l0 x3_1).f2)) ∧ w'.cell? (ad327.add ((x3_1).toNat * 3)) = some (.int .i64 ((rd_T72 l0 x3_1).f0)) ∧ w'.cell? ⟨(ad327.add ((x3_1).toNat * 3)).block, (ad327.add ((x3_1).toNat * 3)).off + 1, none⟩ = some (.int .i64 ((rd_T72 l0 x3_1).f1)) ∧ w'.cell? ⟨(ad327.add ((x3_1).toNat * 3)).block, (ad327.add ((x3_1).toNat * 3)).off + 2, none⟩ = some (.int .i64 ((rd_T72 l0 x3_1).f2)) ∧ w'.cell? (ad327.add ((x3_1).toNat * 3)) = some (.int .i64 ((rd_T72 l0 x3_1).f0)) ∧ w'.cell? ⟨(ad327.add ((x3_1).toNat * 3)).block, (ad327.add ((x3_1).toNat * 3)).off + 1, none⟩ = some (.int .i64 ((rd_T72 l0 x3_1).f1)) ∧ w'.cell? ⟨(ad327.add ((x3_1).toNat * 3)).block, (ad327.add ((x3_1).toNat * 3)).off + 2, none⟩ = some (.int .i64 ((rd_T72 l0 x3_1).f2)) ∧ w'.cell? (ad327.add (((ji11)).toNat * 3)) = some (.int .i64 ((rd_T72 l0 (ji11)).f0)) ∧ w'.cell? ⟨(ad327.add (((ji11)).toNat * 3)).block, (ad327.add (((ji11)).toNat * 3)).off + 1, none⟩ = some (.int .i64 ((rd_T72 l0 (ji11)).f1)) ∧ w'.cell? ⟨(ad327.add (((ji11)).toNat * 3)).block, (ad327.add (((ji11)).toNat * 3)).off + 2, none⟩ = some (.int .i64 ((rd_T72 l0 (ji11)).f2)) ∧ w'.cell? (ad327.add ((x3_1).toNat * 3)) = some (.int .i64 ((rd_T72 l0 x3_1).f0)) ∧ w'.cell? ⟨(ad327.add ((x3_1).toNat * 3)).block, (ad327.add ((x3_1).toNat * 3)).off + 1, none⟩ = some (.int .i64 ((rd_T72 l0 x3_1).f1)) ∧ w'.cell? ⟨(ad327.add ((x3_1).toNat * 3)).block, (ad327.add ((x3_1).toNat * 3)).off + 2, none⟩ = some (.int .i64 ((rd_T72 l0 x3_1).f2))) (ds := []) #[false, false, false, false, false, false, false, false, false, false, false, false, false, false, false, false, false, false, false, false, false, false, false, false, false, false, false, false, false, false, false, false, false, false, false, false, false, false, false, false, false, false, false, false, false, false, false, false] (by kernel_rfl) rfl rfl ⟨(cB_ hw327_0), (cB_ hw327_1), (cB_ hw327_2), (cB_ hw329_0), (cB_ hw329_1), (cB_ hw329_2), (cB_ hw331_0), (cB_ hw331_1), (cB_ hw331_2), (cB_ hw332_0), (cB_ hw332_1), (cB_ hw332_2), (cB_ hw334_0), (cB_ hw334_1), (cB_ hw334_2), (cB_ hw335_0), (cB_ hw335_1), (cB_ hw335_2)⟩ (fun hHeld => ?_); refine with_tabW spec_l5Stacks.tab4 spec_l5Stacks.bits4 (fun HT_ HW_ => ?_)
   generalize wr.drew = w16 at HB hx327_0 hx327_1 hx327_2 hx329_0 hx329_1 hx329_2 hx331_0 hx331_1 hx331_2 hx332_0 hx332_1 hx332_2 hx334_0 hx334_1 hx334_2 hx335_0 hx335_1 hx335_2 hHeld ⊢
   refine pI_ 0 10 (bqz 48 1) ?_
   refine jI_ 1 11 ?_
   refine jI_ 2 12 ?_
   refine jI_ 3 13 ?_
   refine sI18_ 4 14 ?_
   refine one_ (i := 5) (N := some 15) (bqz 48 63) rfl rfl qzc (by decide) (fun K hK => ?_)
   refine goes_ Try.func81 (by kernel_rfl) rfl #[.int .i64 ((rd_T72 l0 x3_1).f0), .int .i64 1, .int .i64 50] (by rfl) rfl rfl qz4 ?_
   with_reducible refine (spec_l1In.calls ((rd_T72 l0 x3_1).f0) 1 50 true _ A4.out).mono ?_
   rintro e w' ⟨rfl, ⟨nd, rfl⟩⟩
   refine ⟨_, rfl, ?_⟩
   refine hK.out _ _ ⟨(cB_ hw327_0), (cB_ hw327_1), (cB_ hw327_2), (cB_ hw329_0), (cB_ hw329_1), (cB_ hw329_2), (cB_ hw331_0), (cB_ hw331_1), (cB_ hw331_2), (cB_ hw332_0), (cB_ hw332_1), (cB_ hw332_2), (cB_ hw334_0), (cB_ hw334_1), (cB_ hw334_2), (cB_ hw335_0), (cB_ hw335_1), (cB_ hw335_2)⟩ (fun hHeld => ?_)
   clear hK K
   refine nm_ 15 ?_
   refine jI_ 6 16 ?_
   refine jI_ 7 17 ?_
   refine jI_ 8 18 ?_
   refine jI_ 9 19 ?_
   refine jI_ 10 20 ?_
   refine jI_ 11 21 ?_
   refine sI18_ 12 22 ?_
   refine one_ (i := 13) (N := some 23) (bqz 48 16383) rfl rfl qzc (by decide) (fun K hK => ?_)
   refine goes_ Try.func81 (by kernel_rfl) rfl #[.int .i64 ((rd_T72 l0 x3_1).f1), .int .i64 1, .int .i64 1000] (by rfl) rfl rfl qz4 ?_
   with_reducible refine (spec_l1In.calls ((rd_T72 l0 x3_1).f1) 1 1000 true _ A6.out).mono ?_
   rintro e w' ⟨rfl, ⟨nd, rfl⟩⟩
   refine ⟨_, rfl, ?_⟩
   refine hK.out _ _ ⟨(cB_ hw327_0), (cB_ hw327_1), (cB_ hw327_2), (cB_ hw329_0), (cB_ hw329_1), (cB_ hw329_2), (cB_ hw331_0), (cB_ hw331_1), (cB_ hw331_2), (cB_ hw332_0), (cB_ hw332_1), (cB_ hw332_2), (cB_ hw334_0), (cB_ hw334_1), (cB_ hw334_2), (cB_ hw335_0), (cB_ hw335_1), (cB_ hw335_2)⟩ (fun hHeld => ?_)
   clear hK K
   refine nm_ 23 ?_
   refine jI_ 14 24 ?_
   refine jI_ 15 25 ?_
   refine jI_ 16 26 ?_
   refine jI_ 17 27 ?_
   refine jI_ 18 28 ?_
   refine jI_ 19 29 ?_
   refine jI_ 20 30 ?_
   refine jI_ 22 32 ?_
   refine jI_ 23 33 ?_
   refine jI_ 24 34 ?_
   refine jI_ 25 35 ?_
   refine sI18_ 21 31 ?_
   refine sI18_ 26 36 ?_
   refine one_ (i := 27) (N := some 37) (bqz 48 268435455) rfl rfl qzc (by decide) (fun K hK => ?_)
   refine goes_ Try.func81 (by kernel_rfl) rfl #[.int .i64 ((rd_T72 l0 x3_1).f2), .int .i64 0, .int .i64 ((rd_T72 l0 x3_1).f1)] (by rfl) rfl rfl qz4 ?_
   with_reducible refine (spec_l1In.calls ((rd_T72 l0 x3_1).f2) 0 ((rd_T72 l0 x3_1).f1) true _ A8.out).mono ?_
   rintro e w' ⟨rfl, ⟨nd, rfl⟩⟩
   refine ⟨_, rfl, ?_⟩
   refine hK.out _ _ ⟨(cB_ hw327_0), (cB_ hw327_1), (cB_ hw327_2), (cB_ hw329_0), (cB_ hw329_1), (cB_ hw329_2), (cB_ hw331_0), (cB_ hw331_1), (cB_ hw331_2), (cB_ hw332_0), (cB_ hw332_1), (cB_ hw332_2), (cB_ hw334_0), (cB_ hw334_1), (cB_ hw334_2), (cB_ hw335_0), (cB_ hw335_1), (cB_ hw335_2)⟩ (fun hHeld => ?_)
   clear hK K
   refine nm_ 37 ?_
   refine jI_ 28 38 ?_
   refine jI_ 29 39 ?_
   refine jI_ 30 40 ?_
   refine jI_ 31 41 ?_
   refine jI_ 32 42 ?_
   refine jI_ 33 43 ?_
   refine jI_ 34 44 ?_
   refine jI_ 35 45 ?_
   refine jI_ 36 46 ?_
   refine jI_ 37 47 ?_
   refine jI_ 38 48 ?_
   refine jI_ 40 50 ?_
   refine jI_ 41 51 ?_
   refine jI_ 42 52 ?_
   refine jI_ 43 53 ?_
   refine sI18_ 39 49 ?_
   refine sI18_ 44 54 ?_
   refine jI_ 45 55 ?_
   refine jI_ 46 56 ?_
   refine jI_ 47 57 ?_
   refine done_ (done_of HT_.out (by kernel_rfl)) ?_
   try go_wp2
   go_roundg k1
   case measure => have := HK1.out; omega
   case rel => exact ⟨(wrap64 (x3_1 + 1)), qz6, H', ⟨by have := HK1.out; omega⟩, ⟨qz1⟩⟩
   }
   }
   {
   exact an_ c13 H
   }
   }
   {
   exact an_ c12 H
   }
   }
   {
   rw [if_neg c10] at H
   have c10b0 := decide_eq_false c10
   clear c10
   have H' := aM H
   clear H
   try go_wp2
   replace HB := aM (below_drew1 HB.out)
   have p327 : 0 ≤ (x3_1 : Int) := dt_
   have q327 : x3_1 < (l0.length : Int) := dt_
   obtain ⟨ad327, e327, hx327_0, hx327_1, hx327_2⟩ := at_T72 HR0.out x3_1 p327 q327
   have hw327_2 := hx327_2
   have hw327_1 := hx327_1
   have hw327_0 := hx327_0
   cases e327
   replace hx327_0 := cB_ hx327_0
   replace hx327_1 := cB_ hx327_1
   replace hx327_2 := cB_ hx327_2
   replace p327 := eq_true p327
   replace q327 := eq_true q327
   have p329 : 0 ≤ (x3_1 : Int) := dt_
   have q329 : x3_1 < (l0.length : Int) := dt_
   obtain ⟨ad329, e329, hx329_0, hx329_1, hx329_2⟩ := at_T72 HR0.out x3_1 p329 q329
   have hw329_2 := hx329_2
   have hw329_1 := hx329_1
   have hw329_0 := hx329_0
   obtain rfl : ad327 = ad329 := (by injection e329)
   replace hx329_0 := cB_ hx329_0
   replace hx329_1 := cB_ hx329_1
   replace hx329_2 := cB_ hx329_2
   replace p329 := eq_true p329
   replace q329 := eq_true q329
   have p331 : 0 ≤ (x3_1 : Int) := dt_
   have q331 : x3_1 < (l0.length : Int) := dt_
   obtain ⟨ad331, e331, hx331_0, hx331_1, hx331_2⟩ := at_T72 HR0.out x3_1 p331 q331
   have hw331_2 := hx331_2
   have hw331_1 := hx331_1
   have hw331_0 := hx331_0
   obtain rfl : ad327 = ad331 := (by injection e331)
   replace hx331_0 := cB_ hx331_0
   replace hx331_1 := cB_ hx331_1
   replace hx331_2 := cB_ hx331_2
   replace p331 := eq_true p331
   replace q331 := eq_true q331
   have p332 : 0 ≤ (x3_1 : Int) := dt_
   have q332 : x3_1 < (l0.length : Int) := dt_
   obtain ⟨ad332, e332, hx332_0, hx332_1, hx332_2⟩ := at_T72 HR0.out x3_1 p332 q332
   have hw332_2 := hx332_2
   have hw332_1 := hx332_1
   have hw332_0 := hx332_0
   obtain rfl : ad327 = ad332 := (by injection e332)
   replace hx332_0 := cB_ hx332_0
   replace hx332_1 := cB_ hx332_1
   replace hx332_2 := cB_ hx332_2
   replace p332 := eq_true p332
   replace q332 := eq_true q332
   refine start_ (n := 48) (S := fun w' => w'.cell? (ad327.add ((x3_1).toNat * 3)) = some (.int .i64 ((rd_T72 l0 x3_1).f0)) ∧ w'.cell? ⟨(ad327.add ((x3_1).toNat * 3)).block, (ad327.add ((x3_1).toNat * 3)).off + 1, none⟩ = some (.int .i64 ((rd_T72 l0 x3_1).f1)) ∧ w'.cell? ⟨(ad327.add ((x3_1).toNat * 3)).block, (ad327.add ((x3_1).toNat * 3)).off + 2, none⟩ = some (.int .i64 ((rd_T72 l0 x3_1).f2)) ∧ w'.cell? (ad327.add ((x3_1).toNat * 3)) = some (.int .i64 ((rd_T72 l0 x3_1).f0)) ∧ w'.cell? ⟨(ad327.add ((x3_1).toNat * 3)).block, (ad327.add ((x3_1).toNat * 3)).off + 1, none⟩ = some (.int .i64 ((rd_T72 l0 x3_1).f1)) ∧ w'.cell? ⟨(ad327.add ((x3_1).toNat * 3)).block, (ad327.add ((x3_1).toNat * 3)).off + 2, none⟩ = some (.int .i64 ((rd_T72 l0 x3_1).f2)) ∧ w'.cell? (ad327.add ((x3_1).toNat * 3)) = some (.int .i64 ((rd_T72 l0 x3_1).f0)) ∧ w'.cell? ⟨(ad327.add ((x3_1).toNat * 3)).block, (ad327.add ((x3_1).toNat * 3)).off + 1, none⟩ = some (.int .i64 ((rd_T72 l0 x3_1).f1)) ∧ w'.cell? ⟨(ad327.add ((x3_1).toNat * 3)).block, (ad327.add ((x3_1).toNat * 3)).off + 2, none⟩ = some (.int .i64 ((rd_T72 l0 x3_1).f2)) ∧ w'.cell? (ad327.add ((x3_1).toNat * 3)) = some (.int .i64 ((rd_T72 l0 x3_1).f0)) ∧ w'.cell? ⟨(ad327.add ((x3_1).toNat * 3)).block, (ad327.add ((x3_1).toNat * 3)).off + 1, none⟩ = some (.int .i64 ((rd_T72 l0 x3_1).f1)) ∧ w'.cell? ⟨(ad327.add ((x3_1).toNat * 3)).block, (ad327.add ((x3_1).toNat * 3)).off + 2, none⟩ = some (.int .i64 ((rd_T72 l0 x3_1).f2))) (ds := []) #[false, false, false, false, false, false, false, false, false, false, false, false, false, false, false, false, false, false, false, false, false, false, false, false, false, false, false, false, false, false, false, false, false, false, false, false, false, false, false, false, false, false, false, false, false, false, false, false] (by kernel_rfl) rfl rfl ⟨(cB_ hw327_0), (cB_ hw327_1), (cB_ hw327_2), (cB_ hw329_0), (cB_ hw329_1), (cB_ hw329_2), (cB_ hw331_0), (cB_ hw331_1), (cB_ hw331_2), (cB_ hw332_0), (cB_ hw332_1), (cB_ hw332_2)⟩ (fun hHeld => ?_); refine with_tabW spec_l5Stacks.tab4 spec_l5Stacks.bits4 (fun HT_ HW_ => ?_)
   generalize wr.drew = w17 at HB hx327_0 hx327_1 hx327_2 hx329_0 hx329_1 hx329_2 hx331_0 hx331_1 hx331_2 hx332_0 hx332_1 hx332_2 hHeld ⊢
   refine pI_ 0 10 (bqz 48 1) ?_
   refine jI_ 1 11 ?_
   refine jI_ 2 12 ?_
   refine jI_ 3 13 ?_
   refine sI12_ 4 14 ?_
   refine one_ (i := 5) (N := some 15) (bqz 48 63) rfl rfl qzc (by decide) (fun K hK => ?_)
   refine goes_ Try.func81 (by kernel_rfl) rfl #[.int .i64 ((rd_T72 l0 x3_1).f0), .int .i64 1, .int .i64 50] (by rfl) rfl rfl qz4 ?_
   with_reducible refine (spec_l1In.calls ((rd_T72 l0 x3_1).f0) 1 50 true _ A4.out).mono ?_
   rintro e w' ⟨rfl, ⟨nd, rfl⟩⟩
   refine ⟨_, rfl, ?_⟩
   refine hK.out _ _ ⟨(cB_ hw327_0), (cB_ hw327_1), (cB_ hw327_2), (cB_ hw329_0), (cB_ hw329_1), (cB_ hw329_2), (cB_ hw331_0), (cB_ hw331_1), (cB_ hw331_2), (cB_ hw332_0), (cB_ hw332_1), (cB_ hw332_2)⟩ (fun hHeld => ?_)
   clear hK K
   refine nm_ 15 ?_
   refine jI_ 6 16 ?_
   refine jI_ 7 17 ?_
   refine jI_ 8 18 ?_
   refine jI_ 9 19 ?_
   refine jI_ 10 20 ?_
   refine jI_ 11 21 ?_
   refine sI12_ 12 22 ?_
   refine one_ (i := 13) (N := some 23) (bqz 48 16383) rfl rfl qzc (by decide) (fun K hK => ?_)
   refine goes_ Try.func81 (by kernel_rfl) rfl #[.int .i64 ((rd_T72 l0 x3_1).f1), .int .i64 1, .int .i64 1000] (by rfl) rfl rfl qz4 ?_
   with_reducible refine (spec_l1In.calls ((rd_T72 l0 x3_1).f1) 1 1000 true _ A6.out).mono ?_
   rintro e w' ⟨rfl, ⟨nd, rfl⟩⟩
   refine ⟨_, rfl, ?_⟩
   refine hK.out _ _ ⟨(cB_ hw327_0), (cB_ hw327_1), (cB_ hw327_2), (cB_ hw329_0), (cB_ hw329_1), (cB_ hw329_2), (cB_ hw331_0), (cB_ hw331_1), (cB_ hw331_2), (cB_ hw332_0), (cB_ hw332_1), (cB_ hw332_2)⟩ (fun hHeld => ?_)
   clear hK K
   refine nm_ 23 ?_
   refine jI_ 14 24 ?_
   refine jI_ 15 25 ?_
   refine jI_ 16 26 ?_
   refine jI_ 17 27 ?_
   refine jI_ 18 28 ?_
   refine jI_ 19 29 ?_
   refine jI_ 20 30 ?_
   refine jI_ 22 32 ?_
   refine jI_ 23 33 ?_
   refine jI_ 24 34 ?_
   refine jI_ 25 35 ?_
   refine sI12_ 21 31 ?_
   refine sI12_ 26 36 ?_
   refine one_ (i := 27) (N := some 37) (bqz 48 268435455) rfl rfl qzc (by decide) (fun K hK => ?_)
   refine goes_ Try.func81 (by kernel_rfl) rfl #[.int .i64 ((rd_T72 l0 x3_1).f2), .int .i64 0, .int .i64 ((rd_T72 l0 x3_1).f1)] (by rfl) rfl rfl qz4 ?_
   with_reducible refine (spec_l1In.calls ((rd_T72 l0 x3_1).f2) 0 ((rd_T72 l0 x3_1).f1) true _ A8.out).mono ?_
   rintro e w' ⟨rfl, ⟨nd, rfl⟩⟩
   refine ⟨_, rfl, ?_⟩
   refine hK.out _ _ ⟨(cB_ hw327_0), (cB_ hw327_1), (cB_ hw327_2), (cB_ hw329_0), (cB_ hw329_1), (cB_ hw329_2), (cB_ hw331_0), (cB_ hw331_1), (cB_ hw331_2), (cB_ hw332_0), (cB_ hw332_1), (cB_ hw332_2)⟩ (fun hHeld => ?_)
   clear hK K
   refine nm_ 37 ?_
   refine jI_ 28 38 ?_
   refine jI_ 29 39 ?_
   refine jI_ 30 40 ?_
   refine jI_ 31 41 ?_
   refine jI_ 32 42 ?_
   refine jI_ 33 43 ?_
   refine jU_ 34 44 ?_
   refine jU_ 35 45 ?_
   refine jU_ 36 46 ?_
   refine jU_ 37 47 ?_
   refine jU_ 38 48 ?_
   refine jU_ 39 49 ?_
   refine jU_ 40 50 ?_
   refine jU_ 41 51 ?_
   refine jU_ 42 52 ?_
   refine jU_ 43 53 ?_
   refine jU_ 44 54 ?_
   refine jU_ 45 55 ?_
   refine jI_ 46 56 ?_
   refine jI_ 47 57 ?_
   refine done_ (done_of HT_.out (by kernel_rfl)) ?_
   try go_wp2
   go_roundg k1
   case measure => have := HK1.out; omega
   case rel => exact ⟨(wrap64 (x3_1 + 1)), qz6, H', ⟨by have := HK1.out; omega⟩, ⟨qz1⟩⟩
   }
   }
   {
   replace c9 := Bool.eq_false_iff.mpr c9
   subst c9
   rw [if_neg (show ¬ (false = true) by decide)] at H
   obtain rfl := Option.some.inj H
   simp only [Option.some.injEq, Prod.mk.injEq] at H
   obtain ⟨rfl⟩ := H
   try go_wp2
   replace HB := aM (below_drew1 HB.out)
   have p327 : 0 ≤ (x3_1 : Int) := dt_
   have q327 : x3_1 < (l0.length : Int) := dt_
   obtain ⟨ad327, e327, hx327_0, hx327_1, hx327_2⟩ := at_T72 HR0.out x3_1 p327 q327
   have hw327_2 := hx327_2
   have hw327_1 := hx327_1
   have hw327_0 := hx327_0
   cases e327
   replace hx327_0 := cB_ hx327_0
   replace hx327_1 := cB_ hx327_1
   replace hx327_2 := cB_ hx327_2
   replace p327 := eq_true p327
   replace q327 := eq_true q327
   have p329 : 0 ≤ (x3_1 : Int) := dt_
   have q329 : x3_1 < (l0.length : Int) := dt_
   obtain ⟨ad329, e329, hx329_0, hx329_1, hx329_2⟩ := at_T72 HR0.out x3_1 p329 q329
   have hw329_2 := hx329_2
   have hw329_1 := hx329_1
   have hw329_0 := hx329_0
   obtain rfl : ad327 = ad329 := (by injection e329)
   replace hx329_0 := cB_ hx329_0
   replace hx329_1 := cB_ hx329_1
   replace hx329_2 := cB_ hx329_2
   replace p329 := eq_true p329
   replace q329 := eq_true q329
   have p331 : 0 ≤ (x3_1 : Int) := dt_
   have q331 : x3_1 < (l0.length : Int) := dt_
   obtain ⟨ad331, e331, hx331_0, hx331_1, hx331_2⟩ := at_T72 HR0.out x3_1 p331 q331
   have hw331_2 := hx331_2
   have hw331_1 := hx331_1
   have hw331_0 := hx331_0
   obtain rfl : ad327 = ad331 := (by injection e331)
   replace hx331_0 := cB_ hx331_0
   replace hx331_1 := cB_ hx331_1
   replace hx331_2 := cB_ hx331_2
   replace p331 := eq_true p331
   replace q331 := eq_true q331
   have p332 : 0 ≤ (x3_1 : Int) := dt_
   have q332 : x3_1 < (l0.length : Int) := dt_
   obtain ⟨ad332, e332, hx332_0, hx332_1, hx332_2⟩ := at_T72 HR0.out x3_1 p332 q332
   have hw332_2 := hx332_2
   have hw332_1 := hx332_1
   have hw332_0 := hx332_0
   obtain rfl : ad327 = ad332 := (by injection e332)
   replace hx332_0 := cB_ hx332_0
   replace hx332_1 := cB_ hx332_1
   replace hx332_2 := cB_ hx332_2
   replace p332 := eq_true p332
   replace q332 := eq_true q332
   refine start_ (n := 48) (S := fun w' => w'.cell? (ad327.add ((x3_1).toNat * 3)) = some (.int .i64 ((rd_T72 l0 x3_1).f0)) ∧ w'.cell? ⟨(ad327.add ((x3_1).toNat * 3)).block, (ad327.add ((x3_1).toNat * 3)).off + 1, none⟩ = some (.int .i64 ((rd_T72 l0 x3_1).f1)) ∧ w'.cell? ⟨(ad327.add ((x3_1).toNat * 3)).block, (ad327.add ((x3_1).toNat * 3)).off + 2, none⟩ = some (.int .i64 ((rd_T72 l0 x3_1).f2)) ∧ w'.cell? (ad327.add ((x3_1).toNat * 3)) = some (.int .i64 ((rd_T72 l0 x3_1).f0)) ∧ w'.cell? ⟨(ad327.add ((x3_1).toNat * 3)).block, (ad327.add ((x3_1).toNat * 3)).off + 1, none⟩ = some (.int .i64 ((rd_T72 l0 x3_1).f1)) ∧ w'.cell? ⟨(ad327.add ((x3_1).toNat * 3)).block, (ad327.add ((x3_1).toNat * 3)).off + 2, none⟩ = some (.int .i64 ((rd_T72 l0 x3_1).f2)) ∧ w'.cell? (ad327.add ((x3_1).toNat * 3)) = some (.int .i64 ((rd_T72 l0 x3_1).f0)) ∧ w'.cell? ⟨(ad327.add ((x3_1).toNat * 3)).block, (ad327.add ((x3_1).toNat * 3)).off + 1, none⟩ = some (.int .i64 ((rd_T72 l0 x3_1).f1)) ∧ w'.cell? ⟨(ad327.add ((x3_1).toNat * 3)).block, (ad327.add ((x3_1).toNat * 3)).off + 2, none⟩ = some (.int .i64 ((rd_T72 l0 x3_1).f2)) ∧ w'.cell? (ad327.add ((x3_1).toNat * 3)) = some (.int .i64 ((rd_T72 l0 x3_1).f0)) ∧ w'.cell? ⟨(ad327.add ((x3_1).toNat * 3)).block, (ad327.add ((x3_1).toNat * 3)).off + 1, none⟩ = some (.int .i64 ((rd_T72 l0 x3_1).f1)) ∧ w'.cell? ⟨(ad327.add ((x3_1).toNat * 3)).block, (ad327.add ((x3_1).toNat * 3)).off + 2, none⟩ = some (.int .i64 ((rd_T72 l0 x3_1).f2))) (ds := []) #[false, false, false, false, false, false, false, false, false, false, false, false, false, false, false, false, false, false, false, false, false, false, false, false, false, false, false, false, false, false, false, false, false, false, false, false, false, false, false, false, false, false, false, false, false, false, false, false] (by kernel_rfl) rfl rfl ⟨(cB_ hw327_0), (cB_ hw327_1), (cB_ hw327_2), (cB_ hw329_0), (cB_ hw329_1), (cB_ hw329_2), (cB_ hw331_0), (cB_ hw331_1), (cB_ hw331_2), (cB_ hw332_0), (cB_ hw332_1), (cB_ hw332_2)⟩ (fun hHeld => ?_); refine with_tabW spec_l5Stacks.tab4 spec_l5Stacks.bits4 (fun HT_ HW_ => ?_)
   generalize wr.drew = w18 at HB hx327_0 hx327_1 hx327_2 hx329_0 hx329_1 hx329_2 hx331_0 hx331_1 hx331_2 hx332_0 hx332_1 hx332_2 hHeld ⊢
   refine pI_ 0 10 (bqz 48 1) ?_
   refine jI_ 1 11 ?_
   refine jI_ 2 12 ?_
   refine jI_ 3 13 ?_
   refine sI12_ 4 14 ?_
   refine one_ (i := 5) (N := some 15) (bqz 48 63) rfl rfl qzc (by decide) (fun K hK => ?_)
   refine goes_ Try.func81 (by kernel_rfl) rfl #[.int .i64 ((rd_T72 l0 x3_1).f0), .int .i64 1, .int .i64 50] (by rfl) rfl rfl qz4 ?_
   with_reducible refine (spec_l1In.calls ((rd_T72 l0 x3_1).f0) 1 50 true _ A4.out).mono ?_
   rintro e w' ⟨rfl, ⟨nd, rfl⟩⟩
   refine ⟨_, rfl, ?_⟩
   refine hK.out _ _ ⟨(cB_ hw327_0), (cB_ hw327_1), (cB_ hw327_2), (cB_ hw329_0), (cB_ hw329_1), (cB_ hw329_2), (cB_ hw331_0), (cB_ hw331_1), (cB_ hw331_2), (cB_ hw332_0), (cB_ hw332_1), (cB_ hw332_2)⟩ (fun hHeld => ?_)
   clear hK K
   refine nm_ 15 ?_
   refine jI_ 6 16 ?_
   refine jI_ 7 17 ?_
   refine jI_ 8 18 ?_
   refine jI_ 9 19 ?_
   refine jI_ 10 20 ?_
   refine jI_ 11 21 ?_
   refine sI12_ 12 22 ?_
   refine one_ (i := 13) (N := some 23) (bqz 48 16383) rfl rfl qzc (by decide) (fun K hK => ?_)
   refine goes_ Try.func81 (by kernel_rfl) rfl #[.int .i64 ((rd_T72 l0 x3_1).f1), .int .i64 1, .int .i64 1000] (by rfl) rfl rfl qz4 ?_
   with_reducible refine (spec_l1In.calls ((rd_T72 l0 x3_1).f1) 1 1000 true _ A6.out).mono ?_
   rintro e w' ⟨rfl, ⟨nd, rfl⟩⟩
   refine ⟨_, rfl, ?_⟩
   refine hK.out _ _ ⟨(cB_ hw327_0), (cB_ hw327_1), (cB_ hw327_2), (cB_ hw329_0), (cB_ hw329_1), (cB_ hw329_2), (cB_ hw331_0), (cB_ hw331_1), (cB_ hw331_2), (cB_ hw332_0), (cB_ hw332_1), (cB_ hw332_2)⟩ (fun hHeld => ?_)
   clear hK K
   refine nm_ 23 ?_
   refine jI_ 14 24 ?_
   refine jI_ 15 25 ?_
   refine jI_ 16 26 ?_
   refine jI_ 17 27 ?_
   refine jI_ 18 28 ?_
   refine jI_ 19 29 ?_
   refine jI_ 20 30 ?_
   refine jI_ 22 32 ?_
   refine jI_ 23 33 ?_
   refine jI_ 24 34 ?_
   refine jI_ 25 35 ?_
   refine sI12_ 21 31 ?_
   refine sI12_ 26 36 ?_
   refine one_ (i := 27) (N := some 37) (bqz 48 268435455) rfl rfl qzc (by decide) (fun K hK => ?_)
   refine goes_ Try.func81 (by kernel_rfl) rfl #[.int .i64 ((rd_T72 l0 x3_1).f2), .int .i64 0, .int .i64 ((rd_T72 l0 x3_1).f1)] (by rfl) rfl rfl qz4 ?_
   with_reducible refine (spec_l1In.calls ((rd_T72 l0 x3_1).f2) 0 ((rd_T72 l0 x3_1).f1) false _ A8.out).mono ?_
   rintro e w' ⟨rfl, ⟨nd, rfl⟩⟩
   refine ⟨_, rfl, ?_⟩
   refine hK.out _ _ ⟨(cB_ hw327_0), (cB_ hw327_1), (cB_ hw327_2), (cB_ hw329_0), (cB_ hw329_1), (cB_ hw329_2), (cB_ hw331_0), (cB_ hw331_1), (cB_ hw331_2), (cB_ hw332_0), (cB_ hw332_1), (cB_ hw332_2)⟩ (fun hHeld => ?_)
   clear hK K
   refine nm_ 37 ?_
   refine jI_ 28 38 ?_
   refine jI_ 29 39 ?_
   refine jI_ 30 40 ?_
   refine jU_ 31 41 ?_
   refine jU_ 32 42 ?_
   refine jU_ 33 43 ?_
   refine jU_ 34 44 ?_
   refine jU_ 35 45 ?_
   refine jU_ 36 46 ?_
   refine jU_ 37 47 ?_
   refine jU_ 38 48 ?_
   refine jU_ 39 49 ?_
   refine jU_ 40 50 ?_
   refine jU_ 41 51 ?_
   refine jU_ 42 52 ?_
   refine jU_ 43 53 ?_
   refine jU_ 44 54 ?_
   refine jU_ 45 55 ?_
   refine jU_ 46 56 ?_
   refine jI_ 47 57 ?_
   refine done_ (done_of HT_.out (by kernel_rfl)) ?_
   try go_wp2
   go_ret
   exact ⟨qzw, qz1⟩
   }
   }
   {
   replace c7 := Bool.eq_false_iff.mpr c7
   subst c7
   rw [if_neg (show ¬ (false = true) by decide)] at H
   obtain rfl := Option.some.inj H
   simp only [Option.some.injEq, Prod.mk.injEq] at H
   obtain ⟨rfl⟩ := H
   try go_wp2
   replace HB := aM (below_drew1 HB.out)
   have p327 : 0 ≤ (x3_1 : Int) := dt_
   have q327 : x3_1 < (l0.length : Int) := dt_
   obtain ⟨ad327, e327, hx327_0, hx327_1, hx327_2⟩ := at_T72 HR0.out x3_1 p327 q327
   have hw327_2 := hx327_2
   have hw327_1 := hx327_1
   have hw327_0 := hx327_0
   cases e327
   replace hx327_0 := cB_ hx327_0
   replace hx327_1 := cB_ hx327_1
   replace hx327_2 := cB_ hx327_2
   replace p327 := eq_true p327
   replace q327 := eq_true q327
   have p329 : 0 ≤ (x3_1 : Int) := dt_
   have q329 : x3_1 < (l0.length : Int) := dt_
   obtain ⟨ad329, e329, hx329_0, hx329_1, hx329_2⟩ := at_T72 HR0.out x3_1 p329 q329
   have hw329_2 := hx329_2
   have hw329_1 := hx329_1
   have hw329_0 := hx329_0
   obtain rfl : ad327 = ad329 := (by injection e329)
   replace hx329_0 := cB_ hx329_0
   replace hx329_1 := cB_ hx329_1
   replace hx329_2 := cB_ hx329_2
   replace p329 := eq_true p329
   replace q329 := eq_true q329
   refine start_ (n := 48) (S := fun w' => w'.cell? (ad327.add ((x3_1).toNat * 3)) = some (.int .i64 ((rd_T72 l0 x3_1).f0)) ∧ w'.cell? ⟨(ad327.add ((x3_1).toNat * 3)).block, (ad327.add ((x3_1).toNat * 3)).off + 1, none⟩ = some (.int .i64 ((rd_T72 l0 x3_1).f1)) ∧ w'.cell? ⟨(ad327.add ((x3_1).toNat * 3)).block, (ad327.add ((x3_1).toNat * 3)).off + 2, none⟩ = some (.int .i64 ((rd_T72 l0 x3_1).f2)) ∧ w'.cell? (ad327.add ((x3_1).toNat * 3)) = some (.int .i64 ((rd_T72 l0 x3_1).f0)) ∧ w'.cell? ⟨(ad327.add ((x3_1).toNat * 3)).block, (ad327.add ((x3_1).toNat * 3)).off + 1, none⟩ = some (.int .i64 ((rd_T72 l0 x3_1).f1)) ∧ w'.cell? ⟨(ad327.add ((x3_1).toNat * 3)).block, (ad327.add ((x3_1).toNat * 3)).off + 2, none⟩ = some (.int .i64 ((rd_T72 l0 x3_1).f2))) (ds := []) #[false, false, false, false, false, false, false, false, false, false, false, false, false, false, false, false, false, false, false, false, false, false, false, false, false, false, false, false, false, false, false, false, false, false, false, false, false, false, false, false, false, false, false, false, false, false, false, false] (by kernel_rfl) rfl rfl ⟨(cB_ hw327_0), (cB_ hw327_1), (cB_ hw327_2), (cB_ hw329_0), (cB_ hw329_1), (cB_ hw329_2)⟩ (fun hHeld => ?_); refine with_tabW spec_l5Stacks.tab4 spec_l5Stacks.bits4 (fun HT_ HW_ => ?_)
   generalize wr.drew = w19 at HB hx327_0 hx327_1 hx327_2 hx329_0 hx329_1 hx329_2 hHeld ⊢
   refine pI_ 0 10 (bqz 48 1) ?_
   refine jI_ 1 11 ?_
   refine jI_ 2 12 ?_
   refine jI_ 3 13 ?_
   refine sI6_ 4 14 ?_
   refine one_ (i := 5) (N := some 15) (bqz 48 63) rfl rfl qzc (by decide) (fun K hK => ?_)
   refine goes_ Try.func81 (by kernel_rfl) rfl #[.int .i64 ((rd_T72 l0 x3_1).f0), .int .i64 1, .int .i64 50] (by rfl) rfl rfl qz4 ?_
   with_reducible refine (spec_l1In.calls ((rd_T72 l0 x3_1).f0) 1 50 true _ A4.out).mono ?_
   rintro e w' ⟨rfl, ⟨nd, rfl⟩⟩
   refine ⟨_, rfl, ?_⟩
   refine hK.out _ _ ⟨(cB_ hw327_0), (cB_ hw327_1), (cB_ hw327_2), (cB_ hw329_0), (cB_ hw329_1), (cB_ hw329_2)⟩ (fun hHeld => ?_)
   clear hK K
   refine nm_ 15 ?_
   refine jI_ 6 16 ?_
   refine jI_ 7 17 ?_
   refine jI_ 8 18 ?_
   refine jI_ 9 19 ?_
   refine jI_ 10 20 ?_
   refine jI_ 11 21 ?_
   refine sI6_ 12 22 ?_
   refine one_ (i := 13) (N := some 23) (bqz 48 16383) rfl rfl qzc (by decide) (fun K hK => ?_)
   refine goes_ Try.func81 (by kernel_rfl) rfl #[.int .i64 ((rd_T72 l0 x3_1).f1), .int .i64 1, .int .i64 1000] (by rfl) rfl rfl qz4 ?_
   with_reducible refine (spec_l1In.calls ((rd_T72 l0 x3_1).f1) 1 1000 false _ A6.out).mono ?_
   rintro e w' ⟨rfl, ⟨nd, rfl⟩⟩
   refine ⟨_, rfl, ?_⟩
   refine hK.out _ _ ⟨(cB_ hw327_0), (cB_ hw327_1), (cB_ hw327_2), (cB_ hw329_0), (cB_ hw329_1), (cB_ hw329_2)⟩ (fun hHeld => ?_)
   clear hK K
   refine nm_ 23 ?_
   refine jI_ 14 24 ?_
   refine jI_ 15 25 ?_
   refine jI_ 16 26 ?_
   refine jU_ 17 27 ?_
   refine jU_ 18 28 ?_
   refine jU_ 19 29 ?_
   refine jU_ 20 30 ?_
   refine jU_ 21 31 ?_
   refine jU_ 22 32 ?_
   refine jU_ 23 33 ?_
   refine jU_ 24 34 ?_
   refine jU_ 25 35 ?_
   refine jU_ 26 36 ?_
   refine jU_ 27 37 ?_
   refine jU_ 28 38 ?_
   refine jI_ 29 39 ?_
   refine jI_ 30 40 ?_
   refine jU_ 31 41 ?_
   refine jU_ 32 42 ?_
   refine jU_ 33 43 ?_
   refine jU_ 34 44 ?_
   refine jU_ 35 45 ?_
   refine jU_ 36 46 ?_
   refine jU_ 37 47 ?_
   refine jU_ 38 48 ?_
   refine jU_ 39 49 ?_
   refine jU_ 40 50 ?_
   refine jU_ 41 51 ?_
   refine jU_ 42 52 ?_
   refine jU_ 43 53 ?_
   refine jU_ 44 54 ?_
   refine jU_ 45 55 ?_
   refine jU_ 46 56 ?_
   refine jI_ 47 57 ?_
   refine done_ (done_of HT_.out (by kernel_rfl)) ?_
   try go_wp2
   go_ret
   exact ⟨qzw, qz1⟩
   }
   }
   {
   replace c5 := Bool.eq_false_iff.mpr c5
   subst c5
   rw [if_neg (show ¬ (false = true) by decide)] at H
   obtain rfl := Option.some.inj H
   simp only [Option.some.injEq, Prod.mk.injEq] at H
   obtain ⟨rfl⟩ := H
   try go_wp2
   replace HB := aM (below_drew1 HB.out)
   have p327 : 0 ≤ (x3_1 : Int) := dt_
   have q327 : x3_1 < (l0.length : Int) := dt_
   obtain ⟨ad327, e327, hx327_0, hx327_1, hx327_2⟩ := at_T72 HR0.out x3_1 p327 q327
   have hw327_2 := hx327_2
   have hw327_1 := hx327_1
   have hw327_0 := hx327_0
   cases e327
   replace hx327_0 := cB_ hx327_0
   replace hx327_1 := cB_ hx327_1
   replace hx327_2 := cB_ hx327_2
   replace p327 := eq_true p327
   replace q327 := eq_true q327
   refine start_ (n := 48) (S := fun w' => w'.cell? (ad327.add ((x3_1).toNat * 3)) = some (.int .i64 ((rd_T72 l0 x3_1).f0)) ∧ w'.cell? ⟨(ad327.add ((x3_1).toNat * 3)).block, (ad327.add ((x3_1).toNat * 3)).off + 1, none⟩ = some (.int .i64 ((rd_T72 l0 x3_1).f1)) ∧ w'.cell? ⟨(ad327.add ((x3_1).toNat * 3)).block, (ad327.add ((x3_1).toNat * 3)).off + 2, none⟩ = some (.int .i64 ((rd_T72 l0 x3_1).f2))) (ds := []) #[false, false, false, false, false, false, false, false, false, false, false, false, false, false, false, false, false, false, false, false, false, false, false, false, false, false, false, false, false, false, false, false, false, false, false, false, false, false, false, false, false, false, false, false, false, false, false, false] (by kernel_rfl) rfl rfl ⟨(cB_ hw327_0), (cB_ hw327_1), (cB_ hw327_2)⟩ (fun hHeld => ?_); refine with_tabW spec_l5Stacks.tab4 spec_l5Stacks.bits4 (fun HT_ HW_ => ?_)
   generalize wr.drew = w20 at HB hx327_0 hx327_1 hx327_2 hHeld ⊢
   refine pI_ 0 10 (bqz 48 1) ?_
   refine jI_ 1 11 ?_
   refine jI_ 2 12 ?_
   refine jI_ 3 13 ?_
   refine sI3_ 4 14 ?_
   refine one_ (i := 5) (N := some 15) (bqz 48 63) rfl rfl qzc (by decide) (fun K hK => ?_)
   refine goes_ Try.func81 (by kernel_rfl) rfl #[.int .i64 ((rd_T72 l0 x3_1).f0), .int .i64 1, .int .i64 50] (by rfl) rfl rfl qz4 ?_
   with_reducible refine (spec_l1In.calls ((rd_T72 l0 x3_1).f0) 1 50 false _ A4.out).mono ?_
   rintro e w' ⟨rfl, ⟨nd, rfl⟩⟩
   refine ⟨_, rfl, ?_⟩
   refine hK.out _ _ ⟨(cB_ hw327_0), (cB_ hw327_1), (cB_ hw327_2)⟩ (fun hHeld => ?_)
   clear hK K
   refine nm_ 15 ?_
   refine jI_ 6 16 ?_
   refine jI_ 7 17 ?_
   refine jU_ 8 18 ?_
   refine jU_ 9 19 ?_
   refine jU_ 10 20 ?_
   refine jU_ 11 21 ?_
   refine jU_ 12 22 ?_
   refine jU_ 13 23 ?_
   refine jU_ 14 24 ?_
   refine jI_ 15 25 ?_
   refine jI_ 16 26 ?_
   refine jU_ 17 27 ?_
   refine jU_ 18 28 ?_
   refine jU_ 19 29 ?_
   refine jU_ 20 30 ?_
   refine jU_ 21 31 ?_
   refine jU_ 22 32 ?_
   refine jU_ 23 33 ?_
   refine jU_ 24 34 ?_
   refine jU_ 25 35 ?_
   refine jU_ 26 36 ?_
   refine jU_ 27 37 ?_
   refine jU_ 28 38 ?_
   refine jI_ 29 39 ?_
   refine jI_ 30 40 ?_
   refine jU_ 31 41 ?_
   refine jU_ 32 42 ?_
   refine jU_ 33 43 ?_
   refine jU_ 34 44 ?_
   refine jU_ 35 45 ?_
   refine jU_ 36 46 ?_
   refine jU_ 37 47 ?_
   refine jU_ 38 48 ?_
   refine jU_ 39 49 ?_
   refine jU_ 40 50 ?_
   refine jU_ 41 51 ?_
   refine jU_ 42 52 ?_
   refine jU_ 43 53 ?_
   refine jU_ 44 54 ?_
   refine jU_ 45 55 ?_
   refine jU_ 46 56 ?_
   refine jI_ 47 57 ?_
   refine done_ (done_of HT_.out (by kernel_rfl)) ?_
   try go_wp2
   go_ret
   exact ⟨qzw, qz1⟩
   }
   }
   {
   exact an_ c3 H
   }
   }
   {
   rw [if_neg c2] at H
   have c2b0 := decide_eq_false c2
   clear c2
   obtain rfl := Option.some.inj H
   simp only [Option.some.injEq, Prod.mk.injEq] at H
   obtain ⟨rfl⟩ := H
   go_wp2
   go_ret
   exact ⟨qzw, qz1⟩

   }
end Go.Proofs.Yteajnkondkfmgaa.PFnTaken
