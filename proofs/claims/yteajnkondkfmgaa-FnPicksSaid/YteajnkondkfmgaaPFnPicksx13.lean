-- Made by a program of this session out of the translation. Lean checks it.
import Derived.Test.YteajnkondkfmgaaPFnPicksx0
import Derived.Test.YteajnkondkfmgaaPFnPicksx12
namespace Go.Proofs.Yteajnkondkfmgaa.PFnPicks
open Go.RowKit Go.Proofs.YteajnkondkfmgaaW.PrintWords Go.Proofs.YteajnkondkfmgaaW.PrintLast Go.Proofs.YteajnkondkfmgaaW.PrintMore
attribute [local go_sem] max2_int min2_int max_two min_two max_three min_three max_four min_four   -- for this text's walks alone
set_option linter.unusedVariables false
set_option linter.unusedSimpArgs false

/-! ### spec_l5Stacks: function 82 -/
def spec_l5Stacks.l0 : Nat → List (S72) → Int → Option (Bool)
 | 0, _, _ => none
 | k + 1, x0, x3 => if x3 < (x0.length : Int) then (if 0 ≤ x3 then ((spec_l1In.f ((rd_T72 x0 x3).f0) 1 50).bind fun t397 => (if t397 = true then ((spec_l1In.f ((rd_T72 x0 x3).f1) 1 1000).bind fun t399 => (if t399 = true then ((spec_l1In.f ((rd_T72 x0 x3).f2) 0 ((rd_T72 x0 x3).f1)).bind fun t402 => (if t402 = true then (if x3 > 0 then (if 0 ≤ (wrap64 (x3 - 1)) then (if (wrap64 (x3 - 1)) < (x0.length : Int) then (if ((rd_T72 x0 (wrap64 (x3 - 1))).f0) ≥ ((rd_T72 x0 x3).f0) then (some false) else (spec_l5Stacks.l0 k x0 (wrap64 (x3 + 1)))) else (none)) else (none)) else (spec_l5Stacks.l0 k x0 (wrap64 (x3 + 1)))) else (some false))) else (some false))) else (some false))) else (none)) else (some (decide ((x0.length : Int) ≤ 8)))
def spec_l5Stacks.f (k : Nat) (l0 : List (S72)) : Option (Bool) := spec_l5Stacks.l0 k l0 0
theorem spec_l5Stacks.mono_l : ∀ k, (∀ y0 y1, LeO (spec_l5Stacks.l0 k y0 y1) (spec_l5Stacks.l0 (k + 1) y0 y1))
 | 0 => fun _ _ r h => by simp [spec_l5Stacks.l0] at h
 | k + 1 => by
  have ih0 := spec_l5Stacks.mono_l k
  {
  intro y0 y1
  unfold spec_l5Stacks.l0
  exact qL
  }
theorem spec_l5Stacks.mono : ∀ a0 k, LeO (spec_l5Stacks.f k a0) (spec_l5Stacks.f (k + 1) a0) := by
 intro a0 k
 have ih0 := spec_l5Stacks.mono_l k
 unfold spec_l5Stacks.f
 exact qL
def spec_l5Stacks.T4 : Bool × List (List Nat × List Nat) := (true, [([], []), ([], []), ([0, 1], [0, 1]), ([2], [2]), ([3], [3]), ([4], [4]), ([5], [5]), ([6, 5], [6]), ([7], [7]), ([7], [7]), ([8, 9, 7], [7, 8, 9]), ([10, 7], [7, 10]), ([11, 7], [7, 11]), ([12, 7, 7], [7, 12]), ([13, 7], [7, 13]), ([7, 14], [7, 14]), ([15, 13], [15]), ([16], [16]), ([16], [16]), ([17, 18, 16], [16, 17, 18]), ([19, 16], [16, 19]), ([20, 16], [16, 20]), ([16], [16]), ([16], [16]), ([22, 23, 16], [16, 22, 23]), ([24, 16], [16, 24]), ([25, 16], [16, 25]), ([21, 26, 16, 16], [16, 21, 26]), ([27, 16], [16, 27]), ([16, 28], [16, 28]), ([29, 27], [29]), ([30], [30]), ([31, 30], [30, 31]), ([32, 30, 30], [30, 32]), ([33], [33]), ([33], [33]), ([35, 33], [33, 35]), ([34, 36, 33], [33, 34, 36]), ([37, 33], [33, 37]), ([38, 33], [33, 38]), ([33], [33]), ([33], [33]), ([40, 41, 33], [33, 40, 41]), ([42, 33], [33, 42]), ([43, 33], [33, 43]), ([39, 44, 33], [33, 39, 44]), ([33, 45, 30], [30, 33, 45]), ([30, 46], [30, 46])])
def spec_l5Stacks.B4 : List Nat := [0, 0, 3, 7, 15, 31, 63, 127, 255, 255, 1023, 2047, 4095, 8191, 16383, 32767, 65535, 131071, 131071, 524287, 1048575, 2097151, 131071, 131071, 12713983, 29491199, 63045631, 134217727, 268435455, 536870911, 1073741823, 2147483647, 4294967295, 8589934591, 17179869183, 17179869183, 51539607551, 137438953471, 274877906943, 549755813887, 17179869183, 17179869183, 3315714752511, 7713761263615, 16509854285823, 35184372088831, 70368744177663, 140737488355327]
theorem spec_l5Stacks.tab4 : rtab .any (opsOf Try.f82 4) = spec_l5Stacks.T4 := by kernel_rfl
theorem spec_l5Stacks.bits4 : waitsOk spec_l5Stacks.T4.2 spec_l5Stacks.B4 = true := by kernel_rfl
set_option maxHeartbeats 8000000 in
set_option maxRecDepth 100000 in
theorem spec_l5Stacks.calls (k : Nat) (A0 : Option Addr) (c0 : Nat) (l0 : List (S72)) (r : Bool) (w : World) (hr0 : Kd.C k72 w A0 l0.length l0) (hc0 : l0.length ≤ c0) (h : spec_l5Stacks.f k l0 = some r) :
  Calls Try.prog 82 #[.slice A0 l0.length c0] w fun e w' => e = .returned (.bool r) ∧ Below w.heap.size w w' := by
 have HR0 := aM hr0
 have HC0 := aM hc0
 clear hr0 hc0
 have HB := aM (Below.refl w.heap.size w)
 have H : (spec_l5Stacks.l0 k l0 0) = some r := h
 clear h
 have H' := aM H
 clear H
 go_enter Try.func82, Try.ntmps82
 go_wp2
 go_loopg [3] k (fun kq v3 w' => ∃ (x3_1 : Int), v3 = .int .i64 x3_1 ∧ Aside0 (spec_l5Stacks.l0 kq l0 x3_1 = some r) ∧ Aside0 (kq ≤ k) ∧ Aside0 (Below w.heap.size w w'))
 case atStart => exact ⟨(0), qz5, H', ⟨Nat.le_refl _⟩, ⟨qz1⟩⟩
 case round =>
  clear H'
  obtain ⟨x3_1, rfl, HA, HK1, HB⟩ := hrel
  cases gk with
  | zero => exact absurd HA.out (by simp [spec_l5Stacks.l0])
  | succ k1 =>
   have H := HA.out
   clear HA
   simp only [spec_l5Stacks.l0] at H
   by_cases c2 : x3_1 < (l0.length : Int)
   {
   rw [if_pos c2] at H
   have c2b0 := decide_eq_true c2
   clear c2
   by_cases c3 : 0 ≤ x3_1
   {
   rw [if_pos c3] at H
   have c3b0 := decide_eq_true c3
   clear c3
   replace H := Option.bind_eq_some_iff.mp H
   obtain ⟨t397, A40, H⟩ := H
   replace H : (if t397 = true then ((spec_l1In.f ((rd_T72 l0 x3_1).f1) 1 1000).bind fun t399 => (if t399 = true then ((spec_l1In.f ((rd_T72 l0 x3_1).f2) 0 ((rd_T72 l0 x3_1).f1)).bind fun t402 => (if t402 = true then (if x3_1 > 0 then (if 0 ≤ (wrap64 (x3_1 - 1)) then (if (wrap64 (x3_1 - 1)) < (l0.length : Int) then (if ((rd_T72 l0 (wrap64 (x3_1 - 1))).f0) ≥ ((rd_T72 l0 x3_1).f0) then (some false) else (spec_l5Stacks.l0 k1 l0 (wrap64 (x3_1 + 1)))) else (none)) else (none)) else (spec_l5Stacks.l0 k1 l0 (wrap64 (x3_1 + 1)))) else (some false))) else (some false))) else (some false)) = some r := H
   have A4 := aM A40
   clear A40
   by_cases c5 : t397 = true
   {
   subst c5
   rw [if_pos rfl] at H
   replace H := Option.bind_eq_some_iff.mp H
   obtain ⟨t399, A60, H⟩ := H
   replace H : (if t399 = true then ((spec_l1In.f ((rd_T72 l0 x3_1).f2) 0 ((rd_T72 l0 x3_1).f1)).bind fun t402 => (if t402 = true then (if x3_1 > 0 then (if 0 ≤ (wrap64 (x3_1 - 1)) then (if (wrap64 (x3_1 - 1)) < (l0.length : Int) then (if ((rd_T72 l0 (wrap64 (x3_1 - 1))).f0) ≥ ((rd_T72 l0 x3_1).f0) then (some false) else (spec_l5Stacks.l0 k1 l0 (wrap64 (x3_1 + 1)))) else (none)) else (none)) else (spec_l5Stacks.l0 k1 l0 (wrap64 (x3_1 + 1)))) else (some false))) else (some false)) = some r := H
   have A6 := aM A60
   clear A60
   by_cases c7 : t399 = true
   {
   subst c7
   rw [if_pos rfl] at H
   replace H := Option.bind_eq_some_iff.mp H
   obtain ⟨t402, A80, H⟩ := H
   replace H : (if t402 = true then (if x3_1 > 0 then (if 0 ≤ (wrap64 (x3_1 - 1)) then (if (wrap64 (x3_1 - 1)) < (l0.length : Int) then (if ((rd_T72 l0 (wrap64 (x3_1 - 1))).f0) ≥ ((rd_T72 l0 x3_1).f0) then (some false) else (spec_l5Stacks.l0 k1 l0 (wrap64 (x3_1 + 1)))) else (none)) else (none)) else (spec_l5Stacks.l0 k1 l0 (wrap64 (x3_1 + 1)))) else (some false)) = some r := H
   have A8 := aM A80
   clear A80
   by_cases c9 : t402 = true
   {
   subst c9
   rw [if_pos rfl] at H
   by_cases c10 : x3_1 > 0
   {
   rw [if_pos c10] at H
   have c10b0 := decide_eq_true c10
   clear c10
   obtain ⟨ji11, hji11⟩ : ∃ j_ : Int, (wrap64 (x3_1 - 1)) = j_ := ⟨_, rfl⟩
   replace H : (if 0 ≤ (ji11) then (if (ji11) < (l0.length : Int) then (if ((rd_T72 l0 (ji11)).f0) ≥ ((rd_T72 l0 x3_1).f0) then (some false) else (spec_l5Stacks.l0 k1 l0 (wrap64 (x3_1 + 1)))) else (none)) else (none)) = some r := by first | (rw [hji11] at H; exact H) | (simp only [hji11] at H ⊢; exact H)
   (try rw [hji11] at A4)
   (try rw [hji11] at A6)
   (try rw [hji11] at A8)
   have hji11w : (IntKind.i64.wrap (x3_1 - 1)) = ji11 := (i64_w _).trans hji11
   by_cases c12 : 0 ≤ (ji11)
   {
   rw [if_pos c12] at H
   have c12b0 := decide_eq_true c12
   clear c12
   by_cases c13 : (ji11) < (l0.length : Int)
   {
   rw [if_pos c13] at H
   have c13b0 := decide_eq_true c13
   clear c13
   by_cases c14 : ((rd_T72 l0 (ji11)).f0) ≥ ((rd_T72 l0 x3_1).f0)
   {
   rw [if_pos c14] at H
   have c14b0 := decide_eq_true c14
   clear c14
   obtain rfl := Option.some.inj H
   simp only [Option.some.injEq, Prod.mk.injEq] at H
   obtain ⟨rfl⟩ := H
   try go_wp2
   replace HB := aM (below_drew1 HB.out)
   have p396 : 0 ≤ (x3_1 : Int) := dt_
   have q396 : x3_1 < (l0.length : Int) := dt_
   obtain ⟨ad396, e396, hx396_0, hx396_1, hx396_2⟩ := at_T72 HR0.out x3_1 p396 q396
   have hw396_2 := hx396_2
   have hw396_1 := hx396_1
   have hw396_0 := hx396_0
   cases e396
   replace hx396_0 := cB_ hx396_0
   replace hx396_1 := cB_ hx396_1
   replace hx396_2 := cB_ hx396_2
   replace p396 := eq_true p396
   replace q396 := eq_true q396
   have p398 : 0 ≤ (x3_1 : Int) := dt_
   have q398 : x3_1 < (l0.length : Int) := dt_
   obtain ⟨ad398, e398, hx398_0, hx398_1, hx398_2⟩ := at_T72 HR0.out x3_1 p398 q398
   have hw398_2 := hx398_2
   have hw398_1 := hx398_1
   have hw398_0 := hx398_0
   obtain rfl : ad396 = ad398 := (by injection e398)
   replace hx398_0 := cB_ hx398_0
   replace hx398_1 := cB_ hx398_1
   replace hx398_2 := cB_ hx398_2
   replace p398 := eq_true p398
   replace q398 := eq_true q398
   have p400 : 0 ≤ (x3_1 : Int) := dt_
   have q400 : x3_1 < (l0.length : Int) := dt_
   obtain ⟨ad400, e400, hx400_0, hx400_1, hx400_2⟩ := at_T72 HR0.out x3_1 p400 q400
   have hw400_2 := hx400_2
   have hw400_1 := hx400_1
   have hw400_0 := hx400_0
   obtain rfl : ad396 = ad400 := (by injection e400)
   replace hx400_0 := cB_ hx400_0
   replace hx400_1 := cB_ hx400_1
   replace hx400_2 := cB_ hx400_2
   replace p400 := eq_true p400
   replace q400 := eq_true q400
   have p401 : 0 ≤ (x3_1 : Int) := dt_
   have q401 : x3_1 < (l0.length : Int) := dt_
   obtain ⟨ad401, e401, hx401_0, hx401_1, hx401_2⟩ := at_T72 HR0.out x3_1 p401 q401
   have hw401_2 := hx401_2
   have hw401_1 := hx401_1
   have hw401_0 := hx401_0
   obtain rfl : ad396 = ad401 := (by injection e401)
   replace hx401_0 := cB_ hx401_0
   replace hx401_1 := cB_ hx401_1
   replace hx401_2 := cB_ hx401_2
   replace p401 := eq_true p401
   replace q401 := eq_true q401
   have p403 : 0 ≤ ((ji11) : Int) := dt_
   have q403 : (ji11) < (l0.length : Int) := dt_
   obtain ⟨ad403, e403, hx403_0, hx403_1, hx403_2⟩ := at_T72 HR0.out (ji11) p403 q403
   have hw403_2 := hx403_2
   have hw403_1 := hx403_1
   have hw403_0 := hx403_0
   obtain rfl : ad396 = ad403 := (by injection e403)
   replace hx403_0 := cB_ hx403_0
   replace hx403_1 := cB_ hx403_1
   replace hx403_2 := cB_ hx403_2
   replace p403 := eq_true p403
   replace q403 := eq_true q403
   have p404 : 0 ≤ (x3_1 : Int) := dt_
   have q404 : x3_1 < (l0.length : Int) := dt_
   obtain ⟨ad404, e404, hx404_0, hx404_1, hx404_2⟩ := at_T72 HR0.out x3_1 p404 q404
   have hw404_2 := hx404_2
   have hw404_1 := hx404_1
   have hw404_0 := hx404_0
   obtain rfl : ad396 = ad404 := (by injection e404)
   replace hx404_0 := cB_ hx404_0
   replace hx404_1 := cB_ hx404_1
   replace hx404_2 := cB_ hx404_2
   replace p404 := eq_true p404
   replace q404 := eq_true q404
   refine start_ (n := 48) (S := fun w' => w'.cell? (ad396.add ((x3_1).toNat * 3)) = some (.int .i64 ((rd_T72 l0 x3_1).f0)) ∧ w'.cell? ⟨(ad396.add ((x3_1).toNat * 3)).block, (ad396.add ((x3_1).toNat * 3)).off + 1, none⟩ = some (.int .i64 ((rd_T72 l0 x3_1).f1)) ∧ w'.cell? ⟨(ad396.add ((x3_1).toNat * 3)).block, (ad396.add ((x3_1).toNat * 3)).off + 2, none⟩ = some (.int .i64 ((rd_T72 l0 x3_1).f2)) ∧ w'.cell? (ad396.add ((x3_1).toNat * 3)) = some (.int .i64 ((rd_T72 l0 x3_1).f0)) ∧ w'.cell? ⟨(ad396.add ((x3_1).toNat * 3)).block, (ad396.add ((x3_1).toNat * 3)).off + 1, none⟩ = some (.int .i64 ((rd_T72 l0 x3_1).f1)) ∧ w'.cell? ⟨(ad396.add ((x3_1).toNat * 3)).block, (ad396.add ((x3_1).toNat * 3)).off + 2, none⟩ = some (.int .i64 ((rd_T72 l0 x3_1).f2)) ∧ w'.cell? (ad396.add ((x3_1).toNat * 3)) = some (.int .i64 ((rd_T72 l0 x3_1).f0)) ∧ w'.cell? ⟨(ad396.add ((x3_1).toNat * 3)).block, (ad396.add ((x3_1).toNat * 3)).off + 1, none⟩ = some (.int .i64 ((rd_T72 l0 x3_1).f1)) ∧ w'.cell? ⟨(ad396.add ((x3_1).toNat * 3)).block, (ad396.add ((x3_1).toNat * 3)).off + 2, none⟩ = some (.int .i64 ((rd_T72 l0 x3_1).f2)) ∧ w'.cell? (ad396.add ((x3_1).toNat * 3)) = some (.int .i64 ((rd_T72 l0 x3_1).f0)) ∧ w'.cell? ⟨(ad396.add ((x3_1).toNat * 3)).block, (ad396.add ((x3_1).toNat * 3)).off + 1, none⟩ = some (.int .i64 ((rd_T72 l0 x3_1).f1)) ∧ w'.cell? ⟨(ad396.add ((x3_1).toNat * 3)).block, (ad396.add ((x3_1).toNat * 3)).off + 2, none⟩ = some (.int .i64 ((rd_T72 l0 x3_1).f2)) ∧ w'.cell? (ad396.add (((ji11)).toNat * 3)) = some (.int .i64 ((rd_T72 l0 (ji11)).f0)) ∧ w'.cell? ⟨(ad396.add (((ji11)).toNat * 3)).block, (ad396.add (((ji11)).toNat * 3)).off + 1, none⟩ = some (.int .i64 ((rd_T72 l0 (ji11)).f1)) ∧ w'.cell? ⟨(ad396.add (((ji11)).toNat * 3)).block, (ad396.add (((ji11)).toNat * 3)).off + 2, none⟩ = some (.int .i64 ((rd_T72 l0 (ji11)).f2)) ∧ w'.cell? (ad396.add ((x3_1).toNat * 3)) = some (.int .i64 ((rd_T72 l0 x3_1).f0)) ∧ w'.cell? ⟨(ad396.add ((x3_1).toNat * 3)).block, (ad396.add ((x3_1).toNat * 3)).off + 1, none⟩ = some (.int .i64 ((rd_T72 l0 x3_1).f1)) ∧ w'.cell? ⟨(ad396.add ((x3_1).toNat * 3)).block, (ad396.add ((x3_1).toNat * 3)).off + 2, none⟩ = some (.int .i64 ((rd_T72 l0 x3_1).f2))) (ds := []) #[false, false, false, false, false, false, false, false, false, false, false, false, false, false, false, false, false, false, false, false, false, false, false, false, false, false, false, false, false, false, false, false, false, false, false, false, false, false, false, false, false, false, false, false, false, false, false, false] (by kernel_rfl) rfl rfl ⟨(cB_ hw396_0), (cB_ hw396_1), (cB_ hw396_2), (cB_ hw398_0), (cB_ hw398_1), (cB_ hw398_2), (cB_ hw400_0), (cB_ hw400_1), (cB_ hw400_2), (cB_ hw401_0), (cB_ hw401_1), (cB_ hw401_2), (cB_ hw403_0), (cB_ hw403_1), (cB_ hw403_2), (cB_ hw404_0), (cB_ hw404_1), (cB_ hw404_2)⟩ (fun hHeld => ?_); refine with_tabW spec_l5Stacks.tab4 spec_l5Stacks.bits4 (fun HT_ HW_ => ?_)
   generalize wr.drew = w15 at HB hx396_0 hx396_1 hx396_2 hx398_0 hx398_1 hx398_2 hx400_0 hx400_1 hx400_2 hx401_0 hx401_1 hx401_2 hx403_0 hx403_1 hx403_2 hx404_0 hx404_1 hx404_2 hHeld ⊢
   refine pI_ 0 10 (bqz 48 1) ?_
   refine jI_ 1 11 ?_
   refine jI_ 2 12 ?_
   refine jI_ 3 13 ?_
   refine sI18_ 4 14 ?_
   refine one_ (i := 5) (N := some 15) (bqz 48 63) rfl rfl qzc (by decide) (fun K hK => ?_)
   refine goes_ Try.func81 (by kernel_rfl) rfl #[.int .i64 ((rd_T72 l0 x3_1).f0), .int .i64 1, .int .i64 50] (by rfl) rfl rfl qz4 ?_
   with_reducible refine (spec_l1In.calls ((rd_T72 l0 x3_1).f0) 1 50 true _ A4.out).mono ?_
   rintro e w' ⟨rfl, ⟨nd, rfl⟩⟩
   refine ⟨_, rfl, ?_⟩
   refine hK.out _ _ ⟨(cB_ hw396_0), (cB_ hw396_1), (cB_ hw396_2), (cB_ hw398_0), (cB_ hw398_1), (cB_ hw398_2), (cB_ hw400_0), (cB_ hw400_1), (cB_ hw400_2), (cB_ hw401_0), (cB_ hw401_1), (cB_ hw401_2), (cB_ hw403_0), (cB_ hw403_1), (cB_ hw403_2), (cB_ hw404_0), (cB_ hw404_1), (cB_ hw404_2)⟩ (fun hHeld => ?_)
   clear hK K
   refine nm_ 15 ?_
   refine jI_ 6 16 ?_
   refine jI_ 7 17 ?_
   refine jI_ 8 18 ?_
   refine jI_ 9 19 ?_
   refine jI_ 10 20 ?_
   refine jI_ 11 21 ?_
   refine sI18_ 12 22 ?_
   refine one_ (i := 13) (N := some 23) (bqz 48 16383) rfl rfl qzc (by decide) (fun K hK => ?_)
   refine goes_ Try.func81 (by kernel_rfl) rfl #[.int .i64 ((rd_T72 l0 x3_1).f1), .int .i64 1, .int .i64 1000] (by rfl) rfl rfl qz4 ?_
   with_reducible refine (spec_l1In.calls ((rd_T72 l0 x3_1).f1) 1 1000 true _ A6.out).mono ?_
   rintro e w' ⟨rfl, ⟨nd, rfl⟩⟩
   refine ⟨_, rfl, ?_⟩
   refine hK.out _ _ ⟨(cB_ hw396_0), (cB_ hw396_1), (cB_ hw396_2), (cB_ hw398_0), (cB_ hw398_1), (cB_ hw398_2), (cB_ hw400_0), (cB_ hw400_1), (cB_ hw400_2), (cB_ hw401_0), (cB_ hw401_1), (cB_ hw401_2), (cB_ hw403_0), (cB_ hw403_1), (cB_ hw403_2), (cB_ hw404_0), (cB_ hw404_1), (cB_ hw404_2)⟩ (fun hHeld => ?_)
   clear hK K
   refine nm_ 23 ?_
   refine jI_ 14 24 ?_
   refine jI_ 15 25 ?_
   refine jI_ 16 26 ?_
   refine jI_ 17 27 ?_
   refine jI_ 18 28 ?_
   refine jI_ 19 29 ?_
   refine jI_ 20 30 ?_
   refine jI_ 22 32 ?_
   refine jI_ 23 33 ?_
   refine jI_ 24 34 ?_
   refine jI_ 25 35 ?_
   refine sI18_ 21 31 ?_
   refine sI18_ 26 36 ?_
   refine one_ (i := 27) (N := some 37) (bqz 48 268435455) rfl rfl qzc (by decide) (fun K hK => ?_)
   refine goes_ Try.func81 (by kernel_rfl) rfl #[.int .i64 ((rd_T72 l0 x3_1).f2), .int .i64 0, .int .i64 ((rd_T72 l0 x3_1).f1)] (by rfl) rfl rfl qz4 ?_
   with_reducible refine (spec_l1In.calls ((rd_T72 l0 x3_1).f2) 0 ((rd_T72 l0 x3_1).f1) true _ A8.out).mono ?_
   rintro e w' ⟨rfl, ⟨nd, rfl⟩⟩
   refine ⟨_, rfl, ?_⟩
   refine hK.out _ _ ⟨(cB_ hw396_0), (cB_ hw396_1), (cB_ hw396_2), (cB_ hw398_0), (cB_ hw398_1), (cB_ hw398_2), (cB_ hw400_0), (cB_ hw400_1), (cB_ hw400_2), (cB_ hw401_0), (cB_ hw401_1), (cB_ hw401_2), (cB_ hw403_0), (cB_ hw403_1), (cB_ hw403_2), (cB_ hw404_0), (cB_ hw404_1), (cB_ hw404_2)⟩ (fun hHeld => ?_)
   clear hK K
   refine nm_ 37 ?_
   refine jI_ 28 38 ?_
   refine jI_ 29 39 ?_
   refine jI_ 30 40 ?_
   refine jI_ 31 41 ?_
   refine jI_ 32 42 ?_
   refine jI_ 33 43 ?_
   refine jI_ 34 44 ?_
   refine jI_ 35 45 ?_
   refine jI_ 36 46 ?_
   refine jI_ 37 47 ?_
   refine jI_ 38 48 ?_
   refine jI_ 40 50 ?_
   refine jI_ 41 51 ?_
   refine jI_ 42 52 ?_
   refine jI_ 43 53 ?_
   refine sI18_ 39 49 ?_
   refine sI18_ 44 54 ?_
   refine jI_ 45 55 ?_
   refine jI_ 46 56 ?_
   refine jI_ 47 57 ?_
   refine done_ (done_of HT_.out (by kernel_rfl)) ?_
   try go_wp2
   go_ret
   exact ⟨by first | rfl | (simp [errW_none, errW_some] <;> rfl) | (simp only [← hji11]; first | rfl | (simp [errW_none, errW_some] <;> rfl)) | (simp [*, errW_none, errW_some] <;> rfl), qz1⟩
   }
   {
   rw [if_neg c14] at H
   have c14b0 := decide_eq_false c14
   clear c14
   have H' := aM H
   clear H
   try go_wp2
   replace HB := aM (below_drew1 HB.out)
   have p396 : 0 ≤ (x3_1 : Int) := dt_
   have q396 : x3_1 < (l0.length : Int) := dt_
   obtain ⟨ad396, e396, hx396_0, hx396_1, hx396_2⟩ := at_T72 HR0.out x3_1 p396 q396
   have hw396_2 := hx396_2
   have hw396_1 := hx396_1
   have hw396_0 := hx396_0
   cases e396
   replace hx396_0 := cB_ hx396_0
   replace hx396_1 := cB_ hx396_1
   replace hx396_2 := cB_ hx396_2
   replace p396 := eq_true p396
   replace q396 := eq_true q396
   have p398 : 0 ≤ (x3_1 : Int) := dt_
   have q398 : x3_1 < (l0.length : Int) := dt_
   obtain ⟨ad398, e398, hx398_0, hx398_1, hx398_2⟩ := at_T72 HR0.out x3_1 p398 q398
   have hw398_2 := hx398_2
   have hw398_1 := hx398_1
   have hw398_0 := hx398_0
   obtain rfl : ad396 = ad398 := (by injection e398)
   replace hx398_0 := cB_ hx398_0
   replace hx398_1 := cB_ hx398_1
   replace hx398_2 := cB_ hx398_2
   replace p398 := eq_true p398
   replace q398 := eq_true q398
   have p400 : 0 ≤ (x3_1 : Int) := dt_
   have q400 : x3_1 < (l0.length : Int) := dt_
   obtain ⟨ad400, e400, hx400_0, hx400_1, hx400_2⟩ := at_T72 HR0.out x3_1 p400 q400
   have hw400_2 := hx400_2
   have hw400_1 := hx400_1
   have hw400_0 := hx400_0
   obtain rfl : ad396 = ad400 := (by injection e400)
   replace hx400_0 := cB_ hx400_0
   replace hx400_1 := cB_ hx400_1
   replace hx400_2 := cB_ hx400_2
   replace p400 := eq_true p400
   replace q400 := eq_true q400
   have p401 : 0 ≤ (x3_1 : Int) := dt_
   have q401 : x3_1 < (l0.length : Int) := dt_
   obtain ⟨ad401, e401, hx401_0, hx401_1, hx401_2⟩ := at_T72 HR0.out x3_1 p401 q401
   have hw401_2 := hx401_2
   have hw401_1 := hx401_1
   have hw401_0 := hx401_0
   obtain rfl : ad396 = ad401 := (by injection e401)
   replace hx401_0 := cB_ hx401_0
   replace hx401_1 := cB_ hx401_1
   replace hx401_2 := cB_ hx401_2
   replace p401 := eq_true p401
   replace q401 := eq_true q401
   have p403 : 0 ≤ ((ji11) : Int) := dt_
   have q403 : (ji11) < (l0.length : Int) := dt_
   obtain ⟨ad403, e403, hx403_0, hx403_1, hx403_2⟩ := at_T72 HR0.out (ji11) p403 q403
   have hw403_2 := hx403_2
   have hw403_1 := hx403_1
   have hw403_0 := hx403_0
   obtain rfl : ad396 = ad403 := (by injection e403)
   replace hx403_0 := cB_ hx403_0
   replace hx403_1 := cB_ hx403_1
   replace hx403_2 := cB_ hx403_2
   replace p403 := eq_true p403
   replace q403 := eq_true q403
   have p404 : 0 ≤ (x3_1 : Int) := dt_
   have q404 : x3_1 < (l0.length : Int) := dt_
   obtain ⟨ad404, e404, hx404_0, hx404_1, hx404_2⟩ := at_T72 HR0.out x3_1 p404 q404
   have hw404_2 := hx404_2
   have hw404_1 := hx404_1
   have hw404_0 := hx404_0
   obtain rfl : ad396 = ad404 := (by injection e404)
   replace hx404_0 := cB_ hx404_0
   replace hx404_1 := cB_ hx404_1
   replace hx404_2 := cB_ hx404_2
   replace p404 := eq_true p404
   replace q404 := eq_true q404
   refine start_ (n := 48) (S := fun w' => w'.cell? (ad396.add ((x3_1).toNat * 3)) = some (.int .i64 ((rd_T72 l0 x3_1).f0)) ∧ w'.cell? ⟨(ad396.add ((x3_1).toNat * 3)).block, (ad396.add ((x3_1).toNat * 3)).off + 1, none⟩ = some (.int .i64 ((rd_T72 l0 x3_1).f1)) ∧ w'.cell? ⟨(ad396.add ((x3_1).toNat * 3)).block, (ad396.add ((x3_1).toNat * 3)).off + 2, none⟩ = some (.int .i64 ((rd_T72 l0 x3_1).f2)) ∧ w'.cell? (ad396.add ((x3_1).toNat * 3)) = some (.int .i64 ((rd_T72 l0 x3_1).f0)) ∧ w'.cell? ⟨(ad396.add ((x3_1).toNat * 3)).block, (ad396.add ((x3_1).toNat * 3)).off + 1, none⟩ = some (.int .i64 ((rd_T72 l0 x3_1).f1)) ∧ w'.cell? ⟨(ad396.add ((x3_1).toNat * 3)).block, (ad396.add ((x3_1).toNat * 3)).off + 2, none⟩ = some (.int .i64 ((rd_T72 l0 x3_1).f2)) ∧ w'.cell? (ad396.add ((x3_1).toNat * 3)) = some (.int .i64 ((rd_T72 l0 x3_1).f0)) ∧ w'.cell? ⟨(ad396.add ((x3_1).toNat * 3)).block, (ad396.add ((x3_1).toNat * 3)).off + 1, none⟩ = some (.int .i64 ((rd_T72 l0 x3_1).f1)) ∧ w'.cell? ⟨(ad396.add ((x3_1).toNat * 3)).block, (ad396.add ((x3_1).toNat * 3)).off + 2, none⟩ = some (.int .i64 ((rd_T72 l0 x3_1).f2)) ∧ w'.cell? (ad396.add ((x3_1).toNat * 3)) = some (.int .i64 ((rd_T72 l0 x3_1).f0)) ∧ w'.cell? ⟨(ad396.add ((x3_1).toNat * 3)).block, (ad396.add ((x3_1).toNat * 3)).off + 1, none⟩ = some (.int .i64 ((rd_T72 l0 x3_1).f1)) ∧ w'.cell? ⟨(ad396.add ((x3_1).toNat * 3)).block, (ad396.add ((x3_1).toNat * 3)).off + 2, none⟩ = some (.int .i64 ((rd_T72 l0 x3_1).f2)) ∧ w'.cell? (ad396.add (((ji11)).toNat * 3)) = some (.int .i64 ((rd_T72 l0 (ji11)).f0)) ∧ w'.cell? ⟨(ad396.add (((ji11)).toNat * 3)).block, (ad396.add (((ji11)).toNat * 3)).off + 1, none⟩ = some (.int .i64 ((rd_T72 l0 (ji11)).f1)) ∧ w'.cell? ⟨(ad396.add (((ji11)).toNat * 3)).block, (ad396.add (((ji11)).toNat * 3)).off + 2, none⟩ = some (.int .i64 ((rd_T72 l0 (ji11)).f2)) ∧ w'.cell? (ad396.add ((x3_1).toNat * 3)) = some (.int .i64 ((rd_T72 l0 x3_1).f0)) ∧ w'.cell? ⟨(ad396.add ((x3_1).toNat * 3)).block, (ad396.add ((x3_1).toNat * 3)).off + 1, none⟩ = some (.int .i64 ((rd_T72 l0 x3_1).f1)) ∧ w'.cell? ⟨(ad396.add ((x3_1).toNat * 3)).block, (ad396.add ((x3_1).toNat * 3)).off + 2, none⟩ = some (.int .i64 ((rd_T72 l0 x3_1).f2))) (ds := []) #[false, false, false, false, false, false, false, false, false, false, false, false, false, false, false, false, false, false, false, false, false, false, false, false, false, false, false, false, false, false, false, false, false, false, false, false, false, false, false, false, false, false, false, false, false, false, false, false] (by kernel_rfl) rfl rfl ⟨(cB_ hw396_0), (cB_ hw396_1), (cB_ hw396_2), (cB_ hw398_0), (cB_ hw398_1), (cB_ hw398_2), (cB_ hw400_0), (cB_ hw400_1), (cB_ hw400_2), (cB_ hw401_0), (cB_ hw401_1), (cB_ hw401_2), (cB_ hw403_0), (cB_ hw403_1), (cB_ hw403_2), (cB_ hw404_0), (cB_ hw404_1), (cB_ hw404_2)⟩ (fun hHeld => ?_); refine with_tabW spec_l5Stacks.tab4 spec_l5Stacks.bits4 (fun HT_ HW_ => ?_)
   generalize wr.drew = w16 at HB hx396_0 hx396_1 hx396_2 hx398_0 hx398_1 hx398_2 hx400_0 hx400_1 hx400_2 hx401_0 hx401_1 hx401_2 hx403_0 hx403_1 hx403_2 hx404_0 hx404_1 hx404_2 hHeld ⊢
   refine pI_ 0 10 (bqz 48 1) ?_
   refine jI_ 1 11 ?_
   refine jI_ 2 12 ?_
   refine jI_ 3 13 ?_
   refine sI18_ 4 14 ?_
   refine one_ (i := 5) (N := some 15) (bqz 48 63) rfl rfl qzc (by decide) (fun K hK => ?_)
   refine goes_ Try.func81 (by kernel_rfl) rfl #[.int .i64 ((rd_T72 l0 x3_1).f0), .int .i64 1, .int .i64 50] (by rfl) rfl rfl qz4 ?_
   with_reducible refine (spec_l1In.calls ((rd_T72 l0 x3_1).f0) 1 50 true _ A4.out).mono ?_
   rintro e w' ⟨rfl, ⟨nd, rfl⟩⟩
   refine ⟨_, rfl, ?_⟩
   refine hK.out _ _ ⟨(cB_ hw396_0), (cB_ hw396_1), (cB_ hw396_2), (cB_ hw398_0), (cB_ hw398_1), (cB_ hw398_2), (cB_ hw400_0), (cB_ hw400_1), (cB_ hw400_2), (cB_ hw401_0), (cB_ hw401_1), (cB_ hw401_2), (cB_ hw403_0), (cB_ hw403_1), (cB_ hw403_2), (cB_ hw404_0), (cB_ hw404_1), (cB_ hw404_2)⟩ (fun hHeld => ?_)
   clear hK K
   refine nm_ 15 ?_
   refine jI_ 6 16 ?_
   refine jI_ 7 17 ?_
   refine jI_ 8 18 ?_
   refine jI_ 9 19 ?_
   refine jI_ 10 20 ?_
   refine jI_ 11 21 ?_
   refine sI18_ 12 22 ?_
   refine one_ (i := 13) (N := some 23) (bqz 48 16383) rfl rfl qzc (by decide) (fun K hK => ?_)
   refine goes_ Try.func81 (by kernel_rfl) rfl #[.int .i64 ((rd_T72 l0 x3_1).f1), .int .i64 1, .int .i64 1000] (by rfl) rfl rfl qz4 ?_
   with_reducible refine (spec_l1In.calls ((rd_T72 l0 x3_1).f1) 1 1000 true _ A6.out).mono ?_
   rintro e w' ⟨rfl, ⟨nd, rfl⟩⟩
   refine ⟨_, rfl, ?_⟩
   refine hK.out _ _ ⟨(cB_ hw396_0), (cB_ hw396_1), (cB_ hw396_2), (cB_ hw398_0), (cB_ hw398_1), (cB_ hw398_2), (cB_ hw400_0), (cB_ hw400_1), (cB_ hw400_2), (cB_ hw401_0), (cB_ hw401_1), (cB_ hw401_2), (cB_ hw403_0), (cB_ hw403_1), (cB_ hw403_2), (cB_ hw404_0), (cB_ hw404_1), (cB_ hw404_2)⟩ (fun hHeld => ?_)
   clear hK K
   refine nm_ 23 ?_
   refine jI_ 14 24 ?_
   refine jI_ 15 25 ?_
   refine jI_ 16 26 ?_
   refine jI_ 17 27 ?_
   refine jI_ 18 28 ?_
   refine jI_ 19 29 ?_
   refine jI_ 20 30 ?_
   refine jI_ 22 32 ?_
   refine jI_ 23 33 ?_
   refine jI_ 24 34 ?_
   refine jI_ 25 35 ?_
   refine sI18_ 21 31 ?_
   refine sI18_ 26 36 ?_
   refine one_ (i := 27) (N := some 37) (bqz 48 268435455) rfl rfl qzc (by decide) (fun K hK => ?_)
   refine goes_ Try.func81 (by kernel_rfl) rfl #[.int .i64 ((rd_T72 l0 x3_1).f2), .int .i64 0, .int .i64 ((rd_T72 l0 x3_1).f1)] (by rfl) rfl rfl qz4 ?_
   with_reducible refine (spec_l1In.calls ((rd_T72 l0 x3_1).f2) 0 ((rd_T72 l0 x3_1).f1) true _ A8.out).mono ?_
   rintro e w' ⟨rfl, ⟨nd, rfl⟩⟩
   refine ⟨_, rfl, ?_⟩
   refine hK.out _ _ ⟨(cB_ hw396_0), (cB_ hw396_1), (cB_ hw396_2), (cB_ hw398_0), (cB_ hw398_1), (cB_ hw398_2), (cB_ hw400_0), (cB_ hw400_1), (cB_ hw400_2), (cB_ hw401_0), (cB_ hw401_1), (cB_ hw401_2), (cB_ hw403_0), (cB_ hw403_1), (cB_ hw403_2), (cB_ hw404_0), (cB_ hw404_1), (cB_ hw404_2)⟩ (fun hHeld => ?_)
   clear hK K
   refine nm_ 37 ?_
   refine jI_ 28 38 ?_
   refine jI_ 29 39 ?_
   refine jI_ 30 40 ?_
   refine jI_ 31 41 ?_
   refine jI_ 32 42 ?_
   refine jI_ 33 43 ?_
   refine jI_ 34 44 ?_
   refine jI_ 35 45 ?_
   refine jI_ 36 46 ?_
   refine jI_ 37 47 ?_
   refine jI_ 38 48 ?_
   refine jI_ 40 50 ?_
   refine jI_ 41 51 ?_
   refine jI_ 42 52 ?_
   refine jI_ 43 53 ?_
   refine sI18_ 39 49 ?_
   refine sI18_ 44 54 ?_
   refine jI_ 45 55 ?_
   refine jI_ 46 56 ?_
   refine jI_ 47 57 ?_
   refine done_ (done_of HT_.out (by kernel_rfl)) ?_
   try go_wp2
   go_roundg k1
   case measure => have := HK1.out; omega
   case rel => exact ⟨(wrap64 (x3_1 + 1)), qz5, H', ⟨by have := HK1.out; omega⟩, ⟨qz1⟩⟩
   }
   }
   {
   exact an_ c13 H
   }
   }
   {
   exact an_ c12 H
   }
   }
   {
   rw [if_neg c10] at H
   have c10b0 := decide_eq_false c10
   clear c10
   have H' := aM H
   clear H
   try go_wp2
   replace HB := aM (below_drew1 HB.out)
   have p396 : 0 ≤ (x3_1 : Int) := dt_
   have q396 : x3_1 < (l0.length : Int) := dt_
   obtain ⟨ad396, e396, hx396_0, hx396_1, hx396_2⟩ := at_T72 HR0.out x3_1 p396 q396
   have hw396_2 := hx396_2
   have hw396_1 := hx396_1
   have hw396_0 := hx396_0
   cases e396
   replace hx396_0 := cB_ hx396_0
   replace hx396_1 := cB_ hx396_1
   replace hx396_2 := cB_ hx396_2
   replace p396 := eq_true p396
   replace q396 := eq_true q396
   have p398 : 0 ≤ (x3_1 : Int) := dt_
   have q398 : x3_1 < (l0.length : Int) := dt_
   obtain ⟨ad398, e398, hx398_0, hx398_1, hx398_2⟩ := at_T72 HR0.out x3_1 p398 q398
   have hw398_2 := hx398_2
   have hw398_1 := hx398_1
   have hw398_0 := hx398_0
   obtain rfl : ad396 = ad398 := (by injection e398)
   replace hx398_0 := cB_ hx398_0
   replace hx398_1 := cB_ hx398_1
   replace hx398_2 := cB_ hx398_2
   replace p398 := eq_true p398
   replace q398 := eq_true q398
   have p400 : 0 ≤ (x3_1 : Int) := dt_
   have q400 : x3_1 < (l0.length : Int) := dt_
   obtain ⟨ad400, e400, hx400_0, hx400_1, hx400_2⟩ := at_T72 HR0.out x3_1 p400 q400
   have hw400_2 := hx400_2
   have hw400_1 := hx400_1
   have hw400_0 := hx400_0
   obtain rfl : ad396 = ad400 := (by injection e400)
   replace hx400_0 := cB_ hx400_0
   replace hx400_1 := cB_ hx400_1
   replace hx400_2 := cB_ hx400_2
   replace p400 := eq_true p400
   replace q400 := eq_true q400
   have p401 : 0 ≤ (x3_1 : Int) := dt_
   have q401 : x3_1 < (l0.length : Int) := dt_
   obtain ⟨ad401, e401, hx401_0, hx401_1, hx401_2⟩ := at_T72 HR0.out x3_1 p401 q401
   have hw401_2 := hx401_2
   have hw401_1 := hx401_1
   have hw401_0 := hx401_0
   obtain rfl : ad396 = ad401 := (by injection e401)
   replace hx401_0 := cB_ hx401_0
   replace hx401_1 := cB_ hx401_1
   replace hx401_2 := cB_ hx401_2
   replace p401 := eq_true p401
   replace q401 := eq_true q401
   refine start_ (n := 48) (S := fun w' => w'.cell? (ad396.add ((x3_1).toNat * 3)) = some (.int .i64 ((rd_T72 l0 x3_1).f0)) ∧ w'.cell? ⟨(ad396.add ((x3_1).toNat * 3)).block, (ad396.add ((x3_1).toNat * 3)).off + 1, none⟩ = some (.int .i64 ((rd_T72 l0 x3_1).f1)) ∧ w'.cell? ⟨(ad396.add ((x3_1).toNat * 3)).block, (ad396.add ((x3_1).toNat * 3)).off + 2, none⟩ = some (.int .i64 ((rd_T72 l0 x3_1).f2)) ∧ w'.cell? (ad396.add ((x3_1).toNat * 3)) = some (.int .i64 ((rd_T72 l0 x3_1).f0)) ∧ w'.cell? ⟨(ad396.add ((x3_1).toNat * 3)).block, (ad396.add ((x3_1).toNat * 3)).off + 1, none⟩ = some (.int .i64 ((rd_T72 l0 x3_1).f1)) ∧ w'.cell? ⟨(ad396.add ((x3_1).toNat * 3)).block, (ad396.add ((x3_1).toNat * 3)).off + 2, none⟩ = some (.int .i64 ((rd_T72 l0 x3_1).f2)) ∧ w'.cell? (ad396.add ((x3_1).toNat * 3)) = some (.int .i64 ((rd_T72 l0 x3_1).f0)) ∧ w'.cell? ⟨(ad396.add ((x3_1).toNat * 3)).block, (ad396.add ((x3_1).toNat * 3)).off + 1, none⟩ = some (.int .i64 ((rd_T72 l0 x3_1).f1)) ∧ w'.cell? ⟨(ad396.add ((x3_1).toNat * 3)).block, (ad396.add ((x3_1).toNat * 3)).off + 2, none⟩ = some (.int .i64 ((rd_T72 l0 x3_1).f2)) ∧ w'.cell? (ad396.add ((x3_1).toNat * 3)) = some (.int .i64 ((rd_T72 l0 x3_1).f0)) ∧ w'.cell? ⟨(ad396.add ((x3_1).toNat * 3)).block, (ad396.add ((x3_1).toNat * 3)).off + 1, none⟩ = some (.int .i64 ((rd_T72 l0 x3_1).f1)) ∧ w'.cell? ⟨(ad396.add ((x3_1).toNat * 3)).block, (ad396.add ((x3_1).toNat * 3)).off + 2, none⟩ = some (.int .i64 ((rd_T72 l0 x3_1).f2))) (ds := []) #[false, false, false, false, false, false, false, false, false, false, false, false, false, false, false, false, false, false, false, false, false, false, false, false, false, false, false, false, false, false, false, false, false, false, false, false, false, false, false, false, false, false, false, false, false, false, false, false] (by kernel_rfl) rfl rfl ⟨(cB_ hw396_0), (cB_ hw396_1), (cB_ hw396_2), (cB_ hw398_0), (cB_ hw398_1), (cB_ hw398_2), (cB_ hw400_0), (cB_ hw400_1), (cB_ hw400_2), (cB_ hw401_0), (cB_ hw401_1), (cB_ hw401_2)⟩ (fun hHeld => ?_); refine with_tabW spec_l5Stacks.tab4 spec_l5Stacks.bits4 (fun HT_ HW_ => ?_)
   generalize wr.drew = w17 at HB hx396_0 hx396_1 hx396_2 hx398_0 hx398_1 hx398_2 hx400_0 hx400_1 hx400_2 hx401_0 hx401_1 hx401_2 hHeld ⊢
   refine pI_ 0 10 (bqz 48 1) ?_
   refine jI_ 1 11 ?_
   refine jI_ 2 12 ?_
   refine jI_ 3 13 ?_
   refine sI12_ 4 14 ?_
   refine one_ (i := 5) (N := some 15) (bqz 48 63) rfl rfl qzc (by decide) (fun K hK => ?_)
   refine goes_ Try.func81 (by kernel_rfl) rfl #[.int .i64 ((rd_T72 l0 x3_1).f0), .int .i64 1, .int .i64 50] (by rfl) rfl rfl qz4 ?_
   with_reducible refine (spec_l1In.calls ((rd_T72 l0 x3_1).f0) 1 50 true _ A4.out).mono ?_
   rintro e w' ⟨rfl, ⟨nd, rfl⟩⟩
   refine ⟨_, rfl, ?_⟩
   refine hK.out _ _ ⟨(cB_ hw396_0), (cB_ hw396_1), (cB_ hw396_2), (cB_ hw398_0), (cB_ hw398_1), (cB_ hw398_2), (cB_ hw400_0), (cB_ hw400_1), (cB_ hw400_2), (cB_ hw401_0), (cB_ hw401_1), (cB_ hw401_2)⟩ (fun hHeld => ?_)
   clear hK K
   refine nm_ 15 ?_
   refine jI_ 6 16 ?_
   refine jI_ 7 17 ?_
   refine jI_ 8 18 ?_
   refine jI_ 9 19 ?_
   refine jI_ 10 20 ?_
   refine jI_ 11 21 ?_
   refine sI12_ 12 22 ?_
   refine one_ (i := 13) (N := some 23) (bqz 48 16383) rfl rfl qzc (by decide) (fun K hK => ?_)
   refine goes_ Try.func81 (by kernel_rfl) rfl #[.int .i64 ((rd_T72 l0 x3_1).f1), .int .i64 1, .int .i64 1000] (by rfl) rfl rfl qz4 ?_
   with_reducible refine (spec_l1In.calls ((rd_T72 l0 x3_1).f1) 1 1000 true _ A6.out).mono ?_
   rintro e w' ⟨rfl, ⟨nd, rfl⟩⟩
   refine ⟨_, rfl, ?_⟩
   refine hK.out _ _ ⟨(cB_ hw396_0), (cB_ hw396_1), (cB_ hw396_2), (cB_ hw398_0), (cB_ hw398_1), (cB_ hw398_2), (cB_ hw400_0), (cB_ hw400_1), (cB_ hw400_2), (cB_ hw401_0), (cB_ hw401_1), (cB_ hw401_2)⟩ (fun hHeld => ?_)
   clear hK K
   refine nm_ 23 ?_
   refine jI_ 14 24 ?_
   refine jI_ 15 25 ?_
   refine jI_ 16 26 ?_
   refine jI_ 17 27 ?_
   refine jI_ 18 28 ?_
   refine jI_ 19 29 ?_
   refine jI_ 20 30 ?_
   refine jI_ 22 32 ?_
   refine jI_ 23 33 ?_
   refine jI_ 24 34 ?_
   refine jI_ 25 35 ?_
   refine sI12_ 21 31 ?_
   refine sI12_ 26 36 ?_
   refine one_ (i := 27) (N := some 37) (bqz 48 268435455) rfl rfl qzc (by decide) (fun K hK => ?_)
   refine goes_ Try.func81 (by kernel_rfl) rfl #[.int .i64 ((rd_T72 l0 x3_1).f2), .int .i64 0, .int .i64 ((rd_T72 l0 x3_1).f1)] (by rfl) rfl rfl qz4 ?_
   with_reducible refine (spec_l1In.calls ((rd_T72 l0 x3_1).f2) 0 ((rd_T72 l0 x3_1).f1) true _ A8.out).mono ?_
   rintro e w' ⟨rfl, ⟨nd, rfl⟩⟩
   refine ⟨_, rfl, ?_⟩
   refine hK.out _ _ ⟨(cB_ hw396_0), (cB_ hw396_1), (cB_ hw396_2), (cB_ hw398_0), (cB_ hw398_1), (cB_ hw398_2), (cB_ hw400_0), (cB_ hw400_1), (cB_ hw400_2), (cB_ hw401_0), (cB_ hw401_1), (cB_ hw401_2)⟩ (fun hHeld => ?_)
   clear hK K
   refine nm_ 37 ?_
   refine jI_ 28 38 ?_
   refine jI_ 29 39 ?_
   refine jI_ 30 40 ?_
   refine jI_ 31 41 ?_
   refine jI_ 32 42 ?_
   refine jI_ 33 43 ?_
   refine jU_ 34 44 ?_
   refine jU_ 35 45 ?_
   refine jU_ 36 46 ?_
   refine jU_ 37 47 ?_
   refine jU_ 38 48 ?_
   refine jU_ 39 49 ?_
   refine jU_ 40 50 ?_
   refine jU_ 41 51 ?_
   refine jU_ 42 52 ?_
   refine jU_ 43 53 ?_
   refine jU_ 44 54 ?_
   refine jU_ 45 55 ?_
   refine jI_ 46 56 ?_
   refine jI_ 47 57 ?_
   refine done_ (done_of HT_.out (by kernel_rfl)) ?_
   try go_wp2
   go_roundg k1
   case measure => have := HK1.out; omega
   case rel => exact ⟨(wrap64 (x3_1 + 1)), qz5, H', ⟨by have := HK1.out; omega⟩, ⟨qz1⟩⟩
   }
   }
   {
   replace c9 := Bool.eq_false_iff.mpr c9
   subst c9
   rw [if_neg (show ¬ (false = true) by decide)] at H
   obtain rfl := Option.some.inj H
   simp only [Option.some.injEq, Prod.mk.injEq] at H
   obtain ⟨rfl⟩ := H
   try go_wp2
   replace HB := aM (below_drew1 HB.out)
   have p396 : 0 ≤ (x3_1 : Int) := dt_
   have q396 : x3_1 < (l0.length : Int) := dt_
   obtain ⟨ad396, e396, hx396_0, hx396_1, hx396_2⟩ := at_T72 HR0.out x3_1 p396 q396
   have hw396_2 := hx396_2
   have hw396_1 := hx396_1
   have hw396_0 := hx396_0
   cases e396
   replace hx396_0 := cB_ hx396_0
   replace hx396_1 := cB_ hx396_1
   replace hx396_2 := cB_ hx396_2
   replace p396 := eq_true p396
   replace q396 := eq_true q396
   have p398 : 0 ≤ (x3_1 : Int) := dt_
   have q398 : x3_1 < (l0.length : Int) := dt_
   obtain ⟨ad398, e398, hx398_0, hx398_1, hx398_2⟩ := at_T72 HR0.out x3_1 p398 q398
   have hw398_2 := hx398_2
   have hw398_1 := hx398_1
   have hw398_0 := hx398_0
   obtain rfl : ad396 = ad398 := (by injection e398)
   replace hx398_0 := cB_ hx398_0
   replace hx398_1 := cB_ hx398_1
   replace hx398_2 := cB_ hx398_2
   replace p398 := eq_true p398
   replace q398 := eq_true q398
   have p400 : 0 ≤ (x3_1 : Int) := dt_
   have q400 : x3_1 < (l0.length : Int) := dt_
   obtain ⟨ad400, e400, hx400_0, hx400_1, hx400_2⟩ := at_T72 HR0.out x3_1 p400 q400
   have hw400_2 := hx400_2
   have hw400_1 := hx400_1
   have hw400_0 := hx400_0
   obtain rfl : ad396 = ad400 := (by injection e400)
   replace hx400_0 := cB_ hx400_0
   replace hx400_1 := cB_ hx400_1
   replace hx400_2 := cB_ hx400_2
   replace p400 := eq_true p400
   replace q400 := eq_true q400
   have p401 : 0 ≤ (x3_1 : Int) := dt_
   have q401 : x3_1 < (l0.length : Int) := dt_
   obtain ⟨ad401, e401, hx401_0, hx401_1, hx401_2⟩ := at_T72 HR0.out x3_1 p401 q401
   have hw401_2 := hx401_2
   have hw401_1 := hx401_1
   have hw401_0 := hx401_0
   obtain rfl : ad396 = ad401 := (by injection e401)
   replace hx401_0 := cB_ hx401_0
   replace hx401_1 := cB_ hx401_1
   replace hx401_2 := cB_ hx401_2
   replace p401 := eq_true p401
   replace q401 := eq_true q401
   refine start_ (n := 48) (S := fun w' => w'.cell? (ad396.add ((x3_1).toNat * 3)) = some (.int .i64 ((rd_T72 l0 x3_1).f0)) ∧ w'.cell? ⟨(ad396.add ((x3_1).toNat * 3)).block, (ad396.add ((x3_1).toNat * 3)).off + 1, none⟩ = some (.int .i64 ((rd_T72 l0 x3_1).f1)) ∧ w'.cell? ⟨(ad396.add ((x3_1).toNat * 3)).block, (ad396.add ((x3_1).toNat * 3)).off + 2, none⟩ = some (.int .i64 ((rd_T72 l0 x3_1).f2)) ∧ w'.cell? (ad396.add ((x3_1).toNat * 3)) = some (.int .i64 ((rd_T72 l0 x3_1).f0)) ∧ w'.cell? ⟨(ad396.add ((x3_1).toNat * 3)).block, (ad396.add ((x3_1).toNat * 3)).off + 1, none⟩ = some (.int .i64 ((rd_T72 l0 x3_1).f1)) ∧ w'.cell? ⟨(ad396.add ((x3_1).toNat * 3)).block, (ad396.add ((x3_1).toNat * 3)).off + 2, none⟩ = some (.int .i64 ((rd_T72 l0 x3_1).f2)) ∧ w'.cell? (ad396.add ((x3_1).toNat * 3)) = some (.int .i64 ((rd_T72 l0 x3_1).f0)) ∧ w'.cell? ⟨(ad396.add ((x3_1).toNat * 3)).block, (ad396.add ((x3_1).toNat * 3)).off + 1, none⟩ = some (.int .i64 ((rd_T72 l0 x3_1).f1)) ∧ w'.cell? ⟨(ad396.add ((x3_1).toNat * 3)).block, (ad396.add ((x3_1).toNat * 3)).off + 2, none⟩ = some (.int .i64 ((rd_T72 l0 x3_1).f2)) ∧ w'.cell? (ad396.add ((x3_1).toNat * 3)) = some (.int .i64 ((rd_T72 l0 x3_1).f0)) ∧ w'.cell? ⟨(ad396.add ((x3_1).toNat * 3)).block, (ad396.add ((x3_1).toNat * 3)).off + 1, none⟩ = some (.int .i64 ((rd_T72 l0 x3_1).f1)) ∧ w'.cell? ⟨(ad396.add ((x3_1).toNat * 3)).block, (ad396.add ((x3_1).toNat * 3)).off + 2, none⟩ = some (.int .i64 ((rd_T72 l0 x3_1).f2))) (ds := []) #[false, false, false, false, false, false, false, false, false, false, false, false, false, false, false, false, false, false, false, false, false, false, false, false, false, false, false, false, false, false, false, false, false, false, false, false, false, false, false, false, false, false, false, false, false, false, false, false] (by kernel_rfl) rfl rfl ⟨(cB_ hw396_0), (cB_ hw396_1), (cB_ hw396_2), (cB_ hw398_0), (cB_ hw398_1), (cB_ hw398_2), (cB_ hw400_0), (cB_ hw400_1), (cB_ hw400_2), (cB_ hw401_0), (cB_ hw401_1), (cB_ hw401_2)⟩ (fun hHeld => ?_); refine with_tabW spec_l5Stacks.tab4 spec_l5Stacks.bits4 (fun HT_ HW_ => ?_)
   generalize wr.drew = w18 at HB hx396_0 hx396_1 hx396_2 hx398_0 hx398_1 hx398_2 hx400_0 hx400_1 hx400_2 hx401_0 hx401_1 hx401_2 hHeld ⊢
   refine pI_ 0 10 (bqz 48 1) ?_
   refine jI_ 1 11 ?_
   refine jI_ 2 12 ?_
   refine jI_ 3 13 ?_
   refine sI12_ 4 14 ?_
   refine one_ (i := 5) (N := some 15) (bqz 48 63) rfl rfl qzc (by decide) (fun K hK => ?_)
   refine goes_ Try.func81 (by kernel_rfl) rfl #[.int .i64 ((rd_T72 l0 x3_1).f0), .int .i64 1, .int .i64 50] (by rfl) rfl rfl qz4 ?_
   with_reducible refine (spec_l1In.calls ((rd_T72 l0 x3_1).f0) 1 50 true _ A4.out).mono ?_
   rintro e w' ⟨rfl, ⟨nd, rfl⟩⟩
   refine ⟨_, rfl, ?_⟩
   refine hK.out _ _ ⟨(cB_ hw396_0), (cB_ hw396_1), (cB_ hw396_2), (cB_ hw398_0), (cB_ hw398_1), (cB_ hw398_2), (cB_ hw400_0), (cB_ hw400_1), (cB_ hw400_2), (cB_ hw401_0), (cB_ hw401_1), (cB_ hw401_2)⟩ (fun hHeld => ?_)
   clear hK K
   refine nm_ 15 ?_
   refine jI_ 6 16 ?_
   refine jI_ 7 17 ?_
   refine jI_ 8 18 ?_
   refine jI_ 9 19 ?_
   refine jI_ 10 20 ?_
   refine jI_ 11 21 ?_
   refine sI12_ 12 22 ?_
   refine one_ (i := 13) (N := some 23) (bqz 48 16383) rfl rfl qzc (by decide) (fun K hK => ?_)
   refine goes_ Try.func81 (by kernel_rfl) rfl #[.int .i64 ((rd_T72 l0 x3_1).f1), .int .i64 1, .int .i64 1000] (by rfl) rfl rfl qz4 ?_
   with_reducible refine (spec_l1In.calls ((rd_T72 l0 x3_1).f1) 1 1000 true _ A6.out).mono ?_
   rintro e w' ⟨rfl, ⟨nd, rfl⟩⟩
   refine ⟨_, rfl, ?_⟩
   refine hK.out _ _ ⟨(cB_ hw396_0), (cB_ hw396_1), (cB_ hw396_2), (cB_ hw398_0), (cB_ hw398_1), (cB_ hw398_2), (cB_ hw400_0), (cB_ hw400_1), (cB_ hw400_2), (cB_ hw401_0), (cB_ hw401_1), (cB_ hw401_2)⟩ (fun hHeld => ?_)
   clear hK K
   refine nm_ 23 ?_
   refine jI_ 14 24 ?_
   refine jI_ 15 25 ?_
   refine jI_ 16 26 ?_
   refine jI_ 17 27 ?_
   refine jI_ 18 28 ?_
   refine jI_ 19 29 ?_
   refine jI_ 20 30 ?_
   refine jI_ 22 32 ?_
   refine jI_ 23 33 ?_
   refine jI_ 24 34 ?_
   refine jI_ 25 35 ?_
   refine sI12_ 21 31 ?_
   refine sI12_ 26 36 ?_
   refine one_ (i := 27) (N := some 37) (bqz 48 268435455) rfl rfl qzc (by decide) (fun K hK => ?_)
   refine goes_ Try.func81 (by kernel_rfl) rfl #[.int .i64 ((rd_T72 l0 x3_1).f2), .int .i64 0, .int .i64 ((rd_T72 l0 x3_1).f1)] (by rfl) rfl rfl qz4 ?_
   with_reducible refine (spec_l1In.calls ((rd_T72 l0 x3_1).f2) 0 ((rd_T72 l0 x3_1).f1) false _ A8.out).mono ?_
   rintro e w' ⟨rfl, ⟨nd, rfl⟩⟩
   refine ⟨_, rfl, ?_⟩
   refine hK.out _ _ ⟨(cB_ hw396_0), (cB_ hw396_1), (cB_ hw396_2), (cB_ hw398_0), (cB_ hw398_1), (cB_ hw398_2), (cB_ hw400_0), (cB_ hw400_1), (cB_ hw400_2), (cB_ hw401_0), (cB_ hw401_1), (cB_ hw401_2)⟩ (fun hHeld => ?_)
   clear hK K
   refine nm_ 37 ?_
   refine jI_ 28 38 ?_
   refine jI_ 29 39 ?_
   refine jI_ 30 40 ?_
   refine jU_ 31 41 ?_
   refine jU_ 32 42 ?_
   refine jU_ 33 43 ?_
   refine jU_ 34 44 ?_
   refine jU_ 35 45 ?_
   refine jU_ 36 46 ?_
   refine jU_ 37 47 ?_
   refine jU_ 38 48 ?_
   refine jU_ 39 49 ?_
   refine jU_ 40 50 ?_
   refine jU_ 41 51 ?_
   refine jU_ 42 52 ?_
   refine jU_ 43 53 ?_
   refine jU_ 44 54 ?_
   refine jU_ 45 55 ?_
   refine jU_ 46 56 ?_
   refine jI_ 47 57 ?_
   refine done_ (done_of HT_.out (by kernel_rfl)) ?_
   try go_wp2
   go_ret
   exact ⟨qzw, qz1⟩
   }
   }
   {
   replace c7 := Bool.eq_false_iff.mpr c7
   subst c7
   rw [if_neg (show ¬ (false = true) by decide)] at H
   obtain rfl := Option.some.inj H
   simp only [Option.some.injEq, Prod.mk.injEq] at H
   obtain ⟨rfl⟩ := H
   try go_wp2
   replace HB := aM (below_drew1 HB.out)
   have p396 : 0 ≤ (x3_1 : Int) := dt_
   have q396 : x3_1 < (l0.length : Int) := dt_
   obtain ⟨ad396, e396, hx396_0, hx396_1, hx396_2⟩ := at_T72 HR0.out x3_1 p396 q396
   have hw396_2 := hx396_2
   have hw396_1 := hx396_1
   have hw396_0 := hx396_0
   cases e396
   replace hx396_0 := cB_ hx396_0
   replace hx396_1 := cB_ hx396_1
   replace hx396_2 := cB_ hx396_2
   replace p396 := eq_true p396
   replace q396 := eq_true q396
   have p398 : 0 ≤ (x3_1 : Int) := dt_
   have q398 : x3_1 < (l0.length : Int) := dt_
   obtain ⟨ad398, e398, hx398_0, hx398_1, hx398_2⟩ := at_T72 HR0.out x3_1 p398 q398
   have hw398_2 := hx398_2
   have hw398_1 := hx398_1
   have hw398_0 := hx398_0
   obtain rfl : ad396 = ad398 := (by injection e398)
   replace hx398_0 := cB_ hx398_0
   replace hx398_1 := cB_ hx398_1
   replace hx398_2 := cB_ hx398_2
   replace p398 := eq_true p398
   replace q398 := eq_true q398
   refine start_ (n := 48) (S := fun w' => w'.cell? (ad396.add ((x3_1).toNat * 3)) = some (.int .i64 ((rd_T72 l0 x3_1).f0)) ∧ w'.cell? ⟨(ad396.add ((x3_1).toNat * 3)).block, (ad396.add ((x3_1).toNat * 3)).off + 1, none⟩ = some (.int .i64 ((rd_T72 l0 x3_1).f1)) ∧ w'.cell? ⟨(ad396.add ((x3_1).toNat * 3)).block, (ad396.add ((x3_1).toNat * 3)).off + 2, none⟩ = some (.int .i64 ((rd_T72 l0 x3_1).f2)) ∧ w'.cell? (ad396.add ((x3_1).toNat * 3)) = some (.int .i64 ((rd_T72 l0 x3_1).f0)) ∧ w'.cell? ⟨(ad396.add ((x3_1).toNat * 3)).block, (ad396.add ((x3_1).toNat * 3)).off + 1, none⟩ = some (.int .i64 ((rd_T72 l0 x3_1).f1)) ∧ w'.cell? ⟨(ad396.add ((x3_1).toNat * 3)).block, (ad396.add ((x3_1).toNat * 3)).off + 2, none⟩ = some (.int .i64 ((rd_T72 l0 x3_1).f2))) (ds := []) #[false, false, false, false, false, false, false, false, false, false, false, false, false, false, false, false, false, false, false, false, false, false, false, false, false, false, false, false, false, false, false, false, false, false, false, false, false, false, false, false, false, false, false, false, false, false, false, false] (by kernel_rfl) rfl rfl ⟨(cB_ hw396_0), (cB_ hw396_1), (cB_ hw396_2), (cB_ hw398_0), (cB_ hw398_1), (cB_ hw398_2)⟩ (fun hHeld => ?_); refine with_tabW spec_l5Stacks.tab4 spec_l5Stacks.bits4 (fun HT_ HW_ => ?_)
   generalize wr.drew = w19 at HB hx396_0 hx396_1 hx396_2 hx398_0 hx398_1 hx398_2 hHeld ⊢
   refine pI_ 0 10 (bqz 48 1) ?_
   refine jI_ 1 11 ?_
   refine jI_ 2 12 ?_
   refine jI_ 3 13 ?_
   refine sI6_ 4 14 ?_
   refine one_ (i := 5) (N := some 15) (bqz 48 63) rfl rfl qzc (by decide) (fun K hK => ?_)
   refine goes_ Try.func81 (by kernel_rfl) rfl #[.int .i64 ((rd_T72 l0 x3_1).f0), .int .i64 1, .int .i64 50] (by rfl) rfl rfl qz4 ?_
   with_reducible refine (spec_l1In.calls ((rd_T72 l0 x3_1).f0) 1 50 true _ A4.out).mono ?_
   rintro e w' ⟨rfl, ⟨nd, rfl⟩⟩
   refine ⟨_, rfl, ?_⟩
   refine hK.out _ _ ⟨(cB_ hw396_0), (cB_ hw396_1), (cB_ hw396_2), (cB_ hw398_0), (cB_ hw398_1), (cB_ hw398_2)⟩ (fun hHeld => ?_)
   clear hK K
   refine nm_ 15 ?_
   refine jI_ 6 16 ?_
   refine jI_ 7 17 ?_
   refine jI_ 8 18 ?_
   refine jI_ 9 19 ?_
   refine jI_ 10 20 ?_
   refine jI_ 11 21 ?_
   refine sI6_ 12 22 ?_
   refine one_ (i := 13) (N := some 23) (bqz 48 16383) rfl rfl qzc (by decide) (fun K hK => ?_)
   refine goes_ Try.func81 (by kernel_rfl) rfl #[.int .i64 ((rd_T72 l0 x3_1).f1), .int .i64 1, .int .i64 1000] (by rfl) rfl rfl qz4 ?_
   with_reducible refine (spec_l1In.calls ((rd_T72 l0 x3_1).f1) 1 1000 false _ A6.out).mono ?_
   rintro e w' ⟨rfl, ⟨nd, rfl⟩⟩
   refine ⟨_, rfl, ?_⟩
   refine hK.out _ _ ⟨(cB_ hw396_0), (cB_ hw396_1), (cB_ hw396_2), (cB_ hw398_0), (cB_ hw398_1), (cB_ hw398_2)⟩ (fun hHeld => ?_)
   clear hK K
   refine nm_ 23 ?_
   refine jI_ 14 24 ?_
   refine jI_ 15 25 ?_
   refine jI_ 16 26 ?_
   refine jU_ 17 27 ?_
   refine jU_ 18 28 ?_
   refine jU_ 19 29 ?_
   refine jU_ 20 30 ?_
   refine jU_ 21 31 ?_
   refine jU_ 22 32 ?_
   refine jU_ 23 33 ?_
   refine jU_ 24 34 ?_
   refine jU_ 25 35 ?_
   refine jU_ 26 36 ?_
   refine jU_ 27 37 ?_
   refine jU_ 28 38 ?_
   refine jI_ 29 39 ?_
   refine jI_ 30 40 ?_
   refine jU_ 31 41 ?_
   refine jU_ 32 42 ?_
   refine jU_ 33 43 ?_
   refine jU_ 34 44 ?_
   refine jU_ 35 45 ?_
   refine jU_ 36 46 ?_
   refine jU_ 37 47 ?_
   refine jU_ 38 48 ?_
   refine jU_ 39 49 ?_
   refine jU_ 40 50 ?_
   refine jU_ 41 51 ?_
   refine jU_ 42 52 ?_
   refine jU_ 43 53 ?_
   refine jU_ 44 54 ?_
   refine jU_ 45 55 ?_
   refine jU_ 46 56 ?_
   refine jI_ 47 57 ?_
   refine done_ (done_of HT_.out (by kernel_rfl)) ?_
   try go_wp2
   go_ret
   exact ⟨qzw, qz1⟩
   }
   }
   {
   replace c5 := Bool.eq_false_iff.mpr c5
   subst c5
   rw [if_neg (show ¬ (false = true) by decide)] at H
   obtain rfl := Option.some.inj H
   simp only [Option.some.injEq, Prod.mk.injEq] at H
   obtain ⟨rfl⟩ := H
   try go_wp2
   replace HB := aM (below_drew1 HB.out)
   have p396 : 0 ≤ (x3_1 : Int) := dt_
   have q396 : x3_1 < (l0.length : Int) := dt_
   obtain ⟨ad396, e396, hx396_0, hx396_1, hx396_2⟩ := at_T72 HR0.out x3_1 p396 q396
   have hw396_2 := hx396_2
   have hw396_1 := hx396_1
   have hw396_0 := hx396_0
   cases e396
   replace hx396_0 := cB_ hx396_0
   replace hx396_1 := cB_ hx396_1
   replace hx396_2 := cB_ hx396_2
   replace p396 := eq_true p396
   replace q396 := eq_true q396
   refine start_ (n := 48) (S := fun w' => w'.cell? (ad396.add ((x3_1).toNat * 3)) = some (.int .i64 ((rd_T72 l0 x3_1).f0)) ∧ w'.cell? ⟨(ad396.add ((x3_1).toNat * 3)).block, (ad396.add ((x3_1).toNat * 3)).off + 1, none⟩ = some (.int .i64 ((rd_T72 l0 x3_1).f1)) ∧ w'.cell? ⟨(ad396.add ((x3_1).toNat * 3)).block, (ad396.add ((x3_1).toNat * 3)).off + 2, none⟩ = some (.int .i64 ((rd_T72 l0 x3_1).f2))) (ds := []) #[false, false, false, false, false, false, false, false, false, false, false, false, false, false, false, false, false, false, false, false, false, false, false, false, false, false, false, false, false, false, false, false, false, false, false, false, false, false, false, false, false, false, false, false, false, false, false, false] (by kernel_rfl) rfl rfl ⟨(cB_ hw396_0), (cB_ hw396_1), (cB_ hw396_2)⟩ (fun hHeld => ?_); refine with_tabW spec_l5Stacks.tab4 spec_l5Stacks.bits4 (fun HT_ HW_ => ?_)
   generalize wr.drew = w20 at HB hx396_0 hx396_1 hx396_2 hHeld ⊢
   refine pI_ 0 10 (bqz 48 1) ?_
   refine jI_ 1 11 ?_
   refine jI_ 2 12 ?_
   refine jI_ 3 13 ?_
   refine sI3_ 4 14 ?_
   refine one_ (i := 5) (N := some 15) (bqz 48 63) rfl rfl qzc (by decide) (fun K hK => ?_)
   refine goes_ Try.func81 (by kernel_rfl) rfl #[.int .i64 ((rd_T72 l0 x3_1).f0), .int .i64 1, .int .i64 50] (by rfl) rfl rfl qz4 ?_
   with_reducible refine (spec_l1In.calls ((rd_T72 l0 x3_1).f0) 1 50 false _ A4.out).mono ?_
   rintro e w' ⟨rfl, ⟨nd, rfl⟩⟩
   refine ⟨_, rfl, ?_⟩
   refine hK.out _ _ ⟨(cB_ hw396_0), (cB_ hw396_1), (cB_ hw396_2)⟩ (fun hHeld => ?_)
   clear hK K
   refine nm_ 15 ?_
   refine jI_ 6 16 ?_
   refine jI_ 7 17 ?_
   refine jU_ 8 18 ?_
   refine jU_ 9 19 ?_
   refine jU_ 10 20 ?_
   refine jU_ 11 21 ?_
   refine jU_ 12 22 ?_
   refine jU_ 13 23 ?_
   refine jU_ 14 24 ?_
   refine jI_ 15 25 ?_
   refine jI_ 16 26 ?_
   refine jU_ 17 27 ?_
   refine jU_ 18 28 ?_
   refine jU_ 19 29 ?_
   refine jU_ 20 30 ?_
   refine jU_ 21 31 ?_
   refine jU_ 22 32 ?_
   refine jU_ 23 33 ?_
   refine jU_ 24 34 ?_
   refine jU_ 25 35 ?_
   refine jU_ 26 36 ?_
   refine jU_ 27 37 ?_
   refine jU_ 28 38 ?_
   refine jI_ 29 39 ?_
   refine jI_ 30 40 ?_
   refine jU_ 31 41 ?_
   refine jU_ 32 42 ?_
   refine jU_ 33 43 ?_
   refine jU_ 34 44 ?_
   refine jU_ 35 45 ?_
   refine jU_ 36 46 ?_
   refine jU_ 37 47 ?_
   refine jU_ 38 48 ?_
   refine jU_ 39 49 ?_
   refine jU_ 40 50 ?_
   refine jU_ 41 51 ?_
   refine jU_ 42 52 ?_
   refine jU_ 43 53 ?_
   refine jU_ 44 54 ?_
   refine jU_ 45 55 ?_
   refine jU_ 46 56 ?_
   refine jI_ 47 57 ?_
   refine done_ (done_of HT_.out (by kernel_rfl)) ?_
   try go_wp2
   go_ret
   exact ⟨qzw, qz1⟩
   }
   }
   {
   exact an_ c3 H
   }
   }
   {
   rw [if_neg c2] at H
   have c2b0 := decide_eq_false c2
   clear c2
   obtain rfl := Option.some.inj H
   simp only [Option.some.injEq, Prod.mk.injEq] at H
   obtain ⟨rfl⟩ := H
   go_wp2
   go_ret
   exact ⟨qzw, qz1⟩

   }
end Go.Proofs.Yteajnkondkfmgaa.PFnPicks
