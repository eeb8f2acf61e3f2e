-- Made by a program of this session out of the translation. Lean checks it.
import Derived.Test.YteajnkondkfmgaaPFnEachx7
namespace Go.Proofs.Yteajnkondkfmgaa.PFnEach
open Go.RowKit Go.Proofs.YteajnkondkfmgaaW.PrintWords Go.Proofs.YteajnkondkfmgaaW.PrintLast Go.Proofs.YteajnkondkfmgaaW.PrintMore
attribute [local go_sem] max2_int min2_int max_two min_two max_three min_three max_four min_four   -- for this text's walks alone
set_option linter.unusedVariables false
set_option linter.unusedSimpArgs false

/-! ### spec_l5Stacks: function 82 -/
def spec_l5Stacks.l0 : Nat → List (S72) → Int → Option (Bool)
 | 0, _, _ => none
 | k + 1, x0, x3 => if x3 < (x0.length : Int) then (if 0 ≤ x3 then ((spec_l1In.f ((rd_T72 x0 x3).f0) 1 50).bind fun t168 => (if t168 = true then ((spec_l1In.f ((rd_T72 x0 x3).f1) 1 1000).bind fun t170 => (if t170 = true then ((spec_l1In.f ((rd_T72 x0 x3).f2) 0 ((rd_T72 x0 x3).f1)).bind fun t173 => (if t173 = true then (if x3 > 0 then (if 0 ≤ (wrap64 (x3 - 1)) then (if (wrap64 (x3 - 1)) < (x0.length : Int) then (if ((rd_T72 x0 (wrap64 (x3 - 1))).f0) ≥ ((rd_T72 x0 x3).f0) then (some false) else (spec_l5Stacks.l0 k x0 (wrap64 (x3 + 1)))) else (none)) else (none)) else (spec_l5Stacks.l0 k x0 (wrap64 (x3 + 1)))) else (some false))) else (some false))) else (some false))) else (none)) else (some (decide ((x0.length : Int) ≤ 8)))
def spec_l5Stacks.f (k : Nat) (l0 : List (S72)) : Option (Bool) := spec_l5Stacks.l0 k l0 0
theorem spec_l5Stacks.mono_l : ∀ k, (∀ y0 y1, LeO (spec_l5Stacks.l0 k y0 y1) (spec_l5Stacks.l0 (k + 1) y0 y1))
 | 0 => fun _ _ r h => by simp [spec_l5Stacks.l0] at h
 | k + 1 => by
  have ih0 := spec_l5Stacks.mono_l k
  {
  intro y0 y1
  unfold spec_l5Stacks.l0
  exact qL
  }
theorem spec_l5Stacks.mono : ∀ a0 k, LeO (spec_l5Stacks.f k a0) (spec_l5Stacks.f (k + 1) a0) := by
 intro a0 k
 have ih0 := spec_l5Stacks.mono_l k
 unfold spec_l5Stacks.f
 exact qL
def spec_l5Stacks.T4 : Bool × List (List Nat × List Nat) := (true, [([], []), ([], []), ([0, 1], [0, 1]), ([2], [2]), ([3], [3]), ([4], [4]), ([5], [5]), ([6, 5], [6]), ([7], [7]), ([7], [7]), ([8, 9, 7], [7, 8, 9]), ([10, 7], [7, 10]), ([11, 7], [7, 11]), ([12, 7, 7], [7, 12]), ([13, 7], [7, 13]), ([7, 14], [7, 14]), ([15, 13], [15]), ([16], [16]), ([16], [16]), ([17, 18, 16], [16, 17, 18]), ([19, 16], [16, 19]), ([20, 16], [16, 20]), ([16], [16]), ([16], [16]), ([22, 23, 16], [16, 22, 23]), ([24, 16], [16, 24]), ([25, 16], [16, 25]), ([21, 26, 16, 16], [16, 21, 26]), ([27, 16], [16, 27]), ([16, 28], [16, 28]), ([29, 27], [29]), ([30], [30]), ([31, 30], [30, 31]), ([32, 30, 30], [30, 32]), ([33], [33]), ([33], [33]), ([35, 33], [33, 35]), ([34, 36, 33], [33, 34, 36]), ([37, 33], [33, 37]), ([38, 33], [33, 38]), ([33], [33]), ([33], [33]), ([40, 41, 33], [33, 40, 41]), ([42, 33], [33, 42]), ([43, 33], [33, 43]), ([39, 44, 33], [33, 39, 44]), ([33, 45, 30], [30, 33, 45]), ([30, 46], [30, 46])])
def spec_l5Stacks.B4 : List Nat := [0, 0, 3, 7, 15, 31, 63, 127, 255, 255, 1023, 2047, 4095, 8191, 16383, 32767, 65535, 131071, 131071, 524287, 1048575, 2097151, 131071, 131071, 12713983, 29491199, 63045631, 134217727, 268435455, 536870911, 1073741823, 2147483647, 4294967295, 8589934591, 17179869183, 17179869183, 51539607551, 137438953471, 274877906943, 549755813887, 17179869183, 17179869183, 3315714752511, 7713761263615, 16509854285823, 35184372088831, 70368744177663, 140737488355327]
theorem spec_l5Stacks.tab4 : rtab .any (opsOf Try.f82 4) = spec_l5Stacks.T4 := by kernel_rfl
theorem spec_l5Stacks.bits4 : waitsOk spec_l5Stacks.T4.2 spec_l5Stacks.B4 = true := by kernel_rfl
set_option maxHeartbeats 8000000 in
set_option maxRecDepth 100000 in
theorem spec_l5Stacks.calls (k : Nat) (A0 : Option Addr) (c0 : Nat) (l0 : List (S72)) (r : Bool) (w : World) (hr0 : Kd.C k72 w A0 l0.length l0) (hc0 : l0.length ≤ c0) (h : spec_l5Stacks.f k l0 = some r) :
  Calls Try.prog 82 #[.slice A0 l0.length c0] w fun e w' => e = .returned (.bool r) ∧ Below w.heap.size w w' := by
 have HR0 := aM hr0
 have HC0 := aM hc0
 clear hr0 hc0
 have HB := aM (Below.refl w.heap.size w)
 have H : (spec_l5Stacks.l0 k l0 0) = some r := h
 clear h
 have H' := aM H
 clear H
 go_enter Try.func82, Try.ntmps82
 go_wp2
 go_loopg [3] k (fun kq v3 w' => ∃ (x3_1 : Int), v3 = .int .i64 x3_1 ∧ Aside0 (spec_l5Stacks.l0 kq l0 x3_1 = some r) ∧ Aside0 (kq ≤ k) ∧ Aside0 (Below w.heap.size w w'))
 case atStart => exact ⟨(0), qz5, H', ⟨Nat.le_refl _⟩, ⟨qz1⟩⟩
 case round =>
  clear H'
  obtain ⟨x3_1, rfl, HA, HK1, HB⟩ := hrel
  cases gk with
  | zero => exact absurd HA.out (by simp [spec_l5Stacks.l0])
  | succ k1 =>
   have H := HA.out
   clear HA
   simp only [spec_l5Stacks.l0] at H
   by_cases c2 : x3_1 < (l0.length : Int)
   {
   rw [if_pos c2] at H
   have c2b0 := decide_eq_true c2
   clear c2
   by_cases c3 : 0 ≤ x3_1
   {
   rw [if_pos c3] at H
   have c3b0 := decide_eq_true c3
   clear c3
   replace H := Option.bind_eq_some_iff.mp H
   obtain ⟨t168, A40, H⟩ := H
   replace H : (if t168 = true then ((spec_l1In.f ((rd_T72 l0 x3_1).f1) 1 1000).bind fun t170 => (if t170 = true then ((spec_l1In.f ((rd_T72 l0 x3_1).f2) 0 ((rd_T72 l0 x3_1).f1)).bind fun t173 => (if t173 = true then (if x3_1 > 0 then (if 0 ≤ (wrap64 (x3_1 - 1)) then (if (wrap64 (x3_1 - 1)) < (l0.length : Int) then (if ((rd_T72 l0 (wrap64 (x3_1 - 1))).f0) ≥ ((rd_T72 l0 x3_1).f0) then (some false) else (spec_l5Stacks.l0 k1 l0 (wrap64 (x3_1 + 1)))) else (none)) else (none)) else (spec_l5Stacks.l0 k1 l0 (wrap64 (x3_1 + 1)))) else (some false))) else (some false))) else (some false)) = some r := H
   have A4 := aM A40
   clear A40
   by_cases c5 : t168 = true
   {
   subst c5
   rw [if_pos rfl] at H
   replace H := Option.bind_eq_some_iff.mp H
   obtain ⟨t170, A60, H⟩ := H
   replace H : (if t170 = true then ((spec_l1In.f ((rd_T72 l0 x3_1).f2) 0 ((rd_T72 l0 x3_1).f1)).bind fun t173 => (if t173 = true then (if x3_1 > 0 then (if 0 ≤ (wrap64 (x3_1 - 1)) then (if (wrap64 (x3_1 - 1)) < (l0.length : Int) then (if ((rd_T72 l0 (wrap64 (x3_1 - 1))).f0) ≥ ((rd_T72 l0 x3_1).f0) then (some false) else (spec_l5Stacks.l0 k1 l0 (wrap64 (x3_1 + 1)))) else (none)) else (none)) else (spec_l5Stacks.l0 k1 l0 (wrap64 (x3_1 + 1)))) else (some false))) else (some false)) = some r := H
   have A6 := aM A60
   clear A60
   by_cases c7 : t170 = true
   {
   subst c7
   rw [if_pos rfl] at H
   replace H := Option.bind_eq_some_iff.mp H
   obtain ⟨t173, A80, H⟩ := H
   replace H : (if t173 = true then (if x3_1 > 0 then (if 0 ≤ (wrap64 (x3_1 - 1)) then (if (wrap64 (x3_1 - 1)) < (l0.length : Int) then (if ((rd_T72 l0 (wrap64 (x3_1 - 1))).f0) ≥ ((rd_T72 l0 x3_1).f0) then (some false) else (spec_l5Stacks.l0 k1 l0 (wrap64 (x3_1 + 1)))) else (none)) else (none)) else (spec_l5Stacks.l0 k1 l0 (wrap64 (x3_1 + 1)))) else (some false)) = some r := H
   have A8 := aM A80
   clear A80
   by_cases c9 : t173 = true
   {
   subst c9
   rw [if_pos rfl] at H
   by_cases c10 : x3_1 > 0
   {
   rw [if_pos c10] at H
   have c10b0 := decide_eq_true c10
   clear c10
   obtain ⟨ji11, hji11⟩ : ∃ j_ : Int, (wrap64 (x3_1 - 1)) = j_ := ⟨_, rfl⟩
   replace H : (if 0 ≤ (ji11) then (if (ji11) < (l0.length : Int) then (if ((rd_T72 l0 (ji11)).f0) ≥ ((rd_T72 l0 x3_1).f0) then (some false) else (spec_l5Stacks.l0 k1 l0 (wrap64 (x3_1 + 1)))) else (none)) else (none)) = some r := by first | (rw [hji11] at H; exact H) | (simp only [hji11] at H ⊢; exact H)
   (try rw [hji11] at A4)
   (try rw [hji11] at A6)
   (try rw [hji11] at A8)
   have hji11w : (IntKind.i64.wrap (x3_1 - 1)) = ji11 := (i64_w _).trans hji11
   by_cases c12 : 0 ≤ (ji11)
   {
   rw [if_pos c12] at H
   have c12b0 := decide_eq_true c12
   clear c12
   by_cases c13 : (ji11) < (l0.length : Int)
   {
   rw [if_pos c13] at H
   have c13b0 := decide_eq_true c13
   clear c13
   by_cases c14 : ((rd_T72 l0 (ji11)).f0) ≥ ((rd_T72 l0 x3_1).f0)
   {
   rw [if_pos c14] at H
   have c14b0 := decide_eq_true c14
   clear c14
   obtain rfl := Option.some.inj H
   simp only [Option.some.injEq, Prod.mk.injEq] at H
   obtain ⟨rfl⟩ := H
   try go_wp2
   replace HB := aM (below_drew1 HB.out)
   have p167 : 0 ≤ (x3_1 : Int) := dt_
   have q167 : x3_1 < (l0.length : Int) := dt_
   obtain ⟨ad167, e167, hx167_0, hx167_1, hx167_2⟩ := at_T72 HR0.out x3_1 p167 q167
   have hw167_2 := hx167_2
   have hw167_1 := hx167_1
   have hw167_0 := hx167_0
   cases e167
   replace hx167_0 := cB_ hx167_0
   replace hx167_1 := cB_ hx167_1
   replace hx167_2 := cB_ hx167_2
   replace p167 := eq_true p167
   replace q167 := eq_true q167
   have p169 : 0 ≤ (x3_1 : Int) := dt_
   have q169 : x3_1 < (l0.length : Int) := dt_
   obtain ⟨ad169, e169, hx169_0, hx169_1, hx169_2⟩ := at_T72 HR0.out x3_1 p169 q169
   have hw169_2 := hx169_2
   have hw169_1 := hx169_1
   have hw169_0 := hx169_0
   obtain rfl : ad167 = ad169 := (by injection e169)
   replace hx169_0 := cB_ hx169_0
   replace hx169_1 := cB_ hx169_1
   replace hx169_2 := cB_ hx169_2
   replace p169 := eq_true p169
   replace q169 := eq_true q169
   have p171 : 0 ≤ (x3_1 : Int) := dt_
   have q171 : x3_1 < (l0.length : Int) := dt_
   obtain ⟨ad171, e171, hx171_0, hx171_1, hx171_2⟩ := at_T72 HR0.out x3_1 p171 q171
   have hw171_2 := hx171_2
   have hw171_1 := hx171_1
   have hw171_0 := hx171_0
   obtain rfl : ad167 = ad171 := (by injection e171)
   replace hx171_0 := cB_ hx171_0
   replace hx171_1 := cB_ hx171_1
   replace hx171_2 := cB_ hx171_2
   replace p171 := eq_true p171
   replace q171 := eq_true q171
   have p172 : 0 ≤ (x3_1 : Int) := dt_
   have q172 : x3_1 < (l0.length : Int) := dt_
   obtain ⟨ad172, e172, hx172_0, hx172_1, hx172_2⟩ := at_T72 HR0.out x3_1 p172 q172
   have hw172_2 := hx172_2
   have hw172_1 := hx172_1
   have hw172_0 := hx172_0
   obtain rfl : ad167 = ad172 := (by injection e172)
   replace hx172_0 := cB_ hx172_0
   replace hx172_1 := cB_ hx172_1
   replace hx172_2 := cB_ hx172_2
   replace p172 := eq_true p172
   replace q172 := eq_true q172
   have p174 : 0 ≤ ((ji11) : Int) := dt_
   have q174 : (ji11) < (l0.length : Int) := dt_
   obtain ⟨ad174, e174, hx174_0, hx174_1, hx174_2⟩ := at_T72 HR0.out (ji11) p174 q174
   have hw174_2 := hx174_2
   have hw174_1 := hx174_1
   have hw174_0 := hx174_0
   obtain rfl : ad167 = ad174 := (by injection e174)
   replace hx174_0 := cB_ hx174_0
   replace hx174_1 := cB_ hx174_1
   replace hx174_2 := cB_ hx174_2
   replace p174 := eq_true p174
   replace q174 := eq_true q174
   have p175 : 0 ≤ (x3_1 : Int) := dt_
   have q175 : x3_1 < (l0.length : Int) := dt_
   obtain ⟨ad175, e175, hx175_0, hx175_1, hx175_2⟩ := at_T72 HR0.out x3_1 p175 q175
   have hw175_2 := hx175_2
   have hw175_1 := hx175_1
   have hw175_0 := hx175_0
   obtain rfl : ad167 = ad175 := (by injection e175)
   replace hx175_0 := cB_ hx175_0
   replace hx175_1 := cB_ hx175_1
   replace hx175_2 := cB_ hx175_2
   replace p175 := eq_true p175
   replace q175 := eq_true q175
   refine start_ (n := 48) (S := fun w' => w'.cell? (ad167.add ((x3_1).toNat * 3)) = some (.int .i64 ((rd_T72 l0 x3_1).f0)) ∧ w'.cell? ⟨(ad167.add ((x3_1).toNat * 3)).block, (ad167.add ((x3_1).toNat * 3)).off + 1, none⟩ = some (.int .i64 ((rd_T72 l0 x3_1).f1)) ∧ w'.cell? ⟨(ad167.add ((x3_1).toNat * 3)).block, (ad167.add ((x3_1).toNat * 3)).off + 2, none⟩ = some (.int .i64 ((rd_T72 l0 x3_1).f2)) ∧ w'.cell? (ad167.add ((x3_1).toNat * 3)) = some (.int .i64 ((rd_T72 l0 x3_1).f0)) ∧ w'.cell? ⟨(ad167.add ((x3_1).toNat * 3)).block, (ad167.add ((x3_1).toNat * 3)).off + 1, none⟩ = some (.int .i64 ((rd_T72 l0 x3_1).f1)) ∧ w'.cell? ⟨(ad167.add ((x3_1).toNat * 3)).block, (ad167.add ((x3_1).toNat * 3)).off + 2, none⟩ = some (.int .i64 ((rd_T72 l0 x3_1).f2)) ∧ w'.cell? (ad167.add ((x3_1).toNat * 3)) = some (.int .i64 ((rd_T72 l0 x3_1).f0)) ∧ w'.cell? ⟨(ad167.add ((x3_1).toNat * 3)).block, (ad167.add ((x3_1).toNat * 3)).off + 1, none⟩ = some (.int .i64 ((rd_T72 l0 x3_1).f1)) ∧ w'.cell? ⟨(ad167.add ((x3_1).toNat * 3)).block, (ad167.add ((x3_1).toNat * 3)).off + 2, none⟩ = some (.int .i64 ((rd_T72 l0 x3_1).f2)) ∧ w'.cell? (ad167.add ((x3_1).toNat * 3)) = some (.int .i64 ((rd_T72 l0 x3_1).f0)) ∧ w'.cell? ⟨(ad167.add ((x3_1).toNat * 3)).block, (ad167.add ((x3_1).toNat * 3)).off + 1, none⟩ = some (.int .i64 ((rd_T72 l0 x3_1).f1)) ∧ w'.cell? ⟨(ad167.add ((x3_1).toNat * 3)).block, (ad167.add ((x3_1).toNat * 3)).off + 2, none⟩ = some (.int .i64 ((rd_T72 l0 x3_1).f2)) ∧ w'.cell? (ad167.add (((ji11)).toNat * 3)) = some (.int .i64 ((rd_T72 l0 (ji11)).f0)) ∧ w'.cell? ⟨(ad167.add (((ji11)).toNat * 3)).block, (ad167.add (((ji11)).toNat * 3)).off + 1, none⟩ = some (.int .i64 ((rd_T72 l0 (ji11)).f1)) ∧ w'.cell? ⟨(ad167.add (((ji11)).toNat * 3)).block, (ad167.add (((ji11)).toNat * 3)).off + 2, none⟩ = some (.int .i64 ((rd_T72 l0 (ji11)).f2)) ∧ w'.cell? (ad167.add ((x3_1).toNat * 3)) = some (.int .i64 ((rd_T72 l0 x3_1).f0)) ∧ w'.cell? ⟨(ad167.add ((x3_1).toNat * 3)).block, (ad167.add ((x3_1).toNat * 3)).off + 1, none⟩ = some (.int .i64 ((rd_T72 l0 x3_1).f1)) ∧ w'.cell? ⟨(ad167.add ((x3_1).toNat * 3)).block, (ad167.add ((x3_1).toNat * 3)).off + 2, none⟩ = some (.int .i64 ((rd_T72 l0 x3_1).f2))) (ds := []) #[false, false, false, false, false, false, false, false, false, false, false, false, false, false, false, false, false, false, false, false, false, false, false, false, false, false, false, false, false, false, false, false, false, false, false, false, false, false, false, false, false, false, false, false, false, false, false, false] (by kernel_rfl) rfl rfl ⟨(cB_ hw167_0), (cB_ hw167_1), (cB_ hw167_2), (cB_ hw169_0), (cB_ hw169_1), (cB_ hw169_2), (cB_ hw171_0), (cB_ hw171_1), (cB_ hw171_2), (cB_ hw172_0), (cB_ hw172_1), (cB_ hw172_2), (cB_ hw174_0), (cB_ hw174_1), (cB_ hw174_2), (cB_ hw175_0), (cB_ hw175_1), (cB_ hw175_2)⟩ (fun hHeld => ?_); refine with_tabW spec_l5Stacks.tab4 spec_l5Stacks.bits4 (fun HT_ HW_ => ?_)
   generalize wr.drew = w15 at HB hx167_0 hx167_1 hx167_2 hx169_0 hx169_1 hx169_2 hx171_0 hx171_1 hx171_2 hx172_0 hx172_1 hx172_2 hx174_0 hx174_1 hx174_2 hx175_0 hx175_1 hx175_2 hHeld ⊢
   refine pI_ 0 10 (bqz 48 1) ?_
   refine jI_ 1 11 ?_
   refine jI_ 2 12 ?_
   refine jI_ 3 13 ?_
   refine sI18_ 4 14 ?_
   refine one_ (i := 5) (N := some 15) (bqz 48 63) rfl rfl qzc (by decide) (fun K hK => ?_)
   refine goes_ Try.func81 (by kernel_rfl) rfl #[.int .i64 ((rd_T72 l0 x3_1).f0), .int .i64 1, .int .i64 50] (by rfl) rfl rfl qz4 ?_
   with_reducible refine (spec_l1In.calls ((rd_T72 l0 x3_1).f0) 1 50 true _ A4.out).mono ?_
   rintro e w' ⟨rfl, ⟨nd, rfl⟩⟩
   refine ⟨_, rfl, ?_⟩
   refine hK.out _ _ ⟨(cB_ hw167_0), (cB_ hw167_1), (cB_ hw167_2), (cB_ hw169_0), (cB_ hw169_1), (cB_ hw169_2), (cB_ hw171_0), (cB_ hw171_1), (cB_ hw171_2), (cB_ hw172_0), (cB_ hw172_1), (cB_ hw172_2), (cB_ hw174_0), (cB_ hw174_1), (cB_ hw174_2), (cB_ hw175_0), (cB_ hw175_1), (cB_ hw175_2)⟩ (fun hHeld => ?_)
   clear hK K
   refine nm_ 15 ?_
   refine jI_ 6 16 ?_
   refine jI_ 7 17 ?_
   refine jI_ 8 18 ?_
   refine jI_ 9 19 ?_
   refine jI_ 10 20 ?_
   refine jI_ 11 21 ?_
   refine sI18_ 12 22 ?_
   refine one_ (i := 13) (N := some 23) (bqz 48 16383) rfl rfl qzc (by decide) (fun K hK => ?_)
   refine goes_ Try.func81 (by kernel_rfl) rfl #[.int .i64 ((rd_T72 l0 x3_1).f1), .int .i64 1, .int .i64 1000] (by rfl) rfl rfl qz4 ?_
   with_reducible refine (spec_l1In.calls ((rd_T72 l0 x3_1).f1) 1 1000 true _ A6.out).mono ?_
   rintro e w' ⟨rfl, ⟨nd, rfl⟩⟩
   refine ⟨_, rfl, ?_⟩
   refine hK.out _ _ ⟨(cB_ hw167_0), (cB_ hw167_1), (cB_ hw167_2), (cB_ hw169_0), (cB_ hw169_1), (cB_ hw169_2), (cB_ hw171_0), (cB_ hw171_1), (cB_ hw171_2), (cB_ hw172_0), (cB_ hw172_1), (cB_ hw172_2), (cB_ hw174_0), (cB_ hw174_1), (cB_ hw174_2), (cB_ hw175_0), (cB_ hw175_1), (cB_ hw175_2)⟩ (fun hHeld => ?_)
   clear hK K
   refine nm_ 23 ?_
   refine jI_ 14 24 ?_
   refine jI_ 15 25 ?_
   refine jI_ 16 26 ?_
   refine jI_ 17 27 ?_
   refine jI_ 18 28 ?_
   refine jI_ 19 29 ?_
   refine jI_ 20 30 ?_
   refine jI_ 22 32 ?_
   refine jI_ 23 33 ?_
   refine jI_ 24 34 ?_
   refine jI_ 25 35 ?_
   refine sI18_ 21 31 ?_
   refine sI18_ 26 36 ?_
   refine one_ (i := 27) (N := some 37) (bqz 48 268435455) rfl rfl qzc (by decide) (fun K hK => ?_)
   refine goes_ Try.func81 (by kernel_rfl) rfl #[.int .i64 ((rd_T72 l0 x3_1).f2), .int .i64 0, .int .i64 ((rd_T72 l0 x3_1).f1)] (by rfl) rfl rfl qz4 ?_
   with_reducible refine (spec_l1In.calls ((rd_T72 l0 x3_1).f2) 0 ((rd_T72 l0 x3_1).f1) true _ A8.out).mono ?_
   rintro e w' ⟨rfl, ⟨nd, rfl⟩⟩
   refine ⟨_, rfl, ?_⟩
   refine hK.out _ _ ⟨(cB_ hw167_0), (cB_ hw167_1), (cB_ hw167_2), (cB_ hw169_0), (cB_ hw169_1), (cB_ hw169_2), (cB_ hw171_0), (cB_ hw171_1), (cB_ hw171_2), (cB_ hw172_0), (cB_ hw172_1), (cB_ hw172_2), (cB_ hw174_0), (cB_ hw174_1), (cB_ hw174_2), (cB_ hw175_0), (cB_ hw175_1), (cB_ hw175_2)⟩ (fun hHeld => ?_)
   clear hK K
   refine nm_ 37 ?_
   refine jI_ 28 38 ?_
   refine jI_ 29 39 ?_
   refine jI_ 30 40 ?_
   refine jI_ 31 41 ?_
   refine jI_ 32 42 ?_
   refine jI_ 33 43 ?_
   refine jI_ 34 44 ?_
   refine jI_ 35 45 ?_
   refine jI_ 36 46 ?_
   refine jI_ 37 47 ?_
   refine jI_ 38 48 ?_
   refine jI_ 40 50 ?_
   refine jI_ 41 51 ?_
   refine jI_ 42 52 ?_
   refine jI_ 43 53 ?_
   refine sI18_ 39 49 ?_
   refine sI18_ 44 54 ?_
   refine jI_ 45 55 ?_
   refine jI_ 46 56 ?_
   refine jI_ 47 57 ?_
   refine done_ (done_of HT_.out (by kernel_rfl)) ?_
   try go_wp2
   go_ret
   exact ⟨by first | rfl | (simp [errW_none, errW_some] <;> rfl) | (simp only [← hji11]; first | rfl | (simp [errW_none, errW_some] <;> rfl)) | (simp [*, errW_none, errW_some] <;> rfl), qz1⟩
   }
   {
   rw [if_neg c14] at H
   have c14b0 := decide_eq_false c14
   clear c14
   have H' := aM H
   clear H
   try go_wp2
   replace HB := aM (below_drew1 HB.out)
   have p167 : 0 ≤ (x3_1 : Int) := dt_
   have q167 : x3_1 < (l0.length : Int) := dt_
   obtain ⟨ad167, e167, hx167_0, hx167_1, hx167_2⟩ := at_T72 HR0.out x3_1 p167 q167
   have hw167_2 := hx167_2
   have hw167_1 := hx167_1
   have hw167_0 := hx167_0
   cases e167
   replace hx167_0 := cB_ hx167_0
   replace hx167_1 := cB_ hx167_1
   replace hx167_2 := cB_ hx167_2
   replace p167 := eq_true p167
   replace q167 := eq_true q167
   have p169 : 0 ≤ (x3_1 : Int) := dt_
   have q169 : x3_1 < (l0.length : Int) := dt_
   obtain ⟨ad169, e169, hx169_0, hx169_1, hx169_2⟩ := at_T72 HR0.out x3_1 p169 q169
   have hw169_2 := hx169_2
   have hw169_1 := hx169_1
   have hw169_0 := hx169_0
   obtain rfl : ad167 = ad169 := (by injection e169)
   replace hx169_0 := cB_ hx169_0
   replace hx169_1 := cB_ hx169_1
   replace hx169_2 := cB_ hx169_2
   replace p169 := eq_true p169
   replace q169 := eq_true q169
   have p171 : 0 ≤ (x3_1 : Int) := dt_
   have q171 : x3_1 < (l0.length : Int) := dt_
   obtain ⟨ad171, e171, hx171_0, hx171_1, hx171_2⟩ := at_T72 HR0.out x3_1 p171 q171
   have hw171_2 := hx171_2
   have hw171_1 := hx171_1
   have hw171_0 := hx171_0
   obtain rfl : ad167 = ad171 := (by injection e171)
   replace hx171_0 := cB_ hx171_0
   replace hx171_1 := cB_ hx171_1
   replace hx171_2 := cB_ hx171_2
   replace p171 := eq_true p171
   replace q171 := eq_true q171
   have p172 : 0 ≤ (x3_1 : Int) := dt_
   have q172 : x3_1 < (l0.length : Int) := dt_
   obtain ⟨ad172, e172, hx172_0, hx172_1, hx172_2⟩ := at_T72 HR0.out x3_1 p172 q172
   have hw172_2 := hx172_2
   have hw172_1 := hx172_1
   have hw172_0 := hx172_0
   obtain rfl : ad167 = ad172 := (by injection e172)
   replace hx172_0 := cB_ hx172_0
   replace hx172_1 := cB_ hx172_1
   replace hx172_2 := cB_ hx172_2
   replace p172 := eq_true p172
   replace q172 := eq_true q172
   have p174 : 0 ≤ ((ji11) : Int) := dt_
   have q174 : (ji11) < (l0.length : Int) := dt_
   obtain ⟨ad174, e174, hx174_0, hx174_1, hx174_2⟩ := at_T72 HR0.out (ji11) p174 q174
   have hw174_2 := hx174_2
   have hw174_1 := hx174_1
   have hw174_0 := hx174_0
   obtain rfl : ad167 = ad174 := (by injection e174)
   replace hx174_0 := cB_ hx174_0
   replace hx174_1 := cB_ hx174_1
   replace hx174_2 := cB_ hx174_2
   replace p174 := eq_true p174
   replace q174 := eq_true q174
   have p175 : 0 ≤ (x3_1 : Int) := dt_
   have q175 : x3_1 < (l0.length : Int) := dt_
   obtain ⟨ad175, e175, hx175_0, hx175_1, hx175_2⟩ := at_T72 HR0.out x3_1 p175 q175
   have hw175_2 := hx175_2
   have hw175_1 := hx175_1
   have hw175_0 := hx175_0
   obtain rfl : ad167 = ad175 := (by injection e175)
   replace hx175_0 := cB_ hx175_0
   replace hx175_1 := cB_ hx175_1
   replace hx175_2 := cB_ hx175_2
   replace p175 := eq_true p175
   replace q175 := eq_true q175
   refine start_ (n := 48) (S := fun w' => w'.cell? (ad167.add ((x3_1).toNat * 3)) = some (.int .i64 ((rd_T72 l0 x3_1).f0)) ∧ w'.cell? ⟨(ad167.add ((x3_1).toNat * 3)).block, (ad167.add ((x3_1).toNat * 3)).off + 1, none⟩ = some (.int .i64 ((rd_T72 l0 x3_1).f1)) ∧ w'.cell? ⟨(ad167.add ((x3_1).toNat * 3)).block, (ad167.add ((x3_1).toNat * 3)).off + 2, none⟩ = some (.int .i64 ((rd_T72 l0 x3_1).f2)) ∧ w'.cell? (ad167.add ((x3_1).toNat * 3)) = some (.int .i64 ((rd_T72 l0 x3_1).f0)) ∧ w'.cell? ⟨(ad167.add ((x3_1).toNat * 3)).block, (ad167.add ((x3_1).toNat * 3)).off + 1, none⟩ = some (.int .i64 ((rd_T72 l0 x3_1).f1)) ∧ w'.cell? ⟨(ad167.add ((x3_1).toNat * 3)).block, (ad167.add ((x3_1).toNat * 3)).off + 2, none⟩ = some (.int .i64 ((rd_T72 l0 x3_1).f2)) ∧ w'.cell? (ad167.add ((x3_1).toNat * 3)) = some (.int .i64 ((rd_T72 l0 x3_1).f0)) ∧ w'.cell? ⟨(ad167.add ((x3_1).toNat * 3)).block, (ad167.add ((x3_1).toNat * 3)).off + 1, none⟩ = some (.int .i64 ((rd_T72 l0 x3_1).f1)) ∧ w'.cell? ⟨(ad167.add ((x3_1).toNat * 3)).block, (ad167.add ((x3_1).toNat * 3)).off + 2, none⟩ = some (.int .i64 ((rd_T72 l0 x3_1).f2)) ∧ w'.cell? (ad167.add ((x3_1).toNat * 3)) = some (.int .i64 ((rd_T72 l0 x3_1).f0)) ∧ w'.cell? ⟨(ad167.add ((x3_1).toNat * 3)).block, (ad167.add ((x3_1).toNat * 3)).off + 1, none⟩ = some (.int .i64 ((rd_T72 l0 x3_1).f1)) ∧ w'.cell? ⟨(ad167.add ((x3_1).toNat * 3)).block, (ad167.add ((x3_1).toNat * 3)).off + 2, none⟩ = some (.int .i64 ((rd_T72 l0 x3_1).f2)) ∧ w'.cell? (ad167.add (((ji11)).toNat * 3)) = some (.int .i64 ((rd_T72 l0 (ji11)).f0)) ∧ w'.cell? ⟨(ad167.add (((ji11)).toNat * 3)).block, (ad167.add (((ji11)).toNat * 3)).off + 1, none⟩ = some (.int .i64 ((rd_T72 l0 (ji11)).f1)) ∧ w'.cell? ⟨(ad167.add (((ji11)).toNat * 3)).block, (ad167.add (((ji11)).toNat * 3)).off + 2, none⟩ = some (.int .i64 ((rd_T72 l0 (ji11)).f2)) ∧ w'.cell? (ad167.add ((x3_1).toNat * 3)) = some (.int .i64 ((rd_T72 l0 x3_1).f0)) ∧ w'.cell? ⟨(ad167.add ((x3_1).toNat * 3)).block, (ad167.add ((x3_1).toNat * 3)).off + 1, none⟩ = some (.int .i64 ((rd_T72 l0 x3_1).f1)) ∧ w'.cell? ⟨(ad167.add ((x3_1).toNat * 3)).block, (ad167.add ((x3_1).toNat * 3)).off + 2, none⟩ = some (.int .i64 ((rd_T72 l0 x3_1).f2))) (ds := []) #[false, false, false, false, false, false, false, false, false, false, false, false, false, false, false, false, false, false, false, false, false, false, false, false, false, false, false, false, false, false, false, false, false, false, false, false, false, false, false, false, false, false, false, false, false, false, false, false] (by kernel_rfl) rfl rfl ⟨(cB_ hw167_0), (cB_ hw167_1), (cB_ hw167_2), (cB_ hw169_0), (cB_ hw169_1), (cB_ hw169_2), (cB_ hw171_0), (cB_ hw171_1), (cB_ hw171_2), (cB_ hw172_0), (cB_ hw172_1), (cB_ hw172_2), (cB_ hw174_0), (cB_ hw174_1), (cB_ hw174_2), (cB_ hw175_0), (cB_ hw175_1), (cB_ hw175_2)⟩ (fun hHeld => ?_); refine with_tabW spec_l5Stacks.tab4 spec_l5Stacks.bits4 (fun HT_ HW_ => ?_)
   generalize wr.drew = w16 at HB hx167_0 hx167_1 hx167_2 hx169_0 hx169_1 hx169_2 hx171_0 hx171_1 hx171_2 hx172_0 hx172_1 hx172_2 hx174_0 hx174_1 hx174_2 hx175_0 hx175_1 hx175_2 hHeld ⊢
   refine pI_ 0 10 (bqz 48 1) ?_
   refine jI_ 1 11 ?_
   refine jI_ 2 12 ?_
   refine jI_ 3 13 ?_
   refine sI18_ 4 14 ?_
   refine one_ (i := 5) (N := some 15) (bqz 48 63) rfl rfl qzc (by decide) (fun K hK => ?_)
   refine goes_ Try.func81 (by kernel_rfl) rfl #[.int .i64 ((rd_T72 l0 x3_1).f0), .int .i64 1, .int .i64 50] (by rfl) rfl rfl qz4 ?_
   with_reducible refine (spec_l1In.calls ((rd_T72 l0 x3_1).f0) 1 50 true _ A4.out).mono ?_
   rintro e w' ⟨rfl, ⟨nd, rfl⟩⟩
   refine ⟨_, rfl, ?_⟩
   refine hK.out _ _ ⟨(cB_ hw167_0), (cB_ hw167_1), (cB_ hw167_2), (cB_ hw169_0), (cB_ hw169_1), (cB_ hw169_2), (cB_ hw171_0), (cB_ hw171_1), (cB_ hw171_2), (cB_ hw172_0), (cB_ hw172_1), (cB_ hw172_2), (cB_ hw174_0), (cB_ hw174_1), (cB_ hw174_2), (cB_ hw175_0), (cB_ hw175_1), (cB_ hw175_2)⟩ (fun hHeld => ?_)
   clear hK K
   refine nm_ 15 ?_
   refine jI_ 6 16 ?_
   refine jI_ 7 17 ?_
   refine jI_ 8 18 ?_
   refine jI_ 9 19 ?_
   refine jI_ 10 20 ?_
   refine jI_ 11 21 ?_
   refine sI18_ 12 22 ?_
   refine one_ (i := 13) (N := some 23) (bqz 48 16383) rfl rfl qzc (by decide) (fun K hK => ?_)
   refine goes_ Try.func81 (by kernel_rfl) rfl #[.int .i64 ((rd_T72 l0 x3_1).f1), .int .i64 1, .int .i64 1000] (by rfl) rfl rfl qz4 ?_
   with_reducible refine (spec_l1In.calls ((rd_T72 l0 x3_1).f1) 1 1000 true _ A6.out).mono ?_
   rintro e w' ⟨rfl, ⟨nd, rfl⟩⟩
   refine ⟨_, rfl, ?_⟩
   refine hK.out _ _ ⟨(cB_ hw167_0), (cB_ hw167_1), (cB_ hw167_2), (cB_ hw169_0), (cB_ hw169_1), (cB_ hw169_2), (cB_ hw171_0), (cB_ hw171_1), (cB_ hw171_2), (cB_ hw172_0), (cB_ hw172_1), (cB_ hw172_2), (cB_ hw174_0), (cB_ hw174_1), (cB_ hw174_2), (cB_ hw175_0), (cB_ hw175_1), (cB_ hw175_2)⟩ (fun hHeld => ?_)
   clear hK K
   refine nm_ 23 ?_
   refine jI_ 14 24 ?_
   refine jI_ 15 25 ?_
   refine jI_ 16 26 ?_
   refine jI_ 17 27 ?_
   refine jI_ 18 28 ?_
   refine jI_ 19 29 ?_
   refine jI_ 20 30 ?_
   refine jI_ 22 32 ?_
   refine jI_ 23 33 ?_
   refine jI_ 24 34 ?_
   refine jI_ 25 35 ?_
   refine sI18_ 21 31 ?_
   refine sI18_ 26 36 ?_
   refine one_ (i := 27) (N := some 37) (bqz 48 268435455) rfl rfl qzc (by decide) (fun K hK => ?_)
   refine goes_ Try.func81 (by kernel_rfl) rfl #[.int .i64 ((rd_T72 l0 x3_1).f2), .int .i64 0, .int .i64 ((rd_T72 l0 x3_1).f1)] (by rfl) rfl rfl qz4 ?_
   with_reducible refine (spec_l1In.calls ((rd_T72 l0 x3_1).f2) 0 ((rd_T72 l0 x3_1).f1) true _ A8.out).mono ?_
   rintro e w' ⟨rfl, ⟨nd, rfl⟩⟩
   refine ⟨_, rfl, ?_⟩
   refine hK.out _ _ ⟨(cB_ hw167_0), (cB_ hw167_1), (cB_ hw167_2), (cB_ hw169_0), (cB_ hw169_1), (cB_ hw169_2), (cB_ hw171_0), (cB_ hw171_1), (cB_ hw171_2), (cB_ hw172_0), (cB_ hw172_1), (cB_ hw172_2), (cB_ hw174_0), (cB_ hw174_1), (cB_ hw174_2), (cB_ hw175_0), (cB_ hw175_1), (cB_ hw175_2)⟩ (fun hHeld => ?_)
   clear hK K
   refine nm_ 37 ?_
   refine jI_ 28 38 ?_
   refine jI_ 29 39 ?_
   refine jI_ 30 40 ?_
   refine jI_ 31 41 ?_
   refine jI_ 32 42 ?_
   refine jI_ 33 43 ?_
   refine jI_ 34 44 ?_
   refine jI_ 35 45 ?_
   refine jI_ 36 46 ?_
   refine jI_ 37 47 ?_
   refine jI_ 38 48 ?_
   refine jI_ 40 50 ?_
   refine jI_ 41 51 ?_
   refine jI_ 42 52 ?_
   refine jI_ 43 53 ?_
   refine sI18_ 39 49 ?_
   refine sI18_ 44 54 ?_
   refine jI_ 45 55 ?_
   refine jI_ 46 56 ?_
   refine jI_ 47 57 ?_
   refine done_ (done_of HT_.out (by kernel_rfl)) ?_
   try go_wp2
   go_roundg k1
   case measure => have := HK1.out; omega
   case rel => exact ⟨(wrap64 (x3_1 + 1)), qz5, H', ⟨by have := HK1.out; omega⟩, ⟨qz1⟩⟩
   }
   }
   {
   exact an_ c13 H
   }
   }
   {
   exact an_ c12 H
   }
   }
   {
   rw [if_neg c10] at H
   have c10b0 := decide_eq_false c10
   clear c10
   have H' := aM H
   clear H
   try go_wp2
   replace HB := aM (below_drew1 HB.out)
   have p167 : 0 ≤ (x3_1 : Int) := dt_
   have q167 : x3_1 < (l0.length : Int) := dt_
   obtain ⟨ad167, e167, hx167_0, hx167_1, hx167_2⟩ := at_T72 HR0.out x3_1 p167 q167
   have hw167_2 := hx167_2
   have hw167_1 := hx167_1
   have hw167_0 := hx167_0
   cases e167
   replace hx167_0 := cB_ hx167_0
   replace hx167_1 := cB_ hx167_1
   replace hx167_2 := cB_ hx167_2
   replace p167 := eq_true p167
   replace q167 := eq_true q167
   have p169 : 0 ≤ (x3_1 : Int) := dt_
   have q169 : x3_1 < (l0.length : Int) := dt_
   obtain ⟨ad169, e169, hx169_0, hx169_1, hx169_2⟩ := at_T72 HR0.out x3_1 p169 q169
   have hw169_2 := hx169_2
   have hw169_1 := hx169_1
   have hw169_0 := hx169_0
   obtain rfl : ad167 = ad169 := (by injection e169)
   replace hx169_0 := cB_ hx169_0
   replace hx169_1 := cB_ hx169_1
   replace hx169_2 := cB_ hx169_2
   replace p169 := eq_true p169
   replace q169 := eq_true q169
   have p171 : 0 ≤ (x3_1 : Int) := dt_
   have q171 : x3_1 < (l0.length : Int) := dt_
   obtain ⟨ad171, e171, hx171_0, hx171_1, hx171_2⟩ := at_T72 HR0.out x3_1 p171 q171
   have hw171_2 := hx171_2
   have hw171_1 := hx171_1
   have hw171_0 := hx171_0
   obtain rfl : ad167 = ad171 := (by injection e171)
   replace hx171_0 := cB_ hx171_0
   replace hx171_1 := cB_ hx171_1
   replace hx171_2 := cB_ hx171_2
   replace p171 := eq_true p171
   replace q171 := eq_true q171
   have p172 : 0 ≤ (x3_1 : Int) := dt_
   have q172 : x3_1 < (l0.length : Int) := dt_
   obtain ⟨ad172, e172, hx172_0, hx172_1, hx172_2⟩ := at_T72 HR0.out x3_1 p172 q172
   have hw172_2 := hx172_2
   have hw172_1 := hx172_1
   have hw172_0 := hx172_0
   obtain rfl : ad167 = ad172 := (by injection e172)
   replace hx172_0 := cB_ hx172_0
   replace hx172_1 := cB_ hx172_1
   replace hx172_2 := cB_ hx172_2
   replace p172 := eq_true p172
   replace q172 := eq_true q172
   refine start_ (n := 48) (S := fun w' => w'.cell? (ad167.add ((x3_1).toNat * 3)) = some (.int .i64 ((rd_T72 l0 x3_1).f0)) ∧ w'.cell? ⟨(ad167.add ((x3_1).toNat * 3)).block, (ad167.add ((x3_1).toNat * 3)).off + 1, none⟩ = some (.int .i64 ((rd_T72 l0 x3_1).f1)) ∧ w'.cell? ⟨(ad167.add ((x3_1).toNat * 3)).block, (ad167.add ((x3_1).toNat * 3)).off + 2, none⟩ = some (.int .i64 ((rd_T72 l0 x3_1).f2)) ∧ w'.cell? (ad167.add ((x3_1).toNat * 3)) = some (.int .i64 ((rd_T72 l0 x3_1).f0)) ∧ w'.cell? ⟨(ad167.add ((x3_1).toNat * 3)).block, (ad167.add ((x3_1).toNat * 3)).off + 1, none⟩ = some (.int .i64 ((rd_T72 l0 x3_1).f1)) ∧ w'.cell? ⟨(ad167.add ((x3_1).toNat * 3)).block, (ad167.add ((x3_1).toNat * 3)).off + 2, none⟩ = some (.int .i64 ((rd_T72 l0 x3_1).f2)) ∧ w'.cell? (ad167.add ((x3_1).toNat * 3)) = some (.int .i64 ((rd_T72 l0 x3_1).f0)) ∧ w'.cell? ⟨(ad167.add ((x3_1).toNat * 3)).block, (ad167.add ((x3_1).toNat * 3)).off + 1, none⟩ = some (.int .i64 ((rd_T72 l0 x3_1).f1)) ∧ w'.cell? ⟨(ad167.add ((x3_1).toNat * 3)).block, (ad167.add ((x3_1).toNat * 3)).off + 2, none⟩ = some (.int .i64 ((rd_T72 l0 x3_1).f2)) ∧ w'.cell? (ad167.add ((x3_1).toNat * 3)) = some (.int .i64 ((rd_T72 l0 x3_1).f0)) ∧ w'.cell? ⟨(ad167.add ((x3_1).toNat * 3)).block, (ad167.add ((x3_1).toNat * 3)).off + 1, none⟩ = some (.int .i64 ((rd_T72 l0 x3_1).f1)) ∧ w'.cell? ⟨(ad167.add ((x3_1).toNat * 3)).block, (ad167.add ((x3_1).toNat * 3)).off + 2, none⟩ = some (.int .i64 ((rd_T72 l0 x3_1).f2))) (ds := []) #[false, false, false, false, false, false, false, false, false, false, false, false, false, false, false, false, false, false, false, false, false, false, false, false, false, false, false, false, false, false, false, false, false, false, false, false, false, false, false, false, false, false, false, false, false, false, false, false] (by kernel_rfl) rfl rfl ⟨(cB_ hw167_0), (cB_ hw167_1), (cB_ hw167_2), (cB_ hw169_0), (cB_ hw169_1), (cB_ hw169_2), (cB_ hw171_0), (cB_ hw171_1), (cB_ hw171_2), (cB_ hw172_0), (cB_ hw172_1), (cB_ hw172_2)⟩ (fun hHeld => ?_); refine with_tabW spec_l5Stacks.tab4 spec_l5Stacks.bits4 (fun HT_ HW_ => ?_)
   generalize wr.drew = w17 at HB hx167_0 hx167_1 hx167_2 hx169_0 hx169_1 hx169_2 hx171_0 hx171_1 hx171_2 hx172_0 hx172_1 hx172_2 hHeld ⊢
   refine pI_ 0 10 (bqz 48 1) ?_
   refine jI_ 1 11 ?_
   refine jI_ 2 12 ?_
   refine jI_ 3 13 ?_
   refine sI12_ 4 14 ?_
   refine one_ (i := 5) (N := some 15) (bqz 48 63) rfl rfl qzc (by decide) (fun K hK => ?_)
   refine goes_ Try.func81 (by kernel_rfl) rfl #[.int .i64 ((rd_T72 l0 x3_1).f0), .int .i64 1, .int .i64 50] (by rfl) rfl rfl qz4 ?_
   with_reducible refine (spec_l1In.calls ((rd_T72 l0 x3_1).f0) 1 50 true _ A4.out).mono ?_
   rintro e w' ⟨rfl, ⟨nd, rfl⟩⟩
   refine ⟨_, rfl, ?_⟩
   refine hK.out _ _ ⟨(cB_ hw167_0), (cB_ hw167_1), (cB_ hw167_2), (cB_ hw169_0), (cB_ hw169_1), (cB_ hw169_2), (cB_ hw171_0), (cB_ hw171_1), (cB_ hw171_2), (cB_ hw172_0), (cB_ hw172_1), (cB_ hw172_2)⟩ (fun hHeld => ?_)
   clear hK K
   refine nm_ 15 ?_
   refine jI_ 6 16 ?_
   refine jI_ 7 17 ?_
   refine jI_ 8 18 ?_
   refine jI_ 9 19 ?_
   refine jI_ 10 20 ?_
   refine jI_ 11 21 ?_
   refine sI12_ 12 22 ?_
   refine one_ (i := 13) (N := some 23) (bqz 48 16383) rfl rfl qzc (by decide) (fun K hK => ?_)
   refine goes_ Try.func81 (by kernel_rfl) rfl #[.int .i64 ((rd_T72 l0 x3_1).f1), .int .i64 1, .int .i64 1000] (by rfl) rfl rfl qz4 ?_
   with_reducible refine (spec_l1In.calls ((rd_T72 l0 x3_1).f1) 1 1000 true _ A6.out).mono ?_
   rintro e w' ⟨rfl, ⟨nd, rfl⟩⟩
   refine ⟨_, rfl, ?_⟩
   refine hK.out _ _ ⟨(cB_ hw167_0), (cB_ hw167_1), (cB_ hw167_2), (cB_ hw169_0), (cB_ hw169_1), (cB_ hw169_2), (cB_ hw171_0), (cB_ hw171_1), (cB_ hw171_2), (cB_ hw172_0), (cB_ hw172_1), (cB_ hw172_2)⟩ (fun hHeld => ?_)
   clear hK K
   refine nm_ 23 ?_
   refine jI_ 14 24 ?_
   refine jI_ 15 25 ?_
   refine jI_ 16 26 ?_
   refine jI_ 17 27 ?_
   refine jI_ 18 28 ?_
   refine jI_ 19 29 ?_
   refine jI_ 20 30 ?_
   refine jI_ 22 32 ?_
   refine jI_ 23 33 ?_
   refine jI_ 24 34 ?_
   refine jI_ 25 35 ?_
   refine sI12_ 21 31 ?_
   refine sI12_ 26 36 ?_
   refine one_ (i := 27) (N := some 37) (bqz 48 268435455) rfl rfl qzc (by decide) (fun K hK => ?_)
   refine goes_ Try.func81 (by kernel_rfl) rfl #[.int .i64 ((rd_T72 l0 x3_1).f2), .int .i64 0, .int .i64 ((rd_T72 l0 x3_1).f1)] (by rfl) rfl rfl qz4 ?_
   with_reducible refine (spec_l1In.calls ((rd_T72 l0 x3_1).f2) 0 ((rd_T72 l0 x3_1).f1) true _ A8.out).mono ?_
   rintro e w' ⟨rfl, ⟨nd, rfl⟩⟩
   refine ⟨_, rfl, ?_⟩
   refine hK.out _ _ ⟨(cB_ hw167_0), (cB_ hw167_1), (cB_ hw167_2), (cB_ hw169_0), (cB_ hw169_1), (cB_ hw169_2), (cB_ hw171_0), (cB_ hw171_1), (cB_ hw171_2), (cB_ hw172_0), (cB_ hw172_1), (cB_ hw172_2)⟩ (fun hHeld => ?_)
   clear hK K
   refine nm_ 37 ?_
   refine jI_ 28 38 ?_
   refine jI_ 29 39 ?_
   refine jI_ 30 40 ?_
   refine jI_ 31 41 ?_
   refine jI_ 32 42 ?_
   refine jI_ 33 43 ?_
   refine jU_ 34 44 ?_
   refine jU_ 35 45 ?_
   refine jU_ 36 46 ?_
   refine jU_ 37 47 ?_
   refine jU_ 38 48 ?_
   refine jU_ 39 49 ?_
   refine jU_ 40 50 ?_
   refine jU_ 41 51 ?_
   refine jU_ 42 52 ?_
   refine jU_ 43 53 ?_
   refine jU_ 44 54 ?_
   refine jU_ 45 55 ?_
   refine jI_ 46 56 ?_
   refine jI_ 47 57 ?_
   refine done_ (done_of HT_.out (by kernel_rfl)) ?_
   try go_wp2
   go_roundg k1
   case measure => have := HK1.out; omega
   case rel => exact ⟨(wrap64 (x3_1 + 1)), qz5, H', ⟨by have := HK1.out; omega⟩, ⟨qz1⟩⟩
   }
   }
   {
   replace c9 := Bool.eq_false_iff.mpr c9
   subst c9
   rw [if_neg (show ¬ (false = true) by decide)] at H
   obtain rfl := Option.some.inj H
   simp only [Option.some.injEq, Prod.mk.injEq] at H
   obtain ⟨rfl⟩ := H
   try go_wp2
   replace HB := aM (below_drew1 HB.out)
   have p167 : 0 ≤ (x3_1 : Int) := dt_
   have q167 : x3_1 < (l0.length : Int) := dt_
   obtain ⟨ad167, e167, hx167_0, hx167_1, hx167_2⟩ := at_T72 HR0.out x3_1 p167 q167
   have hw167_2 := hx167_2
   have hw167_1 := hx167_1
   have hw167_0 := hx167_0
   cases e167
   replace hx167_0 := cB_ hx167_0
   replace hx167_1 := cB_ hx167_1
   replace hx167_2 := cB_ hx167_2
   replace p167 := eq_true p167
   replace q167 := eq_true q167
   have p169 : 0 ≤ (x3_1 : Int) := dt_
   have q169 : x3_1 < (l0.length : Int) := dt_
   obtain ⟨ad169, e169, hx169_0, hx169_1, hx169_2⟩ := at_T72 HR0.out x3_1 p169 q169
   have hw169_2 := hx169_2
   have hw169_1 := hx169_1
   have hw169_0 := hx169_0
   obtain rfl : ad167 = ad169 := (by injection e169)
   replace hx169_0 := cB_ hx169_0
   replace hx169_1 := cB_ hx169_1
   replace hx169_2 := cB_ hx169_2
   replace p169 := eq_true p169
   replace q169 := eq_true q169
   have p171 : 0 ≤ (x3_1 : Int) := dt_
   have q171 : x3_1 < (l0.length : Int) := dt_
   obtain ⟨ad171, e171, hx171_0, hx171_1, hx171_2⟩ := at_T72 HR0.out x3_1 p171 q171
   have hw171_2 := hx171_2
   have hw171_1 := hx171_1
   have hw171_0 := hx171_0
   obtain rfl : ad167 = ad171 := (by injection e171)
   replace hx171_0 := cB_ hx171_0
   replace hx171_1 := cB_ hx171_1
   replace hx171_2 := cB_ hx171_2
   replace p171 := eq_true p171
   replace q171 := eq_true q171
   have p172 : 0 ≤ (x3_1 : Int) := dt_
   have q172 : x3_1 < (l0.length : Int) := dt_
   obtain ⟨ad172, e172, hx172_0, hx172_1, hx172_2⟩ := at_T72 HR0.out x3_1 p172 q172
   have hw172_2 := hx172_2
   have hw172_1 := hx172_1
   have hw172_0 := hx172_0
   obtain rfl : ad167 = ad172 := (by injection e172)
   replace hx172_0 := cB_ hx172_0
   replace hx172_1 := cB_ hx172_1
   replace hx172_2 := cB_ hx172_2
   replace p172 := eq_true p172
   replace q172 := eq_true q172
   refine start_ (n := 48) (S := fun w' => w'.cell? (ad167.add ((x3_1).toNat * 3)) = some (.int .i64 ((rd_T72 l0 x3_1).f0)) ∧ w'.cell? ⟨(ad167.add ((x3_1).toNat * 3)).block, (ad167.add ((x3_1).toNat * 3)).off + 1, none⟩ = some (.int .i64 ((rd_T72 l0 x3_1).f1)) ∧ w'.cell? ⟨(ad167.add ((x3_1).toNat * 3)).block, (ad167.add ((x3_1).toNat * 3)).off + 2, none⟩ = some (.int .i64 ((rd_T72 l0 x3_1).f2)) ∧ w'.cell? (ad167.add ((x3_1).toNat * 3)) = some (.int .i64 ((rd_T72 l0 x3_1).f0)) ∧ w'.cell? ⟨(ad167.add ((x3_1).toNat * 3)).block, (ad167.add ((x3_1).toNat * 3)).off + 1, none⟩ = some (.int .i64 ((rd_T72 l0 x3_1).f1)) ∧ w'.cell? ⟨(ad167.add ((x3_1).toNat * 3)).block, (ad167.add ((x3_1).toNat * 3)).off + 2, none⟩ = some (.int .i64 ((rd_T72 l0 x3_1).f2)) ∧ w'.cell? (ad167.add ((x3_1).toNat * 3)) = some (.int .i64 ((rd_T72 l0 x3_1).f0)) ∧ w'.cell? ⟨(ad167.add ((x3_1).toNat * 3)).block, (ad167.add ((x3_1).toNat * 3)).off + 1, none⟩ = some (.int .i64 ((rd_T72 l0 x3_1).f1)) ∧ w'.cell? ⟨(ad167.add ((x3_1).toNat * 3)).block, (ad167.add ((x3_1).toNat * 3)).off + 2, none⟩ = some (.int .i64 ((rd_T72 l0 x3_1).f2)) ∧ w'.cell? (ad167.add ((x3_1).toNat * 3)) = some (.int .i64 ((rd_T72 l0 x3_1).f0)) ∧ w'.cell? ⟨(ad167.add ((x3_1).toNat * 3)).block, (ad167.add ((x3_1).toNat * 3)).off + 1, none⟩ = some (.int .i64 ((rd_T72 l0 x3_1).f1)) ∧ w'.cell? ⟨(ad167.add ((x3_1).toNat * 3)).block, (ad167.add ((x3_1).toNat * 3)).off + 2, none⟩ = some (.int .i64 ((rd_T72 l0 x3_1).f2))) (ds := []) #[false, false, false, false, false, false, false, false, false, false, false, false, false, false, false, false, false, false, false, false, false, false, false, false, false, false, false, false, false, false, false, false, false, false, false, false, false, false, false, false, false, false, false, false, false, false, false, false] (by kernel_rfl) rfl rfl ⟨(cB_ hw167_0), (cB_ hw167_1), (cB_ hw167_2), (cB_ hw169_0), (cB_ hw169_1), (cB_ hw169_2), (cB_ hw171_0), (cB_ hw171_1), (cB_ hw171_2), (cB_ hw172_0), (cB_ hw172_1), (cB_ hw172_2)⟩ (fun hHeld => ?_); refine with_tabW spec_l5Stacks.tab4 spec_l5Stacks.bits4 (fun HT_ HW_ => ?_)
   generalize wr.drew = w18 at HB hx167_0 hx167_1 hx167_2 hx169_0 hx169_1 hx169_2 hx171_0 hx171_1 hx171_2 hx172_0 hx172_1 hx172_2 hHeld ⊢
   refine pI_ 0 10 (bqz 48 1) ?_
   refine jI_ 1 11 ?_
   refine jI_ 2 12 ?_
   refine jI_ 3 13 ?_
   refine sI12_ 4 14 ?_
   refine one_ (i := 5) (N := some 15) (bqz 48 63) rfl rfl qzc (by decide) (fun K hK => ?_)
   refine goes_ Try.func81 (by kernel_rfl) rfl #[.int .i64 ((rd_T72 l0 x3_1).f0), .int .i64 1, .int .i64 50] (by rfl) rfl rfl qz4 ?_
   with_reducible refine (spec_l1In.calls ((rd_T72 l0 x3_1).f0) 1 50 true _ A4.out).mono ?_
   rintro e w' ⟨rfl, ⟨nd, rfl⟩⟩
   refine ⟨_, rfl, ?_⟩
   refine hK.out _ _ ⟨(cB_ hw167_0), (cB_ hw167_1), (cB_ hw167_2), (cB_ hw169_0), (cB_ hw169_1), (cB_ hw169_2), (cB_ hw171_0), (cB_ hw171_1), (cB_ hw171_2), (cB_ hw172_0), (cB_ hw172_1), (cB_ hw172_2)⟩ (fun hHeld => ?_)
   clear hK K
   refine nm_ 15 ?_
   refine jI_ 6 16 ?_
   refine jI_ 7 17 ?_
   refine jI_ 8 18 ?_
   refine jI_ 9 19 ?_
   refine jI_ 10 20 ?_
   refine jI_ 11 21 ?_
   refine sI12_ 12 22 ?_
   refine one_ (i := 13) (N := some 23) (bqz 48 16383) rfl rfl qzc (by decide) (fun K hK => ?_)
   refine goes_ Try.func81 (by kernel_rfl) rfl #[.int .i64 ((rd_T72 l0 x3_1).f1), .int .i64 1, .int .i64 1000] (by rfl) rfl rfl qz4 ?_
   with_reducible refine (spec_l1In.calls ((rd_T72 l0 x3_1).f1) 1 1000 true _ A6.out).mono ?_
   rintro e w' ⟨rfl, ⟨nd, rfl⟩⟩
   refine ⟨_, rfl, ?_⟩
   refine hK.out _ _ ⟨(cB_ hw167_0), (cB_ hw167_1), (cB_ hw167_2), (cB_ hw169_0), (cB_ hw169_1), (cB_ hw169_2), (cB_ hw171_0), (cB_ hw171_1), (cB_ hw171_2), (cB_ hw172_0), (cB_ hw172_1), (cB_ hw172_2)⟩ (fun hHeld => ?_)
   clear hK K
   refine nm_ 23 ?_
   refine jI_ 14 24 ?_
   refine jI_ 15 25 ?_
   refine jI_ 16 26 ?_
   refine jI_ 17 27 ?_
   refine jI_ 18 28 ?_
   refine jI_ 19 29 ?_
   refine jI_ 20 30 ?_
   refine jI_ 22 32 ?_
   refine jI_ 23 33 ?_
   refine jI_ 24 34 ?_
   refine jI_ 25 35 ?_
   refine sI12_ 21 31 ?_
   refine sI12_ 26 36 ?_
   refine one_ (i := 27) (N := some 37) (bqz 48 268435455) rfl rfl qzc (by decide) (fun K hK => ?_)
   refine goes_ Try.func81 (by kernel_rfl) rfl #[.int .i64 ((rd_T72 l0 x3_1).f2), .int .i64 0, .int .i64 ((rd_T72 l0 x3_1).f1)] (by rfl) rfl rfl qz4 ?_
   with_reducible refine (spec_l1In.calls ((rd_T72 l0 x3_1).f2) 0 ((rd_T72 l0 x3_1).f1) false _ A8.out).mono ?_
   rintro e w' ⟨rfl, ⟨nd, rfl⟩⟩
   refine ⟨_, rfl, ?_⟩
   refine hK.out _ _ ⟨(cB_ hw167_0), (cB_ hw167_1), (cB_ hw167_2), (cB_ hw169_0), (cB_ hw169_1), (cB_ hw169_2), (cB_ hw171_0), (cB_ hw171_1), (cB_ hw171_2), (cB_ hw172_0), (cB_ hw172_1), (cB_ hw172_2)⟩ (fun hHeld => ?_)
   clear hK K
   refine nm_ 37 ?_
   refine jI_ 28 38 ?_
   refine jI_ 29 39 ?_
   refine jI_ 30 40 ?_
   refine jU_ 31 41 ?_
   refine jU_ 32 42 ?_
   refine jU_ 33 43 ?_
   refine jU_ 34 44 ?_
   refine jU_ 35 45 ?_
   refine jU_ 36 46 ?_
   refine jU_ 37 47 ?_
   refine jU_ 38 48 ?_
   refine jU_ 39 49 ?_
   refine jU_ 40 50 ?_
   refine jU_ 41 51 ?_
   refine jU_ 42 52 ?_
   refine jU_ 43 53 ?_
   refine jU_ 44 54 ?_
   refine jU_ 45 55 ?_
   refine jU_ 46 56 ?_
   refine jI_ 47 57 ?_
   refine done_ (done_of HT_.out (by kernel_rfl)) ?_
   try go_wp2
   go_ret
   exact ⟨qzw, qz1⟩
   }
   }
   {
   replace c7 := Bool.eq_false_iff.mpr c7
   subst c7
   rw [if_neg (show ¬ (false = true) by decide)] at H
   obtain rfl := Option.some.inj H
   simp only [Option.some.injEq, Prod.mk.injEq] at H
   obtain ⟨rfl⟩ := H
   try go_wp2
   replace HB := aM (below_drew1 HB.out)
   have p167 : 0 ≤ (x3_1 : Int) := dt_
   have q167 : x3_1 < (l0.length : Int) := dt_
   obtain ⟨ad167, e167, hx167_0, hx167_1, hx167_2⟩ := at_T72 HR0.out x3_1 p167 q167
   have hw167_2 := hx167_2
   have hw167_1 := hx167_1
   have hw167_0 := hx167_0
   cases e167
   replace hx167_0 := cB_ hx167_0
   replace hx167_1 := cB_ hx167_1
   replace hx167_2 := cB_ hx167_2
   replace p167 := eq_true p167
   replace q167 := eq_true q167
   have p169 : 0 ≤ (x3_1 : Int) := dt_
   have q169 : x3_1 < (l0.length : Int) := dt_
   obtain ⟨ad169, e169, hx169_0, hx169_1, hx169_2⟩ := at_T72 HR0.out x3_1 p169 q169
   have hw169_2 := hx169_2
   have hw169_1 := hx169_1
   have hw169_0 := hx169_0
   obtain rfl : ad167 = ad169 := (by injection e169)
   replace hx169_0 := cB_ hx169_0
   replace hx169_1 := cB_ hx169_1
   replace hx169_2 := cB_ hx169_2
   replace p169 := eq_true p169
   replace q169 := eq_true q169
   refine start_ (n := 48) (S := fun w' => w'.cell? (ad167.add ((x3_1).toNat * 3)) = some (.int .i64 ((rd_T72 l0 x3_1).f0)) ∧ w'.cell? ⟨(ad167.add ((x3_1).toNat * 3)).block, (ad167.add ((x3_1).toNat * 3)).off + 1, none⟩ = some (.int .i64 ((rd_T72 l0 x3_1).f1)) ∧ w'.cell? ⟨(ad167.add ((x3_1).toNat * 3)).block, (ad167.add ((x3_1).toNat * 3)).off + 2, none⟩ = some (.int .i64 ((rd_T72 l0 x3_1).f2)) ∧ w'.cell? (ad167.add ((x3_1).toNat * 3)) = some (.int .i64 ((rd_T72 l0 x3_1).f0)) ∧ w'.cell? ⟨(ad167.add ((x3_1).toNat * 3)).block, (ad167.add ((x3_1).toNat * 3)).off + 1, none⟩ = some (.int .i64 ((rd_T72 l0 x3_1).f1)) ∧ w'.cell? ⟨(ad167.add ((x3_1).toNat * 3)).block, (ad167.add ((x3_1).toNat * 3)).off + 2, none⟩ = some (.int .i64 ((rd_T72 l0 x3_1).f2))) (ds := []) #[false, false, false, false, false, false, false, false, false, false, false, false, false, false, false, false, false, false, false, false, false, false, false, false, false, false, false, false, false, false, false, false, false, false, false, false, false, false, false, false, false, false, false, false, false, false, false, false] (by kernel_rfl) rfl rfl ⟨(cB_ hw167_0), (cB_ hw167_1), (cB_ hw167_2), (cB_ hw169_0), (cB_ hw169_1), (cB_ hw169_2)⟩ (fun hHeld => ?_); refine with_tabW spec_l5Stacks.tab4 spec_l5Stacks.bits4 (fun HT_ HW_ => ?_)
   generalize wr.drew = w19 at HB hx167_0 hx167_1 hx167_2 hx169_0 hx169_1 hx169_2 hHeld ⊢
   refine pI_ 0 10 (bqz 48 1) ?_
   refine jI_ 1 11 ?_
   refine jI_ 2 12 ?_
   refine jI_ 3 13 ?_
   refine sI6_ 4 14 ?_
   refine one_ (i := 5) (N := some 15) (bqz 48 63) rfl rfl qzc (by decide) (fun K hK => ?_)
   refine goes_ Try.func81 (by kernel_rfl) rfl #[.int .i64 ((rd_T72 l0 x3_1).f0), .int .i64 1, .int .i64 50] (by rfl) rfl rfl qz4 ?_
   with_reducible refine (spec_l1In.calls ((rd_T72 l0 x3_1).f0) 1 50 true _ A4.out).mono ?_
   rintro e w' ⟨rfl, ⟨nd, rfl⟩⟩
   refine ⟨_, rfl, ?_⟩
   refine hK.out _ _ ⟨(cB_ hw167_0), (cB_ hw167_1), (cB_ hw167_2), (cB_ hw169_0), (cB_ hw169_1), (cB_ hw169_2)⟩ (fun hHeld => ?_)
   clear hK K
   refine nm_ 15 ?_
   refine jI_ 6 16 ?_
   refine jI_ 7 17 ?_
   refine jI_ 8 18 ?_
   refine jI_ 9 19 ?_
   refine jI_ 10 20 ?_
   refine jI_ 11 21 ?_
   refine sI6_ 12 22 ?_
   refine one_ (i := 13) (N := some 23) (bqz 48 16383) rfl rfl qzc (by decide) (fun K hK => ?_)
   refine goes_ Try.func81 (by kernel_rfl) rfl #[.int .i64 ((rd_T72 l0 x3_1).f1), .int .i64 1, .int .i64 1000] (by rfl) rfl rfl qz4 ?_
   with_reducible refine (spec_l1In.calls ((rd_T72 l0 x3_1).f1) 1 1000 false _ A6.out).mono ?_
   rintro e w' ⟨rfl, ⟨nd, rfl⟩⟩
   refine ⟨_, rfl, ?_⟩
   refine hK.out _ _ ⟨(cB_ hw167_0), (cB_ hw167_1), (cB_ hw167_2), (cB_ hw169_0), (cB_ hw169_1), (cB_ hw169_2)⟩ (fun hHeld => ?_)
   clear hK K
   refine nm_ 23 ?_
   refine jI_ 14 24 ?_
   refine jI_ 15 25 ?_
   refine jI_ 16 26 ?_
   refine jU_ 17 27 ?_
   refine jU_ 18 28 ?_
   refine jU_ 19 29 ?_
   refine jU_ 20 30 ?_
   refine jU_ 21 31 ?_
   refine jU_ 22 32 ?_
   refine jU_ 23 33 ?_
   refine jU_ 24 34 ?_
   refine jU_ 25 35 ?_
   refine jU_ 26 36 ?_
   refine jU_ 27 37 ?_
   refine jU_ 28 38 ?_
   refine jI_ 29 39 ?_
   refine jI_ 30 40 ?_
   refine jU_ 31 41 ?_
   refine jU_ 32 42 ?_
   refine jU_ 33 43 ?_
   refine jU_ 34 44 ?_
   refine jU_ 35 45 ?_
   refine jU_ 36 46 ?_
   refine jU_ 37 47 ?_
   refine jU_ 38 48 ?_
   refine jU_ 39 49 ?_
   refine jU_ 40 50 ?_
   refine jU_ 41 51 ?_
   refine jU_ 42 52 ?_
   refine jU_ 43 53 ?_
   refine jU_ 44 54 ?_
   refine jU_ 45 55 ?_
   refine jU_ 46 56 ?_
   refine jI_ 47 57 ?_
   refine done_ (done_of HT_.out (by kernel_rfl)) ?_
   try go_wp2
   go_ret
   exact ⟨qzw, qz1⟩
   }
   }
   {
   replace c5 := Bool.eq_false_iff.mpr c5
   subst c5
   rw [if_neg (show ¬ (false = true) by decide)] at H
   obtain rfl := Option.some.inj H
   simp only [Option.some.injEq, Prod.mk.injEq] at H
   obtain ⟨rfl⟩ := H
   try go_wp2
   replace HB := aM (below_drew1 HB.out)
   have p167 : 0 ≤ (x3_1 : Int) := dt_
   have q167 : x3_1 < (l0.length : Int) := dt_
   obtain ⟨ad167, e167, hx167_0, hx167_1, hx167_2⟩ := at_T72 HR0.out x3_1 p167 q167
   have hw167_2 := hx167_2
   have hw167_1 := hx167_1
   have hw167_0 := hx167_0
   cases e167
   replace hx167_0 := cB_ hx167_0
   replace hx167_1 := cB_ hx167_1
   replace hx167_2 := cB_ hx167_2
   replace p167 := eq_true p167
   replace q167 := eq_true q167
   refine start_ (n := 48) (S := fun w' => w'.cell? (ad167.add ((x3_1).toNat * 3)) = some (.int .i64 ((rd_T72 l0 x3_1).f0)) ∧ w'.cell? ⟨(ad167.add ((x3_1).toNat * 3)).block, (ad167.add ((x3_1).toNat * 3)).off + 1, none⟩ = some (.int .i64 ((rd_T72 l0 x3_1).f1)) ∧ w'.cell? ⟨(ad167.add ((x3_1).toNat * 3)).block, (ad167.add ((x3_1).toNat * 3)).off + 2, none⟩ = some (.int .i64 ((rd_T72 l0 x3_1).f2))) (ds := []) #[false, false, false, false, false, false, false, false, false, false, false, false, false, false, false, false, false, false, false, false, false, false, false, false, false, false, false, false, false, false, false, false, false, false, false, false, false, false, false, false, false, false, false, false, false, false, false, false] (by kernel_rfl) rfl rfl ⟨(cB_ hw167_0), (cB_ hw167_1), (cB_ hw167_2)⟩ (fun hHeld => ?_); refine with_tabW spec_l5Stacks.tab4 spec_l5Stacks.bits4 (fun HT_ HW_ => ?_)
   generalize wr.drew = w20 at HB hx167_0 hx167_1 hx167_2 hHeld ⊢
   refine pI_ 0 10 (bqz 48 1) ?_
   refine jI_ 1 11 ?_
   refine jI_ 2 12 ?_
   refine jI_ 3 13 ?_
   refine sI3_ 4 14 ?_
   refine one_ (i := 5) (N := some 15) (bqz 48 63) rfl rfl qzc (by decide) (fun K hK => ?_)
   refine goes_ Try.func81 (by kernel_rfl) rfl #[.int .i64 ((rd_T72 l0 x3_1).f0), .int .i64 1, .int .i64 50] (by rfl) rfl rfl qz4 ?_
   with_reducible refine (spec_l1In.calls ((rd_T72 l0 x3_1).f0) 1 50 false _ A4.out).mono ?_
   rintro e w' ⟨rfl, ⟨nd, rfl⟩⟩
   refine ⟨_, rfl, ?_⟩
   refine hK.out _ _ ⟨(cB_ hw167_0), (cB_ hw167_1), (cB_ hw167_2)⟩ (fun hHeld => ?_)
   clear hK K
   refine nm_ 15 ?_
   refine jI_ 6 16 ?_
   refine jI_ 7 17 ?_
   refine jU_ 8 18 ?_
   refine jU_ 9 19 ?_
   refine jU_ 10 20 ?_
   refine jU_ 11 21 ?_
   refine jU_ 12 22 ?_
   refine jU_ 13 23 ?_
   refine jU_ 14 24 ?_
   refine jI_ 15 25 ?_
   refine jI_ 16 26 ?_
   refine jU_ 17 27 ?_
   refine jU_ 18 28 ?_
   refine jU_ 19 29 ?_
   refine jU_ 20 30 ?_
   refine jU_ 21 31 ?_
   refine jU_ 22 32 ?_
   refine jU_ 23 33 ?_
   refine jU_ 24 34 ?_
   refine jU_ 25 35 ?_
   refine jU_ 26 36 ?_
   refine jU_ 27 37 ?_
   refine jU_ 28 38 ?_
   refine jI_ 29 39 ?_
   refine jI_ 30 40 ?_
   refine jU_ 31 41 ?_
   refine jU_ 32 42 ?_
   refine jU_ 33 43 ?_
   refine jU_ 34 44 ?_
   refine jU_ 35 45 ?_
   refine jU_ 36 46 ?_
   refine jU_ 37 47 ?_
   refine jU_ 38 48 ?_
   refine jU_ 39 49 ?_
   refine jU_ 40 50 ?_
   refine jU_ 41 51 ?_
   refine jU_ 42 52 ?_
   refine jU_ 43 53 ?_
   refine jU_ 44 54 ?_
   refine jU_ 45 55 ?_
   refine jU_ 46 56 ?_
   refine jI_ 47 57 ?_
   refine done_ (done_of HT_.out (by kernel_rfl)) ?_
   try go_wp2
   go_ret
   exact ⟨qzw, qz1⟩
   }
   }
   {
   exact an_ c3 H
   }
   }
   {
   rw [if_neg c2] at H
   have c2b0 := decide_eq_false c2
   clear c2
   obtain rfl := Option.some.inj H
   simp only [Option.some.injEq, Prod.mk.injEq] at H
   obtain ⟨rfl⟩ := H
   go_wp2
   go_ret
   exact ⟨qzw, qz1⟩

   }
end Go.Proofs.Yteajnkondkfmgaa.PFnEach
