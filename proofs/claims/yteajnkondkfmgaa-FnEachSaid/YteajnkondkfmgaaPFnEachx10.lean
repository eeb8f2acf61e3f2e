-- Made by a program of this session out of the translation. Lean checks it.
import Derived.Test.YteajnkondkfmgaaPFnEachx7
namespace Go.Proofs.Yteajnkondkfmgaa.PFnEach
open Go.RowKit Go.Proofs.YteajnkondkfmgaaW.PrintWords Go.Proofs.YteajnkondkfmgaaW.PrintLast Go.Proofs.YteajnkondkfmgaaW.PrintMore
attribute [local go_sem] max2_int min2_int max_two min_two max_three min_three max_four min_four   -- for this text's walks alone
set_option linter.unusedVariables false
set_option linter.unusedSimpArgs false

/-! ### spec_ItemsOk: function 38 -/
def spec_ItemsOk.l0 : Nat → List (S48) → Int → Option (Bool)
 | 0, _, _ => none
 | k + 1, x0, x3 => if x3 < (x0.length : Int) then (if 0 ≤ x3 then ((spec_l1In.f ((rd_T48 x0 x3).f0) 1 50).bind fun t185 => (if t185 = true then ((spec_l1In.f ((rd_T48 x0 x3).f1) 1 1000).bind fun t187 => (if t187 = true then (if x3 > 0 then (if 0 ≤ (wrap64 (x3 - 1)) then (if (wrap64 (x3 - 1)) < (x0.length : Int) then (if ((rd_T48 x0 (wrap64 (x3 - 1))).f0) ≥ ((rd_T48 x0 x3).f0) then (some false) else (spec_ItemsOk.l0 k x0 (wrap64 (x3 + 1)))) else (none)) else (none)) else (spec_ItemsOk.l0 k x0 (wrap64 (x3 + 1)))) else (some false))) else (some false))) else (none)) else (some (decide ((x0.length : Int) ≤ 6)))
def spec_ItemsOk.f (k : Nat) (l0 : List (S48)) : Option (Bool) := spec_ItemsOk.l0 k l0 0
theorem spec_ItemsOk.mono_l : ∀ k, (∀ y0 y1, LeO (spec_ItemsOk.l0 k y0 y1) (spec_ItemsOk.l0 (k + 1) y0 y1))
 | 0 => fun _ _ r h => by simp [spec_ItemsOk.l0] at h
 | k + 1 => by
  have ih0 := spec_ItemsOk.mono_l k
  {
  intro y0 y1
  unfold spec_ItemsOk.l0
  exact qL
  }
theorem spec_ItemsOk.mono : ∀ a0 k, LeO (spec_ItemsOk.f k a0) (spec_ItemsOk.f (k + 1) a0) := by
 intro a0 k
 have ih0 := spec_ItemsOk.mono_l k
 unfold spec_ItemsOk.f
 exact qL
def spec_ItemsOk.T4 : Bool × List (List Nat × List Nat) := (true, [([], []), ([], []), ([0, 1], [0, 1]), ([2], [2]), ([3], [3]), ([4], [4]), ([5], [5]), ([6, 5], [6]), ([7], [7]), ([7], [7]), ([8, 9, 7], [7, 8, 9]), ([10, 7], [7, 10]), ([11, 7], [7, 11]), ([12, 7, 7], [7, 12]), ([13, 7], [7, 13]), ([7, 14], [7, 14]), ([15, 13], [15]), ([16], [16]), ([17, 16], [16, 17]), ([18, 16, 16], [16, 18]), ([19], [19]), ([19], [19]), ([21, 19], [19, 21]), ([20, 22, 19], [19, 20, 22]), ([23, 19], [19, 23]), ([24, 19], [19, 24]), ([19], [19]), ([19], [19]), ([26, 27, 19], [19, 26, 27]), ([28, 19], [19, 28]), ([29, 19], [19, 29]), ([25, 30, 19], [19, 25, 30]), ([19, 31, 16], [16, 19, 31]), ([16, 32], [16, 32])])
def spec_ItemsOk.B4 : List Nat := [0, 0, 3, 7, 15, 31, 63, 127, 255, 255, 1023, 2047, 4095, 8191, 16383, 32767, 65535, 131071, 262143, 524287, 1048575, 1048575, 3145727, 8388607, 16777215, 33554431, 1048575, 1048575, 202375167, 470810623, 1007681535, 2147483647, 4294967295, 8589934591]
theorem spec_ItemsOk.tab4 : rtab .any (opsOf Try.f38 4) = spec_ItemsOk.T4 := by kernel_rfl
theorem spec_ItemsOk.bits4 : waitsOk spec_ItemsOk.T4.2 spec_ItemsOk.B4 = true := by kernel_rfl
set_option maxHeartbeats 8000000 in
set_option maxRecDepth 100000 in
theorem spec_ItemsOk.calls (k : Nat) (A0 : Option Addr) (c0 : Nat) (l0 : List (S48)) (r : Bool) (w : World) (hr0 : Kd.C k48 w A0 l0.length l0) (hc0 : l0.length ≤ c0) (h : spec_ItemsOk.f k l0 = some r) :
  Calls Try.prog 38 #[.slice A0 l0.length c0] w fun e w' => e = .returned (.bool r) ∧ Below w.heap.size w w' := by
 have HR0 := aM hr0
 have HC0 := aM hc0
 clear hr0 hc0
 have HB := aM (Below.refl w.heap.size w)
 have H : (spec_ItemsOk.l0 k l0 0) = some r := h
 clear h
 have H' := aM H
 clear H
 go_enter Try.func38, Try.ntmps38
 go_wp2
 go_loopg [3] k (fun kq v3 w' => ∃ (x3_1 : Int), v3 = .int .i64 x3_1 ∧ Aside0 (spec_ItemsOk.l0 kq l0 x3_1 = some r) ∧ Aside0 (kq ≤ k) ∧ Aside0 (Below w.heap.size w w'))
 case atStart => exact ⟨(0), qz5, H', ⟨Nat.le_refl _⟩, ⟨qz1⟩⟩
 case round =>
  clear H'
  obtain ⟨x3_1, rfl, HA, HK1, HB⟩ := hrel
  cases gk with
  | zero => exact absurd HA.out (by simp [spec_ItemsOk.l0])
  | succ k1 =>
   have H := HA.out
   clear HA
   simp only [spec_ItemsOk.l0] at H
   by_cases c2 : x3_1 < (l0.length : Int)
   {
   rw [if_pos c2] at H
   have c2b0 := decide_eq_true c2
   clear c2
   by_cases c3 : 0 ≤ x3_1
   {
   rw [if_pos c3] at H
   have c3b0 := decide_eq_true c3
   clear c3
   replace H := Option.bind_eq_some_iff.mp H
   obtain ⟨t185, A40, H⟩ := H
   replace H : (if t185 = true then ((spec_l1In.f ((rd_T48 l0 x3_1).f1) 1 1000).bind fun t187 => (if t187 = true then (if x3_1 > 0 then (if 0 ≤ (wrap64 (x3_1 - 1)) then (if (wrap64 (x3_1 - 1)) < (l0.length : Int) then (if ((rd_T48 l0 (wrap64 (x3_1 - 1))).f0) ≥ ((rd_T48 l0 x3_1).f0) then (some false) else (spec_ItemsOk.l0 k1 l0 (wrap64 (x3_1 + 1)))) else (none)) else (none)) else (spec_ItemsOk.l0 k1 l0 (wrap64 (x3_1 + 1)))) else (some false))) else (some false)) = some r := H
   have A4 := aM A40
   clear A40
   by_cases c5 : t185 = true
   {
   subst c5
   rw [if_pos rfl] at H
   replace H := Option.bind_eq_some_iff.mp H
   obtain ⟨t187, A60, H⟩ := H
   replace H : (if t187 = true then (if x3_1 > 0 then (if 0 ≤ (wrap64 (x3_1 - 1)) then (if (wrap64 (x3_1 - 1)) < (l0.length : Int) then (if ((rd_T48 l0 (wrap64 (x3_1 - 1))).f0) ≥ ((rd_T48 l0 x3_1).f0) then (some false) else (spec_ItemsOk.l0 k1 l0 (wrap64 (x3_1 + 1)))) else (none)) else (none)) else (spec_ItemsOk.l0 k1 l0 (wrap64 (x3_1 + 1)))) else (some false)) = some r := H
   have A6 := aM A60
   clear A60
   by_cases c7 : t187 = true
   {
   subst c7
   rw [if_pos rfl] at H
   by_cases c8 : x3_1 > 0
   {
   rw [if_pos c8] at H
   have c8b0 := decide_eq_true c8
   clear c8
   obtain ⟨ji9, hji9⟩ : ∃ j_ : Int, (wrap64 (x3_1 - 1)) = j_ := ⟨_, rfl⟩
   replace H : (if 0 ≤ (ji9) then (if (ji9) < (l0.length : Int) then (if ((rd_T48 l0 (ji9)).f0) ≥ ((rd_T48 l0 x3_1).f0) then (some false) else (spec_ItemsOk.l0 k1 l0 (wrap64 (x3_1 + 1)))) else (none)) else (none)) = some r := by first | (rw [hji9] at H; exact H) | (simp only [hji9] at H ⊢; exact H)
   (try rw [hji9] at A4)
   (try rw [hji9] at A6)
   have hji9w : (IntKind.i64.wrap (x3_1 - 1)) = ji9 := (i64_w _).trans hji9
   by_cases c10 : 0 ≤ (ji9)
   {
   rw [if_pos c10] at H
   have c10b0 := decide_eq_true c10
   clear c10
   by_cases c11 : (ji9) < (l0.length : Int)
   {
   rw [if_pos c11] at H
   have c11b0 := decide_eq_true c11
   clear c11
   by_cases c12 : ((rd_T48 l0 (ji9)).f0) ≥ ((rd_T48 l0 x3_1).f0)
   {
   rw [if_pos c12] at H
   have c12b0 := decide_eq_true c12
   clear c12
   obtain rfl := Option.some.inj H
   simp only [Option.some.injEq, Prod.mk.injEq] at H
   obtain ⟨rfl⟩ := H
   try go_wp2
   replace HB := aM (below_drew1 HB.out)
   have p184 : 0 ≤ (x3_1 : Int) := dt_
   have q184 : x3_1 < (l0.length : Int) := dt_
   obtain ⟨ad184, e184, hx184_0, hx184_1⟩ := at_T48 HR0.out x3_1 p184 q184
   have hw184_1 := hx184_1
   have hw184_0 := hx184_0
   cases e184
   replace hx184_0 := cB_ hx184_0
   replace hx184_1 := cB_ hx184_1
   replace p184 := eq_true p184
   replace q184 := eq_true q184
   have p186 : 0 ≤ (x3_1 : Int) := dt_
   have q186 : x3_1 < (l0.length : Int) := dt_
   obtain ⟨ad186, e186, hx186_0, hx186_1⟩ := at_T48 HR0.out x3_1 p186 q186
   have hw186_1 := hx186_1
   have hw186_0 := hx186_0
   obtain rfl : ad184 = ad186 := (by injection e186)
   replace hx186_0 := cB_ hx186_0
   replace hx186_1 := cB_ hx186_1
   replace p186 := eq_true p186
   replace q186 := eq_true q186
   have p188 : 0 ≤ ((ji9) : Int) := dt_
   have q188 : (ji9) < (l0.length : Int) := dt_
   obtain ⟨ad188, e188, hx188_0, hx188_1⟩ := at_T48 HR0.out (ji9) p188 q188
   have hw188_1 := hx188_1
   have hw188_0 := hx188_0
   obtain rfl : ad184 = ad188 := (by injection e188)
   replace hx188_0 := cB_ hx188_0
   replace hx188_1 := cB_ hx188_1
   replace p188 := eq_true p188
   replace q188 := eq_true q188
   have p189 : 0 ≤ (x3_1 : Int) := dt_
   have q189 : x3_1 < (l0.length : Int) := dt_
   obtain ⟨ad189, e189, hx189_0, hx189_1⟩ := at_T48 HR0.out x3_1 p189 q189
   have hw189_1 := hx189_1
   have hw189_0 := hx189_0
   obtain rfl : ad184 = ad189 := (by injection e189)
   replace hx189_0 := cB_ hx189_0
   replace hx189_1 := cB_ hx189_1
   replace p189 := eq_true p189
   replace q189 := eq_true q189
   refine start_ (n := 34) (S := fun w' => w'.cell? (ad184.add ((x3_1).toNat * 2)) = some (.int .i64 ((rd_T48 l0 x3_1).f0)) ∧ w'.cell? ⟨(ad184.add ((x3_1).toNat * 2)).block, (ad184.add ((x3_1).toNat * 2)).off + 1, none⟩ = some (.int .i64 ((rd_T48 l0 x3_1).f1)) ∧ w'.cell? (ad184.add ((x3_1).toNat * 2)) = some (.int .i64 ((rd_T48 l0 x3_1).f0)) ∧ w'.cell? ⟨(ad184.add ((x3_1).toNat * 2)).block, (ad184.add ((x3_1).toNat * 2)).off + 1, none⟩ = some (.int .i64 ((rd_T48 l0 x3_1).f1)) ∧ w'.cell? (ad184.add (((ji9)).toNat * 2)) = some (.int .i64 ((rd_T48 l0 (ji9)).f0)) ∧ w'.cell? ⟨(ad184.add (((ji9)).toNat * 2)).block, (ad184.add (((ji9)).toNat * 2)).off + 1, none⟩ = some (.int .i64 ((rd_T48 l0 (ji9)).f1)) ∧ w'.cell? (ad184.add ((x3_1).toNat * 2)) = some (.int .i64 ((rd_T48 l0 x3_1).f0)) ∧ w'.cell? ⟨(ad184.add ((x3_1).toNat * 2)).block, (ad184.add ((x3_1).toNat * 2)).off + 1, none⟩ = some (.int .i64 ((rd_T48 l0 x3_1).f1))) (ds := []) #[false, false, false, false, false, false, false, false, false, false, false, false, false, false, false, false, false, false, false, false, false, false, false, false, false, false, false, false, false, false, false, false, false, false] (by kernel_rfl) rfl rfl ⟨(cB_ hw184_0), (cB_ hw184_1), (cB_ hw186_0), (cB_ hw186_1), (cB_ hw188_0), (cB_ hw188_1), (cB_ hw189_0), (cB_ hw189_1)⟩ (fun hHeld => ?_); refine with_tabW spec_ItemsOk.tab4 spec_ItemsOk.bits4 (fun HT_ HW_ => ?_)
   generalize wr.drew = w13 at HB hx184_0 hx184_1 hx186_0 hx186_1 hx188_0 hx188_1 hx189_0 hx189_1 hHeld ⊢
   refine pI_ 0 10 (bqz 34 1) ?_
   refine jI_ 1 11 ?_
   refine jI_ 2 12 ?_
   refine jI_ 3 13 ?_
   refine sI8_ 4 14 ?_
   refine one_ (i := 5) (N := some 15) (bqz 34 63) rfl rfl qzc (by decide) (fun K hK => ?_)
   refine goes_ Try.func81 (by kernel_rfl) rfl #[.int .i64 ((rd_T48 l0 x3_1).f0), .int .i64 1, .int .i64 50] (by rfl) rfl rfl qz4 ?_
   with_reducible refine (spec_l1In.calls ((rd_T48 l0 x3_1).f0) 1 50 true _ A4.out).mono ?_
   rintro e w' ⟨rfl, ⟨nd, rfl⟩⟩
   refine ⟨_, rfl, ?_⟩
   refine hK.out _ _ ⟨(cB_ hw184_0), (cB_ hw184_1), (cB_ hw186_0), (cB_ hw186_1), (cB_ hw188_0), (cB_ hw188_1), (cB_ hw189_0), (cB_ hw189_1)⟩ (fun hHeld => ?_)
   clear hK K
   refine nm_ 15 ?_
   refine jI_ 6 16 ?_
   refine jI_ 7 17 ?_
   refine jI_ 8 18 ?_
   refine jI_ 9 19 ?_
   refine jI_ 10 20 ?_
   refine jI_ 11 21 ?_
   refine sI8_ 12 22 ?_
   refine one_ (i := 13) (N := some 23) (bqz 34 16383) rfl rfl qzc (by decide) (fun K hK => ?_)
   refine goes_ Try.func81 (by kernel_rfl) rfl #[.int .i64 ((rd_T48 l0 x3_1).f1), .int .i64 1, .int .i64 1000] (by rfl) rfl rfl qz4 ?_
   with_reducible refine (spec_l1In.calls ((rd_T48 l0 x3_1).f1) 1 1000 true _ A6.out).mono ?_
   rintro e w' ⟨rfl, ⟨nd, rfl⟩⟩
   refine ⟨_, rfl, ?_⟩
   refine hK.out _ _ ⟨(cB_ hw184_0), (cB_ hw184_1), (cB_ hw186_0), (cB_ hw186_1), (cB_ hw188_0), (cB_ hw188_1), (cB_ hw189_0), (cB_ hw189_1)⟩ (fun hHeld => ?_)
   clear hK K
   refine nm_ 23 ?_
   refine jI_ 14 24 ?_
   refine jI_ 15 25 ?_
   refine jI_ 16 26 ?_
   refine jI_ 17 27 ?_
   refine jI_ 18 28 ?_
   refine jI_ 19 29 ?_
   refine jI_ 20 30 ?_
   refine jI_ 21 31 ?_
   refine jI_ 22 32 ?_
   refine jI_ 23 33 ?_
   refine jI_ 24 34 ?_
   refine jI_ 26 36 ?_
   refine jI_ 27 37 ?_
   refine jI_ 28 38 ?_
   refine jI_ 29 39 ?_
   refine sI8_ 25 35 ?_
   refine sI8_ 30 40 ?_
   refine jI_ 31 41 ?_
   refine jI_ 32 42 ?_
   refine jI_ 33 43 ?_
   refine done_ (done_of HT_.out (by kernel_rfl)) ?_
   try go_wp2
   go_ret
   exact ⟨by first | rfl | (simp [errW_none, errW_some] <;> rfl) | (simp only [← hji9]; first | rfl | (simp [errW_none, errW_some] <;> rfl)) | (simp [*, errW_none, errW_some] <;> rfl), qz1⟩
   }
   {
   rw [if_neg c12] at H
   have c12b0 := decide_eq_false c12
   clear c12
   have H' := aM H
   clear H
   try go_wp2
   replace HB := aM (below_drew1 HB.out)
   have p184 : 0 ≤ (x3_1 : Int) := dt_
   have q184 : x3_1 < (l0.length : Int) := dt_
   obtain ⟨ad184, e184, hx184_0, hx184_1⟩ := at_T48 HR0.out x3_1 p184 q184
   have hw184_1 := hx184_1
   have hw184_0 := hx184_0
   cases e184
   replace hx184_0 := cB_ hx184_0
   replace hx184_1 := cB_ hx184_1
   replace p184 := eq_true p184
   replace q184 := eq_true q184
   have p186 : 0 ≤ (x3_1 : Int) := dt_
   have q186 : x3_1 < (l0.length : Int) := dt_
   obtain ⟨ad186, e186, hx186_0, hx186_1⟩ := at_T48 HR0.out x3_1 p186 q186
   have hw186_1 := hx186_1
   have hw186_0 := hx186_0
   obtain rfl : ad184 = ad186 := (by injection e186)
   replace hx186_0 := cB_ hx186_0
   replace hx186_1 := cB_ hx186_1
   replace p186 := eq_true p186
   replace q186 := eq_true q186
   have p188 : 0 ≤ ((ji9) : Int) := dt_
   have q188 : (ji9) < (l0.length : Int) := dt_
   obtain ⟨ad188, e188, hx188_0, hx188_1⟩ := at_T48 HR0.out (ji9) p188 q188
   have hw188_1 := hx188_1
   have hw188_0 := hx188_0
   obtain rfl : ad184 = ad188 := (by injection e188)
   replace hx188_0 := cB_ hx188_0
   replace hx188_1 := cB_ hx188_1
   replace p188 := eq_true p188
   replace q188 := eq_true q188
   have p189 : 0 ≤ (x3_1 : Int) := dt_
   have q189 : x3_1 < (l0.length : Int) := dt_
   obtain ⟨ad189, e189, hx189_0, hx189_1⟩ := at_T48 HR0.out x3_1 p189 q189
   have hw189_1 := hx189_1
   have hw189_0 := hx189_0
   obtain rfl : ad184 = ad189 := (by injection e189)
   replace hx189_0 := cB_ hx189_0
   replace hx189_1 := cB_ hx189_1
   replace p189 := eq_true p189
   replace q189 := eq_true q189
   refine start_ (n := 34) (S := fun w' => w'.cell? (ad184.add ((x3_1).toNat * 2)) = some (.int .i64 ((rd_T48 l0 x3_1).f0)) ∧ w'.cell? ⟨(ad184.add ((x3_1).toNat * 2)).block, (ad184.add ((x3_1).toNat * 2)).off + 1, none⟩ = some (.int .i64 ((rd_T48 l0 x3_1).f1)) ∧ w'.cell? (ad184.add ((x3_1).toNat * 2)) = some (.int .i64 ((rd_T48 l0 x3_1).f0)) ∧ w'.cell? ⟨(ad184.add ((x3_1).toNat * 2)).block, (ad184.add ((x3_1).toNat * 2)).off + 1, none⟩ = some (.int .i64 ((rd_T48 l0 x3_1).f1)) ∧ w'.cell? (ad184.add (((ji9)).toNat * 2)) = some (.int .i64 ((rd_T48 l0 (ji9)).f0)) ∧ w'.cell? ⟨(ad184.add (((ji9)).toNat * 2)).block, (ad184.add (((ji9)).toNat * 2)).off + 1, none⟩ = some (.int .i64 ((rd_T48 l0 (ji9)).f1)) ∧ w'.cell? (ad184.add ((x3_1).toNat * 2)) = some (.int .i64 ((rd_T48 l0 x3_1).f0)) ∧ w'.cell? ⟨(ad184.add ((x3_1).toNat * 2)).block, (ad184.add ((x3_1).toNat * 2)).off + 1, none⟩ = some (.int .i64 ((rd_T48 l0 x3_1).f1))) (ds := []) #[false, false, false, false, false, false, false, false, false, false, false, false, false, false, false, false, false, false, false, false, false, false, false, false, false, false, false, false, false, false, false, false, false, false] (by kernel_rfl) rfl rfl ⟨(cB_ hw184_0), (cB_ hw184_1), (cB_ hw186_0), (cB_ hw186_1), (cB_ hw188_0), (cB_ hw188_1), (cB_ hw189_0), (cB_ hw189_1)⟩ (fun hHeld => ?_); refine with_tabW spec_ItemsOk.tab4 spec_ItemsOk.bits4 (fun HT_ HW_ => ?_)
   generalize wr.drew = w14 at HB hx184_0 hx184_1 hx186_0 hx186_1 hx188_0 hx188_1 hx189_0 hx189_1 hHeld ⊢
   refine pI_ 0 10 (bqz 34 1) ?_
   refine jI_ 1 11 ?_
   refine jI_ 2 12 ?_
   refine jI_ 3 13 ?_
   refine sI8_ 4 14 ?_
   refine one_ (i := 5) (N := some 15) (bqz 34 63) rfl rfl qzc (by decide) (fun K hK => ?_)
   refine goes_ Try.func81 (by kernel_rfl) rfl #[.int .i64 ((rd_T48 l0 x3_1).f0), .int .i64 1, .int .i64 50] (by rfl) rfl rfl qz4 ?_
   with_reducible refine (spec_l1In.calls ((rd_T48 l0 x3_1).f0) 1 50 true _ A4.out).mono ?_
   rintro e w' ⟨rfl, ⟨nd, rfl⟩⟩
   refine ⟨_, rfl, ?_⟩
   refine hK.out _ _ ⟨(cB_ hw184_0), (cB_ hw184_1), (cB_ hw186_0), (cB_ hw186_1), (cB_ hw188_0), (cB_ hw188_1), (cB_ hw189_0), (cB_ hw189_1)⟩ (fun hHeld => ?_)
   clear hK K
   refine nm_ 15 ?_
   refine jI_ 6 16 ?_
   refine jI_ 7 17 ?_
   refine jI_ 8 18 ?_
   refine jI_ 9 19 ?_
   refine jI_ 10 20 ?_
   refine jI_ 11 21 ?_
   refine sI8_ 12 22 ?_
   refine one_ (i := 13) (N := some 23) (bqz 34 16383) rfl rfl qzc (by decide) (fun K hK => ?_)
   refine goes_ Try.func81 (by kernel_rfl) rfl #[.int .i64 ((rd_T48 l0 x3_1).f1), .int .i64 1, .int .i64 1000] (by rfl) rfl rfl qz4 ?_
   with_reducible refine (spec_l1In.calls ((rd_T48 l0 x3_1).f1) 1 1000 true _ A6.out).mono ?_
   rintro e w' ⟨rfl, ⟨nd, rfl⟩⟩
   refine ⟨_, rfl, ?_⟩
   refine hK.out _ _ ⟨(cB_ hw184_0), (cB_ hw184_1), (cB_ hw186_0), (cB_ hw186_1), (cB_ hw188_0), (cB_ hw188_1), (cB_ hw189_0), (cB_ hw189_1)⟩ (fun hHeld => ?_)
   clear hK K
   refine nm_ 23 ?_
   refine jI_ 14 24 ?_
   refine jI_ 15 25 ?_
   refine jI_ 16 26 ?_
   refine jI_ 17 27 ?_
   refine jI_ 18 28 ?_
   refine jI_ 19 29 ?_
   refine jI_ 20 30 ?_
   refine jI_ 21 31 ?_
   refine jI_ 22 32 ?_
   refine jI_ 23 33 ?_
   refine jI_ 24 34 ?_
   refine jI_ 26 36 ?_
   refine jI_ 27 37 ?_
   refine jI_ 28 38 ?_
   refine jI_ 29 39 ?_
   refine sI8_ 25 35 ?_
   refine sI8_ 30 40 ?_
   refine jI_ 31 41 ?_
   refine jI_ 32 42 ?_
   refine jI_ 33 43 ?_
   refine done_ (done_of HT_.out (by kernel_rfl)) ?_
   try go_wp2
   go_roundg k1
   case measure => have := HK1.out; omega
   case rel => exact ⟨(wrap64 (x3_1 + 1)), qz5, H', ⟨by have := HK1.out; omega⟩, ⟨qz1⟩⟩
   }
   }
   {
   exact an_ c11 H
   }
   }
   {
   exact an_ c10 H
   }
   }
   {
   rw [if_neg c8] at H
   have c8b0 := decide_eq_false c8
   clear c8
   have H' := aM H
   clear H
   try go_wp2
   replace HB := aM (below_drew1 HB.out)
   have p184 : 0 ≤ (x3_1 : Int) := dt_
   have q184 : x3_1 < (l0.length : Int) := dt_
   obtain ⟨ad184, e184, hx184_0, hx184_1⟩ := at_T48 HR0.out x3_1 p184 q184
   have hw184_1 := hx184_1
   have hw184_0 := hx184_0
   cases e184
   replace hx184_0 := cB_ hx184_0
   replace hx184_1 := cB_ hx184_1
   replace p184 := eq_true p184
   replace q184 := eq_true q184
   have p186 : 0 ≤ (x3_1 : Int) := dt_
   have q186 : x3_1 < (l0.length : Int) := dt_
   obtain ⟨ad186, e186, hx186_0, hx186_1⟩ := at_T48 HR0.out x3_1 p186 q186
   have hw186_1 := hx186_1
   have hw186_0 := hx186_0
   obtain rfl : ad184 = ad186 := (by injection e186)
   replace hx186_0 := cB_ hx186_0
   replace hx186_1 := cB_ hx186_1
   replace p186 := eq_true p186
   replace q186 := eq_true q186
   refine start_ (n := 34) (S := fun w' => w'.cell? (ad184.add ((x3_1).toNat * 2)) = some (.int .i64 ((rd_T48 l0 x3_1).f0)) ∧ w'.cell? ⟨(ad184.add ((x3_1).toNat * 2)).block, (ad184.add ((x3_1).toNat * 2)).off + 1, none⟩ = some (.int .i64 ((rd_T48 l0 x3_1).f1)) ∧ w'.cell? (ad184.add ((x3_1).toNat * 2)) = some (.int .i64 ((rd_T48 l0 x3_1).f0)) ∧ w'.cell? ⟨(ad184.add ((x3_1).toNat * 2)).block, (ad184.add ((x3_1).toNat * 2)).off + 1, none⟩ = some (.int .i64 ((rd_T48 l0 x3_1).f1))) (ds := []) #[false, false, false, false, false, false, false, false, false, false, false, false, false, false, false, false, false, false, false, false, false, false, false, false, false, false, false, false, false, false, false, false, false, false] (by kernel_rfl) rfl rfl ⟨(cB_ hw184_0), (cB_ hw184_1), (cB_ hw186_0), (cB_ hw186_1)⟩ (fun hHeld => ?_); refine with_tabW spec_ItemsOk.tab4 spec_ItemsOk.bits4 (fun HT_ HW_ => ?_)
   generalize wr.drew = w15 at HB hx184_0 hx184_1 hx186_0 hx186_1 hHeld ⊢
   refine pI_ 0 10 (bqz 34 1) ?_
   refine jI_ 1 11 ?_
   refine jI_ 2 12 ?_
   refine jI_ 3 13 ?_
   refine sI4_ 4 14 ?_
   refine one_ (i := 5) (N := some 15) (bqz 34 63) rfl rfl qzc (by decide) (fun K hK => ?_)
   refine goes_ Try.func81 (by kernel_rfl) rfl #[.int .i64 ((rd_T48 l0 x3_1).f0), .int .i64 1, .int .i64 50] (by rfl) rfl rfl qz4 ?_
   with_reducible refine (spec_l1In.calls ((rd_T48 l0 x3_1).f0) 1 50 true _ A4.out).mono ?_
   rintro e w' ⟨rfl, ⟨nd, rfl⟩⟩
   refine ⟨_, rfl, ?_⟩
   refine hK.out _ _ ⟨(cB_ hw184_0), (cB_ hw184_1), (cB_ hw186_0), (cB_ hw186_1)⟩ (fun hHeld => ?_)
   clear hK K
   refine nm_ 15 ?_
   refine jI_ 6 16 ?_
   refine jI_ 7 17 ?_
   refine jI_ 8 18 ?_
   refine jI_ 9 19 ?_
   refine jI_ 10 20 ?_
   refine jI_ 11 21 ?_
   refine sI4_ 12 22 ?_
   refine one_ (i := 13) (N := some 23) (bqz 34 16383) rfl rfl qzc (by decide) (fun K hK => ?_)
   refine goes_ Try.func81 (by kernel_rfl) rfl #[.int .i64 ((rd_T48 l0 x3_1).f1), .int .i64 1, .int .i64 1000] (by rfl) rfl rfl qz4 ?_
   with_reducible refine (spec_l1In.calls ((rd_T48 l0 x3_1).f1) 1 1000 true _ A6.out).mono ?_
   rintro e w' ⟨rfl, ⟨nd, rfl⟩⟩
   refine ⟨_, rfl, ?_⟩
   refine hK.out _ _ ⟨(cB_ hw184_0), (cB_ hw184_1), (cB_ hw186_0), (cB_ hw186_1)⟩ (fun hHeld => ?_)
   clear hK K
   refine nm_ 23 ?_
   refine jI_ 14 24 ?_
   refine jI_ 15 25 ?_
   refine jI_ 16 26 ?_
   refine jI_ 17 27 ?_
   refine jI_ 18 28 ?_
   refine jI_ 19 29 ?_
   refine jU_ 20 30 ?_
   refine jU_ 21 31 ?_
   refine jU_ 22 32 ?_
   refine jU_ 23 33 ?_
   refine jU_ 24 34 ?_
   refine jU_ 25 35 ?_
   refine jU_ 26 36 ?_
   refine jU_ 27 37 ?_
   refine jU_ 28 38 ?_
   refine jU_ 29 39 ?_
   refine jU_ 30 40 ?_
   refine jU_ 31 41 ?_
   refine jI_ 32 42 ?_
   refine jI_ 33 43 ?_
   refine done_ (done_of HT_.out (by kernel_rfl)) ?_
   try go_wp2
   go_roundg k1
   case measure => have := HK1.out; omega
   case rel => exact ⟨(wrap64 (x3_1 + 1)), qz5, H', ⟨by have := HK1.out; omega⟩, ⟨qz1⟩⟩
   }
   }
   {
   replace c7 := Bool.eq_false_iff.mpr c7
   subst c7
   rw [if_neg (show ¬ (false = true) by decide)] at H
   obtain rfl := Option.some.inj H
   simp only [Option.some.injEq, Prod.mk.injEq] at H
   obtain ⟨rfl⟩ := H
   try go_wp2
   replace HB := aM (below_drew1 HB.out)
   have p184 : 0 ≤ (x3_1 : Int) := dt_
   have q184 : x3_1 < (l0.length : Int) := dt_
   obtain ⟨ad184, e184, hx184_0, hx184_1⟩ := at_T48 HR0.out x3_1 p184 q184
   have hw184_1 := hx184_1
   have hw184_0 := hx184_0
   cases e184
   replace hx184_0 := cB_ hx184_0
   replace hx184_1 := cB_ hx184_1
   replace p184 := eq_true p184
   replace q184 := eq_true q184
   have p186 : 0 ≤ (x3_1 : Int) := dt_
   have q186 : x3_1 < (l0.length : Int) := dt_
   obtain ⟨ad186, e186, hx186_0, hx186_1⟩ := at_T48 HR0.out x3_1 p186 q186
   have hw186_1 := hx186_1
   have hw186_0 := hx186_0
   obtain rfl : ad184 = ad186 := (by injection e186)
   replace hx186_0 := cB_ hx186_0
   replace hx186_1 := cB_ hx186_1
   replace p186 := eq_true p186
   replace q186 := eq_true q186
   refine start_ (n := 34) (S := fun w' => w'.cell? (ad184.add ((x3_1).toNat * 2)) = some (.int .i64 ((rd_T48 l0 x3_1).f0)) ∧ w'.cell? ⟨(ad184.add ((x3_1).toNat * 2)).block, (ad184.add ((x3_1).toNat * 2)).off + 1, none⟩ = some (.int .i64 ((rd_T48 l0 x3_1).f1)) ∧ w'.cell? (ad184.add ((x3_1).toNat * 2)) = some (.int .i64 ((rd_T48 l0 x3_1).f0)) ∧ w'.cell? ⟨(ad184.add ((x3_1).toNat * 2)).block, (ad184.add ((x3_1).toNat * 2)).off + 1, none⟩ = some (.int .i64 ((rd_T48 l0 x3_1).f1))) (ds := []) #[false, false, false, false, false, false, false, false, false, false, false, false, false, false, false, false, false, false, false, false, false, false, false, false, false, false, false, false, false, false, false, false, false, false] (by kernel_rfl) rfl rfl ⟨(cB_ hw184_0), (cB_ hw184_1), (cB_ hw186_0), (cB_ hw186_1)⟩ (fun hHeld => ?_); refine with_tabW spec_ItemsOk.tab4 spec_ItemsOk.bits4 (fun HT_ HW_ => ?_)
   generalize wr.drew = w16 at HB hx184_0 hx184_1 hx186_0 hx186_1 hHeld ⊢
   refine pI_ 0 10 (bqz 34 1) ?_
   refine jI_ 1 11 ?_
   refine jI_ 2 12 ?_
   refine jI_ 3 13 ?_
   refine sI4_ 4 14 ?_
   refine one_ (i := 5) (N := some 15) (bqz 34 63) rfl rfl qzc (by decide) (fun K hK => ?_)
   refine goes_ Try.func81 (by kernel_rfl) rfl #[.int .i64 ((rd_T48 l0 x3_1).f0), .int .i64 1, .int .i64 50] (by rfl) rfl rfl qz4 ?_
   with_reducible refine (spec_l1In.calls ((rd_T48 l0 x3_1).f0) 1 50 true _ A4.out).mono ?_
   rintro e w' ⟨rfl, ⟨nd, rfl⟩⟩
   refine ⟨_, rfl, ?_⟩
   refine hK.out _ _ ⟨(cB_ hw184_0), (cB_ hw184_1), (cB_ hw186_0), (cB_ hw186_1)⟩ (fun hHeld => ?_)
   clear hK K
   refine nm_ 15 ?_
   refine jI_ 6 16 ?_
   refine jI_ 7 17 ?_
   refine jI_ 8 18 ?_
   refine jI_ 9 19 ?_
   refine jI_ 10 20 ?_
   refine jI_ 11 21 ?_
   refine sI4_ 12 22 ?_
   refine one_ (i := 13) (N := some 23) (bqz 34 16383) rfl rfl qzc (by decide) (fun K hK => ?_)
   refine goes_ Try.func81 (by kernel_rfl) rfl #[.int .i64 ((rd_T48 l0 x3_1).f1), .int .i64 1, .int .i64 1000] (by rfl) rfl rfl qz4 ?_
   with_reducible refine (spec_l1In.calls ((rd_T48 l0 x3_1).f1) 1 1000 false _ A6.out).mono ?_
   rintro e w' ⟨rfl, ⟨nd, rfl⟩⟩
   refine ⟨_, rfl, ?_⟩
   refine hK.out _ _ ⟨(cB_ hw184_0), (cB_ hw184_1), (cB_ hw186_0), (cB_ hw186_1)⟩ (fun hHeld => ?_)
   clear hK K
   refine nm_ 23 ?_
   refine jI_ 14 24 ?_
   refine jI_ 15 25 ?_
   refine jI_ 16 26 ?_
   refine jU_ 17 27 ?_
   refine jU_ 18 28 ?_
   refine jU_ 19 29 ?_
   refine jU_ 20 30 ?_
   refine jU_ 21 31 ?_
   refine jU_ 22 32 ?_
   refine jU_ 23 33 ?_
   refine jU_ 24 34 ?_
   refine jU_ 25 35 ?_
   refine jU_ 26 36 ?_
   refine jU_ 27 37 ?_
   refine jU_ 28 38 ?_
   refine jU_ 29 39 ?_
   refine jU_ 30 40 ?_
   refine jU_ 31 41 ?_
   refine jU_ 32 42 ?_
   refine jI_ 33 43 ?_
   refine done_ (done_of HT_.out (by kernel_rfl)) ?_
   try go_wp2
   go_ret
   exact ⟨qzw, qz1⟩
   }
   }
   {
   replace c5 := Bool.eq_false_iff.mpr c5
   subst c5
   rw [if_neg (show ¬ (false = true) by decide)] at H
   obtain rfl := Option.some.inj H
   simp only [Option.some.injEq, Prod.mk.injEq] at H
   obtain ⟨rfl⟩ := H
   try go_wp2
   replace HB := aM (below_drew1 HB.out)
   have p184 : 0 ≤ (x3_1 : Int) := dt_
   have q184 : x3_1 < (l0.length : Int) := dt_
   obtain ⟨ad184, e184, hx184_0, hx184_1⟩ := at_T48 HR0.out x3_1 p184 q184
   have hw184_1 := hx184_1
   have hw184_0 := hx184_0
   cases e184
   replace hx184_0 := cB_ hx184_0
   replace hx184_1 := cB_ hx184_1
   replace p184 := eq_true p184
   replace q184 := eq_true q184
   refine start_ (n := 34) (S := fun w' => w'.cell? (ad184.add ((x3_1).toNat * 2)) = some (.int .i64 ((rd_T48 l0 x3_1).f0)) ∧ w'.cell? ⟨(ad184.add ((x3_1).toNat * 2)).block, (ad184.add ((x3_1).toNat * 2)).off + 1, none⟩ = some (.int .i64 ((rd_T48 l0 x3_1).f1))) (ds := []) #[false, false, false, false, false, false, false, false, false, false, false, false, false, false, false, false, false, false, false, false, false, false, false, false, false, false, false, false, false, false, false, false, false, false] (by kernel_rfl) rfl rfl ⟨(cB_ hw184_0), (cB_ hw184_1)⟩ (fun hHeld => ?_); refine with_tabW spec_ItemsOk.tab4 spec_ItemsOk.bits4 (fun HT_ HW_ => ?_)
   generalize wr.drew = w17 at HB hx184_0 hx184_1 hHeld ⊢
   refine pI_ 0 10 (bqz 34 1) ?_
   refine jI_ 1 11 ?_
   refine jI_ 2 12 ?_
   refine jI_ 3 13 ?_
   refine sI2_ 4 14 ?_
   refine one_ (i := 5) (N := some 15) (bqz 34 63) rfl rfl qzc (by decide) (fun K hK => ?_)
   refine goes_ Try.func81 (by kernel_rfl) rfl #[.int .i64 ((rd_T48 l0 x3_1).f0), .int .i64 1, .int .i64 50] (by rfl) rfl rfl qz4 ?_
   with_reducible refine (spec_l1In.calls ((rd_T48 l0 x3_1).f0) 1 50 false _ A4.out).mono ?_
   rintro e w' ⟨rfl, ⟨nd, rfl⟩⟩
   refine ⟨_, rfl, ?_⟩
   refine hK.out _ _ ⟨(cB_ hw184_0), (cB_ hw184_1)⟩ (fun hHeld => ?_)
   clear hK K
   refine nm_ 15 ?_
   refine jI_ 6 16 ?_
   refine jI_ 7 17 ?_
   refine jU_ 8 18 ?_
   refine jU_ 9 19 ?_
   refine jU_ 10 20 ?_
   refine jU_ 11 21 ?_
   refine jU_ 12 22 ?_
   refine jU_ 13 23 ?_
   refine jU_ 14 24 ?_
   refine jI_ 15 25 ?_
   refine jI_ 16 26 ?_
   refine jU_ 17 27 ?_
   refine jU_ 18 28 ?_
   refine jU_ 19 29 ?_
   refine jU_ 20 30 ?_
   refine jU_ 21 31 ?_
   refine jU_ 22 32 ?_
   refine jU_ 23 33 ?_
   refine jU_ 24 34 ?_
   refine jU_ 25 35 ?_
   refine jU_ 26 36 ?_
   refine jU_ 27 37 ?_
   refine jU_ 28 38 ?_
   refine jU_ 29 39 ?_
   refine jU_ 30 40 ?_
   refine jU_ 31 41 ?_
   refine jU_ 32 42 ?_
   refine jI_ 33 43 ?_
   refine done_ (done_of HT_.out (by kernel_rfl)) ?_
   try go_wp2
   go_ret
   exact ⟨qzw, qz1⟩
   }
   }
   {
   exact an_ c3 H
   }
   }
   {
   rw [if_neg c2] at H
   have c2b0 := decide_eq_false c2
   clear c2
   obtain rfl := Option.some.inj H
   simp only [Option.some.injEq, Prod.mk.injEq] at H
   obtain ⟨rfl⟩ := H
   go_wp2
   go_ret
   exact ⟨qzw, qz1⟩

   }
end Go.Proofs.Yteajnkondkfmgaa.PFnEach
