-- Made by a program of this session out of the translation. Lean checks it.
import Derived.Test.YteajnkondkfmgaaPFnExactPicksx0
import Derived.Test.YteajnkondkfmgaaPFnExactPicksx9
namespace Go.Proofs.Yteajnkondkfmgaa.PFnExactPicks
open Go.RowKit Go.Proofs.YteajnkondkfmgaaW.PrintWords Go.Proofs.YteajnkondkfmgaaW.PrintLast Go.Proofs.YteajnkondkfmgaaW.PrintMore
attribute [local go_sem] max2_int min2_int max_two min_two max_three min_three max_four min_four   -- for this text's walks alone
set_option linter.unusedVariables false
set_option linter.unusedSimpArgs false

/-! ### spec_ItemsOk: function 38 -/
def spec_ItemsOk.l0 : Nat → List (S48) → Int → Option (Bool)
 | 0, _, _ => none
 | k + 1, x0, x3 => if x3 < (x0.length : Int) then (if 0 ≤ x3 then ((spec_l1In.f ((rd_T48 x0 x3).f0) 1 50).bind fun t282 => (if t282 = true then ((spec_l1In.f ((rd_T48 x0 x3).f1) 1 1000).bind fun t284 => (if t284 = true then (if x3 > 0 then (if 0 ≤ (wrap64 (x3 - 1)) then (if (wrap64 (x3 - 1)) < (x0.length : Int) then (if ((rd_T48 x0 (wrap64 (x3 - 1))).f0) ≥ ((rd_T48 x0 x3).f0) then (some false) else (spec_ItemsOk.l0 k x0 (wrap64 (x3 + 1)))) else (none)) else (none)) else (spec_ItemsOk.l0 k x0 (wrap64 (x3 + 1)))) else (some false))) else (some false))) else (none)) else (some (decide ((x0.length : Int) ≤ 6)))
def spec_ItemsOk.f (k : Nat) (l0 : List (S48)) : Option (Bool) := spec_ItemsOk.l0 k l0 0
theorem spec_ItemsOk.mono_l : ∀ k, (∀ y0 y1, LeO (spec_ItemsOk.l0 k y0 y1) (spec_ItemsOk.l0 (k + 1) y0 y1))
 | 0 => fun _ _ r h => by simp [spec_ItemsOk.l0] at h
 | k + 1 => by
  have ih0 := spec_ItemsOk.mono_l k
  {
  intro y0 y1
  unfold spec_ItemsOk.l0
  repeat' first
  | (with_reducible first | exact ih0 _ _ | exact LeO.refl _ | exact LeO.none _ | refine LeO.ite ?_ ?_ | refine LeO.bind ?_ (fun _ => ?_))
  | exact ih0 _ _
  | exact LeO.none _
  | refine LeO.ite ?_ ?_
  | refine LeO.bind ?_ (fun _ => ?_)
  }
theorem spec_ItemsOk.mono : ∀ a0 k, LeO (spec_ItemsOk.f k a0) (spec_ItemsOk.f (k + 1) a0) := by
 intro a0 k
 have ih0 := spec_ItemsOk.mono_l k
 unfold spec_ItemsOk.f
 repeat' first
  | (with_reducible first | exact ih0 _ _ | exact LeO.refl _ | exact LeO.none _ | refine LeO.ite ?_ ?_ | refine LeO.bind ?_ (fun _ => ?_))
  | exact ih0 _ _
  | exact LeO.none _
  | refine LeO.ite ?_ ?_
  | refine LeO.bind ?_ (fun _ => ?_)
def spec_ItemsOk.T4 : Bool × List (List Nat × List Nat) := (true, [([], []), ([], []), ([0, 1], [0, 1]), ([2], [2]), ([3], [3]), ([4], [4]), ([5], [5]), ([6, 5], [6]), ([7], [7]), ([7], [7]), ([8, 9, 7], [7, 8, 9]), ([10, 7], [7, 10]), ([11, 7], [7, 11]), ([12, 7, 7], [7, 12]), ([13, 7], [7, 13]), ([7, 14], [7, 14]), ([15, 13], [15]), ([16], [16]), ([17, 16], [16, 17]), ([18, 16, 16], [16, 18]), ([19], [19]), ([19], [19]), ([21, 19], [19, 21]), ([20, 22, 19], [19, 20, 22]), ([23, 19], [19, 23]), ([24, 19], [19, 24]), ([19], [19]), ([19], [19]), ([26, 27, 19], [19, 26, 27]), ([28, 19], [19, 28]), ([29, 19], [19, 29]), ([25, 30, 19], [19, 25, 30]), ([19, 31, 16], [16, 19, 31]), ([16, 32], [16, 32])])
def spec_ItemsOk.B4 : List Nat := [0, 0, 3, 7, 15, 31, 63, 127, 255, 255, 1023, 2047, 4095, 8191, 16383, 32767, 65535, 131071, 262143, 524287, 1048575, 1048575, 3145727, 8388607, 16777215, 33554431, 1048575, 1048575, 202375167, 470810623, 1007681535, 2147483647, 4294967295, 8589934591]
theorem spec_ItemsOk.tab4 : rtab .any (opsOf Try.f38 4) = spec_ItemsOk.T4 := by kernel_rfl
theorem spec_ItemsOk.bits4 : waitsOk spec_ItemsOk.T4.2 spec_ItemsOk.B4 = true := by kernel_rfl
set_option maxHeartbeats 8000000 in
set_option maxRecDepth 100000 in
theorem spec_ItemsOk.calls (k : Nat) (A0 : Option Addr) (c0 : Nat) (l0 : List (S48)) (r : Bool) (w : World) (hr0 : Kd.C k48 w A0 l0.length l0) (hc0 : l0.length ≤ c0) (h : spec_ItemsOk.f k l0 = some r) :
  Calls Try.prog 38 #[.slice A0 l0.length c0] w fun e w' => e = .returned (.bool r) ∧ Below w.heap.size w w' := by
 have HR0 := aM hr0
 have HC0 := aM hc0
 clear hr0 hc0
 have HB := aM (Below.refl w.heap.size w)
 have H : (spec_ItemsOk.l0 k l0 0) = some r := h
 clear h
 have H' := aM H
 clear H
 go_enter Try.func38, Try.ntmps38
 go_wp2
 go_loopg [3] k (fun kq v3 w' => ∃ (x3_1 : Int), v3 = .int .i64 x3_1 ∧ Aside0 (spec_ItemsOk.l0 kq l0 x3_1 = some r) ∧ Aside0 (kq ≤ k) ∧ Aside0 (Below w.heap.size w w'))
 case atStart => exact ⟨(0), qz4, H', ⟨Nat.le_refl _⟩, ⟨by repeat (first | (with_reducible first | exact HB.out | apply below_alloc | apply pw_below_drewN | apply below_drew1) | exact HB.out)⟩⟩
 case round =>
  clear H'
  obtain ⟨x3_1, rfl, HA, HK1, HB⟩ := hrel
  cases gk with
  | zero => exact absurd HA.out (by simp [spec_ItemsOk.l0])
  | succ k1 =>
   have H := HA.out
   clear HA
   simp only [spec_ItemsOk.l0] at H
   by_cases c2 : x3_1 < (l0.length : Int)
   {
   rw [if_pos c2] at H
   have c2b0 := decide_eq_true c2
   clear c2
   by_cases c3 : 0 ≤ x3_1
   {
   rw [if_pos c3] at H
   have c3b0 := decide_eq_true c3
   clear c3
   replace H := Option.bind_eq_some_iff.mp H
   obtain ⟨t282, A40, H⟩ := H
   replace H : (if t282 = true then ((spec_l1In.f ((rd_T48 l0 x3_1).f1) 1 1000).bind fun t284 => (if t284 = true then (if x3_1 > 0 then (if 0 ≤ (wrap64 (x3_1 - 1)) then (if (wrap64 (x3_1 - 1)) < (l0.length : Int) then (if ((rd_T48 l0 (wrap64 (x3_1 - 1))).f0) ≥ ((rd_T48 l0 x3_1).f0) then (some false) else (spec_ItemsOk.l0 k1 l0 (wrap64 (x3_1 + 1)))) else (none)) else (none)) else (spec_ItemsOk.l0 k1 l0 (wrap64 (x3_1 + 1)))) else (some false))) else (some false)) = some r := H
   have A4 := aM A40
   clear A40
   by_cases c5 : t282 = true
   {
   subst c5
   rw [if_pos rfl] at H
   replace H := Option.bind_eq_some_iff.mp H
   obtain ⟨t284, A60, H⟩ := H
   replace H : (if t284 = true then (if x3_1 > 0 then (if 0 ≤ (wrap64 (x3_1 - 1)) then (if (wrap64 (x3_1 - 1)) < (l0.length : Int) then (if ((rd_T48 l0 (wrap64 (x3_1 - 1))).f0) ≥ ((rd_T48 l0 x3_1).f0) then (some false) else (spec_ItemsOk.l0 k1 l0 (wrap64 (x3_1 + 1)))) else (none)) else (none)) else (spec_ItemsOk.l0 k1 l0 (wrap64 (x3_1 + 1)))) else (some false)) = some r := H
   have A6 := aM A60
   clear A60
   by_cases c7 : t284 = true
   {
   subst c7
   rw [if_pos rfl] at H
   by_cases c8 : x3_1 > 0
   {
   rw [if_pos c8] at H
   have c8b0 := decide_eq_true c8
   clear c8
   obtain ⟨ji9, hji9⟩ : ∃ j_ : Int, (wrap64 (x3_1 - 1)) = j_ := ⟨_, rfl⟩
   replace H : (if 0 ≤ (ji9) then (if (ji9) < (l0.length : Int) then (if ((rd_T48 l0 (ji9)).f0) ≥ ((rd_T48 l0 x3_1).f0) then (some false) else (spec_ItemsOk.l0 k1 l0 (wrap64 (x3_1 + 1)))) else (none)) else (none)) = some r := by first | (rw [hji9] at H; exact H) | (simp only [hji9] at H ⊢; exact H)
   (try rw [hji9] at A4)
   (try rw [hji9] at A6)
   have hji9w : (IntKind.i64.wrap (x3_1 - 1)) = ji9 := (i64_w _).trans hji9
   by_cases c10 : 0 ≤ (ji9)
   {
   rw [if_pos c10] at H
   have c10b0 := decide_eq_true c10
   clear c10
   by_cases c11 : (ji9) < (l0.length : Int)
   {
   rw [if_pos c11] at H
   have c11b0 := decide_eq_true c11
   clear c11
   by_cases c12 : ((rd_T48 l0 (ji9)).f0) ≥ ((rd_T48 l0 x3_1).f0)
   {
   rw [if_pos c12] at H
   have c12b0 := decide_eq_true c12
   clear c12
   obtain rfl := Option.some.inj H
   simp only [Option.some.injEq, Prod.mk.injEq] at H
   obtain ⟨rfl⟩ := H
   try go_wp2
   have n0_ := aM (below_drew1 HB.out)
   clear HB
   have HB := n0_
   clear n0_
   have p281 : 0 ≤ (x3_1 : Int) := of_decide_eq_true qz2
   have q281 : x3_1 < (l0.length : Int) := of_decide_eq_true qz2
   obtain ⟨ad281, e281, hx281_0, hx281_1⟩ := at_T48 HR0.out x3_1 p281 q281
   have hw281_1 := hx281_1
   have hw281_0 := hx281_0
   cases e281
   replace hx281_0 := pw_cell_below HB.out hx281_0
   replace hx281_1 := pw_cell_below HB.out hx281_1
   replace p281 := eq_true p281
   replace q281 := eq_true q281
   have p283 : 0 ≤ (x3_1 : Int) := of_decide_eq_true qz2
   have q283 : x3_1 < (l0.length : Int) := of_decide_eq_true qz2
   obtain ⟨ad283, e283, hx283_0, hx283_1⟩ := at_T48 HR0.out x3_1 p283 q283
   have hw283_1 := hx283_1
   have hw283_0 := hx283_0
   obtain rfl : ad281 = ad283 := (by injection e283)
   replace hx283_0 := pw_cell_below HB.out hx283_0
   replace hx283_1 := pw_cell_below HB.out hx283_1
   replace p283 := eq_true p283
   replace q283 := eq_true q283
   have p285 : 0 ≤ ((ji9) : Int) := of_decide_eq_true qz2
   have q285 : (ji9) < (l0.length : Int) := of_decide_eq_true qz2
   obtain ⟨ad285, e285, hx285_0, hx285_1⟩ := at_T48 HR0.out (ji9) p285 q285
   have hw285_1 := hx285_1
   have hw285_0 := hx285_0
   obtain rfl : ad281 = ad285 := (by injection e285)
   replace hx285_0 := pw_cell_below HB.out hx285_0
   replace hx285_1 := pw_cell_below HB.out hx285_1
   replace p285 := eq_true p285
   replace q285 := eq_true q285
   have p286 : 0 ≤ (x3_1 : Int) := of_decide_eq_true qz2
   have q286 : x3_1 < (l0.length : Int) := of_decide_eq_true qz2
   obtain ⟨ad286, e286, hx286_0, hx286_1⟩ := at_T48 HR0.out x3_1 p286 q286
   have hw286_1 := hx286_1
   have hw286_0 := hx286_0
   obtain rfl : ad281 = ad286 := (by injection e286)
   replace hx286_0 := pw_cell_below HB.out hx286_0
   replace hx286_1 := pw_cell_below HB.out hx286_1
   replace p286 := eq_true p286
   replace q286 := eq_true q286
   refine start_ (n := 34) (S := fun w' => w'.cell? (ad281.add ((x3_1).toNat * 2)) = some (.int .i64 ((rd_T48 l0 x3_1).f0)) ∧ w'.cell? ⟨(ad281.add ((x3_1).toNat * 2)).block, (ad281.add ((x3_1).toNat * 2)).off + 1, none⟩ = some (.int .i64 ((rd_T48 l0 x3_1).f1)) ∧ w'.cell? (ad281.add ((x3_1).toNat * 2)) = some (.int .i64 ((rd_T48 l0 x3_1).f0)) ∧ w'.cell? ⟨(ad281.add ((x3_1).toNat * 2)).block, (ad281.add ((x3_1).toNat * 2)).off + 1, none⟩ = some (.int .i64 ((rd_T48 l0 x3_1).f1)) ∧ w'.cell? (ad281.add (((ji9)).toNat * 2)) = some (.int .i64 ((rd_T48 l0 (ji9)).f0)) ∧ w'.cell? ⟨(ad281.add (((ji9)).toNat * 2)).block, (ad281.add (((ji9)).toNat * 2)).off + 1, none⟩ = some (.int .i64 ((rd_T48 l0 (ji9)).f1)) ∧ w'.cell? (ad281.add ((x3_1).toNat * 2)) = some (.int .i64 ((rd_T48 l0 x3_1).f0)) ∧ w'.cell? ⟨(ad281.add ((x3_1).toNat * 2)).block, (ad281.add ((x3_1).toNat * 2)).off + 1, none⟩ = some (.int .i64 ((rd_T48 l0 x3_1).f1))) (ds := []) #[false, false, false, false, false, false, false, false, false, false, false, false, false, false, false, false, false, false, false, false, false, false, false, false, false, false, false, false, false, false, false, false, false, false] (by kernel_rfl) rfl rfl ⟨(pw_cell_below HB.out hw281_0), (pw_cell_below HB.out hw281_1), (pw_cell_below HB.out hw283_0), (pw_cell_below HB.out hw283_1), (pw_cell_below HB.out hw285_0), (pw_cell_below HB.out hw285_1), (pw_cell_below HB.out hw286_0), (pw_cell_below HB.out hw286_1)⟩ (fun hHeld => ?_); refine with_tabW spec_ItemsOk.tab4 spec_ItemsOk.bits4 (fun HT_ HW_ => ?_)
   generalize wr.drew = w13 at HB hx281_0 hx281_1 hx283_0 hx283_1 hx285_0 hx285_1 hx286_0 hx286_1 hHeld ⊢
   refine pI_ 0 10 (bqz 34 1) ?_
   refine pI_ 1 11 (bqz 34 3) ?_
   refine pI_ 2 12 (bqz 34 7) ?_
   refine pI_ 3 13 (bqz 34 15) ?_
   refine tI8_ 4 14 (bqz 34 31) ?_
   refine one_ (i := 5) (N := some 15) (bqz 34 63) rfl rfl qzc (by decide) (fun K hK => ?_)
   refine goes_ Try.func81 (by kernel_rfl) rfl #[.int .i64 ((rd_T48 l0 x3_1).f0), .int .i64 1, .int .i64 50] (by rfl) rfl rfl qz3 ?_
   with_reducible refine (spec_l1In.calls ((rd_T48 l0 x3_1).f0) 1 50 true _ A4.out).mono ?_
   rintro e w' ⟨rfl, ⟨nd, rfl⟩⟩
   refine ⟨_, rfl, ?_⟩
   refine hK.out _ _ ⟨(pw_cell_below HB.out hw281_0), (pw_cell_below HB.out hw281_1), (pw_cell_below HB.out hw283_0), (pw_cell_below HB.out hw283_1), (pw_cell_below HB.out hw285_0), (pw_cell_below HB.out hw285_1), (pw_cell_below HB.out hw286_0), (pw_cell_below HB.out hw286_1)⟩ (fun hHeld => ?_)
   clear hK K
   refine norm_ (a' := ?_) ?_ ?_
   rotate_left
   {
   show Act.put _ (some 15) _ = _
   simp only [qzs]
   rfl
   }
   refine pI_ 6 16 (bqz 34 127) ?_
   refine pI_ 7 17 (bqz 34 255) ?_
   refine pI_ 8 18 (bqz 34 511) ?_
   refine pI_ 9 19 (bqz 34 1023) ?_
   refine pI_ 10 20 (bqz 34 2047) ?_
   refine pI_ 11 21 (bqz 34 4095) ?_
   refine tI8_ 12 22 (bqz 34 8191) ?_
   refine one_ (i := 13) (N := some 23) (bqz 34 16383) rfl rfl qzc (by decide) (fun K hK => ?_)
   refine goes_ Try.func81 (by kernel_rfl) rfl #[.int .i64 ((rd_T48 l0 x3_1).f1), .int .i64 1, .int .i64 1000] (by rfl) rfl rfl qz3 ?_
   with_reducible refine (spec_l1In.calls ((rd_T48 l0 x3_1).f1) 1 1000 true _ A6.out).mono ?_
   rintro e w' ⟨rfl, ⟨nd, rfl⟩⟩
   refine ⟨_, rfl, ?_⟩
   refine hK.out _ _ ⟨(pw_cell_below HB.out hw281_0), (pw_cell_below HB.out hw281_1), (pw_cell_below HB.out hw283_0), (pw_cell_below HB.out hw283_1), (pw_cell_below HB.out hw285_0), (pw_cell_below HB.out hw285_1), (pw_cell_below HB.out hw286_0), (pw_cell_below HB.out hw286_1)⟩ (fun hHeld => ?_)
   clear hK K
   refine norm_ (a' := ?_) ?_ ?_
   rotate_left
   {
   show Act.put _ (some 23) _ = _
   simp only [qzs]
   rfl
   }
   refine pI_ 14 24 (bqz 34 32767) ?_
   refine pI_ 15 25 (bqz 34 65535) ?_
   refine pI_ 16 26 (bqz 34 131071) ?_
   refine pI_ 17 27 (bqz 34 262143) ?_
   refine pI_ 18 28 (bqz 34 524287) ?_
   refine pI_ 19 29 (bqz 34 1048575) ?_
   refine pI_ 20 30 (bqz 34 2097151) ?_
   refine pI_ 21 31 (bqz 34 4194303) ?_
   refine pI_ 22 32 (bqz 34 8388607) ?_
   refine pI_ 23 33 (bqz 34 16777215) ?_
   refine pI_ 24 34 (bqz 34 33554431) ?_
   refine pI_ 26 36 (bqz 34 100663295) ?_
   refine pI_ 27 37 (bqz 34 234881023) ?_
   refine pI_ 28 38 (bqz 34 503316479) ?_
   refine pI_ 29 39 (bqz 34 1040187391) ?_
   refine tI8_ 25 35 (bqz 34 1073741823) ?_
   refine tI8_ 30 40 (bqz 34 2147483647) ?_
   refine pI_ 31 41 (bqz 34 4294967295) ?_
   refine pI_ 32 42 (bqz 34 8589934591) ?_
   refine pI_ 33 43 (bqz 34 17179869183) ?_
   refine done_ (done_of HT_.out (by kernel_rfl)) ?_
   try go_wp2
   go_ret
   exact ⟨by first | rfl | (simp [errW_none, errW_some] <;> rfl) | (simp only [← hji9]; first | rfl | (simp [errW_none, errW_some] <;> rfl)) | (simp [*, errW_none, errW_some] <;> rfl), by repeat (first | (with_reducible first | exact HB.out | apply below_alloc | apply pw_below_drewN | apply below_drew1) | exact HB.out)⟩
   }
   {
   rw [if_neg c12] at H
   have c12b0 := decide_eq_false c12
   clear c12
   have H' := aM H
   clear H
   try go_wp2
   have n0_ := aM (below_drew1 HB.out)
   clear HB
   have HB := n0_
   clear n0_
   have p281 : 0 ≤ (x3_1 : Int) := of_decide_eq_true qz2
   have q281 : x3_1 < (l0.length : Int) := of_decide_eq_true qz2
   obtain ⟨ad281, e281, hx281_0, hx281_1⟩ := at_T48 HR0.out x3_1 p281 q281
   have hw281_1 := hx281_1
   have hw281_0 := hx281_0
   cases e281
   replace hx281_0 := pw_cell_below HB.out hx281_0
   replace hx281_1 := pw_cell_below HB.out hx281_1
   replace p281 := eq_true p281
   replace q281 := eq_true q281
   have p283 : 0 ≤ (x3_1 : Int) := of_decide_eq_true qz2
   have q283 : x3_1 < (l0.length : Int) := of_decide_eq_true qz2
   obtain ⟨ad283, e283, hx283_0, hx283_1⟩ := at_T48 HR0.out x3_1 p283 q283
   have hw283_1 := hx283_1
   have hw283_0 := hx283_0
   obtain rfl : ad281 = ad283 := (by injection e283)
   replace hx283_0 := pw_cell_below HB.out hx283_0
   replace hx283_1 := pw_cell_below HB.out hx283_1
   replace p283 := eq_true p283
   replace q283 := eq_true q283
   have p285 : 0 ≤ ((ji9) : Int) := of_decide_eq_true qz2
   have q285 : (ji9) < (l0.length : Int) := of_decide_eq_true qz2
   obtain ⟨ad285, e285, hx285_0, hx285_1⟩ := at_T48 HR0.out (ji9) p285 q285
   have hw285_1 := hx285_1
   have hw285_0 := hx285_0
   obtain rfl : ad281 = ad285 := (by injection e285)
   replace hx285_0 := pw_cell_below HB.out hx285_0
   replace hx285_1 := pw_cell_below HB.out hx285_1
   replace p285 := eq_true p285
   replace q285 := eq_true q285
   have p286 : 0 ≤ (x3_1 : Int) := of_decide_eq_true qz2
   have q286 : x3_1 < (l0.length : Int) := of_decide_eq_true qz2
   obtain ⟨ad286, e286, hx286_0, hx286_1⟩ := at_T48 HR0.out x3_1 p286 q286
   have hw286_1 := hx286_1
   have hw286_0 := hx286_0
   obtain rfl : ad281 = ad286 := (by injection e286)
   replace hx286_0 := pw_cell_below HB.out hx286_0
   replace hx286_1 := pw_cell_below HB.out hx286_1
   replace p286 := eq_true p286
   replace q286 := eq_true q286
   refine start_ (n := 34) (S := fun w' => w'.cell? (ad281.add ((x3_1).toNat * 2)) = some (.int .i64 ((rd_T48 l0 x3_1).f0)) ∧ w'.cell? ⟨(ad281.add ((x3_1).toNat * 2)).block, (ad281.add ((x3_1).toNat * 2)).off + 1, none⟩ = some (.int .i64 ((rd_T48 l0 x3_1).f1)) ∧ w'.cell? (ad281.add ((x3_1).toNat * 2)) = some (.int .i64 ((rd_T48 l0 x3_1).f0)) ∧ w'.cell? ⟨(ad281.add ((x3_1).toNat * 2)).block, (ad281.add ((x3_1).toNat * 2)).off + 1, none⟩ = some (.int .i64 ((rd_T48 l0 x3_1).f1)) ∧ w'.cell? (ad281.add (((ji9)).toNat * 2)) = some (.int .i64 ((rd_T48 l0 (ji9)).f0)) ∧ w'.cell? ⟨(ad281.add (((ji9)).toNat * 2)).block, (ad281.add (((ji9)).toNat * 2)).off + 1, none⟩ = some (.int .i64 ((rd_T48 l0 (ji9)).f1)) ∧ w'.cell? (ad281.add ((x3_1).toNat * 2)) = some (.int .i64 ((rd_T48 l0 x3_1).f0)) ∧ w'.cell? ⟨(ad281.add ((x3_1).toNat * 2)).block, (ad281.add ((x3_1).toNat * 2)).off + 1, none⟩ = some (.int .i64 ((rd_T48 l0 x3_1).f1))) (ds := []) #[false, false, false, false, false, false, false, false, false, false, false, false, false, false, false, false, false, false, false, false, false, false, false, false, false, false, false, false, false, false, false, false, false, false] (by kernel_rfl) rfl rfl ⟨(pw_cell_below HB.out hw281_0), (pw_cell_below HB.out hw281_1), (pw_cell_below HB.out hw283_0), (pw_cell_below HB.out hw283_1), (pw_cell_below HB.out hw285_0), (pw_cell_below HB.out hw285_1), (pw_cell_below HB.out hw286_0), (pw_cell_below HB.out hw286_1)⟩ (fun hHeld => ?_); refine with_tabW spec_ItemsOk.tab4 spec_ItemsOk.bits4 (fun HT_ HW_ => ?_)
   generalize wr.drew = w14 at HB hx281_0 hx281_1 hx283_0 hx283_1 hx285_0 hx285_1 hx286_0 hx286_1 hHeld ⊢
   refine pI_ 0 10 (bqz 34 1) ?_
   refine pI_ 1 11 (bqz 34 3) ?_
   refine pI_ 2 12 (bqz 34 7) ?_
   refine pI_ 3 13 (bqz 34 15) ?_
   refine tI8_ 4 14 (bqz 34 31) ?_
   refine one_ (i := 5) (N := some 15) (bqz 34 63) rfl rfl qzc (by decide) (fun K hK => ?_)
   refine goes_ Try.func81 (by kernel_rfl) rfl #[.int .i64 ((rd_T48 l0 x3_1).f0), .int .i64 1, .int .i64 50] (by rfl) rfl rfl qz3 ?_
   with_reducible refine (spec_l1In.calls ((rd_T48 l0 x3_1).f0) 1 50 true _ A4.out).mono ?_
   rintro e w' ⟨rfl, ⟨nd, rfl⟩⟩
   refine ⟨_, rfl, ?_⟩
   refine hK.out _ _ ⟨(pw_cell_below HB.out hw281_0), (pw_cell_below HB.out hw281_1), (pw_cell_below HB.out hw283_0), (pw_cell_below HB.out hw283_1), (pw_cell_below HB.out hw285_0), (pw_cell_below HB.out hw285_1), (pw_cell_below HB.out hw286_0), (pw_cell_below HB.out hw286_1)⟩ (fun hHeld => ?_)
   clear hK K
   refine norm_ (a' := ?_) ?_ ?_
   rotate_left
   {
   show Act.put _ (some 15) _ = _
   simp only [qzs]
   rfl
   }
   refine pI_ 6 16 (bqz 34 127) ?_
   refine pI_ 7 17 (bqz 34 255) ?_
   refine pI_ 8 18 (bqz 34 511) ?_
   refine pI_ 9 19 (bqz 34 1023) ?_
   refine pI_ 10 20 (bqz 34 2047) ?_
   refine pI_ 11 21 (bqz 34 4095) ?_
   refine tI8_ 12 22 (bqz 34 8191) ?_
   refine one_ (i := 13) (N := some 23) (bqz 34 16383) rfl rfl qzc (by decide) (fun K hK => ?_)
   refine goes_ Try.func81 (by kernel_rfl) rfl #[.int .i64 ((rd_T48 l0 x3_1).f1), .int .i64 1, .int .i64 1000] (by rfl) rfl rfl qz3 ?_
   with_reducible refine (spec_l1In.calls ((rd_T48 l0 x3_1).f1) 1 1000 true _ A6.out).mono ?_
   rintro e w' ⟨rfl, ⟨nd, rfl⟩⟩
   refine ⟨_, rfl, ?_⟩
   refine hK.out _ _ ⟨(pw_cell_below HB.out hw281_0), (pw_cell_below HB.out hw281_1), (pw_cell_below HB.out hw283_0), (pw_cell_below HB.out hw283_1), (pw_cell_below HB.out hw285_0), (pw_cell_below HB.out hw285_1), (pw_cell_below HB.out hw286_0), (pw_cell_below HB.out hw286_1)⟩ (fun hHeld => ?_)
   clear hK K
   refine norm_ (a' := ?_) ?_ ?_
   rotate_left
   {
   show Act.put _ (some 23) _ = _
   simp only [qzs]
   rfl
   }
   refine pI_ 14 24 (bqz 34 32767) ?_
   refine pI_ 15 25 (bqz 34 65535) ?_
   refine pI_ 16 26 (bqz 34 131071) ?_
   refine pI_ 17 27 (bqz 34 262143) ?_
   refine pI_ 18 28 (bqz 34 524287) ?_
   refine pI_ 19 29 (bqz 34 1048575) ?_
   refine pI_ 20 30 (bqz 34 2097151) ?_
   refine pI_ 21 31 (bqz 34 4194303) ?_
   refine pI_ 22 32 (bqz 34 8388607) ?_
   refine pI_ 23 33 (bqz 34 16777215) ?_
   refine pI_ 24 34 (bqz 34 33554431) ?_
   refine pI_ 26 36 (bqz 34 100663295) ?_
   refine pI_ 27 37 (bqz 34 234881023) ?_
   refine pI_ 28 38 (bqz 34 503316479) ?_
   refine pI_ 29 39 (bqz 34 1040187391) ?_
   refine tI8_ 25 35 (bqz 34 1073741823) ?_
   refine tI8_ 30 40 (bqz 34 2147483647) ?_
   refine pI_ 31 41 (bqz 34 4294967295) ?_
   refine pI_ 32 42 (bqz 34 8589934591) ?_
   refine pI_ 33 43 (bqz 34 17179869183) ?_
   refine done_ (done_of HT_.out (by kernel_rfl)) ?_
   try go_wp2
   go_roundg k1
   case measure => have := HK1.out; omega
   case rel => exact ⟨(wrap64 (x3_1 + 1)), qz4, H', ⟨by have := HK1.out; omega⟩, ⟨by repeat (first | (with_reducible first | exact HB.out | apply below_alloc | apply pw_below_drewN | apply below_drew1) | exact HB.out)⟩⟩
   }
   }
   {
   rw [if_neg c11] at H
   exact absurd H (by simp)
   }
   }
   {
   rw [if_neg c10] at H
   exact absurd H (by simp)
   }
   }
   {
   rw [if_neg c8] at H
   have c8b0 := decide_eq_false c8
   clear c8
   have H' := aM H
   clear H
   try go_wp2
   have n0_ := aM (below_drew1 HB.out)
   clear HB
   have HB := n0_
   clear n0_
   have p281 : 0 ≤ (x3_1 : Int) := of_decide_eq_true qz2
   have q281 : x3_1 < (l0.length : Int) := of_decide_eq_true qz2
   obtain ⟨ad281, e281, hx281_0, hx281_1⟩ := at_T48 HR0.out x3_1 p281 q281
   have hw281_1 := hx281_1
   have hw281_0 := hx281_0
   cases e281
   replace hx281_0 := pw_cell_below HB.out hx281_0
   replace hx281_1 := pw_cell_below HB.out hx281_1
   replace p281 := eq_true p281
   replace q281 := eq_true q281
   have p283 : 0 ≤ (x3_1 : Int) := of_decide_eq_true qz2
   have q283 : x3_1 < (l0.length : Int) := of_decide_eq_true qz2
   obtain ⟨ad283, e283, hx283_0, hx283_1⟩ := at_T48 HR0.out x3_1 p283 q283
   have hw283_1 := hx283_1
   have hw283_0 := hx283_0
   obtain rfl : ad281 = ad283 := (by injection e283)
   replace hx283_0 := pw_cell_below HB.out hx283_0
   replace hx283_1 := pw_cell_below HB.out hx283_1
   replace p283 := eq_true p283
   replace q283 := eq_true q283
   refine start_ (n := 34) (S := fun w' => w'.cell? (ad281.add ((x3_1).toNat * 2)) = some (.int .i64 ((rd_T48 l0 x3_1).f0)) ∧ w'.cell? ⟨(ad281.add ((x3_1).toNat * 2)).block, (ad281.add ((x3_1).toNat * 2)).off + 1, none⟩ = some (.int .i64 ((rd_T48 l0 x3_1).f1)) ∧ w'.cell? (ad281.add ((x3_1).toNat * 2)) = some (.int .i64 ((rd_T48 l0 x3_1).f0)) ∧ w'.cell? ⟨(ad281.add ((x3_1).toNat * 2)).block, (ad281.add ((x3_1).toNat * 2)).off + 1, none⟩ = some (.int .i64 ((rd_T48 l0 x3_1).f1))) (ds := []) #[false, false, false, false, false, false, false, false, false, false, false, false, false, false, false, false, false, false, false, false, false, false, false, false, false, false, false, false, false, false, false, false, false, false] (by kernel_rfl) rfl rfl ⟨(pw_cell_below HB.out hw281_0), (pw_cell_below HB.out hw281_1), (pw_cell_below HB.out hw283_0), (pw_cell_below HB.out hw283_1)⟩ (fun hHeld => ?_); refine with_tabW spec_ItemsOk.tab4 spec_ItemsOk.bits4 (fun HT_ HW_ => ?_)
   generalize wr.drew = w15 at HB hx281_0 hx281_1 hx283_0 hx283_1 hHeld ⊢
   refine pI_ 0 10 (bqz 34 1) ?_
   refine pI_ 1 11 (bqz 34 3) ?_
   refine pI_ 2 12 (bqz 34 7) ?_
   refine pI_ 3 13 (bqz 34 15) ?_
   refine tI4_ 4 14 (bqz 34 31) ?_
   refine one_ (i := 5) (N := some 15) (bqz 34 63) rfl rfl qzc (by decide) (fun K hK => ?_)
   refine goes_ Try.func81 (by kernel_rfl) rfl #[.int .i64 ((rd_T48 l0 x3_1).f0), .int .i64 1, .int .i64 50] (by rfl) rfl rfl qz3 ?_
   with_reducible refine (spec_l1In.calls ((rd_T48 l0 x3_1).f0) 1 50 true _ A4.out).mono ?_
   rintro e w' ⟨rfl, ⟨nd, rfl⟩⟩
   refine ⟨_, rfl, ?_⟩
   refine hK.out _ _ ⟨(pw_cell_below HB.out hw281_0), (pw_cell_below HB.out hw281_1), (pw_cell_below HB.out hw283_0), (pw_cell_below HB.out hw283_1)⟩ (fun hHeld => ?_)
   clear hK K
   refine norm_ (a' := ?_) ?_ ?_
   rotate_left
   {
   show Act.put _ (some 15) _ = _
   simp only [qzs]
   rfl
   }
   refine pI_ 6 16 (bqz 34 127) ?_
   refine pI_ 7 17 (bqz 34 255) ?_
   refine pI_ 8 18 (bqz 34 511) ?_
   refine pI_ 9 19 (bqz 34 1023) ?_
   refine pI_ 10 20 (bqz 34 2047) ?_
   refine pI_ 11 21 (bqz 34 4095) ?_
   refine tI4_ 12 22 (bqz 34 8191) ?_
   refine one_ (i := 13) (N := some 23) (bqz 34 16383) rfl rfl qzc (by decide) (fun K hK => ?_)
   refine goes_ Try.func81 (by kernel_rfl) rfl #[.int .i64 ((rd_T48 l0 x3_1).f1), .int .i64 1, .int .i64 1000] (by rfl) rfl rfl qz3 ?_
   with_reducible refine (spec_l1In.calls ((rd_T48 l0 x3_1).f1) 1 1000 true _ A6.out).mono ?_
   rintro e w' ⟨rfl, ⟨nd, rfl⟩⟩
   refine ⟨_, rfl, ?_⟩
   refine hK.out _ _ ⟨(pw_cell_below HB.out hw281_0), (pw_cell_below HB.out hw281_1), (pw_cell_below HB.out hw283_0), (pw_cell_below HB.out hw283_1)⟩ (fun hHeld => ?_)
   clear hK K
   refine norm_ (a' := ?_) ?_ ?_
   rotate_left
   {
   show Act.put _ (some 23) _ = _
   simp only [qzs]
   rfl
   }
   refine pI_ 14 24 (bqz 34 32767) ?_
   refine pI_ 15 25 (bqz 34 65535) ?_
   refine pI_ 16 26 (bqz 34 131071) ?_
   refine pI_ 17 27 (bqz 34 262143) ?_
   refine pI_ 18 28 (bqz 34 524287) ?_
   refine pI_ 19 29 (bqz 34 1048575) ?_
   refine pU_ 20 30 (bqz 34 2097151) ?_
   refine pU_ 21 31 (bqz 34 4194303) ?_
   refine pU_ 22 32 (bqz 34 8388607) ?_
   refine pU_ 23 33 (bqz 34 16777215) ?_
   refine pU_ 24 34 (bqz 34 33554431) ?_
   refine pU_ 25 35 (bqz 34 67108863) ?_
   refine pU_ 26 36 (bqz 34 134217727) ?_
   refine pU_ 27 37 (bqz 34 268435455) ?_
   refine pU_ 28 38 (bqz 34 536870911) ?_
   refine pU_ 29 39 (bqz 34 1073741823) ?_
   refine pU_ 30 40 (bqz 34 2147483647) ?_
   refine pU_ 31 41 (bqz 34 4294967295) ?_
   refine pI_ 32 42 (bqz 34 8589934591) ?_
   refine pI_ 33 43 (bqz 34 17179869183) ?_
   refine done_ (done_of HT_.out (by kernel_rfl)) ?_
   try go_wp2
   go_roundg k1
   case measure => have := HK1.out; omega
   case rel => exact ⟨(wrap64 (x3_1 + 1)), qz4, H', ⟨by have := HK1.out; omega⟩, ⟨by repeat (first | (with_reducible first | exact HB.out | apply below_alloc | apply pw_below_drewN | apply below_drew1) | exact HB.out)⟩⟩
   }
   }
   {
   replace c7 := Bool.eq_false_iff.mpr c7
   subst c7
   rw [if_neg (show ¬ (false = true) by decide)] at H
   obtain rfl := Option.some.inj H
   simp only [Option.some.injEq, Prod.mk.injEq] at H
   obtain ⟨rfl⟩ := H
   try go_wp2
   have n0_ := aM (below_drew1 HB.out)
   clear HB
   have HB := n0_
   clear n0_
   have p281 : 0 ≤ (x3_1 : Int) := of_decide_eq_true qz2
   have q281 : x3_1 < (l0.length : Int) := of_decide_eq_true qz2
   obtain ⟨ad281, e281, hx281_0, hx281_1⟩ := at_T48 HR0.out x3_1 p281 q281
   have hw281_1 := hx281_1
   have hw281_0 := hx281_0
   cases e281
   replace hx281_0 := pw_cell_below HB.out hx281_0
   replace hx281_1 := pw_cell_below HB.out hx281_1
   replace p281 := eq_true p281
   replace q281 := eq_true q281
   have p283 : 0 ≤ (x3_1 : Int) := of_decide_eq_true qz2
   have q283 : x3_1 < (l0.length : Int) := of_decide_eq_true qz2
   obtain ⟨ad283, e283, hx283_0, hx283_1⟩ := at_T48 HR0.out x3_1 p283 q283
   have hw283_1 := hx283_1
   have hw283_0 := hx283_0
   obtain rfl : ad281 = ad283 := (by injection e283)
   replace hx283_0 := pw_cell_below HB.out hx283_0
   replace hx283_1 := pw_cell_below HB.out hx283_1
   replace p283 := eq_true p283
   replace q283 := eq_true q283
   refine start_ (n := 34) (S := fun w' => w'.cell? (ad281.add ((x3_1).toNat * 2)) = some (.int .i64 ((rd_T48 l0 x3_1).f0)) ∧ w'.cell? ⟨(ad281.add ((x3_1).toNat * 2)).block, (ad281.add ((x3_1).toNat * 2)).off + 1, none⟩ = some (.int .i64 ((rd_T48 l0 x3_1).f1)) ∧ w'.cell? (ad281.add ((x3_1).toNat * 2)) = some (.int .i64 ((rd_T48 l0 x3_1).f0)) ∧ w'.cell? ⟨(ad281.add ((x3_1).toNat * 2)).block, (ad281.add ((x3_1).toNat * 2)).off + 1, none⟩ = some (.int .i64 ((rd_T48 l0 x3_1).f1))) (ds := []) #[false, false, false, false, false, false, false, false, false, false, false, false, false, false, false, false, false, false, false, false, false, false, false, false, false, false, false, false, false, false, false, false, false, false] (by kernel_rfl) rfl rfl ⟨(pw_cell_below HB.out hw281_0), (pw_cell_below HB.out hw281_1), (pw_cell_below HB.out hw283_0), (pw_cell_below HB.out hw283_1)⟩ (fun hHeld => ?_); refine with_tabW spec_ItemsOk.tab4 spec_ItemsOk.bits4 (fun HT_ HW_ => ?_)
   generalize wr.drew = w16 at HB hx281_0 hx281_1 hx283_0 hx283_1 hHeld ⊢
   refine pI_ 0 10 (bqz 34 1) ?_
   refine pI_ 1 11 (bqz 34 3) ?_
   refine pI_ 2 12 (bqz 34 7) ?_
   refine pI_ 3 13 (bqz 34 15) ?_
   refine tI4_ 4 14 (bqz 34 31) ?_
   refine one_ (i := 5) (N := some 15) (bqz 34 63) rfl rfl qzc (by decide) (fun K hK => ?_)
   refine goes_ Try.func81 (by kernel_rfl) rfl #[.int .i64 ((rd_T48 l0 x3_1).f0), .int .i64 1, .int .i64 50] (by rfl) rfl rfl qz3 ?_
   with_reducible refine (spec_l1In.calls ((rd_T48 l0 x3_1).f0) 1 50 true _ A4.out).mono ?_
   rintro e w' ⟨rfl, ⟨nd, rfl⟩⟩
   refine ⟨_, rfl, ?_⟩
   refine hK.out _ _ ⟨(pw_cell_below HB.out hw281_0), (pw_cell_below HB.out hw281_1), (pw_cell_below HB.out hw283_0), (pw_cell_below HB.out hw283_1)⟩ (fun hHeld => ?_)
   clear hK K
   refine norm_ (a' := ?_) ?_ ?_
   rotate_left
   {
   show Act.put _ (some 15) _ = _
   simp only [qzs]
   rfl
   }
   refine pI_ 6 16 (bqz 34 127) ?_
   refine pI_ 7 17 (bqz 34 255) ?_
   refine pI_ 8 18 (bqz 34 511) ?_
   refine pI_ 9 19 (bqz 34 1023) ?_
   refine pI_ 10 20 (bqz 34 2047) ?_
   refine pI_ 11 21 (bqz 34 4095) ?_
   refine tI4_ 12 22 (bqz 34 8191) ?_
   refine one_ (i := 13) (N := some 23) (bqz 34 16383) rfl rfl qzc (by decide) (fun K hK => ?_)
   refine goes_ Try.func81 (by kernel_rfl) rfl #[.int .i64 ((rd_T48 l0 x3_1).f1), .int .i64 1, .int .i64 1000] (by rfl) rfl rfl qz3 ?_
   with_reducible refine (spec_l1In.calls ((rd_T48 l0 x3_1).f1) 1 1000 false _ A6.out).mono ?_
   rintro e w' ⟨rfl, ⟨nd, rfl⟩⟩
   refine ⟨_, rfl, ?_⟩
   refine hK.out _ _ ⟨(pw_cell_below HB.out hw281_0), (pw_cell_below HB.out hw281_1), (pw_cell_below HB.out hw283_0), (pw_cell_below HB.out hw283_1)⟩ (fun hHeld => ?_)
   clear hK K
   refine norm_ (a' := ?_) ?_ ?_
   rotate_left
   {
   show Act.put _ (some 23) _ = _
   simp only [qzs]
   rfl
   }
   refine pI_ 14 24 (bqz 34 32767) ?_
   refine pI_ 15 25 (bqz 34 65535) ?_
   refine pI_ 16 26 (bqz 34 131071) ?_
   refine pU_ 17 27 (bqz 34 262143) ?_
   refine pU_ 18 28 (bqz 34 524287) ?_
   refine pU_ 19 29 (bqz 34 1048575) ?_
   refine pU_ 20 30 (bqz 34 2097151) ?_
   refine pU_ 21 31 (bqz 34 4194303) ?_
   refine pU_ 22 32 (bqz 34 8388607) ?_
   refine pU_ 23 33 (bqz 34 16777215) ?_
   refine pU_ 24 34 (bqz 34 33554431) ?_
   refine pU_ 25 35 (bqz 34 67108863) ?_
   refine pU_ 26 36 (bqz 34 134217727) ?_
   refine pU_ 27 37 (bqz 34 268435455) ?_
   refine pU_ 28 38 (bqz 34 536870911) ?_
   refine pU_ 29 39 (bqz 34 1073741823) ?_
   refine pU_ 30 40 (bqz 34 2147483647) ?_
   refine pU_ 31 41 (bqz 34 4294967295) ?_
   refine pU_ 32 42 (bqz 34 8589934591) ?_
   refine pI_ 33 43 (bqz 34 17179869183) ?_
   refine done_ (done_of HT_.out (by kernel_rfl)) ?_
   try go_wp2
   go_ret
   exact ⟨by first | rfl | (simp [errW_none, errW_some] <;> rfl) | (simp [*, errW_none, errW_some] <;> rfl), by repeat (first | (with_reducible first | exact HB.out | apply below_alloc | apply pw_below_drewN | apply below_drew1) | exact HB.out)⟩
   }
   }
   {
   replace c5 := Bool.eq_false_iff.mpr c5
   subst c5
   rw [if_neg (show ¬ (false = true) by decide)] at H
   obtain rfl := Option.some.inj H
   simp only [Option.some.injEq, Prod.mk.injEq] at H
   obtain ⟨rfl⟩ := H
   try go_wp2
   have n0_ := aM (below_drew1 HB.out)
   clear HB
   have HB := n0_
   clear n0_
   have p281 : 0 ≤ (x3_1 : Int) := of_decide_eq_true qz2
   have q281 : x3_1 < (l0.length : Int) := of_decide_eq_true qz2
   obtain ⟨ad281, e281, hx281_0, hx281_1⟩ := at_T48 HR0.out x3_1 p281 q281
   have hw281_1 := hx281_1
   have hw281_0 := hx281_0
   cases e281
   replace hx281_0 := pw_cell_below HB.out hx281_0
   replace hx281_1 := pw_cell_below HB.out hx281_1
   replace p281 := eq_true p281
   replace q281 := eq_true q281
   refine start_ (n := 34) (S := fun w' => w'.cell? (ad281.add ((x3_1).toNat * 2)) = some (.int .i64 ((rd_T48 l0 x3_1).f0)) ∧ w'.cell? ⟨(ad281.add ((x3_1).toNat * 2)).block, (ad281.add ((x3_1).toNat * 2)).off + 1, none⟩ = some (.int .i64 ((rd_T48 l0 x3_1).f1))) (ds := []) #[false, false, false, false, false, false, false, false, false, false, false, false, false, false, false, false, false, false, false, false, false, false, false, false, false, false, false, false, false, false, false, false, false, false] (by kernel_rfl) rfl rfl ⟨(pw_cell_below HB.out hw281_0), (pw_cell_below HB.out hw281_1)⟩ (fun hHeld => ?_); refine with_tabW spec_ItemsOk.tab4 spec_ItemsOk.bits4 (fun HT_ HW_ => ?_)
   generalize wr.drew = w17 at HB hx281_0 hx281_1 hHeld ⊢
   refine pI_ 0 10 (bqz 34 1) ?_
   refine pI_ 1 11 (bqz 34 3) ?_
   refine pI_ 2 12 (bqz 34 7) ?_
   refine pI_ 3 13 (bqz 34 15) ?_
   refine tI2_ 4 14 (bqz 34 31) ?_
   refine one_ (i := 5) (N := some 15) (bqz 34 63) rfl rfl qzc (by decide) (fun K hK => ?_)
   refine goes_ Try.func81 (by kernel_rfl) rfl #[.int .i64 ((rd_T48 l0 x3_1).f0), .int .i64 1, .int .i64 50] (by rfl) rfl rfl qz3 ?_
   with_reducible refine (spec_l1In.calls ((rd_T48 l0 x3_1).f0) 1 50 false _ A4.out).mono ?_
   rintro e w' ⟨rfl, ⟨nd, rfl⟩⟩
   refine ⟨_, rfl, ?_⟩
   refine hK.out _ _ ⟨(pw_cell_below HB.out hw281_0), (pw_cell_below HB.out hw281_1)⟩ (fun hHeld => ?_)
   clear hK K
   refine norm_ (a' := ?_) ?_ ?_
   rotate_left
   {
   show Act.put _ (some 15) _ = _
   simp only [qzs]
   rfl
   }
   refine pI_ 6 16 (bqz 34 127) ?_
   refine pI_ 7 17 (bqz 34 255) ?_
   refine pU_ 8 18 (bqz 34 511) ?_
   refine pU_ 9 19 (bqz 34 1023) ?_
   refine pU_ 10 20 (bqz 34 2047) ?_
   refine pU_ 11 21 (bqz 34 4095) ?_
   refine pU_ 12 22 (bqz 34 8191) ?_
   refine pU_ 13 23 (bqz 34 16383) ?_
   refine pU_ 14 24 (bqz 34 32767) ?_
   refine pI_ 15 25 (bqz 34 65535) ?_
   refine pI_ 16 26 (bqz 34 131071) ?_
   refine pU_ 17 27 (bqz 34 262143) ?_
   refine pU_ 18 28 (bqz 34 524287) ?_
   refine pU_ 19 29 (bqz 34 1048575) ?_
   refine pU_ 20 30 (bqz 34 2097151) ?_
   refine pU_ 21 31 (bqz 34 4194303) ?_
   refine pU_ 22 32 (bqz 34 8388607) ?_
   refine pU_ 23 33 (bqz 34 16777215) ?_
   refine pU_ 24 34 (bqz 34 33554431) ?_
   refine pU_ 25 35 (bqz 34 67108863) ?_
   refine pU_ 26 36 (bqz 34 134217727) ?_
   refine pU_ 27 37 (bqz 34 268435455) ?_
   refine pU_ 28 38 (bqz 34 536870911) ?_
   refine pU_ 29 39 (bqz 34 1073741823) ?_
   refine pU_ 30 40 (bqz 34 2147483647) ?_
   refine pU_ 31 41 (bqz 34 4294967295) ?_
   refine pU_ 32 42 (bqz 34 8589934591) ?_
   refine pI_ 33 43 (bqz 34 17179869183) ?_
   refine done_ (done_of HT_.out (by kernel_rfl)) ?_
   try go_wp2
   go_ret
   exact ⟨by first | rfl | (simp [errW_none, errW_some] <;> rfl) | (simp [*, errW_none, errW_some] <;> rfl), by repeat (first | (with_reducible first | exact HB.out | apply below_alloc | apply pw_below_drewN | apply below_drew1) | exact HB.out)⟩
   }
   }
   {
   rw [if_neg c3] at H
   exact absurd H (by simp)
   }
   }
   {
   rw [if_neg c2] at H
   have c2b0 := decide_eq_false c2
   clear c2
   obtain rfl := Option.some.inj H
   simp only [Option.some.injEq, Prod.mk.injEq] at H
   obtain ⟨rfl⟩ := H
   go_wp2
   go_ret
   exact ⟨by first | rfl | (simp [errW_none, errW_some] <;> rfl) | (simp [*, errW_none, errW_some] <;> rfl), by repeat (first | (with_reducible first | exact HB.out | apply below_alloc | apply pw_below_drewN | apply below_drew1) | exact HB.out)⟩

   }
end Go.Proofs.Yteajnkondkfmgaa.PFnExactPicks
