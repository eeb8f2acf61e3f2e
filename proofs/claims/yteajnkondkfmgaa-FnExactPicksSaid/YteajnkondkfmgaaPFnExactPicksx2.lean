-- Made by a program of this session out of the translation. Lean checks it.
import Derived.Test.YteajnkondkfmgaaPFnExactPicksx0
import Derived.Test.YteajnkondkfmgaaPFnExactPicksx1
namespace Go.Proofs.Yteajnkondkfmgaa.PFnExactPicks
open Go.RowKit Go.Proofs.YteajnkondkfmgaaW.PrintWords Go.Proofs.YteajnkondkfmgaaW.PrintLast Go.Proofs.YteajnkondkfmgaaW.PrintMore
attribute [local go_sem] max2_int min2_int max_two min_two max_three min_three max_four min_four   -- for this text's walks alone
set_option linter.unusedVariables false
set_option linter.unusedSimpArgs false

/-! ### laws_eqStackS: function 108 -/
def laws_eqStackS.l0 : Nat → List (S72) → List (S72) → Int → Option (Bool)
 | 0, _, _, _ => none
 | k + 1, x0, x1, x5 => if x5 < (x0.length : Int) then (if 0 ≤ x5 then (if x5 < (x1.length : Int) then ((laws_eqStack.f ((rd_T72 x0 x5).f0) ((rd_T72 x0 x5).f1) ((rd_T72 x0 x5).f2) ((rd_T72 x1 x5).f0) ((rd_T72 x1 x5).f1) ((rd_T72 x1 x5).f2)).bind fun t144 => (if t144 = true then (laws_eqStackS.l0 k x0 x1 (wrap64 (x5 + 1))) else (some false))) else (none)) else (none)) else (some true)
def laws_eqStackS.f (k : Nat) (l0 : List (S72)) (l1 : List (S72)) : Option (Bool) := if (l0.length : Int) = (l1.length : Int) then (laws_eqStackS.l0 k l0 l1 0) else (some false)
theorem laws_eqStackS.mono_l : ∀ k, (∀ y0 y1 y2, LeO (laws_eqStackS.l0 k y0 y1 y2) (laws_eqStackS.l0 (k + 1) y0 y1 y2))
 | 0 => fun _ _ _ r h => by simp [laws_eqStackS.l0] at h
 | k + 1 => by
  have ih0 := laws_eqStackS.mono_l k
  {
  intro y0 y1 y2
  unfold laws_eqStackS.l0
  repeat' first
  | (with_reducible first | exact ih0 _ _ _ | exact LeO.refl _ | exact LeO.none _ | refine LeO.ite ?_ ?_ | refine LeO.bind ?_ (fun _ => ?_))
  | exact ih0 _ _ _
  | exact LeO.none _
  | refine LeO.ite ?_ ?_
  | refine LeO.bind ?_ (fun _ => ?_)
  }
theorem laws_eqStackS.mono : ∀ a0 a1 k, LeO (laws_eqStackS.f k a0 a1) (laws_eqStackS.f (k + 1) a0 a1) := by
 intro a0 a1 k
 have ih0 := laws_eqStackS.mono_l k
 unfold laws_eqStackS.f
 repeat' first
  | (with_reducible first | exact ih0 _ _ _ | exact LeO.refl _ | exact LeO.none _ | refine LeO.ite ?_ ?_ | refine LeO.bind ?_ (fun _ => ?_))
  | exact ih0 _ _ _
  | exact LeO.none _
  | refine LeO.ite ?_ ?_
  | refine LeO.bind ?_ (fun _ => ?_)
def laws_eqStackS.T6 : Bool × List (List Nat × List Nat) := (true, [([], []), ([], []), ([0, 1], [0, 1]), ([2], [2]), ([], []), ([], []), ([4, 5], [4, 5]), ([6], [6]), ([3, 7], [3, 7]), ([8], [8])])
def laws_eqStackS.B6 : List Nat := [0, 0, 3, 7, 0, 0, 48, 112, 255, 511]
theorem laws_eqStackS.tab6 : rtab .any (opsOf Try.f108 6) = laws_eqStackS.T6 := by kernel_rfl
theorem laws_eqStackS.bits6 : waitsOk laws_eqStackS.T6.2 laws_eqStackS.B6 = true := by kernel_rfl
set_option maxHeartbeats 8000000 in
set_option maxRecDepth 100000 in
theorem laws_eqStackS.calls (k : Nat) (A0 : Option Addr) (c0 : Nat) (l0 : List (S72)) (A1 : Option Addr) (c1 : Nat) (l1 : List (S72)) (r : Bool) (w : World) (hr0 : Kd.C k72 w A0 l0.length l0) (hc0 : l0.length ≤ c0) (hr1 : Kd.C k72 w A1 l1.length l1) (hc1 : l1.length ≤ c1) (h : laws_eqStackS.f k l0 l1 = some r) :
  Calls Try.prog 108 #[.slice A0 l0.length c0, .slice A1 l1.length c1] w fun e w' => e = .returned (.bool r) ∧ Below w.heap.size w w' := by
 have hu72 := Try.underlying72
 have HR0 := aM hr0
 have HC0 := aM hc0
 clear hr0 hc0
 have HR1 := aM hr1
 have HC1 := aM hc1
 clear hr1 hc1
 have HB := aM (Below.refl w.heap.size w)
 have H : (if (l0.length : Int) = (l1.length : Int) then (laws_eqStackS.l0 k l0 l1 0) else (some false)) = some r := h
 clear h
 by_cases c3 : (l0.length : Int) = (l1.length : Int)
 {
 rw [if_pos c3] at H
 have c3b0 := beq_iff_eq.mpr c3
 have c3b1 := bne_eq_false_iff_eq.mpr c3
 have c3b2 : (l0.length == l1.length) = true := by first | simpa using c3 | (simp at c3 ⊢; omega)
 clear c3
 have H' := aM H
 clear H
 go_enter Try.func108, Try.ntmps108
 go_wp2
 go_loopg [5] k (fun kq v5 w' => ∃ (x5_1 : Int), v5 = .int .i64 x5_1 ∧ Aside0 (laws_eqStackS.l0 kq l0 l1 x5_1 = some r) ∧ Aside0 (kq ≤ k) ∧ Aside0 (Below w.heap.size w w'))
 case atStart => exact ⟨(0), qz4, H', ⟨Nat.le_refl _⟩, ⟨by repeat (first | (with_reducible first | exact HB.out | apply below_alloc | apply pw_below_drewN | apply below_drew1) | exact HB.out)⟩⟩
 case round =>
  clear H'
  try clear c1
  try clear p2
  try clear c3
  try clear c3b0
  try clear c3b1
  try clear c3b2
  obtain ⟨x5_1, rfl, HA, HK1, HB⟩ := hrel
  cases gk with
  | zero => exact absurd HA.out (by simp [laws_eqStackS.l0])
  | succ k1 =>
   have H := HA.out
   clear HA
   simp only [laws_eqStackS.l0] at H
   by_cases c4 : x5_1 < (l0.length : Int)
   {
   rw [if_pos c4] at H
   have c4b0 := decide_eq_true c4
   clear c4
   by_cases c5 : 0 ≤ x5_1
   {
   rw [if_pos c5] at H
   have c5b0 := decide_eq_true c5
   clear c5
   by_cases c6 : x5_1 < (l1.length : Int)
   {
   rw [if_pos c6] at H
   have c6b0 := decide_eq_true c6
   clear c6
   replace H := Option.bind_eq_some_iff.mp H
   obtain ⟨t144, A70, H⟩ := H
   replace H : (if t144 = true then (laws_eqStackS.l0 k1 l0 l1 (wrap64 (x5_1 + 1))) else (some false)) = some r := H
   have A7 := aM A70
   clear A70
   by_cases c8 : t144 = true
   {
   subst c8
   rw [if_pos rfl] at H
   have H' := aM H
   clear H
   try go_wp2
   have n0_ := aM (below_drew1 HB.out)
   clear HB
   have HB := n0_
   clear n0_
   have p142 : 0 ≤ (x5_1 : Int) := of_decide_eq_true qz2
   have q142 : x5_1 < (l0.length : Int) := of_decide_eq_true qz2
   obtain ⟨ad142, e142, hx142_0, hx142_1, hx142_2⟩ := at_T72 HR0.out x5_1 p142 q142
   have hw142_2 := hx142_2
   have hw142_1 := hx142_1
   have hw142_0 := hx142_0
   cases e142
   replace hx142_0 := pw_cell_below HB.out hx142_0
   replace hx142_1 := pw_cell_below HB.out hx142_1
   replace hx142_2 := pw_cell_below HB.out hx142_2
   replace p142 := eq_true p142
   replace q142 := eq_true q142
   have p143 : 0 ≤ (x5_1 : Int) := of_decide_eq_true qz2
   have q143 : x5_1 < (l1.length : Int) := of_decide_eq_true qz2
   obtain ⟨ad143, e143, hx143_0, hx143_1, hx143_2⟩ := at_T72 HR1.out x5_1 p143 q143
   have hw143_2 := hx143_2
   have hw143_1 := hx143_1
   have hw143_0 := hx143_0
   cases e143
   replace hx143_0 := pw_cell_below HB.out hx143_0
   replace hx143_1 := pw_cell_below HB.out hx143_1
   replace hx143_2 := pw_cell_below HB.out hx143_2
   replace p143 := eq_true p143
   replace q143 := eq_true q143
   refine start_ (n := 10) (S := fun w' => w'.cell? (ad142.add ((x5_1).toNat * 3)) = some (.int .i64 ((rd_T72 l0 x5_1).f0)) ∧ w'.cell? ⟨(ad142.add ((x5_1).toNat * 3)).block, (ad142.add ((x5_1).toNat * 3)).off + 1, none⟩ = some (.int .i64 ((rd_T72 l0 x5_1).f1)) ∧ w'.cell? ⟨(ad142.add ((x5_1).toNat * 3)).block, (ad142.add ((x5_1).toNat * 3)).off + 2, none⟩ = some (.int .i64 ((rd_T72 l0 x5_1).f2)) ∧ w'.cell? (ad143.add ((x5_1).toNat * 3)) = some (.int .i64 ((rd_T72 l1 x5_1).f0)) ∧ w'.cell? ⟨(ad143.add ((x5_1).toNat * 3)).block, (ad143.add ((x5_1).toNat * 3)).off + 1, none⟩ = some (.int .i64 ((rd_T72 l1 x5_1).f1)) ∧ w'.cell? ⟨(ad143.add ((x5_1).toNat * 3)).block, (ad143.add ((x5_1).toNat * 3)).off + 2, none⟩ = some (.int .i64 ((rd_T72 l1 x5_1).f2))) (ds := []) #[false, false, false, false, false, false, false, false, false, false] (by kernel_rfl) rfl rfl ⟨(pw_cell_below HB.out hw142_0), (pw_cell_below HB.out hw142_1), (pw_cell_below HB.out hw142_2), (pw_cell_below HB.out hw143_0), (pw_cell_below HB.out hw143_1), (pw_cell_below HB.out hw143_2)⟩ (fun hHeld => ?_); refine with_tabW laws_eqStackS.tab6 laws_eqStackS.bits6 (fun HT_ HW_ => ?_)
   generalize wr.drew = w9 at HB hx142_0 hx142_1 hx142_2 hx143_0 hx143_1 hx143_2 hHeld ⊢
   refine pI_ 0 17 (bqz 10 1) ?_
   refine pI_ 1 18 (bqz 10 3) ?_
   refine pI_ 2 19 (bqz 10 7) ?_
   refine pI_ 4 21 (bqz 10 23) ?_
   refine pI_ 5 22 (bqz 10 55) ?_
   refine pI_ 6 23 (bqz 10 119) ?_
   refine tI6_ 3 20 (bqz 10 127) ?_
   refine tI6_ 7 24 (bqz 10 255) ?_
   refine one_ (i := 8) (N := some 25) (bqz 10 511) rfl rfl qzc (by decide) (fun K hK => ?_)
   refine goes_ Try.func111 (by kernel_rfl) rfl #[.agg #[.int .i64 ((rd_T72 l0 x5_1).f0), .int .i64 ((rd_T72 l0 x5_1).f1), .int .i64 ((rd_T72 l0 x5_1).f2)], .agg #[.int .i64 ((rd_T72 l1 x5_1).f0), .int .i64 ((rd_T72 l1 x5_1).f1), .int .i64 ((rd_T72 l1 x5_1).f2)]] (by rfl) rfl rfl qz3 ?_
   with_reducible refine (laws_eqStack.calls ((rd_T72 l0 x5_1).f0) ((rd_T72 l0 x5_1).f1) ((rd_T72 l0 x5_1).f2) ((rd_T72 l1 x5_1).f0) ((rd_T72 l1 x5_1).f1) ((rd_T72 l1 x5_1).f2) true _ A7.out).mono ?_
   rintro e w10 ⟨rfl, hb⟩
   refine ⟨_, rfl, ?_⟩
   have n0_ := aM (below_step qz1 hb)
   clear HB
   have HB := n0_
   clear n0_
   (try clear hb)
   (try clear hb2)
   (try clear hk)
   (try clear hi)
   refine hK.out _ _ ⟨(pw_cell_below HB.out hw142_0), (pw_cell_below HB.out hw142_1), (pw_cell_below HB.out hw142_2), (pw_cell_below HB.out hw143_0), (pw_cell_below HB.out hw143_1), (pw_cell_below HB.out hw143_2)⟩ (fun hHeld => ?_)
   clear hK K
   refine norm_ (a' := ?_) ?_ ?_
   rotate_left
   {
   show Act.put _ (some 25) _ = _
   simp only [qzs]
   rfl
   }
   refine pI_ 9 26 (bqz 10 1023) ?_
   refine done_ (done_of HT_.out (by kernel_rfl)) ?_
   try go_wp2
   go_roundg k1
   case measure => have := HK1.out; omega
   case rel => exact ⟨(wrap64 (x5_1 + 1)), qz4, H', ⟨by have := HK1.out; omega⟩, ⟨by repeat (first | (with_reducible first | exact HB.out | apply below_alloc | apply pw_below_drewN | apply below_drew1) | exact HB.out)⟩⟩
   }
   {
   replace c8 := Bool.eq_false_iff.mpr c8
   subst c8
   rw [if_neg (show ¬ (false = true) by decide)] at H
   obtain rfl := Option.some.inj H
   simp only [Option.some.injEq, Prod.mk.injEq] at H
   obtain ⟨rfl⟩ := H
   try go_wp2
   have n0_ := aM (below_drew1 HB.out)
   clear HB
   have HB := n0_
   clear n0_
   have p142 : 0 ≤ (x5_1 : Int) := of_decide_eq_true qz2
   have q142 : x5_1 < (l0.length : Int) := of_decide_eq_true qz2
   obtain ⟨ad142, e142, hx142_0, hx142_1, hx142_2⟩ := at_T72 HR0.out x5_1 p142 q142
   have hw142_2 := hx142_2
   have hw142_1 := hx142_1
   have hw142_0 := hx142_0
   cases e142
   replace hx142_0 := pw_cell_below HB.out hx142_0
   replace hx142_1 := pw_cell_below HB.out hx142_1
   replace hx142_2 := pw_cell_below HB.out hx142_2
   replace p142 := eq_true p142
   replace q142 := eq_true q142
   have p143 : 0 ≤ (x5_1 : Int) := of_decide_eq_true qz2
   have q143 : x5_1 < (l1.length : Int) := of_decide_eq_true qz2
   obtain ⟨ad143, e143, hx143_0, hx143_1, hx143_2⟩ := at_T72 HR1.out x5_1 p143 q143
   have hw143_2 := hx143_2
   have hw143_1 := hx143_1
   have hw143_0 := hx143_0
   cases e143
   replace hx143_0 := pw_cell_below HB.out hx143_0
   replace hx143_1 := pw_cell_below HB.out hx143_1
   replace hx143_2 := pw_cell_below HB.out hx143_2
   replace p143 := eq_true p143
   replace q143 := eq_true q143
   refine start_ (n := 10) (S := fun w' => w'.cell? (ad142.add ((x5_1).toNat * 3)) = some (.int .i64 ((rd_T72 l0 x5_1).f0)) ∧ w'.cell? ⟨(ad142.add ((x5_1).toNat * 3)).block, (ad142.add ((x5_1).toNat * 3)).off + 1, none⟩ = some (.int .i64 ((rd_T72 l0 x5_1).f1)) ∧ w'.cell? ⟨(ad142.add ((x5_1).toNat * 3)).block, (ad142.add ((x5_1).toNat * 3)).off + 2, none⟩ = some (.int .i64 ((rd_T72 l0 x5_1).f2)) ∧ w'.cell? (ad143.add ((x5_1).toNat * 3)) = some (.int .i64 ((rd_T72 l1 x5_1).f0)) ∧ w'.cell? ⟨(ad143.add ((x5_1).toNat * 3)).block, (ad143.add ((x5_1).toNat * 3)).off + 1, none⟩ = some (.int .i64 ((rd_T72 l1 x5_1).f1)) ∧ w'.cell? ⟨(ad143.add ((x5_1).toNat * 3)).block, (ad143.add ((x5_1).toNat * 3)).off + 2, none⟩ = some (.int .i64 ((rd_T72 l1 x5_1).f2))) (ds := []) #[false, false, false, false, false, false, false, false, false, false] (by kernel_rfl) rfl rfl ⟨(pw_cell_below HB.out hw142_0), (pw_cell_below HB.out hw142_1), (pw_cell_below HB.out hw142_2), (pw_cell_below HB.out hw143_0), (pw_cell_below HB.out hw143_1), (pw_cell_below HB.out hw143_2)⟩ (fun hHeld => ?_); refine with_tabW laws_eqStackS.tab6 laws_eqStackS.bits6 (fun HT_ HW_ => ?_)
   generalize wr.drew = w11 at HB hx142_0 hx142_1 hx142_2 hx143_0 hx143_1 hx143_2 hHeld ⊢
   refine pI_ 0 17 (bqz 10 1) ?_
   refine pI_ 1 18 (bqz 10 3) ?_
   refine pI_ 2 19 (bqz 10 7) ?_
   refine pI_ 4 21 (bqz 10 23) ?_
   refine pI_ 5 22 (bqz 10 55) ?_
   refine pI_ 6 23 (bqz 10 119) ?_
   refine tI6_ 3 20 (bqz 10 127) ?_
   refine tI6_ 7 24 (bqz 10 255) ?_
   refine one_ (i := 8) (N := some 25) (bqz 10 511) rfl rfl qzc (by decide) (fun K hK => ?_)
   refine goes_ Try.func111 (by kernel_rfl) rfl #[.agg #[.int .i64 ((rd_T72 l0 x5_1).f0), .int .i64 ((rd_T72 l0 x5_1).f1), .int .i64 ((rd_T72 l0 x5_1).f2)], .agg #[.int .i64 ((rd_T72 l1 x5_1).f0), .int .i64 ((rd_T72 l1 x5_1).f1), .int .i64 ((rd_T72 l1 x5_1).f2)]] (by rfl) rfl rfl qz3 ?_
   with_reducible refine (laws_eqStack.calls ((rd_T72 l0 x5_1).f0) ((rd_T72 l0 x5_1).f1) ((rd_T72 l0 x5_1).f2) ((rd_T72 l1 x5_1).f0) ((rd_T72 l1 x5_1).f1) ((rd_T72 l1 x5_1).f2) false _ A7.out).mono ?_
   rintro e w12 ⟨rfl, hb⟩
   refine ⟨_, rfl, ?_⟩
   have n0_ := aM (below_step qz1 hb)
   clear HB
   have HB := n0_
   clear n0_
   (try clear hb)
   (try clear hb2)
   (try clear hk)
   (try clear hi)
   refine hK.out _ _ ⟨(pw_cell_below HB.out hw142_0), (pw_cell_below HB.out hw142_1), (pw_cell_below HB.out hw142_2), (pw_cell_below HB.out hw143_0), (pw_cell_below HB.out hw143_1), (pw_cell_below HB.out hw143_2)⟩ (fun hHeld => ?_)
   clear hK K
   refine norm_ (a' := ?_) ?_ ?_
   rotate_left
   {
   show Act.put _ (some 25) _ = _
   simp only [qzs]
   rfl
   }
   refine pI_ 9 26 (bqz 10 1023) ?_
   refine done_ (done_of HT_.out (by kernel_rfl)) ?_
   try go_wp2
   go_ret
   exact ⟨by first | rfl | (simp [errW_none, errW_some] <;> rfl) | (simp [*, errW_none, errW_some] <;> rfl), by repeat (first | (with_reducible first | exact HB.out | apply below_alloc | apply pw_below_drewN | apply below_drew1) | exact HB.out)⟩
   }
   }
   {
   rw [if_neg c6] at H
   exact absurd H (by simp)
   }
   }
   {
   rw [if_neg c5] at H
   exact absurd H (by simp)
   }
   }
   {
   rw [if_neg c4] at H
   have c4b0 := decide_eq_false c4
   clear c4
   obtain rfl := Option.some.inj H
   simp only [Option.some.injEq, Prod.mk.injEq] at H
   obtain ⟨rfl⟩ := H
   go_wp2
   go_ret
   exact ⟨by first | rfl | (simp [errW_none, errW_some] <;> rfl) | (simp [*, errW_none, errW_some] <;> rfl), by repeat (first | (with_reducible first | exact HB.out | apply below_alloc | apply pw_below_drewN | apply below_drew1) | exact HB.out)⟩
   }
 }
 {
 rw [if_neg c3] at H
 have c3b0 := beq_eq_false_iff_ne.mpr c3
 have c3b1 := bne_iff_ne.mpr c3
 have c3b2 : (l0.length == l1.length) = false := by first | simpa using c3 | (simp at c3 ⊢; omega)
 obtain rfl := Option.some.inj H
 simp only [Option.some.injEq, Prod.mk.injEq] at H
 obtain ⟨rfl⟩ := H
 go_enter Try.func108, Try.ntmps108
 go_wp2
 go_ret
 exact ⟨by first | rfl | (simp [errW_none, errW_some] <;> rfl) | (simp [*, errW_none, errW_some] <;> rfl), by repeat (first | (with_reducible first | exact HB.out | apply below_alloc | apply pw_below_drewN | apply below_drew1) | exact HB.out)⟩

 }
/-! ### laws_eqPod: function 98 -/
def laws_eqPod.f (k : Nat) (a0_0 : Int) (a0_1 : Int) (l0_2 : List (S72)) (a1_0 : Int) (a1_1 : Int) (l1_2 : List (S72)) : Option (Bool) := if a0_0 = a1_0 then (if a0_1 = a1_1 then ((laws_eqStackS.f k l0_2 l1_2).bind fun t147 => (if t147 = true then (some true) else (some false))) else (some false)) else (some false)
theorem laws_eqPod.mono : ∀ a0 a1 a2 a3 a4 a5 k, LeO (laws_eqPod.f k a0 a1 a2 a3 a4 a5) (laws_eqPod.f (k + 1) a0 a1 a2 a3 a4 a5) := by
 intro a0 a1 a2 a3 a4 a5 k
 unfold laws_eqPod.f
 repeat' first
  | (with_reducible first | exact laws_eqStackS.mono _ _ _ | exact LeO.refl _ | exact LeO.none _ | refine LeO.ite ?_ ?_ | refine LeO.bind ?_ (fun _ => ?_))
  | exact laws_eqStackS.mono _ _ _
  | exact LeO.none _
  | refine LeO.ite ?_ ?_
  | refine LeO.bind ?_ (fun _ => ?_)
set_option maxHeartbeats 8000000 in
set_option maxRecDepth 100000 in
theorem laws_eqPod.calls (k : Nat) (a0_0 : Int) (a0_1 : Int) (A0_2 : Option Addr) (c0_2 : Nat) (l0_2 : List (S72)) (a1_0 : Int) (a1_1 : Int) (A1_2 : Option Addr) (c1_2 : Nat) (l1_2 : List (S72)) (r : Bool) (w : World) (hr0_2 : Kd.C k72 w A0_2 l0_2.length l0_2) (hc0_2 : l0_2.length ≤ c0_2) (hr1_2 : Kd.C k72 w A1_2 l1_2.length l1_2) (hc1_2 : l1_2.length ≤ c1_2) (h : laws_eqPod.f k a0_0 a0_1 l0_2 a1_0 a1_1 l1_2 = some r) :
  Calls Try.prog 98 #[.agg #[.int .i64 a0_0, .int .i64 a0_1, .slice A0_2 l0_2.length c0_2], .agg #[.int .i64 a1_0, .int .i64 a1_1, .slice A1_2 l1_2.length c1_2]] w fun e w' => e = .returned (.bool r) ∧ Below w.heap.size w w' := by
 have hu79 := Try.underlying79
 have HR0_2 := aM hr0_2
 have HC0_2 := aM hc0_2
 clear hr0_2 hc0_2
 have HR1_2 := aM hr1_2
 have HC1_2 := aM hc1_2
 clear hr1_2 hc1_2
 have HB := aM (Below.refl w.heap.size w)
 have H : (if a0_0 = a1_0 then (if a0_1 = a1_1 then ((laws_eqStackS.f k l0_2 l1_2).bind fun t147 => (if t147 = true then (some true) else (some false))) else (some false)) else (some false)) = some r := h
 clear h
 by_cases c3 : a0_0 = a1_0
 {
 rw [if_pos c3] at H
 have c3b0 := beq_iff_eq.mpr c3
 have c3b1 := bne_eq_false_iff_eq.mpr c3
 clear c3
 by_cases c4 : a0_1 = a1_1
 {
 rw [if_pos c4] at H
 have c4b0 := beq_iff_eq.mpr c4
 have c4b1 := bne_eq_false_iff_eq.mpr c4
 clear c4
 replace H := Option.bind_eq_some_iff.mp H
 obtain ⟨t147, A50, H⟩ := H
 replace H : (if t147 = true then (some true) else (some false)) = some r := H
 have A5 := aM A50
 clear A50
 by_cases c6 : t147 = true
 {
 subst c6
 rw [if_pos rfl] at H
 obtain rfl := Option.some.inj H
 simp only [Option.some.injEq, Prod.mk.injEq] at H
 obtain ⟨rfl⟩ := H
 go_enter Try.func98, Try.ntmps98
 go_wp2_with (first | ((with_reducible refine gate_dst (N := 2) rfl ?_); refine bx_ 2 #[.int .i64 a0_0, .int .i64 a0_1, .slice A0_2 l0_2.length c0_2] 79 ?_; intro gb145 hg w7 hbox hb; have n0_ := aM (below_step qz1 hb); have n1_ := aM (hbox); have n2_ := aM ((by rw [hg]; exact (below_size qz1) : w.heap.size ≤ gb145)); have n3_ := aM ((by rw [hg]; exact (below_size qz1) : w.heap.size ≤ gb145)); clear HB; have HB := n0_; have BK145 := n1_; have GW145 := n2_; have GE145 := n3_; clear n0_ n1_ n2_ n3_; clear hb hbox hg) | ((with_reducible refine gate_dst (N := 3) rfl ?_); refine bx_ 3 #[.int .i64 a1_0, .int .i64 a1_1, .slice A1_2 l1_2.length c1_2] 79 ?_; intro gb146 hg w8 hbox hb; have n0_ := aM (blk_below (bk_ BK145.out) hb); have n1_ := aM (below_step qz19 hb); have n2_ := aM (hbox); have n3_ := aM ((by rw [hg]; exact (below_size qz19) : w.heap.size ≤ gb146)); have n4_ := aM ((by rw [hg]; exact (below_size qz19) : w.heap.size ≤ gb146)); have n5_ := aM ((by rw [hg]; exact Nat.ne_of_lt (blk_lt (bk_ BK145.out)) : gb145 ≠ gb146)); have n6_ := aM ((by rw [hg]; exact Nat.ne_of_gt (blk_lt (bk_ BK145.out)) : gb146 ≠ gb145)); clear BK145 HB; have BK145 := n0_; have HB := n1_; have BK146 := n2_; have GW146 := n3_; have GE146 := n4_; have NB145_146 := n5_; have NB146_145 := n6_; clear n0_ n1_ n2_ n3_ n4_ n5_ n6_; clear hb hbox hg; have hnb9 := NB145_146.out; have hnc9 := NB146_145.out; obtain ⟨hcz10_0, hcz10_1, hcz10_2, hfz10_0, hfz10_1, hfz10_2⟩ := b6_ BK145.out; obtain ⟨hcz11_0, hcz11_1, hcz11_2, hfz11_0, hfz11_1, hfz11_2⟩ := b6_ BK146.out) | ((with_reducible refine gate_callee (f := 108) rfl ?_); refine goesL_ (some 19) rfl rfl Try.func108 (by kernel_rfl) rfl #[.slice A0_2 l0_2.length c0_2, .slice A1_2 l1_2.length c1_2] rfl qz3 ?_; (with_reducible refine (laws_eqStackS.calls k _ _ l0_2 _ _ l1_2 true _ ?side1 ?side2 ?side3 ?side4 A5.out).mono ?_); (case side1 => exact qz17); (case side2 => exact HC0_2.out); (case side3 => repeat (first | exact (Kd.C_below HR1_2.out HB.out) | (with_reducible refine Kd.C_alloc ?_ _) | (with_reducible refine Kd.C_drewN ?_ _) | (with_reducible refine Kd.C_drew ?_))); (case side4 => exact HC1_2.out); rintro e w12 ⟨rfl, hb⟩; refine ⟨_, rfl, ?_⟩; have n0_ := aM (blk_below (bk_ BK145.out) hb); have n1_ := aM (blk_below (bk_ BK146.out) hb); have n2_ := aM (below_step qz70 hb); clear BK145 BK146 HB; have BK145 := n0_; have BK146 := n1_; have HB := n2_; clear n0_ n1_ n2_; (try clear hb); (try clear hb2); (try clear hk); (try clear hi)))
 go_ret
 exact ⟨by first | rfl | (simp [errW_none, errW_some] <;> rfl) | (simp [*, errW_none, errW_some] <;> rfl), by repeat (first | (with_reducible first | exact HB.out | apply below_alloc | apply pw_below_drewN | apply below_drew1 | refine below_set ?_ GE145.out | refine below_set ?_ GE146.out) | exact HB.out)⟩
 }
 {
 replace c6 := Bool.eq_false_iff.mpr c6
 subst c6
 rw [if_neg (show ¬ (false = true) by decide)] at H
 obtain rfl := Option.some.inj H
 simp only [Option.some.injEq, Prod.mk.injEq] at H
 obtain ⟨rfl⟩ := H
 go_enter Try.func98, Try.ntmps98
 go_wp2_with (first | ((with_reducible refine gate_dst (N := 2) rfl ?_); refine bx_ 2 #[.int .i64 a0_0, .int .i64 a0_1, .slice A0_2 l0_2.length c0_2] 79 ?_; intro gb145 hg w13 hbox hb; have n0_ := aM (below_step qz1 hb); have n1_ := aM (hbox); have n2_ := aM ((by rw [hg]; exact (below_size qz1) : w.heap.size ≤ gb145)); have n3_ := aM ((by rw [hg]; exact (below_size qz1) : w.heap.size ≤ gb145)); clear HB; have HB := n0_; have BK145 := n1_; have GW145 := n2_; have GE145 := n3_; clear n0_ n1_ n2_ n3_; clear hb hbox hg) | ((with_reducible refine gate_dst (N := 3) rfl ?_); refine bx_ 3 #[.int .i64 a1_0, .int .i64 a1_1, .slice A1_2 l1_2.length c1_2] 79 ?_; intro gb146 hg w14 hbox hb; have n0_ := aM (blk_below (bk_ BK145.out) hb); have n1_ := aM (below_step qz19 hb); have n2_ := aM (hbox); have n3_ := aM ((by rw [hg]; exact (below_size qz19) : w.heap.size ≤ gb146)); have n4_ := aM ((by rw [hg]; exact (below_size qz19) : w.heap.size ≤ gb146)); have n5_ := aM ((by rw [hg]; exact Nat.ne_of_lt (blk_lt (bk_ BK145.out)) : gb145 ≠ gb146)); have n6_ := aM ((by rw [hg]; exact Nat.ne_of_gt (blk_lt (bk_ BK145.out)) : gb146 ≠ gb145)); clear BK145 HB; have BK145 := n0_; have HB := n1_; have BK146 := n2_; have GW146 := n3_; have GE146 := n4_; have NB145_146 := n5_; have NB146_145 := n6_; clear n0_ n1_ n2_ n3_ n4_ n5_ n6_; clear hb hbox hg; have hnb15 := NB145_146.out; have hnc15 := NB146_145.out; obtain ⟨hcz16_0, hcz16_1, hcz16_2, hfz16_0, hfz16_1, hfz16_2⟩ := b6_ BK145.out; obtain ⟨hcz17_0, hcz17_1, hcz17_2, hfz17_0, hfz17_1, hfz17_2⟩ := b6_ BK146.out) | ((with_reducible refine gate_callee (f := 108) rfl ?_); refine goesL_ (some 19) rfl rfl Try.func108 (by kernel_rfl) rfl #[.slice A0_2 l0_2.length c0_2, .slice A1_2 l1_2.length c1_2] rfl qz3 ?_; (with_reducible refine (laws_eqStackS.calls k _ _ l0_2 _ _ l1_2 false _ ?side1 ?side2 ?side3 ?side4 A5.out).mono ?_); (case side1 => exact qz17); (case side2 => exact HC0_2.out); (case side3 => repeat (first | exact (Kd.C_below HR1_2.out HB.out) | (with_reducible refine Kd.C_alloc ?_ _) | (with_reducible refine Kd.C_drewN ?_ _) | (with_reducible refine Kd.C_drew ?_))); (case side4 => exact HC1_2.out); rintro e w18 ⟨rfl, hb⟩; refine ⟨_, rfl, ?_⟩; have n0_ := aM (blk_below (bk_ BK145.out) hb); have n1_ := aM (blk_below (bk_ BK146.out) hb); have n2_ := aM (below_step qz70 hb); clear BK145 BK146 HB; have BK145 := n0_; have BK146 := n1_; have HB := n2_; clear n0_ n1_ n2_; (try clear hb); (try clear hb2); (try clear hk); (try clear hi)))
 go_ret
 exact ⟨by first | rfl | (simp [errW_none, errW_some] <;> rfl) | (simp [*, errW_none, errW_some] <;> rfl), by repeat (first | (with_reducible first | exact HB.out | apply below_alloc | apply pw_below_drewN | apply below_drew1 | refine below_set ?_ GE145.out | refine below_set ?_ GE146.out) | exact HB.out)⟩
 }
 }
 {
 rw [if_neg c4] at H
 have c4b0 := beq_eq_false_iff_ne.mpr c4
 have c4b1 := bne_iff_ne.mpr c4
 obtain rfl := Option.some.inj H
 simp only [Option.some.injEq, Prod.mk.injEq] at H
 obtain ⟨rfl⟩ := H
 go_enter Try.func98, Try.ntmps98
 go_wp2_with (first | ((with_reducible refine gate_dst (N := 2) rfl ?_); refine bx_ 2 #[.int .i64 a0_0, .int .i64 a0_1, .slice A0_2 l0_2.length c0_2] 79 ?_; intro gb145 hg w19 hbox hb; have n0_ := aM (below_step qz1 hb); have n1_ := aM (hbox); have n2_ := aM ((by rw [hg]; exact (below_size qz1) : w.heap.size ≤ gb145)); have n3_ := aM ((by rw [hg]; exact (below_size qz1) : w.heap.size ≤ gb145)); clear HB; have HB := n0_; have BK145 := n1_; have GW145 := n2_; have GE145 := n3_; clear n0_ n1_ n2_ n3_; clear hb hbox hg) | ((with_reducible refine gate_dst (N := 3) rfl ?_); refine bx_ 3 #[.int .i64 a1_0, .int .i64 a1_1, .slice A1_2 l1_2.length c1_2] 79 ?_; intro gb146 hg w20 hbox hb; have n0_ := aM (blk_below (bk_ BK145.out) hb); have n1_ := aM (below_step qz19 hb); have n2_ := aM (hbox); have n3_ := aM ((by rw [hg]; exact (below_size qz19) : w.heap.size ≤ gb146)); have n4_ := aM ((by rw [hg]; exact (below_size qz19) : w.heap.size ≤ gb146)); have n5_ := aM ((by rw [hg]; exact Nat.ne_of_lt (blk_lt (bk_ BK145.out)) : gb145 ≠ gb146)); have n6_ := aM ((by rw [hg]; exact Nat.ne_of_gt (blk_lt (bk_ BK145.out)) : gb146 ≠ gb145)); clear BK145 HB; have BK145 := n0_; have HB := n1_; have BK146 := n2_; have GW146 := n3_; have GE146 := n4_; have NB145_146 := n5_; have NB146_145 := n6_; clear n0_ n1_ n2_ n3_ n4_ n5_ n6_; clear hb hbox hg; have hnb21 := NB145_146.out; have hnc21 := NB146_145.out; obtain ⟨hcz22_0, hcz22_1, hcz22_2, hfz22_0, hfz22_1, hfz22_2⟩ := b6_ BK145.out; obtain ⟨hcz23_0, hcz23_1, hcz23_2, hfz23_0, hfz23_1, hfz23_2⟩ := b6_ BK146.out))
 go_ret
 exact ⟨by first | rfl | (simp [errW_none, errW_some] <;> rfl) | (simp [*, errW_none, errW_some] <;> rfl), by repeat (first | (with_reducible first | exact HB.out | apply below_alloc | apply pw_below_drewN | apply below_drew1 | refine below_set ?_ GE145.out | refine below_set ?_ GE146.out) | exact HB.out)⟩
 }
 }
 {
 rw [if_neg c3] at H
 have c3b0 := beq_eq_false_iff_ne.mpr c3
 have c3b1 := bne_iff_ne.mpr c3
 obtain rfl := Option.some.inj H
 simp only [Option.some.injEq, Prod.mk.injEq] at H
 obtain ⟨rfl⟩ := H
 go_enter Try.func98, Try.ntmps98
 go_wp2_with (first | ((with_reducible refine gate_dst (N := 2) rfl ?_); refine bx_ 2 #[.int .i64 a0_0, .int .i64 a0_1, .slice A0_2 l0_2.length c0_2] 79 ?_; intro gb145 hg w24 hbox hb; have n0_ := aM (below_step qz1 hb); have n1_ := aM (hbox); have n2_ := aM ((by rw [hg]; exact (below_size qz1) : w.heap.size ≤ gb145)); have n3_ := aM ((by rw [hg]; exact (below_size qz1) : w.heap.size ≤ gb145)); clear HB; have HB := n0_; have BK145 := n1_; have GW145 := n2_; have GE145 := n3_; clear n0_ n1_ n2_ n3_; clear hb hbox hg) | ((with_reducible refine gate_dst (N := 3) rfl ?_); refine bx_ 3 #[.int .i64 a1_0, .int .i64 a1_1, .slice A1_2 l1_2.length c1_2] 79 ?_; intro gb146 hg w25 hbox hb; have n0_ := aM (blk_below (bk_ BK145.out) hb); have n1_ := aM (below_step qz19 hb); have n2_ := aM (hbox); have n3_ := aM ((by rw [hg]; exact (below_size qz19) : w.heap.size ≤ gb146)); have n4_ := aM ((by rw [hg]; exact (below_size qz19) : w.heap.size ≤ gb146)); have n5_ := aM ((by rw [hg]; exact Nat.ne_of_lt (blk_lt (bk_ BK145.out)) : gb145 ≠ gb146)); have n6_ := aM ((by rw [hg]; exact Nat.ne_of_gt (blk_lt (bk_ BK145.out)) : gb146 ≠ gb145)); clear BK145 HB; have BK145 := n0_; have HB := n1_; have BK146 := n2_; have GW146 := n3_; have GE146 := n4_; have NB145_146 := n5_; have NB146_145 := n6_; clear n0_ n1_ n2_ n3_ n4_ n5_ n6_; clear hb hbox hg; have hnb26 := NB145_146.out; have hnc26 := NB146_145.out; obtain ⟨hcz27_0, hcz27_1, hcz27_2, hfz27_0, hfz27_1, hfz27_2⟩ := b6_ BK145.out; obtain ⟨hcz28_0, hcz28_1, hcz28_2, hfz28_0, hfz28_1, hfz28_2⟩ := b6_ BK146.out))
 go_ret
 exact ⟨by first | rfl | (simp [errW_none, errW_some] <;> rfl) | (simp [*, errW_none, errW_some] <;> rfl), by repeat (first | (with_reducible first | exact HB.out | apply below_alloc | apply pw_below_drewN | apply below_drew1 | refine below_set ?_ GE145.out | refine below_set ?_ GE146.out) | exact HB.out)⟩

 }
/-! ### laws_eqPodS: function 72 -/
def laws_eqPodS.l0 : Nat → List (S79) → List (S79) → Int → Option (Bool)
 | 0, _, _, _ => none
 | k + 1, x0, x1, x5 => if x5 < (x0.length : Int) then (if 0 ≤ x5 then (if x5 < (x1.length : Int) then ((laws_eqPod.f k ((rd_T79 x0 x5).f0) ((rd_T79 x0 x5).f1) ((rd_T79 x0 x5).f2) ((rd_T79 x1 x5).f0) ((rd_T79 x1 x5).f1) ((rd_T79 x1 x5).f2)).bind fun t150 => (if t150 = true then (laws_eqPodS.l0 k x0 x1 (wrap64 (x5 + 1))) else (some false))) else (none)) else (none)) else (some true)
def laws_eqPodS.f (k : Nat) (l0 : List (S79)) (l1 : List (S79)) : Option (Bool) := if (l0.length : Int) = (l1.length : Int) then (laws_eqPodS.l0 k l0 l1 0) else (some false)
theorem laws_eqPodS.mono_l : ∀ k, (∀ y0 y1 y2, LeO (laws_eqPodS.l0 k y0 y1 y2) (laws_eqPodS.l0 (k + 1) y0 y1 y2))
 | 0 => fun _ _ _ r h => by simp [laws_eqPodS.l0] at h
 | k + 1 => by
  have ih0 := laws_eqPodS.mono_l k
  {
  intro y0 y1 y2
  unfold laws_eqPodS.l0
  repeat' first
  | (with_reducible first | exact ih0 _ _ _ | exact laws_eqPod.mono _ _ _ _ _ _ _ | exact LeO.refl _ | exact LeO.none _ | refine LeO.ite ?_ ?_ | refine LeO.bind ?_ (fun _ => ?_))
  | exact ih0 _ _ _
  | exact laws_eqPod.mono _ _ _ _ _ _ _
  | exact LeO.none _
  | refine LeO.ite ?_ ?_
  | refine LeO.bind ?_ (fun _ => ?_)
  }
theorem laws_eqPodS.mono : ∀ a0 a1 k, LeO (laws_eqPodS.f k a0 a1) (laws_eqPodS.f (k + 1) a0 a1) := by
 intro a0 a1 k
 have ih0 := laws_eqPodS.mono_l k
 unfold laws_eqPodS.f
 repeat' first
  | (with_reducible first | exact ih0 _ _ _ | exact laws_eqPod.mono _ _ _ _ _ _ _ | exact LeO.refl _ | exact LeO.none _ | refine LeO.ite ?_ ?_ | refine LeO.bind ?_ (fun _ => ?_))
  | exact ih0 _ _ _
  | exact laws_eqPod.mono _ _ _ _ _ _ _
  | exact LeO.none _
  | refine LeO.ite ?_ ?_
  | refine LeO.bind ?_ (fun _ => ?_)
def laws_eqPodS.T6 : Bool × List (List Nat × List Nat) := (true, [([], []), ([], []), ([0, 1], [0, 1]), ([2], [2]), ([], []), ([], []), ([4, 5], [4, 5]), ([6], [6]), ([3, 7], [3, 7]), ([8], [8])])
def laws_eqPodS.B6 : List Nat := [0, 0, 3, 7, 0, 0, 48, 112, 255, 511]
theorem laws_eqPodS.tab6 : rtab .any (opsOf Try.f72 6) = laws_eqPodS.T6 := by kernel_rfl
theorem laws_eqPodS.bits6 : waitsOk laws_eqPodS.T6.2 laws_eqPodS.B6 = true := by kernel_rfl
set_option maxHeartbeats 8000000 in
set_option maxRecDepth 100000 in
theorem laws_eqPodS.calls (k : Nat) (A0 : Option Addr) (c0 : Nat) (l0 : List (S79)) (A1 : Option Addr) (c1 : Nat) (l1 : List (S79)) (r : Bool) (w : World) (hr0 : Kd.C k79 w A0 l0.length l0) (hc0 : l0.length ≤ c0) (hr1 : Kd.C k79 w A1 l1.length l1) (hc1 : l1.length ≤ c1) (h : laws_eqPodS.f k l0 l1 = some r) :
  Calls Try.prog 72 #[.slice A0 l0.length c0, .slice A1 l1.length c1] w fun e w' => e = .returned (.bool r) ∧ Below w.heap.size w w' := by
 have hu79 := Try.underlying79
 have HR0 := aM hr0
 have HC0 := aM hc0
 clear hr0 hc0
 have HR1 := aM hr1
 have HC1 := aM hc1
 clear hr1 hc1
 have HB := aM (Below.refl w.heap.size w)
 have H : (if (l0.length : Int) = (l1.length : Int) then (laws_eqPodS.l0 k l0 l1 0) else (some false)) = some r := h
 clear h
 by_cases c3 : (l0.length : Int) = (l1.length : Int)
 {
 rw [if_pos c3] at H
 have c3b0 := beq_iff_eq.mpr c3
 have c3b1 := bne_eq_false_iff_eq.mpr c3
 have c3b2 : (l0.length == l1.length) = true := by first | simpa using c3 | (simp at c3 ⊢; omega)
 clear c3
 have H' := aM H
 clear H
 go_enter Try.func72, Try.ntmps72
 go_wp2
 go_loopg [5] k (fun kq v5 w' => ∃ (x5_1 : Int), v5 = .int .i64 x5_1 ∧ Aside0 (laws_eqPodS.l0 kq l0 l1 x5_1 = some r) ∧ Aside0 (kq ≤ k) ∧ Aside0 (Below w.heap.size w w'))
 case atStart => exact ⟨(0), qz4, H', ⟨Nat.le_refl _⟩, ⟨by repeat (first | (with_reducible first | exact HB.out | apply below_alloc | apply pw_below_drewN | apply below_drew1) | exact HB.out)⟩⟩
 case round =>
  clear H'
  try clear c1
  try clear p2
  try clear c3
  try clear c3b0
  try clear c3b1
  try clear c3b2
  obtain ⟨x5_1, rfl, HA, HK1, HB⟩ := hrel
  cases gk with
  | zero => exact absurd HA.out (by simp [laws_eqPodS.l0])
  | succ k1 =>
   have H := HA.out
   clear HA
   simp only [laws_eqPodS.l0] at H
   by_cases c4 : x5_1 < (l0.length : Int)
   {
   rw [if_pos c4] at H
   have c4b0 := decide_eq_true c4
   clear c4
   by_cases c5 : 0 ≤ x5_1
   {
   rw [if_pos c5] at H
   have c5b0 := decide_eq_true c5
   clear c5
   by_cases c6 : x5_1 < (l1.length : Int)
   {
   rw [if_pos c6] at H
   have c6b0 := decide_eq_true c6
   clear c6
   replace H := Option.bind_eq_some_iff.mp H
   obtain ⟨t150, A70, H⟩ := H
   replace H : (if t150 = true then (laws_eqPodS.l0 k1 l0 l1 (wrap64 (x5_1 + 1))) else (some false)) = some r := H
   have A7 := aM A70
   clear A70
   by_cases c8 : t150 = true
   {
   subst c8
   rw [if_pos rfl] at H
   have H' := aM H
   clear H
   try go_wp2
   have n0_ := aM (below_drew1 HB.out)
   clear HB
   have HB := n0_
   clear n0_
   have p148 : 0 ≤ (x5_1 : Int) := of_decide_eq_true qz2
   have q148 : x5_1 < (l0.length : Int) := of_decide_eq_true qz2
   obtain ⟨ad148, A148_2, c148_2, e148, hx148_0, hx148_1, hx148_2, hl148_2, hi148_2⟩ := at_T79 HR0.out x5_1 p148 q148
   have hw148_2 := hx148_2
   have hw148_1 := hx148_1
   have hw148_0 := hx148_0
   cases e148
   replace hx148_0 := pw_cell_below HB.out hx148_0
   replace hx148_1 := pw_cell_below HB.out hx148_1
   replace hx148_2 := pw_cell_below HB.out hx148_2
   have HR148_2 := aM hi148_2
   have HC148_2 := aM hl148_2
   clear hi148_2 hl148_2
   replace p148 := eq_true p148
   replace q148 := eq_true q148
   have p149 : 0 ≤ (x5_1 : Int) := of_decide_eq_true qz2
   have q149 : x5_1 < (l1.length : Int) := of_decide_eq_true qz2
   obtain ⟨ad149, A149_2, c149_2, e149, hx149_0, hx149_1, hx149_2, hl149_2, hi149_2⟩ := at_T79 HR1.out x5_1 p149 q149
   have hw149_2 := hx149_2
   have hw149_1 := hx149_1
   have hw149_0 := hx149_0
   cases e149
   replace hx149_0 := pw_cell_below HB.out hx149_0
   replace hx149_1 := pw_cell_below HB.out hx149_1
   replace hx149_2 := pw_cell_below HB.out hx149_2
   have HR149_2 := aM hi149_2
   have HC149_2 := aM hl149_2
   clear hi149_2 hl149_2
   replace p149 := eq_true p149
   replace q149 := eq_true q149
   refine start_ (n := 10) (S := fun w' => w'.cell? (ad148.add ((x5_1).toNat * 3)) = some (.int .i64 ((rd_T79 l0 x5_1).f0)) ∧ w'.cell? ⟨(ad148.add ((x5_1).toNat * 3)).block, (ad148.add ((x5_1).toNat * 3)).off + 1, none⟩ = some (.int .i64 ((rd_T79 l0 x5_1).f1)) ∧ w'.cell? ⟨(ad148.add ((x5_1).toNat * 3)).block, (ad148.add ((x5_1).toNat * 3)).off + 2, none⟩ = some (.slice A148_2 ((rd_T79 l0 x5_1).f2).length c148_2) ∧ w'.cell? (ad149.add ((x5_1).toNat * 3)) = some (.int .i64 ((rd_T79 l1 x5_1).f0)) ∧ w'.cell? ⟨(ad149.add ((x5_1).toNat * 3)).block, (ad149.add ((x5_1).toNat * 3)).off + 1, none⟩ = some (.int .i64 ((rd_T79 l1 x5_1).f1)) ∧ w'.cell? ⟨(ad149.add ((x5_1).toNat * 3)).block, (ad149.add ((x5_1).toNat * 3)).off + 2, none⟩ = some (.slice A149_2 ((rd_T79 l1 x5_1).f2).length c149_2)) (ds := []) #[false, false, false, false, false, false, false, false, false, false] (by kernel_rfl) rfl rfl ⟨(pw_cell_below HB.out hw148_0), (pw_cell_below HB.out hw148_1), (pw_cell_below HB.out hw148_2), (pw_cell_below HB.out hw149_0), (pw_cell_below HB.out hw149_1), (pw_cell_below HB.out hw149_2)⟩ (fun hHeld => ?_); refine with_tabW laws_eqPodS.tab6 laws_eqPodS.bits6 (fun HT_ HW_ => ?_)
   generalize wr.drew = w9 at HB HR148_2 HR149_2 hx148_0 hx148_1 hx148_2 hx149_0 hx149_1 hx149_2 hHeld ⊢
   refine pI_ 0 17 (bqz 10 1) ?_
   refine pI_ 1 18 (bqz 10 3) ?_
   refine pI_ 2 19 (bqz 10 7) ?_
   refine pI_ 4 21 (bqz 10 23) ?_
   refine pI_ 5 22 (bqz 10 55) ?_
   refine pI_ 6 23 (bqz 10 119) ?_
   refine tI6_ 3 20 (bqz 10 127) ?_
   refine tI6_ 7 24 (bqz 10 255) ?_
   refine one_ (i := 8) (N := some 25) (bqz 10 511) rfl rfl qzc (by decide) (fun K hK => ?_)
   refine goes_ Try.func98 (by kernel_rfl) rfl #[.agg #[.int .i64 ((rd_T79 l0 x5_1).f0), .int .i64 ((rd_T79 l0 x5_1).f1), .slice A148_2 ((rd_T79 l0 x5_1).f2).length c148_2], .agg #[.int .i64 ((rd_T79 l1 x5_1).f0), .int .i64 ((rd_T79 l1 x5_1).f1), .slice A149_2 ((rd_T79 l1 x5_1).f2).length c149_2]] (by rfl) rfl rfl qz3 ?_
   with_reducible refine (laws_eqPod.calls k1 ((rd_T79 l0 x5_1).f0) ((rd_T79 l0 x5_1).f1) _ _ ((rd_T79 l0 x5_1).f2) ((rd_T79 l1 x5_1).f0) ((rd_T79 l1 x5_1).f1) _ _ ((rd_T79 l1 x5_1).f2) true _ ?side1 ?side2 ?side3 ?side4 A7.out).mono ?_
   (case side1 => repeat (first | exact (Kd.C_below HR148_2.out HB.out) | (with_reducible refine Kd.C_alloc ?_ _) | (with_reducible refine Kd.C_drewN ?_ _) | (with_reducible refine Kd.C_drew ?_)))
   (case side2 => exact HC148_2.out)
   (case side3 => repeat (first | exact (Kd.C_below HR149_2.out HB.out) | (with_reducible refine Kd.C_alloc ?_ _) | (with_reducible refine Kd.C_drewN ?_ _) | (with_reducible refine Kd.C_drew ?_)))
   (case side4 => exact HC149_2.out)
   rintro e w10 ⟨rfl, hb⟩
   refine ⟨_, rfl, ?_⟩
   have n0_ := aM (below_step qz1 hb)
   clear HB
   have HB := n0_
   clear n0_
   (try clear hb)
   (try clear hb2)
   (try clear hk)
   (try clear hi)
   refine hK.out _ _ ⟨(pw_cell_below HB.out hw148_0), (pw_cell_below HB.out hw148_1), (pw_cell_below HB.out hw148_2), (pw_cell_below HB.out hw149_0), (pw_cell_below HB.out hw149_1), (pw_cell_below HB.out hw149_2)⟩ (fun hHeld => ?_)
   clear hK K
   refine norm_ (a' := ?_) ?_ ?_
   rotate_left
   {
   show Act.put _ (some 25) _ = _
   simp only [qzs]
   rfl
   }
   refine pI_ 9 26 (bqz 10 1023) ?_
   refine done_ (done_of HT_.out (by kernel_rfl)) ?_
   try go_wp2
   go_roundg k1
   case measure => have := HK1.out; omega
   case rel => exact ⟨(wrap64 (x5_1 + 1)), qz4, H', ⟨by have := HK1.out; omega⟩, ⟨by repeat (first | (with_reducible first | exact HB.out | apply below_alloc | apply pw_below_drewN | apply below_drew1) | exact HB.out)⟩⟩
   }
   {
   replace c8 := Bool.eq_false_iff.mpr c8
   subst c8
   rw [if_neg (show ¬ (false = true) by decide)] at H
   obtain rfl := Option.some.inj H
   simp only [Option.some.injEq, Prod.mk.injEq] at H
   obtain ⟨rfl⟩ := H
   try go_wp2
   have n0_ := aM (below_drew1 HB.out)
   clear HB
   have HB := n0_
   clear n0_
   have p148 : 0 ≤ (x5_1 : Int) := of_decide_eq_true qz2
   have q148 : x5_1 < (l0.length : Int) := of_decide_eq_true qz2
   obtain ⟨ad148, A148_2, c148_2, e148, hx148_0, hx148_1, hx148_2, hl148_2, hi148_2⟩ := at_T79 HR0.out x5_1 p148 q148
   have hw148_2 := hx148_2
   have hw148_1 := hx148_1
   have hw148_0 := hx148_0
   cases e148
   replace hx148_0 := pw_cell_below HB.out hx148_0
   replace hx148_1 := pw_cell_below HB.out hx148_1
   replace hx148_2 := pw_cell_below HB.out hx148_2
   have HR148_2 := aM hi148_2
   have HC148_2 := aM hl148_2
   clear hi148_2 hl148_2
   replace p148 := eq_true p148
   replace q148 := eq_true q148
   have p149 : 0 ≤ (x5_1 : Int) := of_decide_eq_true qz2
   have q149 : x5_1 < (l1.length : Int) := of_decide_eq_true qz2
   obtain ⟨ad149, A149_2, c149_2, e149, hx149_0, hx149_1, hx149_2, hl149_2, hi149_2⟩ := at_T79 HR1.out x5_1 p149 q149
   have hw149_2 := hx149_2
   have hw149_1 := hx149_1
   have hw149_0 := hx149_0
   cases e149
   replace hx149_0 := pw_cell_below HB.out hx149_0
   replace hx149_1 := pw_cell_below HB.out hx149_1
   replace hx149_2 := pw_cell_below HB.out hx149_2
   have HR149_2 := aM hi149_2
   have HC149_2 := aM hl149_2
   clear hi149_2 hl149_2
   replace p149 := eq_true p149
   replace q149 := eq_true q149
   refine start_ (n := 10) (S := fun w' => w'.cell? (ad148.add ((x5_1).toNat * 3)) = some (.int .i64 ((rd_T79 l0 x5_1).f0)) ∧ w'.cell? ⟨(ad148.add ((x5_1).toNat * 3)).block, (ad148.add ((x5_1).toNat * 3)).off + 1, none⟩ = some (.int .i64 ((rd_T79 l0 x5_1).f1)) ∧ w'.cell? ⟨(ad148.add ((x5_1).toNat * 3)).block, (ad148.add ((x5_1).toNat * 3)).off + 2, none⟩ = some (.slice A148_2 ((rd_T79 l0 x5_1).f2).length c148_2) ∧ w'.cell? (ad149.add ((x5_1).toNat * 3)) = some (.int .i64 ((rd_T79 l1 x5_1).f0)) ∧ w'.cell? ⟨(ad149.add ((x5_1).toNat * 3)).block, (ad149.add ((x5_1).toNat * 3)).off + 1, none⟩ = some (.int .i64 ((rd_T79 l1 x5_1).f1)) ∧ w'.cell? ⟨(ad149.add ((x5_1).toNat * 3)).block, (ad149.add ((x5_1).toNat * 3)).off + 2, none⟩ = some (.slice A149_2 ((rd_T79 l1 x5_1).f2).length c149_2)) (ds := []) #[false, false, false, false, false, false, false, false, false, false] (by kernel_rfl) rfl rfl ⟨(pw_cell_below HB.out hw148_0), (pw_cell_below HB.out hw148_1), (pw_cell_below HB.out hw148_2), (pw_cell_below HB.out hw149_0), (pw_cell_below HB.out hw149_1), (pw_cell_below HB.out hw149_2)⟩ (fun hHeld => ?_); refine with_tabW laws_eqPodS.tab6 laws_eqPodS.bits6 (fun HT_ HW_ => ?_)
   generalize wr.drew = w11 at HB HR148_2 HR149_2 hx148_0 hx148_1 hx148_2 hx149_0 hx149_1 hx149_2 hHeld ⊢
   refine pI_ 0 17 (bqz 10 1) ?_
   refine pI_ 1 18 (bqz 10 3) ?_
   refine pI_ 2 19 (bqz 10 7) ?_
   refine pI_ 4 21 (bqz 10 23) ?_
   refine pI_ 5 22 (bqz 10 55) ?_
   refine pI_ 6 23 (bqz 10 119) ?_
   refine tI6_ 3 20 (bqz 10 127) ?_
   refine tI6_ 7 24 (bqz 10 255) ?_
   refine one_ (i := 8) (N := some 25) (bqz 10 511) rfl rfl qzc (by decide) (fun K hK => ?_)
   refine goes_ Try.func98 (by kernel_rfl) rfl #[.agg #[.int .i64 ((rd_T79 l0 x5_1).f0), .int .i64 ((rd_T79 l0 x5_1).f1), .slice A148_2 ((rd_T79 l0 x5_1).f2).length c148_2], .agg #[.int .i64 ((rd_T79 l1 x5_1).f0), .int .i64 ((rd_T79 l1 x5_1).f1), .slice A149_2 ((rd_T79 l1 x5_1).f2).length c149_2]] (by rfl) rfl rfl qz3 ?_
   with_reducible refine (laws_eqPod.calls k1 ((rd_T79 l0 x5_1).f0) ((rd_T79 l0 x5_1).f1) _ _ ((rd_T79 l0 x5_1).f2) ((rd_T79 l1 x5_1).f0) ((rd_T79 l1 x5_1).f1) _ _ ((rd_T79 l1 x5_1).f2) false _ ?side1 ?side2 ?side3 ?side4 A7.out).mono ?_
   (case side1 => repeat (first | exact (Kd.C_below HR148_2.out HB.out) | (with_reducible refine Kd.C_alloc ?_ _) | (with_reducible refine Kd.C_drewN ?_ _) | (with_reducible refine Kd.C_drew ?_)))
   (case side2 => exact HC148_2.out)
   (case side3 => repeat (first | exact (Kd.C_below HR149_2.out HB.out) | (with_reducible refine Kd.C_alloc ?_ _) | (with_reducible refine Kd.C_drewN ?_ _) | (with_reducible refine Kd.C_drew ?_)))
   (case side4 => exact HC149_2.out)
   rintro e w12 ⟨rfl, hb⟩
   refine ⟨_, rfl, ?_⟩
   have n0_ := aM (below_step qz1 hb)
   clear HB
   have HB := n0_
   clear n0_
   (try clear hb)
   (try clear hb2)
   (try clear hk)
   (try clear hi)
   refine hK.out _ _ ⟨(pw_cell_below HB.out hw148_0), (pw_cell_below HB.out hw148_1), (pw_cell_below HB.out hw148_2), (pw_cell_below HB.out hw149_0), (pw_cell_below HB.out hw149_1), (pw_cell_below HB.out hw149_2)⟩ (fun hHeld => ?_)
   clear hK K
   refine norm_ (a' := ?_) ?_ ?_
   rotate_left
   {
   show Act.put _ (some 25) _ = _
   simp only [qzs]
   rfl
   }
   refine pI_ 9 26 (bqz 10 1023) ?_
   refine done_ (done_of HT_.out (by kernel_rfl)) ?_
   try go_wp2
   go_ret
   exact ⟨by first | rfl | (simp [errW_none, errW_some] <;> rfl) | (simp [*, errW_none, errW_some] <;> rfl), by repeat (first | (with_reducible first | exact HB.out | apply below_alloc | apply pw_below_drewN | apply below_drew1) | exact HB.out)⟩
   }
   }
   {
   rw [if_neg c6] at H
   exact absurd H (by simp)
   }
   }
   {
   rw [if_neg c5] at H
   exact absurd H (by simp)
   }
   }
   {
   rw [if_neg c4] at H
   have c4b0 := decide_eq_false c4
   clear c4
   obtain rfl := Option.some.inj H
   simp only [Option.some.injEq, Prod.mk.injEq] at H
   obtain ⟨rfl⟩ := H
   go_wp2
   go_ret
   exact ⟨by first | rfl | (simp [errW_none, errW_some] <;> rfl) | (simp [*, errW_none, errW_some] <;> rfl), by repeat (first | (with_reducible first | exact HB.out | apply below_alloc | apply pw_below_drewN | apply below_drew1) | exact HB.out)⟩
   }
 }
 {
 rw [if_neg c3] at H
 have c3b0 := beq_eq_false_iff_ne.mpr c3
 have c3b1 := bne_iff_ne.mpr c3
 have c3b2 : (l0.length == l1.length) = false := by first | simpa using c3 | (simp at c3 ⊢; omega)
 obtain rfl := Option.some.inj H
 simp only [Option.some.injEq, Prod.mk.injEq] at H
 obtain ⟨rfl⟩ := H
 go_enter Try.func72, Try.ntmps72
 go_wp2
 go_ret
 exact ⟨by first | rfl | (simp [errW_none, errW_some] <;> rfl) | (simp [*, errW_none, errW_some] <;> rfl), by repeat (first | (with_reducible first | exact HB.out | apply below_alloc | apply pw_below_drewN | apply below_drew1) | exact HB.out)⟩

 }
end Go.Proofs.Yteajnkondkfmgaa.PFnExactPicks
