-- Made by a program of this session out of the translation. Lean checks it.
import Derived.Test.YtankmdbbgepmbaaPFnExactTurnsx2
namespace Go.Proofs.Ytankmdbbgepmbaa.PFnExactTurns
open Go.RowKit Go.Proofs.YtankmdbbgepmbaaW.PrintWords Go.Proofs.YtankmdbbgepmbaaW.PrintLast Go.Proofs.YtankmdbbgepmbaaW.PrintMore
attribute [local go_sem] max2_int min2_int max_two min_two max_three min_three max_four min_four   -- for this text's walks alone
set_option linter.unusedVariables false
set_option linter.unusedSimpArgs false

/-! ### laws_eqRobotS: function 19 -/
def laws_eqRobotS.l0 : Nat → List (S37) → List (S37) → Int → Option (Bool)
 | 0, _, _, _ => none
 | k + 1, x0, x1, x5 => if x5 < (x0.length : Int) then (if 0 ≤ x5 then (if x5 < (x1.length : Int) then ((laws_eqRobot.f ((rd_T37 x0 x5).f0) ((rd_T37 x0 x5).f1) ((rd_T37 x0 x5).f2) ((rd_T37 x0 x5).f3) ((rd_T37 x0 x5).f4) ((rd_T37 x1 x5).f0) ((rd_T37 x1 x5).f1) ((rd_T37 x1 x5).f2) ((rd_T37 x1 x5).f3) ((rd_T37 x1 x5).f4)).bind fun t142 => (if t142 = true then (laws_eqRobotS.l0 k x0 x1 (wrap64 (x5 + 1))) else (some false))) else (none)) else (none)) else (some true)
def laws_eqRobotS.f (k : Nat) (l0 : List (S37)) (l1 : List (S37)) : Option (Bool) := if (l0.length : Int) = (l1.length : Int) then (laws_eqRobotS.l0 k l0 l1 0) else (some false)
theorem laws_eqRobotS.mono_l : ∀ k, (∀ y0 y1 y2, LeO (laws_eqRobotS.l0 k y0 y1 y2) (laws_eqRobotS.l0 (k + 1) y0 y1 y2))
 | 0 => fun _ _ _ r h => by simp [laws_eqRobotS.l0] at h
 | k + 1 => by
  have ih0 := laws_eqRobotS.mono_l k
  {
  intro y0 y1 y2
  unfold laws_eqRobotS.l0
  exact qL
  }
theorem laws_eqRobotS.mono : ∀ a0 a1 k, LeO (laws_eqRobotS.f k a0 a1) (laws_eqRobotS.f (k + 1) a0 a1) := by
 intro a0 a1 k
 have ih0 := laws_eqRobotS.mono_l k
 unfold laws_eqRobotS.f
 exact qL
def laws_eqRobotS.T6 : Bool × List (List Nat × List Nat) := (true, [([], []), ([], []), ([0, 1], [0, 1]), ([2], [2]), ([], []), ([], []), ([4, 5], [4, 5]), ([6], [6]), ([3, 7], [3, 7]), ([8], [8])])
def laws_eqRobotS.B6 : List Nat := [0, 0, 3, 7, 0, 0, 48, 112, 255, 511]
theorem laws_eqRobotS.tab6 : rtab .any (opsOf Try.f19 6) = laws_eqRobotS.T6 := by kernel_rfl
theorem laws_eqRobotS.bits6 : waitsOk laws_eqRobotS.T6.2 laws_eqRobotS.B6 = true := by kernel_rfl
set_option maxHeartbeats 8000000 in
set_option maxRecDepth 100000 in
theorem laws_eqRobotS.calls (k : Nat) (A0 : Option Addr) (c0 : Nat) (l0 : List (S37)) (A1 : Option Addr) (c1 : Nat) (l1 : List (S37)) (r : Bool) (w : World) (hr0 : Kd.C k37 w A0 l0.length l0) (hc0 : l0.length ≤ c0) (hr1 : Kd.C k37 w A1 l1.length l1) (hc1 : l1.length ≤ c1) (h : laws_eqRobotS.f k l0 l1 = some r) :
  Calls Try.prog 19 #[.slice A0 l0.length c0, .slice A1 l1.length c1] w fun e w' => e = .returned (.bool r) ∧ Below w.heap.size w w' := by
 have hu37 := Try.underlying37
 have HR0 := aM hr0
 have HC0 := aM hc0
 clear hr0 hc0
 have HR1 := aM hr1
 have HC1 := aM hc1
 clear hr1 hc1
 have HB := aM (Below.refl w.heap.size w)
 unfold laws_eqRobotS.f at h
 have H := h
 clear h
 replace H := iS_ H
 rcases H with ⟨c3, H⟩ | ⟨c3, H⟩
 {
 have c3b0 := beq_iff_eq.mpr c3
 have c3b1 := bne_eq_false_iff_eq.mpr c3
 have c3b2 : (l0.length == l1.length) = true := by first | simpa using c3 | (simp at c3 ⊢; omega)
 clear c3
 have H' := aM H
 clear H
 go_enter Try.func19, Try.ntmps19
 go_wp2
 go_loopg [5] k (fun kq v5 w' => ∃ (x5_1 : Int), v5 = .int .i64 x5_1 ∧ Aside0 (laws_eqRobotS.l0 kq l0 l1 x5_1 = some r) ∧ Aside0 (kq ≤ k) ∧ Aside0 (Below w.heap.size w w'))
 case atStart => exact ⟨(0), qz4, H', ⟨Nat.le_refl _⟩, ⟨qz1⟩⟩
 case round =>
 clear H'
 try clear c1
 try clear c3
 try clear c3b0
 try clear c3b1
 try clear c3b2
 obtain ⟨x5_1, rfl, HA, HK1, HB⟩ := hrel
 cases gk with
 | zero => exact absurd HA.out (by simp [laws_eqRobotS.l0])
 | succ k1 =>
 have H := HA.out
 clear HA
 simp only [laws_eqRobotS.l0] at H
 replace H := iE_ H
 rcases H with ⟨c4b0, H⟩ | ⟨c4b0, H⟩
 {
 replace H := iD_ H
 obtain ⟨c5b0, H⟩ := H
 replace H := iD_ H
 obtain ⟨c6b0, H⟩ := H
 replace H := Option.bind_eq_some_iff.mp H
 obtain ⟨t142, A70, H⟩ := H
 have A7 := aM A70
 clear A70
 replace H := iB_ H
 rcases H with ⟨rfl, H⟩ | ⟨rfl, H⟩
 {
 have H' := aM H
 clear H
 try go_wp2
 replace HB := aM (below_drew1 HB.out)
 have p140 : (0 ≤ (x5_1 : Int)) = True := et_
 have q140 : (x5_1 < (l0.length : Int)) = True := et_
 obtain ⟨ad140, e140, hx140_0, hx140_1, hx140_2, hx140_3, hx140_4⟩ := at_T37 HR0.out x5_1 dt_ dt_
 have hw140_4 := hx140_4
 have hw140_3 := hx140_3
 have hw140_2 := hx140_2
 have hw140_1 := hx140_1
 have hw140_0 := hx140_0
 cases e140
 replace hx140_0 := cB_ hx140_0
 replace hx140_1 := cB_ hx140_1
 replace hx140_2 := cB_ hx140_2
 replace hx140_3 := cB_ hx140_3
 replace hx140_4 := cB_ hx140_4
 have p141 : (0 ≤ (x5_1 : Int)) = True := et_
 have q141 : (x5_1 < (l1.length : Int)) = True := et_
 obtain ⟨ad141, e141, hx141_0, hx141_1, hx141_2, hx141_3, hx141_4⟩ := at_T37 HR1.out x5_1 dt_ dt_
 have hw141_4 := hx141_4
 have hw141_3 := hx141_3
 have hw141_2 := hx141_2
 have hw141_1 := hx141_1
 have hw141_0 := hx141_0
 cases e141
 replace hx141_0 := cB_ hx141_0
 replace hx141_1 := cB_ hx141_1
 replace hx141_2 := cB_ hx141_2
 replace hx141_3 := cB_ hx141_3
 replace hx141_4 := cB_ hx141_4
 refine start_ (n := 10) (S := fun w' => w'.cell? (ad140.add ((x5_1).toNat * 5)) = some (.int .i64 ((rd_T37 l0 x5_1).f0)) ∧ w'.cell? ⟨(ad140.add ((x5_1).toNat * 5)).block, (ad140.add ((x5_1).toNat * 5)).off + 1, none⟩ = some (.int .i64 ((rd_T37 l0 x5_1).f1)) ∧ w'.cell? ⟨(ad140.add ((x5_1).toNat * 5)).block, (ad140.add ((x5_1).toNat * 5)).off + 2, none⟩ = some (.int .i64 ((rd_T37 l0 x5_1).f2)) ∧ w'.cell? ⟨(ad140.add ((x5_1).toNat * 5)).block, (ad140.add ((x5_1).toNat * 5)).off + 3, none⟩ = some (.bool ((rd_T37 l0 x5_1).f3)) ∧ w'.cell? ⟨(ad140.add ((x5_1).toNat * 5)).block, (ad140.add ((x5_1).toNat * 5)).off + 4, none⟩ = some (.int .i64 ((rd_T37 l0 x5_1).f4)) ∧ w'.cell? (ad141.add ((x5_1).toNat * 5)) = some (.int .i64 ((rd_T37 l1 x5_1).f0)) ∧ w'.cell? ⟨(ad141.add ((x5_1).toNat * 5)).block, (ad141.add ((x5_1).toNat * 5)).off + 1, none⟩ = some (.int .i64 ((rd_T37 l1 x5_1).f1)) ∧ w'.cell? ⟨(ad141.add ((x5_1).toNat * 5)).block, (ad141.add ((x5_1).toNat * 5)).off + 2, none⟩ = some (.int .i64 ((rd_T37 l1 x5_1).f2)) ∧ w'.cell? ⟨(ad141.add ((x5_1).toNat * 5)).block, (ad141.add ((x5_1).toNat * 5)).off + 3, none⟩ = some (.bool ((rd_T37 l1 x5_1).f3)) ∧ w'.cell? ⟨(ad141.add ((x5_1).toNat * 5)).block, (ad141.add ((x5_1).toNat * 5)).off + 4, none⟩ = some (.int .i64 ((rd_T37 l1 x5_1).f4))) (ds := []) #[false, false, false, false, false, false, false, false, false, false] (by kernel_rfl) rfl rfl ⟨(cB_ hw140_0), (cB_ hw140_1), (cB_ hw140_2), (cB_ hw140_3), (cB_ hw140_4), (cB_ hw141_0), (cB_ hw141_1), (cB_ hw141_2), (cB_ hw141_3), (cB_ hw141_4)⟩ (fun hHeld => ?_); refine with_tabW laws_eqRobotS.tab6 laws_eqRobotS.bits6 (fun HT_ HW_ => ?_)
 generalize wr.drew = w9 at HB hx140_0 hx140_1 hx140_2 hx140_3 hx140_4 hx141_0 hx141_1 hx141_2 hx141_3 hx141_4 hHeld ⊢
 refine pI_ 0 17 (bqz 10 1) ?_
 refine jI_ 1 18 ?_
 refine jI_ 2 19 ?_
 refine jI_ 4 21 ?_
 refine jI_ 5 22 ?_
 refine jI_ 6 23 ?_
 refine sI10_ 3 20 ?_
 refine sI10_ 7 24 ?_
 refine oI_ 8 25 (bqz 10 511) (fun K hK => ?_)
 refine goes_ Try.func56 (by kernel_rfl) rfl #[.agg #[.int .i64 ((rd_T37 l0 x5_1).f0), .int .i64 ((rd_T37 l0 x5_1).f1), .int .i64 ((rd_T37 l0 x5_1).f2), .bool ((rd_T37 l0 x5_1).f3), .int .i64 ((rd_T37 l0 x5_1).f4)], .agg #[.int .i64 ((rd_T37 l1 x5_1).f0), .int .i64 ((rd_T37 l1 x5_1).f1), .int .i64 ((rd_T37 l1 x5_1).f2), .bool ((rd_T37 l1 x5_1).f3), .int .i64 ((rd_T37 l1 x5_1).f4)]] (by rfl) rfl rfl qz2 ?_
 with_reducible refine (laws_eqRobot.calls ((rd_T37 l0 x5_1).f0) ((rd_T37 l0 x5_1).f1) ((rd_T37 l0 x5_1).f2) ((rd_T37 l0 x5_1).f3) ((rd_T37 l0 x5_1).f4) ((rd_T37 l1 x5_1).f0) ((rd_T37 l1 x5_1).f1) ((rd_T37 l1 x5_1).f2) ((rd_T37 l1 x5_1).f3) ((rd_T37 l1 x5_1).f4) true _ A7.out).mono ?_
 rintro e w10 ⟨rfl, hb⟩
 refine ⟨_, rfl, ?_⟩
 replace HB := bS_ hb
 (try clear hb)
 (try clear hb2)
 (try clear hk)
 (try clear hi)
 refine hK.out _ _ ⟨(cB_ hw140_0), (cB_ hw140_1), (cB_ hw140_2), (cB_ hw140_3), (cB_ hw140_4), (cB_ hw141_0), (cB_ hw141_1), (cB_ hw141_2), (cB_ hw141_3), (cB_ hw141_4)⟩ (fun hHeld => ?_)
 clear hK K
 refine nm_ 25 ?_
 refine jI_ 9 26 ?_
 refine done_ (done_of HT_.out (by kernel_rfl)) ?_
 try go_wp2
 go_roundg k1
 case measure => have := HK1.out; omega
 case rel => exact ⟨(wrap64 (x5_1 + 1)), qz4, H', ⟨by have := HK1.out; omega⟩, ⟨qz1⟩⟩
 }
 {
 obtain rfl := Option.some.inj H
 try go_wp2
 replace HB := aM (below_drew1 HB.out)
 have p140 : (0 ≤ (x5_1 : Int)) = True := et_
 have q140 : (x5_1 < (l0.length : Int)) = True := et_
 obtain ⟨ad140, e140, hx140_0, hx140_1, hx140_2, hx140_3, hx140_4⟩ := at_T37 HR0.out x5_1 dt_ dt_
 have hw140_4 := hx140_4
 have hw140_3 := hx140_3
 have hw140_2 := hx140_2
 have hw140_1 := hx140_1
 have hw140_0 := hx140_0
 cases e140
 replace hx140_0 := cB_ hx140_0
 replace hx140_1 := cB_ hx140_1
 replace hx140_2 := cB_ hx140_2
 replace hx140_3 := cB_ hx140_3
 replace hx140_4 := cB_ hx140_4
 have p141 : (0 ≤ (x5_1 : Int)) = True := et_
 have q141 : (x5_1 < (l1.length : Int)) = True := et_
 obtain ⟨ad141, e141, hx141_0, hx141_1, hx141_2, hx141_3, hx141_4⟩ := at_T37 HR1.out x5_1 dt_ dt_
 have hw141_4 := hx141_4
 have hw141_3 := hx141_3
 have hw141_2 := hx141_2
 have hw141_1 := hx141_1
 have hw141_0 := hx141_0
 cases e141
 replace hx141_0 := cB_ hx141_0
 replace hx141_1 := cB_ hx141_1
 replace hx141_2 := cB_ hx141_2
 replace hx141_3 := cB_ hx141_3
 replace hx141_4 := cB_ hx141_4
 refine start_ (n := 10) (S := fun w' => w'.cell? (ad140.add ((x5_1).toNat * 5)) = some (.int .i64 ((rd_T37 l0 x5_1).f0)) ∧ w'.cell? ⟨(ad140.add ((x5_1).toNat * 5)).block, (ad140.add ((x5_1).toNat * 5)).off + 1, none⟩ = some (.int .i64 ((rd_T37 l0 x5_1).f1)) ∧ w'.cell? ⟨(ad140.add ((x5_1).toNat * 5)).block, (ad140.add ((x5_1).toNat * 5)).off + 2, none⟩ = some (.int .i64 ((rd_T37 l0 x5_1).f2)) ∧ w'.cell? ⟨(ad140.add ((x5_1).toNat * 5)).block, (ad140.add ((x5_1).toNat * 5)).off + 3, none⟩ = some (.bool ((rd_T37 l0 x5_1).f3)) ∧ w'.cell? ⟨(ad140.add ((x5_1).toNat * 5)).block, (ad140.add ((x5_1).toNat * 5)).off + 4, none⟩ = some (.int .i64 ((rd_T37 l0 x5_1).f4)) ∧ w'.cell? (ad141.add ((x5_1).toNat * 5)) = some (.int .i64 ((rd_T37 l1 x5_1).f0)) ∧ w'.cell? ⟨(ad141.add ((x5_1).toNat * 5)).block, (ad141.add ((x5_1).toNat * 5)).off + 1, none⟩ = some (.int .i64 ((rd_T37 l1 x5_1).f1)) ∧ w'.cell? ⟨(ad141.add ((x5_1).toNat * 5)).block, (ad141.add ((x5_1).toNat * 5)).off + 2, none⟩ = some (.int .i64 ((rd_T37 l1 x5_1).f2)) ∧ w'.cell? ⟨(ad141.add ((x5_1).toNat * 5)).block, (ad141.add ((x5_1).toNat * 5)).off + 3, none⟩ = some (.bool ((rd_T37 l1 x5_1).f3)) ∧ w'.cell? ⟨(ad141.add ((x5_1).toNat * 5)).block, (ad141.add ((x5_1).toNat * 5)).off + 4, none⟩ = some (.int .i64 ((rd_T37 l1 x5_1).f4))) (ds := []) #[false, false, false, false, false, false, false, false, false, false] (by kernel_rfl) rfl rfl ⟨(cB_ hw140_0), (cB_ hw140_1), (cB_ hw140_2), (cB_ hw140_3), (cB_ hw140_4), (cB_ hw141_0), (cB_ hw141_1), (cB_ hw141_2), (cB_ hw141_3), (cB_ hw141_4)⟩ (fun hHeld => ?_); refine with_tabW laws_eqRobotS.tab6 laws_eqRobotS.bits6 (fun HT_ HW_ => ?_)
 generalize wr.drew = w11 at HB hx140_0 hx140_1 hx140_2 hx140_3 hx140_4 hx141_0 hx141_1 hx141_2 hx141_3 hx141_4 hHeld ⊢
 refine pI_ 0 17 (bqz 10 1) ?_
 refine jI_ 1 18 ?_
 refine jI_ 2 19 ?_
 refine jI_ 4 21 ?_
 refine jI_ 5 22 ?_
 refine jI_ 6 23 ?_
 refine sI10_ 3 20 ?_
 refine sI10_ 7 24 ?_
 refine oI_ 8 25 (bqz 10 511) (fun K hK => ?_)
 refine goes_ Try.func56 (by kernel_rfl) rfl #[.agg #[.int .i64 ((rd_T37 l0 x5_1).f0), .int .i64 ((rd_T37 l0 x5_1).f1), .int .i64 ((rd_T37 l0 x5_1).f2), .bool ((rd_T37 l0 x5_1).f3), .int .i64 ((rd_T37 l0 x5_1).f4)], .agg #[.int .i64 ((rd_T37 l1 x5_1).f0), .int .i64 ((rd_T37 l1 x5_1).f1), .int .i64 ((rd_T37 l1 x5_1).f2), .bool ((rd_T37 l1 x5_1).f3), .int .i64 ((rd_T37 l1 x5_1).f4)]] (by rfl) rfl rfl qz2 ?_
 with_reducible refine (laws_eqRobot.calls ((rd_T37 l0 x5_1).f0) ((rd_T37 l0 x5_1).f1) ((rd_T37 l0 x5_1).f2) ((rd_T37 l0 x5_1).f3) ((rd_T37 l0 x5_1).f4) ((rd_T37 l1 x5_1).f0) ((rd_T37 l1 x5_1).f1) ((rd_T37 l1 x5_1).f2) ((rd_T37 l1 x5_1).f3) ((rd_T37 l1 x5_1).f4) false _ A7.out).mono ?_
 rintro e w12 ⟨rfl, hb⟩
 refine ⟨_, rfl, ?_⟩
 replace HB := bS_ hb
 (try clear hb)
 (try clear hb2)
 (try clear hk)
 (try clear hi)
 refine hK.out _ _ ⟨(cB_ hw140_0), (cB_ hw140_1), (cB_ hw140_2), (cB_ hw140_3), (cB_ hw140_4), (cB_ hw141_0), (cB_ hw141_1), (cB_ hw141_2), (cB_ hw141_3), (cB_ hw141_4)⟩ (fun hHeld => ?_)
 clear hK K
 refine nm_ 25 ?_
 refine jI_ 9 26 ?_
 refine done_ (done_of HT_.out (by kernel_rfl)) ?_
 try go_wp2
 go_ret
 exact ⟨qzw, qz1⟩
 }
 }
 {
 obtain rfl := Option.some.inj H
 go_wp2
 go_ret
 exact ⟨qzw, qz1⟩
 }
 }
 {
 have c3b0 := beq_eq_false_iff_ne.mpr c3
 have c3b1 := bne_iff_ne.mpr c3
 have c3b2 : (l0.length == l1.length) = false := by first | simpa using c3 | (simp at c3 ⊢; omega)
 obtain rfl := Option.some.inj H
 go_enter Try.func19, Try.ntmps19
 go_wp2
 go_ret
 exact ⟨qzw, qz1⟩
 }
/-! ### laws_markRobotS: function 20 -/
def laws_markRobotS.l0 : Nat → List (S37) → Int → Int → Option (Int × (List (S37)))
 | 0, _, _, _ => none
 | k + 1, x0, x1, x5 => if x5 < (x0.length : Int) then (if 0 ≤ x5 then ((some (x0.set (x5 : Int).toNat (⟨x1, (rd_T37 x0 x5).f1, (rd_T37 x0 x5).f2, (rd_T37 x0 x5).f3, (rd_T37 x0 x5).f4⟩ : S37) : List (S37))).bind fun y143 => ((some (y143.set (x5 : Int).toNat (⟨(rd_T37 y143 x5).f0, wrap64 (x1 + 1), (rd_T37 y143 x5).f2, (rd_T37 y143 x5).f3, (rd_T37 y143 x5).f4⟩ : S37) : List (S37))).bind fun y144 => ((some (y144.set (x5 : Int).toNat (⟨(rd_T37 y144 x5).f0, (rd_T37 y144 x5).f1, wrap64 ((wrap64 (x1 + 1)) + 1), (rd_T37 y144 x5).f3, (rd_T37 y144 x5).f4⟩ : S37) : List (S37))).bind fun y145 => ((some (y145.set (x5 : Int).toNat (⟨(rd_T37 y145 x5).f0, (rd_T37 y145 x5).f1, (rd_T37 y145 x5).f2, ((Int.tmod (wrap64 ((wrap64 ((wrap64 (x1 + 1)) + 1)) + 1)) 3) == 0), (rd_T37 y145 x5).f4⟩ : S37) : List (S37))).bind fun y146 => (laws_markRobotS.l0 k (y146.set (x5 : Int).toNat (⟨(rd_T37 y146 x5).f0, (rd_T37 y146 x5).f1, (rd_T37 y146 x5).f2, (rd_T37 y146 x5).f3, wrap64 ((wrap64 ((wrap64 ((wrap64 (x1 + 1)) + 1)) + 1)) + 1)⟩ : S37)) (wrap64 ((wrap64 ((wrap64 ((wrap64 ((wrap64 (x1 + 1)) + 1)) + 1)) + 1)) + 1)) (wrap64 (x5 + 1))))))) else (none)) else (some (x1, x0))
def laws_markRobotS.f (k : Nat) (l0 : List (S37)) (a1 : Int) : Option (Int × (List (S37))) := laws_markRobotS.l0 k l0 a1 0
theorem laws_markRobotS.mono_l : ∀ k, (∀ y0 y1 y2, LeO (laws_markRobotS.l0 k y0 y1 y2) (laws_markRobotS.l0 (k + 1) y0 y1 y2))
 | 0 => fun _ _ _ r h => by simp [laws_markRobotS.l0] at h
 | k + 1 => by
  have ih0 := laws_markRobotS.mono_l k
  {
  intro y0 y1 y2
  unfold laws_markRobotS.l0
  exact qL
  }
theorem laws_markRobotS.mono : ∀ a0 a1 k, LeO (laws_markRobotS.f k a0 a1) (laws_markRobotS.f (k + 1) a0 a1) := by
 intro a0 a1 k
 have ih0 := laws_markRobotS.mono_l k
 unfold laws_markRobotS.f
 exact qL
set_option maxHeartbeats 8000000 in
set_option maxRecDepth 100000 in
theorem laws_markRobotS.calls (k : Nat) (P0_ : Nat → Prop) (u9000_ : Value) (l0 : List (S37)) (a1 : Int) (r1 : Int) (r2 : List (S37)) (w0 w : World) (hB : Below w0.heap.size w0 w) (ho0 : Kd.R k37 37 w w0.heap.size P0_ u9000_ l0) (h : laws_markRobotS.f k l0 a1 = some (r1, r2)) :
  Calls Try.prog 20 #[u9000_, .int .i64 a1] w fun e w' => e = .returned (.int .i64 r1) ∧ Kd.R k37 37 w' w0.heap.size (fun k_ => (P0_ k_ ∨ w.heap.size ≤ k_)) u9000_ r2 ∧ Below w0.heap.size w0 w' ∧ Kept w w' (fun k_ => P0_ k_) := by
 have HO0 := aM (show Kd.R k37 37 w w0.heap.size (fun k_ => (P0_ k_ ∨ w.heap.size ≤ k_)) u9000_ l0 from Kd.R_mono ho0 (fun k_ hk => (.inl hk)))
 have HK := aM (Kept.refl w (fun k_ => P0_ k_))
 have HW0 := aM hB.size
 have HB := aM hB
 clear hB
 have H : (laws_markRobotS.l0 k l0 a1 0) = some (r1, r2) := h
 clear h
 have H' := aM H
 clear H
 go_enter Try.func20, Try.ntmps20
 go_wp2
 go_loopg [1, 5] k (fun kq v1 v5 w' => ∃ (x0_1 : List (S37)) (x1_1 : Int) (x5_1 : Int), v1 = .int .i64 x1_1 ∧ v5 = .int .i64 x5_1 ∧ Aside0 (laws_markRobotS.l0 kq x0_1 x1_1 x5_1 = some (r1, r2)) ∧ Aside0 (kq ≤ k) ∧ Aside0 (Kd.R k37 37 w' w0.heap.size (fun k_ => (P0_ k_ ∨ w.heap.size ≤ k_)) u9000_ x0_1) ∧ Aside0 (Kept w w' (fun k_ => P0_ k_)) ∧ Aside0 (Below w0.heap.size w0 w'))
 case atStart => exact ⟨(l0), (a1), (0), qz4, qz4, H', ⟨Nat.le_refl _⟩, ⟨rr_ HO0.out⟩, ⟨qz3⟩, ⟨qz1⟩⟩
 case round =>
 clear H'
 obtain ⟨x0_1, x1_1, x5_1, rfl, rfl, HA, HK1, HO_0, HK, HB⟩ := hrel
 cases gk with
 | zero => exact absurd HA.out (by simp [laws_markRobotS.l0])
 | succ k1 =>
 have H := HA.out
 clear HA
 simp only [laws_markRobotS.l0] at H
 replace H := iE_ H
 rcases H with ⟨c3b0, H⟩ | ⟨c3b0, H⟩
 {
 replace H := iD_ H
 obtain ⟨c4b0, H⟩ := H
 obtain ⟨y143, hy143⟩ : ∃ y_ : List (S37), y_ = (x0_1.set (x5_1 : Int).toNat (⟨x1_1, (rd_T37 x0_1 x5_1).f1, (rd_T37 x0_1 x5_1).f2, (rd_T37 x0_1 x5_1).f3, (rd_T37 x0_1 x5_1).f4⟩ : S37)) := ⟨_, rfl⟩
 replace H := yB_ hy143 H
 have Ny143 := aM hy143
 clear hy143
 obtain ⟨y144, hy144⟩ : ∃ y_ : List (S37), y_ = (y143.set (x5_1 : Int).toNat (⟨(rd_T37 y143 x5_1).f0, wrap64 (x1_1 + 1), (rd_T37 y143 x5_1).f2, (rd_T37 y143 x5_1).f3, (rd_T37 y143 x5_1).f4⟩ : S37)) := ⟨_, rfl⟩
 replace H := yB_ hy144 H
 have Ny144 := aM hy144
 clear hy144
 obtain ⟨y145, hy145⟩ : ∃ y_ : List (S37), y_ = (y144.set (x5_1 : Int).toNat (⟨(rd_T37 y144 x5_1).f0, (rd_T37 y144 x5_1).f1, wrap64 ((wrap64 (x1_1 + 1)) + 1), (rd_T37 y144 x5_1).f3, (rd_T37 y144 x5_1).f4⟩ : S37)) := ⟨_, rfl⟩
 replace H := yB_ hy145 H
 have Ny145 := aM hy145
 clear hy145
 obtain ⟨y146, hy146⟩ : ∃ y_ : List (S37), y_ = (y145.set (x5_1 : Int).toNat (⟨(rd_T37 y145 x5_1).f0, (rd_T37 y145 x5_1).f1, (rd_T37 y145 x5_1).f2, ((Int.tmod (wrap64 ((wrap64 ((wrap64 (x1_1 + 1)) + 1)) + 1)) 3) == 0), (rd_T37 y145 x5_1).f4⟩ : S37)) := ⟨_, rfl⟩
 replace H := yB_ hy146 H
 have Ny146 := aM hy146
 clear hy146
 obtain ⟨y147, hy147⟩ : ∃ y_ : List (S37), y_ = (y146.set (x5_1 : Int).toNat (⟨(rd_T37 y146 x5_1).f0, (rd_T37 y146 x5_1).f1, (rd_T37 y146 x5_1).f2, (rd_T37 y146 x5_1).f3, wrap64 ((wrap64 ((wrap64 ((wrap64 (x1_1 + 1)) + 1)) + 1)) + 1)⟩ : S37)) := ⟨_, rfl⟩
 replace H : (laws_markRobotS.l0 k1 y147 (wrap64 ((wrap64 ((wrap64 ((wrap64 ((wrap64 (x1_1 + 1)) + 1)) + 1)) + 1)) + 1)) (wrap64 (x5_1 + 1))) = some (r1, r2) := by first | (rw [hy147]; exact H) | exact H
 have Ny147 := aM hy147
 clear hy147
 have H' := aM H
 clear H
 obtain ⟨Ao10, co10, eo10⟩ := Kd.R_slice HO_0.out
 subst eo10
 have p5 : 0 ≤ (x5_1 : Int) := dt_
 have q5 : (x5_1 : Int) < ((x0_1.length : Int) : Int) := dt_
 obtain ⟨go5, co5, eo5, gb5, gl5, cl5, HG5⟩ := Kd.R_form HO_0.out (by omega)
 (first | cases eo5 | (injection eo5 with ea_ en_ ec_; (first | subst ea_ | (injection ea_ with ea_; subst ea_)); subst ec_; clear en_))
 have GB5 := aM gb5
 have GG5 := aM HG5
 clear gb5 gl5 HG5
 have HMgo5 := aM (show (P0_ go5 ∨ w.heap.size ≤ go5) from (HO_0.out.1 _ rfl))
 obtain ⟨ce5, hcl5, hM5, hcc5, hfr5⟩ := Kd.R_elem HO_0.out z37 (x5_1 : Int) p5 q5
 obtain rfl := k37_openM hM5
 have hx5_0 : wr.cell? ⟨go5, (x5_1 : Int).toNat * 5, none⟩ = some (.int .i64 ((rd_T37 x0_1 x5_1).f0)) := hcc5 0 _ rfl
 have hx5_1 : wr.cell? ⟨go5, (x5_1 : Int).toNat * 5 + 1, none⟩ = some (.int .i64 ((rd_T37 x0_1 x5_1).f1)) := hcc5 1 _ rfl
 have hx5_2 : wr.cell? ⟨go5, (x5_1 : Int).toNat * 5 + 2, none⟩ = some (.int .i64 ((rd_T37 x0_1 x5_1).f2)) := hcc5 2 _ rfl
 have hx5_3 : wr.cell? ⟨go5, (x5_1 : Int).toNat * 5 + 3, none⟩ = some (.bool ((rd_T37 x0_1 x5_1).f3)) := hcc5 3 _ rfl
 have hx5_4 : wr.cell? ⟨go5, (x5_1 : Int).toNat * 5 + 4, none⟩ = some (.int .i64 ((rd_T37 x0_1 x5_1).f4)) := hcc5 4 _ rfl
 have hf5_0 : wr.frozen? ⟨go5, (x5_1 : Int).toNat * 5, none⟩ = false := hfr5 0
 have hf5_1 : wr.frozen? ⟨go5, (x5_1 : Int).toNat * 5 + 1, none⟩ = false := hfr5 1
 have hf5_2 : wr.frozen? ⟨go5, (x5_1 : Int).toNat * 5 + 2, none⟩ = false := hfr5 2
 have hf5_3 : wr.frozen? ⟨go5, (x5_1 : Int).toNat * 5 + 3, none⟩ = false := hfr5 3
 have hf5_4 : wr.frozen? ⟨go5, (x5_1 : Int).toNat * 5 + 4, none⟩ = false := hfr5 4
 clear hcl5 hcc5 hfr5; (try clear hM5)
 replace p5 := eq_true p5
 replace q5 := eq_true q5
 have HX11 := aM (show Kd.R k37 37 wr w0.heap.size (fun k_ => (P0_ k_ ∨ w.heap.size ≤ k_)) (.slice (some ⟨go5, 0, none⟩) x0_1.length co10) x0_1 from (rr_ HO_0.out))
 obtain ⟨ce11, hcl11, hM11, hcc11, hfr11⟩ := Kd.R_elem HX11.out z37 (x5_1 : Int) (dt_) (by have h_ : (x5_1 : Int) < ((x0_1.length : Int) : Int) := dt_; first | exact h_ | (have e_ := (Kd.R_reads' HO_0.out).1; omega) | simpa using h_)
 obtain rfl := k37_openM hM11
 have HP11 := Kd.R_seg HX11.out (x5_1 : Int) (dt_) (by have h_ : (x5_1 : Int) < ((x0_1.length : Int) : Int) := dt_; first | exact h_ | (have e_ := (Kd.R_reads' HO_0.out).1; omega) | simpa using h_) (seg := [.int .i64 x1_1]) (j := 0) hcl11 hcc11 (show 1 ≤ 5 from by decide) (x' := (⟨x1_1, (rd_T37 x0_1 x5_1).f1, (rd_T37 x0_1 x5_1).f2, (rd_T37 x0_1 x5_1).f3, (rd_T37 x0_1 x5_1).f4⟩ : S37)) (k37_mkM _ _ _ (⟨x1_1, (rd_T37 x0_1 x5_1).f1, (rd_T37 x0_1 x5_1).f2, (rd_T37 x0_1 x5_1).f3, (rd_T37 x0_1 x5_1).f4⟩ : S37) ) (fun _ hk => hk)
 have hx11_0 := hcc11 0 _ rfl
 (try simp only [show (k37).sz = 5 from rfl, Nat.mul_one, Nat.add_zero] at hx11_0)
 have hf11_0 := hfr11 0
 (try simp only [show (k37).sz = 5 from rfl, Nat.mul_one, Nat.add_zero] at hf11_0)
 clear hcl11 hcc11 hfr11; (try clear hM11)
 go_wp2_with (first | ((with_reducible refine gate_store (t := 3) (p := 16) rfl ?_); refine store_event (t := 3) (p := 16) (v := ?vo_w12) (w1 := (wr.setCell ⟨go5, (x5_1 : Int).toNat * 5, none⟩ (.int .i64 x1_1))) ?hg ?ho ?hn ?hr ?_; (case ho => rfl); (case hg => rfl); (case hn => rfl); (case hr => exact qz5); intro w12 hw; have hg : wr.grownBy w12 (some go5) := (by rw [hw]; exact HP11.2); have hp_ : Kd.R k37 37 w12 w0.heap.size (fun k_ => (P0_ k_ ∨ w.heap.size ≤ k_)) (.slice (some ⟨go5, 0, none⟩) x0_1.length co10) y143 := (by rw [hw, Ny143.out]; exact HP11.1); clear HP11; replace HB := aM ((by rw [hw]; exact below_set (HB.out) GB5.out : Below w0.heap.size w0 w12)); replace HK := aM (Kept.of_grown (S := (fun k_ => P0_ k_)) hg qz3 (fun k_ e_ => (HO_0.out.1 k_ e_))); replace HO_0 := aM (hp_); clear hg hw hp_; have p6 : 0 ≤ (x5_1 : Int) := dt_; have q6 : (x5_1 : Int) < ((x0_1.length : Int) : Int) := dt_; obtain ⟨ce6, hcl6, hM6, hcc6, hfr6⟩ := Kd.R_elem HO_0.out z37 (x5_1 : Int) p6 q6; obtain rfl := k37_openM hM6; have hx6_0 : w12.cell? ⟨go5, (x5_1 : Int).toNat * 5, none⟩ = some (.int .i64 ((rd_T37 y143 x5_1).f0)) := hcc6 0 _ rfl; have hx6_1 : w12.cell? ⟨go5, (x5_1 : Int).toNat * 5 + 1, none⟩ = some (.int .i64 ((rd_T37 y143 x5_1).f1)) := hcc6 1 _ rfl; have hx6_2 : w12.cell? ⟨go5, (x5_1 : Int).toNat * 5 + 2, none⟩ = some (.int .i64 ((rd_T37 y143 x5_1).f2)) := hcc6 2 _ rfl; have hx6_3 : w12.cell? ⟨go5, (x5_1 : Int).toNat * 5 + 3, none⟩ = some (.bool ((rd_T37 y143 x5_1).f3)) := hcc6 3 _ rfl; have hx6_4 : w12.cell? ⟨go5, (x5_1 : Int).toNat * 5 + 4, none⟩ = some (.int .i64 ((rd_T37 y143 x5_1).f4)) := hcc6 4 _ rfl; have hf6_0 : w12.frozen? ⟨go5, (x5_1 : Int).toNat * 5, none⟩ = false := hfr6 0; have hf6_1 : w12.frozen? ⟨go5, (x5_1 : Int).toNat * 5 + 1, none⟩ = false := hfr6 1; have hf6_2 : w12.frozen? ⟨go5, (x5_1 : Int).toNat * 5 + 2, none⟩ = false := hfr6 2; have hf6_3 : w12.frozen? ⟨go5, (x5_1 : Int).toNat * 5 + 3, none⟩ = false := hfr6 3; have hf6_4 : w12.frozen? ⟨go5, (x5_1 : Int).toNat * 5 + 4, none⟩ = false := hfr6 4; clear hcl6 hcc6 hfr6; (try clear hM6); replace p6 := eq_true p6; replace q6 := eq_true q6; have HX13 := aM (show Kd.R k37 37 w12 w0.heap.size (fun k_ => (P0_ k_ ∨ w.heap.size ≤ k_)) (.slice (some ⟨go5, 0, none⟩) x0_1.length co10) y143 from (rr_ HO_0.out)); obtain ⟨ce13, hcl13, hM13, hcc13, hfr13⟩ := Kd.R_elem HX13.out z37 (x5_1 : Int) (dt_) (by have h_ : (x5_1 : Int) < ((x0_1.length : Int) : Int) := dt_; first | exact h_ | (have e_ := (Kd.R_reads' HO_0.out).1; omega) | simpa using h_); obtain rfl := k37_openM hM13; have HP13 := Kd.R_seg HX13.out (x5_1 : Int) (dt_) (by have h_ : (x5_1 : Int) < ((x0_1.length : Int) : Int) := dt_; first | exact h_ | (have e_ := (Kd.R_reads' HO_0.out).1; omega) | simpa using h_) (seg := [.int .i64 (wrap64 (x1_1 + 1))]) (j := 1) hcl13 hcc13 (show 2 ≤ 5 from by decide) (x' := (⟨(rd_T37 y143 x5_1).f0, wrap64 (x1_1 + 1), (rd_T37 y143 x5_1).f2, (rd_T37 y143 x5_1).f3, (rd_T37 y143 x5_1).f4⟩ : S37)) (k37_mkM _ _ _ (⟨(rd_T37 y143 x5_1).f0, wrap64 (x1_1 + 1), (rd_T37 y143 x5_1).f2, (rd_T37 y143 x5_1).f3, (rd_T37 y143 x5_1).f4⟩ : S37) ) (fun _ hk => hk); have hx13_1 := hcc13 1 _ rfl; (try simp only [show (k37).sz = 5 from rfl, Nat.mul_one, Nat.add_zero] at hx13_1); have hf13_1 := hfr13 1; (try simp only [show (k37).sz = 5 from rfl, Nat.mul_one, Nat.add_zero] at hf13_1); clear hcl13 hcc13 hfr13; (try clear hM13)) | ((with_reducible refine gate_store (t := 3) (p := 23) rfl ?_); refine store_event (t := 3) (p := 23) (v := ?vo_w14) (w1 := (w12.setCell ⟨go5, (x5_1 : Int).toNat * 5 + 1, none⟩ (.int .i64 (wrap64 (x1_1 + 1))))) ?hg ?ho ?hn ?hr ?_; (case ho => rfl); (case hg => rfl); (case hn => rfl); (case hr => exact qz5); intro w14 hw; have hg : w12.grownBy w14 (some go5) := (by rw [hw]; exact HP13.2); have hp_ : Kd.R k37 37 w14 w0.heap.size (fun k_ => (P0_ k_ ∨ w.heap.size ≤ k_)) (.slice (some ⟨go5, 0, none⟩) x0_1.length co10) y144 := (by rw [hw, Ny144.out]; exact HP13.1); clear HP13; replace HB := aM ((by rw [hw]; exact below_set (HB.out) GB5.out : Below w0.heap.size w0 w14)); replace HK := aM (Kept.of_grown (S := (fun k_ => P0_ k_)) hg qz3 (fun k_ e_ => (HO_0.out.1 k_ e_))); replace HO_0 := aM (hp_); clear hg hw hp_; have p7 : 0 ≤ (x5_1 : Int) := dt_; have q7 : (x5_1 : Int) < ((x0_1.length : Int) : Int) := dt_; obtain ⟨ce7, hcl7, hM7, hcc7, hfr7⟩ := Kd.R_elem HO_0.out z37 (x5_1 : Int) p7 q7; obtain rfl := k37_openM hM7; have hx7_0 : w14.cell? ⟨go5, (x5_1 : Int).toNat * 5, none⟩ = some (.int .i64 ((rd_T37 y144 x5_1).f0)) := hcc7 0 _ rfl; have hx7_1 : w14.cell? ⟨go5, (x5_1 : Int).toNat * 5 + 1, none⟩ = some (.int .i64 ((rd_T37 y144 x5_1).f1)) := hcc7 1 _ rfl; have hx7_2 : w14.cell? ⟨go5, (x5_1 : Int).toNat * 5 + 2, none⟩ = some (.int .i64 ((rd_T37 y144 x5_1).f2)) := hcc7 2 _ rfl; have hx7_3 : w14.cell? ⟨go5, (x5_1 : Int).toNat * 5 + 3, none⟩ = some (.bool ((rd_T37 y144 x5_1).f3)) := hcc7 3 _ rfl; have hx7_4 : w14.cell? ⟨go5, (x5_1 : Int).toNat * 5 + 4, none⟩ = some (.int .i64 ((rd_T37 y144 x5_1).f4)) := hcc7 4 _ rfl; have hf7_0 : w14.frozen? ⟨go5, (x5_1 : Int).toNat * 5, none⟩ = false := hfr7 0; have hf7_1 : w14.frozen? ⟨go5, (x5_1 : Int).toNat * 5 + 1, none⟩ = false := hfr7 1; have hf7_2 : w14.frozen? ⟨go5, (x5_1 : Int).toNat * 5 + 2, none⟩ = false := hfr7 2; have hf7_3 : w14.frozen? ⟨go5, (x5_1 : Int).toNat * 5 + 3, none⟩ = false := hfr7 3; have hf7_4 : w14.frozen? ⟨go5, (x5_1 : Int).toNat * 5 + 4, none⟩ = false := hfr7 4; clear hcl7 hcc7 hfr7; (try clear hM7); replace p7 := eq_true p7; replace q7 := eq_true q7; have HX15 := aM (show Kd.R k37 37 w14 w0.heap.size (fun k_ => (P0_ k_ ∨ w.heap.size ≤ k_)) (.slice (some ⟨go5, 0, none⟩) x0_1.length co10) y144 from (rr_ HO_0.out)); obtain ⟨ce15, hcl15, hM15, hcc15, hfr15⟩ := Kd.R_elem HX15.out z37 (x5_1 : Int) (dt_) (by have h_ : (x5_1 : Int) < ((x0_1.length : Int) : Int) := dt_; first | exact h_ | (have e_ := (Kd.R_reads' HO_0.out).1; omega) | simpa using h_); obtain rfl := k37_openM hM15; have HP15 := Kd.R_seg HX15.out (x5_1 : Int) (dt_) (by have h_ : (x5_1 : Int) < ((x0_1.length : Int) : Int) := dt_; first | exact h_ | (have e_ := (Kd.R_reads' HO_0.out).1; omega) | simpa using h_) (seg := [.int .i64 (wrap64 ((wrap64 (x1_1 + 1)) + 1))]) (j := 2) hcl15 hcc15 (show 3 ≤ 5 from by decide) (x' := (⟨(rd_T37 y144 x5_1).f0, (rd_T37 y144 x5_1).f1, wrap64 ((wrap64 (x1_1 + 1)) + 1), (rd_T37 y144 x5_1).f3, (rd_T37 y144 x5_1).f4⟩ : S37)) (k37_mkM _ _ _ (⟨(rd_T37 y144 x5_1).f0, (rd_T37 y144 x5_1).f1, wrap64 ((wrap64 (x1_1 + 1)) + 1), (rd_T37 y144 x5_1).f3, (rd_T37 y144 x5_1).f4⟩ : S37) ) (fun _ hk => hk); have hx15_2 := hcc15 2 _ rfl; (try simp only [show (k37).sz = 5 from rfl, Nat.mul_one, Nat.add_zero] at hx15_2); have hf15_2 := hfr15 2; (try simp only [show (k37).sz = 5 from rfl, Nat.mul_one, Nat.add_zero] at hf15_2); clear hcl15 hcc15 hfr15; (try clear hM15)) | ((with_reducible refine gate_store (t := 3) (p := 30) rfl ?_); refine store_event (t := 3) (p := 30) (v := ?vo_w16) (w1 := (w14.setCell ⟨go5, (x5_1 : Int).toNat * 5 + 2, none⟩ (.int .i64 (wrap64 ((wrap64 (x1_1 + 1)) + 1))))) ?hg ?ho ?hn ?hr ?_; (case ho => rfl); (case hg => rfl); (case hn => rfl); (case hr => exact qz5); intro w16 hw; have hg : w14.grownBy w16 (some go5) := (by rw [hw]; exact HP15.2); have hp_ : Kd.R k37 37 w16 w0.heap.size (fun k_ => (P0_ k_ ∨ w.heap.size ≤ k_)) (.slice (some ⟨go5, 0, none⟩) x0_1.length co10) y145 := (by rw [hw, Ny145.out]; exact HP15.1); clear HP15; replace HB := aM ((by rw [hw]; exact below_set (HB.out) GB5.out : Below w0.heap.size w0 w16)); replace HK := aM (Kept.of_grown (S := (fun k_ => P0_ k_)) hg qz3 (fun k_ e_ => (HO_0.out.1 k_ e_))); replace HO_0 := aM (hp_); clear hg hw hp_; have p8 : 0 ≤ (x5_1 : Int) := dt_; have q8 : (x5_1 : Int) < ((x0_1.length : Int) : Int) := dt_; obtain ⟨ce8, hcl8, hM8, hcc8, hfr8⟩ := Kd.R_elem HO_0.out z37 (x5_1 : Int) p8 q8; obtain rfl := k37_openM hM8; have hx8_0 : w16.cell? ⟨go5, (x5_1 : Int).toNat * 5, none⟩ = some (.int .i64 ((rd_T37 y145 x5_1).f0)) := hcc8 0 _ rfl; have hx8_1 : w16.cell? ⟨go5, (x5_1 : Int).toNat * 5 + 1, none⟩ = some (.int .i64 ((rd_T37 y145 x5_1).f1)) := hcc8 1 _ rfl; have hx8_2 : w16.cell? ⟨go5, (x5_1 : Int).toNat * 5 + 2, none⟩ = some (.int .i64 ((rd_T37 y145 x5_1).f2)) := hcc8 2 _ rfl; have hx8_3 : w16.cell? ⟨go5, (x5_1 : Int).toNat * 5 + 3, none⟩ = some (.bool ((rd_T37 y145 x5_1).f3)) := hcc8 3 _ rfl; have hx8_4 : w16.cell? ⟨go5, (x5_1 : Int).toNat * 5 + 4, none⟩ = some (.int .i64 ((rd_T37 y145 x5_1).f4)) := hcc8 4 _ rfl; have hf8_0 : w16.frozen? ⟨go5, (x5_1 : Int).toNat * 5, none⟩ = false := hfr8 0; have hf8_1 : w16.frozen? ⟨go5, (x5_1 : Int).toNat * 5 + 1, none⟩ = false := hfr8 1; have hf8_2 : w16.frozen? ⟨go5, (x5_1 : Int).toNat * 5 + 2, none⟩ = false := hfr8 2; have hf8_3 : w16.frozen? ⟨go5, (x5_1 : Int).toNat * 5 + 3, none⟩ = false := hfr8 3; have hf8_4 : w16.frozen? ⟨go5, (x5_1 : Int).toNat * 5 + 4, none⟩ = false := hfr8 4; clear hcl8 hcc8 hfr8; (try clear hM8); replace p8 := eq_true p8; replace q8 := eq_true q8; have HX17 := aM (show Kd.R k37 37 w16 w0.heap.size (fun k_ => (P0_ k_ ∨ w.heap.size ≤ k_)) (.slice (some ⟨go5, 0, none⟩) x0_1.length co10) y145 from (rr_ HO_0.out)); obtain ⟨ce17, hcl17, hM17, hcc17, hfr17⟩ := Kd.R_elem HX17.out z37 (x5_1 : Int) (dt_) (by have h_ : (x5_1 : Int) < ((x0_1.length : Int) : Int) := dt_; first | exact h_ | (have e_ := (Kd.R_reads' HO_0.out).1; omega) | simpa using h_); obtain rfl := k37_openM hM17; have HP17 := Kd.R_seg HX17.out (x5_1 : Int) (dt_) (by have h_ : (x5_1 : Int) < ((x0_1.length : Int) : Int) := dt_; first | exact h_ | (have e_ := (Kd.R_reads' HO_0.out).1; omega) | simpa using h_) (seg := [.bool ((Int.tmod (wrap64 ((wrap64 ((wrap64 (x1_1 + 1)) + 1)) + 1)) 3) == 0)]) (j := 3) hcl17 hcc17 (show 4 ≤ 5 from by decide) (x' := (⟨(rd_T37 y145 x5_1).f0, (rd_T37 y145 x5_1).f1, (rd_T37 y145 x5_1).f2, ((Int.tmod (wrap64 ((wrap64 ((wrap64 (x1_1 + 1)) + 1)) + 1)) 3) == 0), (rd_T37 y145 x5_1).f4⟩ : S37)) (k37_mkM _ _ _ (⟨(rd_T37 y145 x5_1).f0, (rd_T37 y145 x5_1).f1, (rd_T37 y145 x5_1).f2, ((Int.tmod (wrap64 ((wrap64 ((wrap64 (x1_1 + 1)) + 1)) + 1)) 3) == 0), (rd_T37 y145 x5_1).f4⟩ : S37) ) (fun _ hk => hk); have hx17_3 := hcc17 3 _ rfl; (try simp only [show (k37).sz = 5 from rfl, Nat.mul_one, Nat.add_zero] at hx17_3); have hf17_3 := hfr17 3; (try simp only [show (k37).sz = 5 from rfl, Nat.mul_one, Nat.add_zero] at hf17_3); clear hcl17 hcc17 hfr17; (try clear hM17)) | ((with_reducible refine gate_store (t := 4) (p := 39) rfl ?_); refine store_event (t := 4) (p := 39) (v := ?vo_w18) (w1 := (w16.setCell ⟨go5, (x5_1 : Int).toNat * 5 + 3, none⟩ (.bool ((Int.tmod (wrap64 ((wrap64 ((wrap64 (x1_1 + 1)) + 1)) + 1)) 3) == 0)))) ?hg ?ho ?hn ?hr ?_; (case ho => rfl); (case hg => rfl); (case hn => rfl); (case hr => exact qz5); intro w18 hw; have hg : w16.grownBy w18 (some go5) := (by rw [hw]; exact HP17.2); have hp_ : Kd.R k37 37 w18 w0.heap.size (fun k_ => (P0_ k_ ∨ w.heap.size ≤ k_)) (.slice (some ⟨go5, 0, none⟩) x0_1.length co10) y146 := (by rw [hw, Ny146.out]; exact HP17.1); clear HP17; replace HB := aM ((by rw [hw]; exact below_set (HB.out) GB5.out : Below w0.heap.size w0 w18)); replace HK := aM (Kept.of_grown (S := (fun k_ => P0_ k_)) hg qz3 (fun k_ e_ => (HO_0.out.1 k_ e_))); replace HO_0 := aM (hp_); clear hg hw hp_; have p9 : 0 ≤ (x5_1 : Int) := dt_; have q9 : (x5_1 : Int) < ((x0_1.length : Int) : Int) := dt_; obtain ⟨ce9, hcl9, hM9, hcc9, hfr9⟩ := Kd.R_elem HO_0.out z37 (x5_1 : Int) p9 q9; obtain rfl := k37_openM hM9; have hx9_0 : w18.cell? ⟨go5, (x5_1 : Int).toNat * 5, none⟩ = some (.int .i64 ((rd_T37 y146 x5_1).f0)) := hcc9 0 _ rfl; have hx9_1 : w18.cell? ⟨go5, (x5_1 : Int).toNat * 5 + 1, none⟩ = some (.int .i64 ((rd_T37 y146 x5_1).f1)) := hcc9 1 _ rfl; have hx9_2 : w18.cell? ⟨go5, (x5_1 : Int).toNat * 5 + 2, none⟩ = some (.int .i64 ((rd_T37 y146 x5_1).f2)) := hcc9 2 _ rfl; have hx9_3 : w18.cell? ⟨go5, (x5_1 : Int).toNat * 5 + 3, none⟩ = some (.bool ((rd_T37 y146 x5_1).f3)) := hcc9 3 _ rfl; have hx9_4 : w18.cell? ⟨go5, (x5_1 : Int).toNat * 5 + 4, none⟩ = some (.int .i64 ((rd_T37 y146 x5_1).f4)) := hcc9 4 _ rfl; have hf9_0 : w18.frozen? ⟨go5, (x5_1 : Int).toNat * 5, none⟩ = false := hfr9 0; have hf9_1 : w18.frozen? ⟨go5, (x5_1 : Int).toNat * 5 + 1, none⟩ = false := hfr9 1; have hf9_2 : w18.frozen? ⟨go5, (x5_1 : Int).toNat * 5 + 2, none⟩ = false := hfr9 2; have hf9_3 : w18.frozen? ⟨go5, (x5_1 : Int).toNat * 5 + 3, none⟩ = false := hfr9 3; have hf9_4 : w18.frozen? ⟨go5, (x5_1 : Int).toNat * 5 + 4, none⟩ = false := hfr9 4; clear hcl9 hcc9 hfr9; (try clear hM9); replace p9 := eq_true p9; replace q9 := eq_true q9; have HX19 := aM (show Kd.R k37 37 w18 w0.heap.size (fun k_ => (P0_ k_ ∨ w.heap.size ≤ k_)) (.slice (some ⟨go5, 0, none⟩) x0_1.length co10) y146 from (rr_ HO_0.out)); obtain ⟨ce19, hcl19, hM19, hcc19, hfr19⟩ := Kd.R_elem HX19.out z37 (x5_1 : Int) (dt_) (by have h_ : (x5_1 : Int) < ((x0_1.length : Int) : Int) := dt_; first | exact h_ | (have e_ := (Kd.R_reads' HO_0.out).1; omega) | simpa using h_); obtain rfl := k37_openM hM19; have HP19 := Kd.R_seg HX19.out (x5_1 : Int) (dt_) (by have h_ : (x5_1 : Int) < ((x0_1.length : Int) : Int) := dt_; first | exact h_ | (have e_ := (Kd.R_reads' HO_0.out).1; omega) | simpa using h_) (seg := [.int .i64 (wrap64 ((wrap64 ((wrap64 ((wrap64 (x1_1 + 1)) + 1)) + 1)) + 1))]) (j := 4) hcl19 hcc19 (show 5 ≤ 5 from by decide) (x' := (⟨(rd_T37 y146 x5_1).f0, (rd_T37 y146 x5_1).f1, (rd_T37 y146 x5_1).f2, (rd_T37 y146 x5_1).f3, wrap64 ((wrap64 ((wrap64 ((wrap64 (x1_1 + 1)) + 1)) + 1)) + 1)⟩ : S37)) (k37_mkM _ _ _ (⟨(rd_T37 y146 x5_1).f0, (rd_T37 y146 x5_1).f1, (rd_T37 y146 x5_1).f2, (rd_T37 y146 x5_1).f3, wrap64 ((wrap64 ((wrap64 ((wrap64 (x1_1 + 1)) + 1)) + 1)) + 1)⟩ : S37) ) (fun _ hk => hk); have hx19_4 := hcc19 4 _ rfl; (try simp only [show (k37).sz = 5 from rfl, Nat.mul_one, Nat.add_zero] at hx19_4); have hf19_4 := hfr19 4; (try simp only [show (k37).sz = 5 from rfl, Nat.mul_one, Nat.add_zero] at hf19_4); clear hcl19 hcc19 hfr19; (try clear hM19)) | ((with_reducible refine gate_store (t := 3) (p := 46) rfl ?_); refine store_event (t := 3) (p := 46) (v := ?vo_w20) (w1 := (w18.setCell ⟨go5, (x5_1 : Int).toNat * 5 + 4, none⟩ (.int .i64 (wrap64 ((wrap64 ((wrap64 ((wrap64 (x1_1 + 1)) + 1)) + 1)) + 1))))) ?hg ?ho ?hn ?hr ?_; (case ho => rfl); (case hg => rfl); (case hn => rfl); (case hr => exact qz5); intro w20 hw; have hg : w18.grownBy w20 (some go5) := (by rw [hw]; exact HP19.2); have hp_ : Kd.R k37 37 w20 w0.heap.size (fun k_ => (P0_ k_ ∨ w.heap.size ≤ k_)) (.slice (some ⟨go5, 0, none⟩) x0_1.length co10) y147 := (by rw [hw, Ny147.out]; exact HP19.1); clear HP19; replace HB := aM ((by rw [hw]; exact below_set (HB.out) GB5.out : Below w0.heap.size w0 w20)); replace HK := aM (Kept.of_grown (S := (fun k_ => P0_ k_)) hg qz3 (fun k_ e_ => (HO_0.out.1 k_ e_))); replace HO_0 := aM (hp_); clear hg hw hp_))
 go_roundg k1
 case measure => have := HK1.out; omega
 case rel => exact ⟨(y147), (wrap64 ((wrap64 ((wrap64 ((wrap64 ((wrap64 (x1_1 + 1)) + 1)) + 1)) + 1)) + 1)), (wrap64 (x5_1 + 1)), qz4, qz4, H', ⟨by have := HK1.out; omega⟩, ⟨rm_ HO_0.out⟩, ⟨qz3⟩, ⟨qz1⟩⟩
 }
 {
 simp only [Option.some.injEq, Prod.mk.injEq] at H
 obtain ⟨rfl, rfl⟩ := H
 obtain ⟨Ao21, co21, eo21⟩ := Kd.R_slice HO_0.out
 subst eo21
 go_wp2
 go_ret
 exact ⟨qzw, by (with_reducible repeat (first | apply Kd.R_alloc | apply Kd.R_drewN | apply Kd.R_drew)); exact HO_0.out, qz1, qz3⟩
 }
/-! ### laws_markIntS: function 21 -/
def laws_markIntS.l0 : Nat → List Int → Int → Int → Option (Int × List Int)
 | 0, _, _, _ => none
 | k + 1, x0, x1, x5 => if x5 < (x0.length : Int) then (if 0 ≤ x5 then (laws_markIntS.l0 k (x0.set (x5 : Int).toNat x1) (wrap64 (x1 + 1)) (wrap64 (x5 + 1))) else (none)) else (some (x1, x0))
def laws_markIntS.f (k : Nat) (l0 : List Int) (a1 : Int) : Option (Int × List Int) := laws_markIntS.l0 k l0 a1 0
theorem laws_markIntS.mono_l : ∀ k, (∀ y0 y1 y2, LeO (laws_markIntS.l0 k y0 y1 y2) (laws_markIntS.l0 (k + 1) y0 y1 y2))
 | 0 => fun _ _ _ r h => by simp [laws_markIntS.l0] at h
 | k + 1 => by
  have ih0 := laws_markIntS.mono_l k
  {
  intro y0 y1 y2
  unfold laws_markIntS.l0
  exact qL
  }
theorem laws_markIntS.mono : ∀ a0 a1 k, LeO (laws_markIntS.f k a0 a1) (laws_markIntS.f (k + 1) a0 a1) := by
 intro a0 a1 k
 have ih0 := laws_markIntS.mono_l k
 unfold laws_markIntS.f
 exact qL
set_option maxHeartbeats 8000000 in
set_option maxRecDepth 100000 in
theorem laws_markIntS.calls (k : Nat) (P0_ : Nat → Prop) (u9000_ : Value) (l0 : List Int) (a1 : Int) (r1 : Int) (r2 : List Int) (w0 w : World) (hB : Below w0.heap.size w0 w) (ho0 : Kd.R (Kd.int .i64) 3 w w0.heap.size P0_ u9000_ l0) (h : laws_markIntS.f k l0 a1 = some (r1, r2)) :
  Calls Try.prog 21 #[u9000_, .int .i64 a1] w fun e w' => e = .returned (.int .i64 r1) ∧ Kd.R (Kd.int .i64) 3 w' w0.heap.size (fun k_ => (P0_ k_ ∨ w.heap.size ≤ k_)) u9000_ r2 ∧ Below w0.heap.size w0 w' ∧ Kept w w' (fun k_ => P0_ k_) := by
 have HO0 := aM (show Kd.R (Kd.int .i64) 3 w w0.heap.size (fun k_ => (P0_ k_ ∨ w.heap.size ≤ k_)) u9000_ l0 from Kd.R_mono ho0 (fun k_ hk => (.inl hk)))
 have HK := aM (Kept.refl w (fun k_ => P0_ k_))
 have HW0 := aM hB.size
 have HB := aM hB
 clear hB
 have H : (laws_markIntS.l0 k l0 a1 0) = some (r1, r2) := h
 clear h
 have H' := aM H
 clear H
 go_enter Try.func21, Try.ntmps21
 go_wp2
 go_loopg [1, 5] k (fun kq v1 v5 w' => ∃ (x0_1 : List Int) (x1_1 : Int) (x5_1 : Int), v1 = .int .i64 x1_1 ∧ v5 = .int .i64 x5_1 ∧ Aside0 (laws_markIntS.l0 kq x0_1 x1_1 x5_1 = some (r1, r2)) ∧ Aside0 (kq ≤ k) ∧ Aside0 (Kd.R (Kd.int .i64) 3 w' w0.heap.size (fun k_ => (P0_ k_ ∨ w.heap.size ≤ k_)) u9000_ x0_1) ∧ Aside0 (Kept w w' (fun k_ => P0_ k_)) ∧ Aside0 (Below w0.heap.size w0 w'))
 case atStart => exact ⟨(l0), (a1), (0), qz4, qz4, H', ⟨Nat.le_refl _⟩, ⟨rr_ HO0.out⟩, ⟨qz3⟩, ⟨qz1⟩⟩
 case round =>
 clear H'
 obtain ⟨x0_1, x1_1, x5_1, rfl, rfl, HA, HK1, HO_0, HK, HB⟩ := hrel
 cases gk with
 | zero => exact absurd HA.out (by simp [laws_markIntS.l0])
 | succ k1 =>
 have H := HA.out
 clear HA
 simp only [laws_markIntS.l0] at H
 replace H := iE_ H
 rcases H with ⟨c3b0, H⟩ | ⟨c3b0, H⟩
 {
 replace H := iD_ H
 obtain ⟨c4b0, H⟩ := H
 obtain ⟨y148, hy148⟩ : ∃ y_ : List Int, y_ = (x0_1.set (x5_1 : Int).toNat x1_1) := ⟨_, rfl⟩
 replace H : (laws_markIntS.l0 k1 y148 (wrap64 (x1_1 + 1)) (wrap64 (x5_1 + 1))) = some (r1, r2) := by first | (rw [hy148]; exact H) | exact H
 have Ny148 := aM hy148
 clear hy148
 have H' := aM H
 clear H
 obtain ⟨Ao6, co6, eo6⟩ := Kd.R_slice HO_0.out
 subst eo6
 have p5 : 0 ≤ (x5_1 : Int) := dt_
 have q5 : (x5_1 : Int) < ((x0_1.length : Int) : Int) := dt_
 obtain ⟨go5, co5, eo5, gb5, gl5, cl5, HG5⟩ := Kd.R_form HO_0.out (by omega)
 (first | cases eo5 | (injection eo5 with ea_ en_ ec_; (first | subst ea_ | (injection ea_ with ea_; subst ea_)); subst ec_; clear en_))
 have GB5 := aM gb5
 have GG5 := aM HG5
 clear gb5 gl5 HG5
 have HMgo5 := aM (show (P0_ go5 ∨ w.heap.size ≤ go5) from (HO_0.out.1 _ rfl))
 obtain ⟨hx5_0, hf5_0⟩ := Kd.R_celln 0 HO_0.out (x5_1 : Int) p5 q5
 replace p5 := eq_true p5
 replace q5 := eq_true q5
 have HP7 := Kd.R_putg HO_0.out (x5_1 : Int) x1_1
 go_wp2_with (first | ((with_reducible refine gate_store (t := 3) (p := 15) rfl ?_); refine store_event (t := 3) (p := 15) (v := ?vo_w8) (w1 := (wr.setCell ⟨go5, (x5_1 : Int).toNat, none⟩ (.int .i64 x1_1))) ?hg ?ho ?hn ?hr ?_; (case ho => rfl); (case hg => rfl); (case hn => rfl); (case hr => exact qz5); intro w8 hw; have hg : wr.grownBy w8 (some go5) := (by rw [hw]; exact HP7.2); have hp_ : Kd.R (Kd.int .i64) 3 w8 w0.heap.size (fun k_ => (P0_ k_ ∨ w.heap.size ≤ k_)) (.slice (some ⟨go5, 0, none⟩) x0_1.length co6) y148 := (by rw [hw, Ny148.out]; exact HP7.1); clear HP7; replace HB := aM ((by rw [hw]; exact below_set (HB.out) GB5.out : Below w0.heap.size w0 w8)); replace HK := aM (Kept.of_grown (S := (fun k_ => P0_ k_)) hg qz3 (fun k_ e_ => (HO_0.out.1 k_ e_))); replace HO_0 := aM (hp_); clear hg hw hp_))
 go_roundg k1
 case measure => have := HK1.out; omega
 case rel => exact ⟨(y148), (wrap64 (x1_1 + 1)), (wrap64 (x5_1 + 1)), qz4, qz4, H', ⟨by have := HK1.out; omega⟩, ⟨rm_ HO_0.out⟩, ⟨qz3⟩, ⟨qz1⟩⟩
 }
 {
 simp only [Option.some.injEq, Prod.mk.injEq] at H
 obtain ⟨rfl, rfl⟩ := H
 obtain ⟨Ao9, co9, eo9⟩ := Kd.R_slice HO_0.out
 subst eo9
 go_wp2
 go_ret
 exact ⟨qzw, by (with_reducible repeat (first | apply Kd.R_alloc | apply Kd.R_drewN | apply Kd.R_drew)); exact HO_0.out, qz1, qz3⟩
 }
/-! ### laws_heldIntS: function 22 -/
def laws_heldIntS.l0 : Nat → List Int → Int → Int → Option (Int)
 | 0, _, _, _ => none
 | k + 1, x0, x1, x5 => if x5 < (x0.length : Int) then (if 0 ≤ x5 then (if (rd x0 x5) = x1 then (laws_heldIntS.l0 k x0 (wrap64 (x1 + 1)) (wrap64 (x5 + 1))) else (some (-1))) else (none)) else (some x1)
def laws_heldIntS.f (k : Nat) (l0 : List Int) (a1 : Int) : Option (Int) := laws_heldIntS.l0 k l0 a1 0
theorem laws_heldIntS.mono_l : ∀ k, (∀ y0 y1 y2, LeO (laws_heldIntS.l0 k y0 y1 y2) (laws_heldIntS.l0 (k + 1) y0 y1 y2))
 | 0 => fun _ _ _ r h => by simp [laws_heldIntS.l0] at h
 | k + 1 => by
  have ih0 := laws_heldIntS.mono_l k
  {
  intro y0 y1 y2
  unfold laws_heldIntS.l0
  exact qL
  }
theorem laws_heldIntS.mono : ∀ a0 a1 k, LeO (laws_heldIntS.f k a0 a1) (laws_heldIntS.f (k + 1) a0 a1) := by
 intro a0 a1 k
 have ih0 := laws_heldIntS.mono_l k
 unfold laws_heldIntS.f
 exact qL
set_option maxHeartbeats 8000000 in
set_option maxRecDepth 100000 in
theorem laws_heldIntS.calls (k : Nat) (A0 : Option Addr) (c0 : Nat) (l0 : List Int) (a1 : Int) (r : Int) (w : World) (hr0 : Kd.C (Kd.int .i64) w A0 l0.length l0) (hc0 : l0.length ≤ c0) (h : laws_heldIntS.f k l0 a1 = some r) :
  Calls Try.prog 22 #[.slice A0 l0.length c0, .int .i64 a1] w fun e w' => e = .returned (.int .i64 r) ∧ Drawn0 w w' := by
 have HR0 := aM hr0
 have HC0 := aM hc0
 clear hr0 hc0
 have H : (laws_heldIntS.l0 k l0 a1 0) = some r := h
 clear h
 have H' := aM H
 clear H
 go_enter Try.func22, Try.ntmps22
 go_wp2
 go_loopg [1, 5] k (fun kq v1 v5 w' => ∃ (x1_1 : Int) (x5_1 : Int), v1 = .int .i64 x1_1 ∧ v5 = .int .i64 x5_1 ∧ Aside0 (laws_heldIntS.l0 kq l0 x1_1 x5_1 = some r) ∧ Aside0 (kq ≤ k) ∧ Drawn0 w w')
 case atStart => exact ⟨(a1), (0), qz4, qz4, H', ⟨Nat.le_refl _⟩, by repeat (first | exact Drawn0.refl _ | apply Drawn0.step)⟩
 case round =>
 clear H'
 obtain ⟨x1_1, x5_1, rfl, rfl, HA, HK1, ⟨m1, rfl⟩⟩ := hrel
 cases gk with
 | zero => exact absurd HA.out (by simp [laws_heldIntS.l0])
 | succ k1 =>
 have H := HA.out
 clear HA
 simp only [laws_heldIntS.l0] at H
 replace H := iE_ H
 rcases H with ⟨c3b0, H⟩ | ⟨c3b0, H⟩
 {
 replace H := iD_ H
 obtain ⟨c4b0, H⟩ := H
 replace H := iQ_ H
 rcases H with ⟨c5b0, c5b1, H⟩ | ⟨c5, c5b0, c5b1, H⟩
 {
 have H' := aM H
 clear H
 have p149 : (0 ≤ (x5_1 : Int)) = True := et_
 have q149 : (x5_1 < (l0.length : Int)) = True := et_
 obtain ⟨ad149, e149, hx149_0⟩ := Kd.at_int HR0.out x5_1 dt_ dt_
 cases e149
 go_wp2
 go_roundg k1
 case measure => have := HK1.out; omega
 case rel => exact ⟨(wrap64 (x1_1 + 1)), (wrap64 (x5_1 + 1)), qz4, qz4, H', ⟨by have := HK1.out; omega⟩, by repeat (first | exact Drawn0.refl _ | apply Drawn0.step)⟩
 }
 {
 obtain rfl := Option.some.inj H
 have p149 : (0 ≤ (x5_1 : Int)) = True := et_
 have q149 : (x5_1 < (l0.length : Int)) = True := et_
 obtain ⟨ad149, e149, hx149_0⟩ := Kd.at_int HR0.out x5_1 dt_ dt_
 cases e149
 go_wp2
 go_ret
 exact ⟨by first | rfl | (simp; done) | (simp [*]; done), by repeat (first | exact Drawn0.refl _ | apply Drawn0.step)⟩
 }
 }
 {
 obtain rfl := Option.some.inj H
 go_wp2
 go_ret
 exact ⟨by first | rfl | (simp; done) | (simp [*]; done), by repeat (first | exact Drawn0.refl _ | apply Drawn0.step)⟩
 }
end Go.Proofs.Ytankmdbbgepmbaa.PFnExactTurns
