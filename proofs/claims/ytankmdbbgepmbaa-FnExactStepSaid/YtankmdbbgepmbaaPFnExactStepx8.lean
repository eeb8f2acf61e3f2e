-- Made by a program of this session out of the translation. Lean checks it.
import Derived.Test.YtankmdbbgepmbaaPFnExactStepx0
namespace Go.Proofs.Ytankmdbbgepmbaa.PFnExactStep
open Go.RowKit Go.Proofs.YtankmdbbgepmbaaW.PrintWords Go.Proofs.YtankmdbbgepmbaaW.PrintLast Go.Proofs.YtankmdbbgepmbaaW.PrintMore
attribute [local go_sem] max2_int min2_int max_two min_two max_three min_three max_four min_four   -- for this text's walks alone
set_option linter.unusedVariables false
set_option linter.unusedSimpArgs false

/-! ### spec_l7Rank: function 124 -/
def spec_l7Rank.f (a0_0 : Int) (a0_1 : Int) (a0_2 : Int) (a0_3 : Bool) (a0_4 : Int) (l1 : List Int) (a2 : Int) : Option (Int) := if a0_2 < 0 then (if a2 = a0_1 then (some 0) else (some 1)) else (if 0 ≤ a2 then (if a2 < (l1.length : Int) then (if (rd l1 a2) < 0 then (some 1000) else (some (rd l1 a2))) else (none)) else (none))
set_option maxHeartbeats 8000000 in
set_option maxRecDepth 100000 in
theorem spec_l7Rank.calls (a0_0 : Int) (a0_1 : Int) (a0_2 : Int) (a0_3 : Bool) (a0_4 : Int) (A1 : Option Addr) (c1 : Nat) (l1 : List Int) (a2 : Int) (r : Int) (w : World) (hr1 : Kd.C (Kd.int .i64) w A1 l1.length l1) (hc1 : l1.length ≤ c1) (h : spec_l7Rank.f a0_0 a0_1 a0_2 a0_3 a0_4 l1 a2 = some r) :
  Calls Try.prog 124 #[.agg #[.int .i64 a0_0, .int .i64 a0_1, .int .i64 a0_2, .bool a0_3, .int .i64 a0_4], .slice A1 l1.length c1, .int .i64 a2] w fun e w' => e = .returned (.int .i64 r) ∧ Below w.heap.size w w' := by
 have hu37 := Try.underlying37
 have HR1 := aM hr1
 have HC1 := aM hc1
 clear hr1 hc1
 have HB := aM (Below.refl w.heap.size w)
 have H : (if a0_2 < 0 then (if a2 = a0_1 then (some 0) else (some 1)) else (if 0 ≤ a2 then (if a2 < (l1.length : Int) then (if (rd l1 a2) < 0 then (some 1000) else (some (rd l1 a2))) else (none)) else (none))) = some r := h
 clear h
 by_cases c4 : a0_2 < 0
 {
 rw [if_pos c4] at H
 have c4b0 := decide_eq_true c4
 clear c4
 by_cases c5 : a2 = a0_1
 {
 rw [if_pos c5] at H
 have c5b0 := beq_iff_eq.mpr c5
 have c5b1 := bne_eq_false_iff_eq.mpr c5
 clear c5
 obtain rfl := Option.some.inj H
 simp only [Option.some.injEq, Prod.mk.injEq] at H
 obtain ⟨rfl⟩ := H
 go_enter Try.func124, Try.ntmps124
 go_wp2_with (first | ((with_reducible refine gate_dst (N := 3) rfl ?_); refine bx_ 3 #[.int .i64 a0_0, .int .i64 a0_1, .int .i64 a0_2, .bool a0_3, .int .i64 a0_4] 37 ?_; intro gb258 hg w6 hbox hb; have BK258 := aM (hbox); have GW258 := aM (bz_ w hg qz1); have GE258 := GW258; replace HB := bS_ hb; clear hb hbox hg; have hcz7_0 := bc0_ BK258.out; have hcz7_1 := bc1_ BK258.out; have hcz7_2 := bc2_ BK258.out; have hcz7_3 := bc3_ BK258.out; have hcz7_4 := bc4_ BK258.out; have hfz7_0 := blk_frozen BK258.out 0; have hfz7_1 := blk_frozen BK258.out 1; have hfz7_2 := blk_frozen BK258.out 2; have hfz7_3 := blk_frozen BK258.out 3; have hfz7_4 := blk_frozen BK258.out 4))
 go_ret
 exact ⟨qzw, qz1⟩
 }
 {
 rw [if_neg c5] at H
 have c5b0 := beq_eq_false_iff_ne.mpr c5
 have c5b1 := bne_iff_ne.mpr c5
 obtain rfl := Option.some.inj H
 simp only [Option.some.injEq, Prod.mk.injEq] at H
 obtain ⟨rfl⟩ := H
 go_enter Try.func124, Try.ntmps124
 go_wp2_with (first | ((with_reducible refine gate_dst (N := 3) rfl ?_); refine bx_ 3 #[.int .i64 a0_0, .int .i64 a0_1, .int .i64 a0_2, .bool a0_3, .int .i64 a0_4] 37 ?_; intro gb258 hg w8 hbox hb; have BK258 := aM (hbox); have GW258 := aM (bz_ w hg qz1); have GE258 := GW258; replace HB := bS_ hb; clear hb hbox hg; have hcz9_0 := bc0_ BK258.out; have hcz9_1 := bc1_ BK258.out; have hcz9_2 := bc2_ BK258.out; have hcz9_3 := bc3_ BK258.out; have hcz9_4 := bc4_ BK258.out; have hfz9_0 := blk_frozen BK258.out 0; have hfz9_1 := blk_frozen BK258.out 1; have hfz9_2 := blk_frozen BK258.out 2; have hfz9_3 := blk_frozen BK258.out 3; have hfz9_4 := blk_frozen BK258.out 4))
 go_ret
 exact ⟨qzw, qz1⟩
 }
 }
 {
 rw [if_neg c4] at H
 have c4b0 := decide_eq_false c4
 clear c4
 by_cases c10 : 0 ≤ a2
 {
 rw [if_pos c10] at H
 have c10b0 := decide_eq_true c10
 clear c10
 by_cases c11 : a2 < (l1.length : Int)
 {
 rw [if_pos c11] at H
 have c11b0 := decide_eq_true c11
 clear c11
 by_cases c12 : (rd l1 a2) < 0
 {
 rw [if_pos c12] at H
 have c12b0 := decide_eq_true c12
 clear c12
 obtain rfl := Option.some.inj H
 simp only [Option.some.injEq, Prod.mk.injEq] at H
 obtain ⟨rfl⟩ := H
 go_enter Try.func124, Try.ntmps124
 go_wp2_with (first | ((with_reducible refine gate_dst (N := 3) rfl ?_); refine bx_ 3 #[.int .i64 a0_0, .int .i64 a0_1, .int .i64 a0_2, .bool a0_3, .int .i64 a0_4] 37 ?_; intro gb258 hg w13 hbox hb; have BK258 := aM (hbox); have GW258 := aM (bz_ w hg qz1); have GE258 := GW258; replace HB := bS_ hb; clear hb hbox hg; have hcz14_0 := bc0_ BK258.out; have hcz14_1 := bc1_ BK258.out; have hcz14_2 := bc2_ BK258.out; have hcz14_3 := bc3_ BK258.out; have hcz14_4 := bc4_ BK258.out; have hfz14_0 := blk_frozen BK258.out 0; have hfz14_1 := blk_frozen BK258.out 1; have hfz14_2 := blk_frozen BK258.out 2; have hfz14_3 := blk_frozen BK258.out 3; have hfz14_4 := blk_frozen BK258.out 4; have p259 : 0 ≤ (a2 : Int) := dt_; have q259 : a2 < (l1.length : Int) := dt_; obtain ⟨ad259, e259, hx259_0⟩ := Kd.at_int HR1.out a2 p259 q259; cases e259; replace hx259_0 := cB_ hx259_0; replace p259 := eq_true p259; replace q259 := eq_true q259))
 go_ret
 exact ⟨qzw, qz1⟩
 }
 {
 rw [if_neg c12] at H
 have c12b0 := decide_eq_false c12
 clear c12
 obtain rfl := Option.some.inj H
 simp only [Option.some.injEq, Prod.mk.injEq] at H
 obtain ⟨rfl⟩ := H
 go_enter Try.func124, Try.ntmps124
 go_wp2_with (first | ((with_reducible refine gate_dst (N := 3) rfl ?_); refine bx_ 3 #[.int .i64 a0_0, .int .i64 a0_1, .int .i64 a0_2, .bool a0_3, .int .i64 a0_4] 37 ?_; intro gb258 hg w15 hbox hb; have BK258 := aM (hbox); have GW258 := aM (bz_ w hg qz1); have GE258 := GW258; replace HB := bS_ hb; clear hb hbox hg; have hcz16_0 := bc0_ BK258.out; have hcz16_1 := bc1_ BK258.out; have hcz16_2 := bc2_ BK258.out; have hcz16_3 := bc3_ BK258.out; have hcz16_4 := bc4_ BK258.out; have hfz16_0 := blk_frozen BK258.out 0; have hfz16_1 := blk_frozen BK258.out 1; have hfz16_2 := blk_frozen BK258.out 2; have hfz16_3 := blk_frozen BK258.out 3; have hfz16_4 := blk_frozen BK258.out 4; have p259 : 0 ≤ (a2 : Int) := dt_; have q259 : a2 < (l1.length : Int) := dt_; obtain ⟨ad259, e259, hx259_0⟩ := Kd.at_int HR1.out a2 p259 q259; cases e259; replace hx259_0 := cB_ hx259_0; replace p259 := eq_true p259; replace q259 := eq_true q259; have p260 : 0 ≤ (a2 : Int) := dt_; have q260 : a2 < (l1.length : Int) := dt_; obtain ⟨ad260, e260, hx260_0⟩ := Kd.at_int HR1.out a2 p260 q260; obtain rfl : ad259 = ad260 := (by injection e260); replace hx260_0 := cB_ hx260_0; replace p260 := eq_true p260; replace q260 := eq_true q260))
 go_ret
 exact ⟨qzw, qz1⟩
 }
 }
 {
 exact an_ c11 H
 }
 }
 {
 exact an_ c10 H

 }
 }
/-! ### spec_l7Before: function 100 -/
def spec_l7Before.f (a0_0 : Int) (a0_1 : Int) (a0_2 : Int) (a0_3 : Bool) (a0_4 : Int) (l1 : List Int) (a2 : Int) (a3 : Int) : Option (Bool) := (spec_l7Rank.f a0_0 a0_1 a0_2 a0_3 a0_4 l1 a2).bind fun t262 => ((spec_l7Rank.f a0_0 a0_1 a0_2 a0_3 a0_4 l1 a3).bind fun t263 => (if t262 = t263 then (if ((a2 == a0_1) != (a3 == a0_1)) = true then (some (a3 == a0_1)) else (some (decide (a2 < a3)))) else (some (decide (t262 < t263)))))
set_option maxHeartbeats 8000000 in
set_option maxRecDepth 100000 in
theorem spec_l7Before.calls (a0_0 : Int) (a0_1 : Int) (a0_2 : Int) (a0_3 : Bool) (a0_4 : Int) (A1 : Option Addr) (c1 : Nat) (l1 : List Int) (a2 : Int) (a3 : Int) (r : Bool) (w : World) (hr1 : Kd.C (Kd.int .i64) w A1 l1.length l1) (hc1 : l1.length ≤ c1) (h : spec_l7Before.f a0_0 a0_1 a0_2 a0_3 a0_4 l1 a2 a3 = some r) :
  Calls Try.prog 100 #[.agg #[.int .i64 a0_0, .int .i64 a0_1, .int .i64 a0_2, .bool a0_3, .int .i64 a0_4], .slice A1 l1.length c1, .int .i64 a2, .int .i64 a3] w fun e w' => e = .returned (.bool r) ∧ Below w.heap.size w w' := by
 have hu37 := Try.underlying37
 have HR1 := aM hr1
 have HC1 := aM hc1
 clear hr1 hc1
 have HB := aM (Below.refl w.heap.size w)
 have H : ((spec_l7Rank.f a0_0 a0_1 a0_2 a0_3 a0_4 l1 a2).bind fun t262 => ((spec_l7Rank.f a0_0 a0_1 a0_2 a0_3 a0_4 l1 a3).bind fun t263 => (if t262 = t263 then (if ((a2 == a0_1) != (a3 == a0_1)) = true then (some (a3 == a0_1)) else (some (decide (a2 < a3)))) else (some (decide (t262 < t263)))))) = some r := h
 clear h
 replace H := Option.bind_eq_some_iff.mp H
 obtain ⟨t262, A50, H⟩ := H
 replace H : ((spec_l7Rank.f a0_0 a0_1 a0_2 a0_3 a0_4 l1 a3).bind fun t263 => (if t262 = t263 then (if ((a2 == a0_1) != (a3 == a0_1)) = true then (some (a3 == a0_1)) else (some (decide (a2 < a3)))) else (some (decide (t262 < t263))))) = some r := H
 have A5 := aM A50
 clear A50
 replace H := Option.bind_eq_some_iff.mp H
 obtain ⟨t263, A60, H⟩ := H
 replace H : (if t262 = t263 then (if ((a2 == a0_1) != (a3 == a0_1)) = true then (some (a3 == a0_1)) else (some (decide (a2 < a3)))) else (some (decide (t262 < t263)))) = some r := H
 have A6 := aM A60
 clear A60
 by_cases c7 : t262 = t263
 {
 rw [if_pos c7] at H
 have c7b0 := beq_iff_eq.mpr c7
 have c7b1 := bne_eq_false_iff_eq.mpr c7
 clear c7
 by_cases c8 : ((a2 == a0_1) != (a3 == a0_1)) = true
 {
 rw [if_pos c8] at H
 have c8b0 : ((a2 == a0_1) != (a3 == a0_1)) = true := c8
 (try (have c8b1 : decide ((a2 == a0_1) = (a3 == a0_1)) = false := by simpa using c8))
 (try (have c8b2 : ((a2 == a0_1) == (a3 == a0_1)) = false := by simpa using c8))
 (try (have c8b3 : ¬ ((a2 == a0_1) = (a3 == a0_1)) := by simpa using c8))
 clear c8
 obtain rfl := Option.some.inj H
 simp only [Option.some.injEq, Prod.mk.injEq] at H
 obtain ⟨rfl⟩ := H
 go_enter Try.func100, Try.ntmps100
 go_wp2_with (first | ((with_reducible refine gate_dst (N := 4) rfl ?_); refine bx_ 4 #[.int .i64 a0_0, .int .i64 a0_1, .int .i64 a0_2, .bool a0_3, .int .i64 a0_4] 37 ?_; intro gb261 hg w9 hbox hb; have BK261 := aM (hbox); have GW261 := aM (bz_ w hg qz1); have GE261 := GW261; replace HB := bS_ hb; clear hb hbox hg; have hcz10_0 := bc0_ BK261.out; have hcz10_1 := bc1_ BK261.out; have hcz10_2 := bc2_ BK261.out; have hcz10_3 := bc3_ BK261.out; have hcz10_4 := bc4_ BK261.out; have hfz10_0 := blk_frozen BK261.out 0; have hfz10_1 := blk_frozen BK261.out 1; have hfz10_2 := blk_frozen BK261.out 2; have hfz10_3 := blk_frozen BK261.out 3; have hfz10_4 := blk_frozen BK261.out 4) | ((with_reducible refine gate_callee (f := 124) rfl ?_); refine goesL_ (some 14) rfl rfl Try.func124 (by kernel_rfl) rfl #[.agg #[.int .i64 a0_0, .int .i64 a0_1, .int .i64 a0_2, .bool a0_3, .int .i64 a0_4], .slice A1 l1.length c1, .int .i64 a2] rfl qz2 ?_; (with_reducible refine (spec_l7Rank.calls a0_0 a0_1 a0_2 a0_3 a0_4 _ _ l1 a2 t262 _ ?side1 ?side2 A5.out).mono ?_); (case side1 => exact qz7); (case side2 => exact HC1.out); rintro e w11 ⟨rfl, hb⟩; refine ⟨_, rfl, ?_⟩; replace BK261 := bB_ BK261 hb; replace HB := bS_ hb; (try clear hb); have hcz12_0 := bc0_ BK261.out; have hcz12_1 := bc1_ BK261.out; have hcz12_2 := bc2_ BK261.out; have hcz12_3 := bc3_ BK261.out; have hcz12_4 := bc4_ BK261.out; have hfz12_0 := blk_frozen BK261.out 0; have hfz12_1 := blk_frozen BK261.out 1; have hfz12_2 := blk_frozen BK261.out 2; have hfz12_3 := blk_frozen BK261.out 3; have hfz12_4 := blk_frozen BK261.out 4) | ((with_reducible refine gate_callee (f := 124) rfl ?_); refine goesL_ (some 18) rfl rfl Try.func124 (by kernel_rfl) rfl #[.agg #[.int .i64 a0_0, .int .i64 a0_1, .int .i64 a0_2, .bool a0_3, .int .i64 a0_4], .slice A1 l1.length c1, .int .i64 a3] rfl qz2 ?_; (with_reducible refine (spec_l7Rank.calls a0_0 a0_1 a0_2 a0_3 a0_4 _ _ l1 a3 t263 _ ?side1 ?side2 A6.out).mono ?_); (case side1 => exact qz7); (case side2 => exact HC1.out); rintro e w13 ⟨rfl, hb⟩; refine ⟨_, rfl, ?_⟩; replace BK261 := bB_ BK261 hb; replace HB := bS_ hb; (try clear hb); have hcz14_0 := bc0_ BK261.out; have hcz14_1 := bc1_ BK261.out; have hcz14_2 := bc2_ BK261.out; have hcz14_3 := bc3_ BK261.out; have hcz14_4 := bc4_ BK261.out; have hfz14_0 := blk_frozen BK261.out 0; have hfz14_1 := blk_frozen BK261.out 1; have hfz14_2 := blk_frozen BK261.out 2; have hfz14_3 := blk_frozen BK261.out 3; have hfz14_4 := blk_frozen BK261.out 4))
 go_ret
 exact ⟨qzw, qz1⟩
 }
 {
 rw [if_neg c8] at H
 have c8b0 : ((a2 == a0_1) != (a3 == a0_1)) = false := by simpa using c8
 (try (have c8b1 : decide ((a2 == a0_1) = (a3 == a0_1)) = true := by simpa using c8))
 (try (have c8b2 : ((a2 == a0_1) == (a3 == a0_1)) = true := by simpa using c8))
 clear c8
 obtain rfl := Option.some.inj H
 simp only [Option.some.injEq, Prod.mk.injEq] at H
 obtain ⟨rfl⟩ := H
 go_enter Try.func100, Try.ntmps100
 go_wp2_with (first | ((with_reducible refine gate_dst (N := 4) rfl ?_); refine bx_ 4 #[.int .i64 a0_0, .int .i64 a0_1, .int .i64 a0_2, .bool a0_3, .int .i64 a0_4] 37 ?_; intro gb261 hg w15 hbox hb; have BK261 := aM (hbox); have GW261 := aM (bz_ w hg qz1); have GE261 := GW261; replace HB := bS_ hb; clear hb hbox hg; have hcz16_0 := bc0_ BK261.out; have hcz16_1 := bc1_ BK261.out; have hcz16_2 := bc2_ BK261.out; have hcz16_3 := bc3_ BK261.out; have hcz16_4 := bc4_ BK261.out; have hfz16_0 := blk_frozen BK261.out 0; have hfz16_1 := blk_frozen BK261.out 1; have hfz16_2 := blk_frozen BK261.out 2; have hfz16_3 := blk_frozen BK261.out 3; have hfz16_4 := blk_frozen BK261.out 4) | ((with_reducible refine gate_callee (f := 124) rfl ?_); refine goesL_ (some 14) rfl rfl Try.func124 (by kernel_rfl) rfl #[.agg #[.int .i64 a0_0, .int .i64 a0_1, .int .i64 a0_2, .bool a0_3, .int .i64 a0_4], .slice A1 l1.length c1, .int .i64 a2] rfl qz2 ?_; (with_reducible refine (spec_l7Rank.calls a0_0 a0_1 a0_2 a0_3 a0_4 _ _ l1 a2 t262 _ ?side1 ?side2 A5.out).mono ?_); (case side1 => exact qz7); (case side2 => exact HC1.out); rintro e w17 ⟨rfl, hb⟩; refine ⟨_, rfl, ?_⟩; replace BK261 := bB_ BK261 hb; replace HB := bS_ hb; (try clear hb); have hcz18_0 := bc0_ BK261.out; have hcz18_1 := bc1_ BK261.out; have hcz18_2 := bc2_ BK261.out; have hcz18_3 := bc3_ BK261.out; have hcz18_4 := bc4_ BK261.out; have hfz18_0 := blk_frozen BK261.out 0; have hfz18_1 := blk_frozen BK261.out 1; have hfz18_2 := blk_frozen BK261.out 2; have hfz18_3 := blk_frozen BK261.out 3; have hfz18_4 := blk_frozen BK261.out 4) | ((with_reducible refine gate_callee (f := 124) rfl ?_); refine goesL_ (some 18) rfl rfl Try.func124 (by kernel_rfl) rfl #[.agg #[.int .i64 a0_0, .int .i64 a0_1, .int .i64 a0_2, .bool a0_3, .int .i64 a0_4], .slice A1 l1.length c1, .int .i64 a3] rfl qz2 ?_; (with_reducible refine (spec_l7Rank.calls a0_0 a0_1 a0_2 a0_3 a0_4 _ _ l1 a3 t263 _ ?side1 ?side2 A6.out).mono ?_); (case side1 => exact qz7); (case side2 => exact HC1.out); rintro e w19 ⟨rfl, hb⟩; refine ⟨_, rfl, ?_⟩; replace BK261 := bB_ BK261 hb; replace HB := bS_ hb; (try clear hb); have hcz20_0 := bc0_ BK261.out; have hcz20_1 := bc1_ BK261.out; have hcz20_2 := bc2_ BK261.out; have hcz20_3 := bc3_ BK261.out; have hcz20_4 := bc4_ BK261.out; have hfz20_0 := blk_frozen BK261.out 0; have hfz20_1 := blk_frozen BK261.out 1; have hfz20_2 := blk_frozen BK261.out 2; have hfz20_3 := blk_frozen BK261.out 3; have hfz20_4 := blk_frozen BK261.out 4))
 go_ret
 exact ⟨qzw, qz1⟩
 }
 }
 {
 rw [if_neg c7] at H
 have c7b0 := beq_eq_false_iff_ne.mpr c7
 have c7b1 := bne_iff_ne.mpr c7
 obtain rfl := Option.some.inj H
 simp only [Option.some.injEq, Prod.mk.injEq] at H
 obtain ⟨rfl⟩ := H
 go_enter Try.func100, Try.ntmps100
 go_wp2_with (first | ((with_reducible refine gate_dst (N := 4) rfl ?_); refine bx_ 4 #[.int .i64 a0_0, .int .i64 a0_1, .int .i64 a0_2, .bool a0_3, .int .i64 a0_4] 37 ?_; intro gb261 hg w21 hbox hb; have BK261 := aM (hbox); have GW261 := aM (bz_ w hg qz1); have GE261 := GW261; replace HB := bS_ hb; clear hb hbox hg; have hcz22_0 := bc0_ BK261.out; have hcz22_1 := bc1_ BK261.out; have hcz22_2 := bc2_ BK261.out; have hcz22_3 := bc3_ BK261.out; have hcz22_4 := bc4_ BK261.out; have hfz22_0 := blk_frozen BK261.out 0; have hfz22_1 := blk_frozen BK261.out 1; have hfz22_2 := blk_frozen BK261.out 2; have hfz22_3 := blk_frozen BK261.out 3; have hfz22_4 := blk_frozen BK261.out 4) | ((with_reducible refine gate_callee (f := 124) rfl ?_); refine goesL_ (some 14) rfl rfl Try.func124 (by kernel_rfl) rfl #[.agg #[.int .i64 a0_0, .int .i64 a0_1, .int .i64 a0_2, .bool a0_3, .int .i64 a0_4], .slice A1 l1.length c1, .int .i64 a2] rfl qz2 ?_; (with_reducible refine (spec_l7Rank.calls a0_0 a0_1 a0_2 a0_3 a0_4 _ _ l1 a2 t262 _ ?side1 ?side2 A5.out).mono ?_); (case side1 => exact qz7); (case side2 => exact HC1.out); rintro e w23 ⟨rfl, hb⟩; refine ⟨_, rfl, ?_⟩; replace BK261 := bB_ BK261 hb; replace HB := bS_ hb; (try clear hb); have hcz24_0 := bc0_ BK261.out; have hcz24_1 := bc1_ BK261.out; have hcz24_2 := bc2_ BK261.out; have hcz24_3 := bc3_ BK261.out; have hcz24_4 := bc4_ BK261.out; have hfz24_0 := blk_frozen BK261.out 0; have hfz24_1 := blk_frozen BK261.out 1; have hfz24_2 := blk_frozen BK261.out 2; have hfz24_3 := blk_frozen BK261.out 3; have hfz24_4 := blk_frozen BK261.out 4) | ((with_reducible refine gate_callee (f := 124) rfl ?_); refine goesL_ (some 18) rfl rfl Try.func124 (by kernel_rfl) rfl #[.agg #[.int .i64 a0_0, .int .i64 a0_1, .int .i64 a0_2, .bool a0_3, .int .i64 a0_4], .slice A1 l1.length c1, .int .i64 a3] rfl qz2 ?_; (with_reducible refine (spec_l7Rank.calls a0_0 a0_1 a0_2 a0_3 a0_4 _ _ l1 a3 t263 _ ?side1 ?side2 A6.out).mono ?_); (case side1 => exact qz7); (case side2 => exact HC1.out); rintro e w25 ⟨rfl, hb⟩; refine ⟨_, rfl, ?_⟩; replace BK261 := bB_ BK261 hb; replace HB := bS_ hb; (try clear hb)))
 go_ret
 exact ⟨qzw, qz1⟩

 }
end Go.Proofs.Ytankmdbbgepmbaa.PFnExactStep
