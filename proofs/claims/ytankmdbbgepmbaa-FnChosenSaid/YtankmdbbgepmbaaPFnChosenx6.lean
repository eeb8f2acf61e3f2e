-- Made by a program of this session out of the translation. Lean checks it.
import Derived.Test.YtankmdbbgepmbaaPFnChosenx5
namespace Go.Proofs.Ytankmdbbgepmbaa.PFnChosen
open Go.RowKit Go.Proofs.YtankmdbbgepmbaaW.PrintWords Go.Proofs.YtankmdbbgepmbaaW.PrintLast Go.Proofs.YtankmdbbgepmbaaW.PrintMore
attribute [local go_sem] max2_int min2_int max_two min_two max_three min_three max_four min_four   -- for this text's walks alone
set_option linter.unusedVariables false
set_option linter.unusedSimpArgs false

/-! ### impl_KindAt: function 75 -/
def impl_KindAt.f (k : Nat) (a0_0 : Int) (a0_1 : Int) (l0_2 : List Int) (a1 : Int) : Option (Int) := (impl_FloorOk.f k a0_0 a0_1 l0_2).bind fun t248 => (if t248 = true then ((impl_isCell.f a0_0 a0_1 l0_2 a1).bind fun t249 => (if t249 = true then (if 0 ≤ a1 then (if a1 < (l0_2.length : Int) then (some (rd l0_2 a1)) else (none)) else (none)) else (some 0))) else (some 0))
theorem impl_KindAt.mono : ∀ a0 a1 a2 a3 k, LeO (impl_KindAt.f k a0 a1 a2 a3) (impl_KindAt.f (k + 1) a0 a1 a2 a3) := by
 intro a0 a1 a2 a3 k
 unfold impl_KindAt.f
 have j0 := @impl_FloorOk.mono
 exact qL
set_option maxHeartbeats 8000000 in
set_option maxRecDepth 100000 in
theorem impl_KindAt.calls (k : Nat) (a0_0 : Int) (a0_1 : Int) (A0_2 : Option Addr) (c0_2 : Nat) (l0_2 : List Int) (a1 : Int) (r : Int) (w : World) (hr0_2 : Kd.C (Kd.int .i64) w A0_2 l0_2.length l0_2) (hc0_2 : l0_2.length ≤ c0_2) (h : impl_KindAt.f k a0_0 a0_1 l0_2 a1 = some r) :
  Calls Try.prog 75 #[.agg #[.int .i64 a0_0, .int .i64 a0_1, .slice A0_2 l0_2.length c0_2], .int .i64 a1] w fun e w' => e = .returned (.int .i64 r) ∧ Below w.heap.size w w' := by
 have hu43 := Try.underlying43
 have HR0_2 := aM hr0_2
 have HC0_2 := aM hc0_2
 clear hr0_2 hc0_2
 have HB := aM (Below.refl w.heap.size w)
 have H : ((impl_FloorOk.f k a0_0 a0_1 l0_2).bind fun t248 => (if t248 = true then ((impl_isCell.f a0_0 a0_1 l0_2 a1).bind fun t249 => (if t249 = true then (if 0 ≤ a1 then (if a1 < (l0_2.length : Int) then (some (rd l0_2 a1)) else (none)) else (none)) else (some 0))) else (some 0))) = some r := h
 clear h
 replace H := Option.bind_eq_some_iff.mp H
 obtain ⟨t248, A30, H⟩ := H
 replace H : (if t248 = true then ((impl_isCell.f a0_0 a0_1 l0_2 a1).bind fun t249 => (if t249 = true then (if 0 ≤ a1 then (if a1 < (l0_2.length : Int) then (some (rd l0_2 a1)) else (none)) else (none)) else (some 0))) else (some 0)) = some r := H
 have A3 := aM A30
 clear A30
 by_cases c4 : t248 = true
 {
 subst c4
 rw [if_pos rfl] at H
 replace H := Option.bind_eq_some_iff.mp H
 obtain ⟨t249, A50, H⟩ := H
 replace H : (if t249 = true then (if 0 ≤ a1 then (if a1 < (l0_2.length : Int) then (some (rd l0_2 a1)) else (none)) else (none)) else (some 0)) = some r := H
 have A5 := aM A50
 clear A50
 by_cases c6 : t249 = true
 {
 subst c6
 rw [if_pos rfl] at H
 by_cases c7 : 0 ≤ a1
 {
 rw [if_pos c7] at H
 have c7b0 := decide_eq_true c7
 clear c7
 by_cases c8 : a1 < (l0_2.length : Int)
 {
 rw [if_pos c8] at H
 have c8b0 := decide_eq_true c8
 clear c8
 obtain rfl := Option.some.inj H
 simp only [Option.some.injEq, Prod.mk.injEq] at H
 obtain ⟨rfl⟩ := H
 go_enter Try.func75, Try.ntmps75
 go_wp2_with (first | ((with_reducible refine gate_dst (N := 2) rfl ?_); refine bx_ 2 #[.int .i64 a0_0, .int .i64 a0_1, .slice A0_2 l0_2.length c0_2] 43 ?_; intro gb247 hg w9 hbox hb; have BK247 := aM (hbox); have GW247 := aM (bz_ w hg qz1); have GE247 := GW247; replace HB := bS_ hb; clear hb hbox hg; obtain ⟨hcz10_0, hcz10_1, hcz10_2, hfz10_0, hfz10_1, hfz10_2⟩ := b6_ BK247.out) | ((with_reducible refine gate_callee (f := 64) rfl ?_); refine goesL_ (some 6) rfl rfl Try.func64 (by kernel_rfl) rfl #[.agg #[.int .i64 a0_0, .int .i64 a0_1, .slice A0_2 l0_2.length c0_2]] rfl qz4 ?_; (with_reducible refine (impl_FloorOk.calls k a0_0 a0_1 _ _ l0_2 true _ ?side1 ?side2 A3.out).mono ?_); (case side1 => exact qz6); (case side2 => exact HC0_2.out); rintro e w11 ⟨rfl, hb⟩; refine ⟨_, rfl, ?_⟩; replace BK247 := bB_ BK247 hb; replace HB := bS_ hb; (try clear hb); obtain ⟨hcz12_0, hcz12_1, hcz12_2, hfz12_0, hfz12_1, hfz12_2⟩ := b6_ BK247.out) | (go_at_call 74; (with_reducible refine (impl_isCell.calls a0_0 a0_1 _ _ l0_2 a1 true _ ?side1 ?side2 A5.out).mono ?_); (case side1 => exact qz6); (case side2 => exact HC0_2.out); rintro e w13 ⟨rfl, hb⟩; replace BK247 := bB_ BK247 hb; replace HB := bS_ hb; (try clear hb); obtain ⟨hcz14_0, hcz14_1, hcz14_2, hfz14_0, hfz14_1, hfz14_2⟩ := b6_ BK247.out; have p250 : 0 ≤ (a1 : Int) := dt_; have q250 : a1 < (l0_2.length : Int) := dt_; obtain ⟨ad250, e250, hx250_0⟩ := Kd.at_int HR0_2.out a1 p250 q250; cases e250; replace hx250_0 := cB_ hx250_0; replace p250 := eq_true p250; replace q250 := eq_true q250))
 go_ret
 exact ⟨qzw, qz1⟩
 }
 {
 exact an_ c8 H
 }
 }
 {
 exact an_ c7 H
 }
 }
 {
 replace c6 := Bool.eq_false_iff.mpr c6
 subst c6
 rw [if_neg (show ¬ (false = true) by decide)] at H
 obtain rfl := Option.some.inj H
 simp only [Option.some.injEq, Prod.mk.injEq] at H
 obtain ⟨rfl⟩ := H
 go_enter Try.func75, Try.ntmps75
 go_wp2_with (first | ((with_reducible refine gate_dst (N := 2) rfl ?_); refine bx_ 2 #[.int .i64 a0_0, .int .i64 a0_1, .slice A0_2 l0_2.length c0_2] 43 ?_; intro gb247 hg w15 hbox hb; have BK247 := aM (hbox); have GW247 := aM (bz_ w hg qz1); have GE247 := GW247; replace HB := bS_ hb; clear hb hbox hg; obtain ⟨hcz16_0, hcz16_1, hcz16_2, hfz16_0, hfz16_1, hfz16_2⟩ := b6_ BK247.out) | ((with_reducible refine gate_callee (f := 64) rfl ?_); refine goesL_ (some 6) rfl rfl Try.func64 (by kernel_rfl) rfl #[.agg #[.int .i64 a0_0, .int .i64 a0_1, .slice A0_2 l0_2.length c0_2]] rfl qz4 ?_; (with_reducible refine (impl_FloorOk.calls k a0_0 a0_1 _ _ l0_2 true _ ?side1 ?side2 A3.out).mono ?_); (case side1 => exact qz6); (case side2 => exact HC0_2.out); rintro e w17 ⟨rfl, hb⟩; refine ⟨_, rfl, ?_⟩; replace BK247 := bB_ BK247 hb; replace HB := bS_ hb; (try clear hb); obtain ⟨hcz18_0, hcz18_1, hcz18_2, hfz18_0, hfz18_1, hfz18_2⟩ := b6_ BK247.out) | (go_at_call 74; (with_reducible refine (impl_isCell.calls a0_0 a0_1 _ _ l0_2 a1 false _ ?side1 ?side2 A5.out).mono ?_); (case side1 => exact qz6); (case side2 => exact HC0_2.out); rintro e w19 ⟨rfl, hb⟩; replace BK247 := bB_ BK247 hb; replace HB := bS_ hb; (try clear hb)))
 go_ret
 exact ⟨qzw, qz1⟩
 }
 }
 {
 replace c4 := Bool.eq_false_iff.mpr c4
 subst c4
 rw [if_neg (show ¬ (false = true) by decide)] at H
 obtain rfl := Option.some.inj H
 simp only [Option.some.injEq, Prod.mk.injEq] at H
 obtain ⟨rfl⟩ := H
 go_enter Try.func75, Try.ntmps75
 go_wp2_with (first | ((with_reducible refine gate_dst (N := 2) rfl ?_); refine bx_ 2 #[.int .i64 a0_0, .int .i64 a0_1, .slice A0_2 l0_2.length c0_2] 43 ?_; intro gb247 hg w20 hbox hb; have BK247 := aM (hbox); have GW247 := aM (bz_ w hg qz1); have GE247 := GW247; replace HB := bS_ hb; clear hb hbox hg; obtain ⟨hcz21_0, hcz21_1, hcz21_2, hfz21_0, hfz21_1, hfz21_2⟩ := b6_ BK247.out) | ((with_reducible refine gate_callee (f := 64) rfl ?_); refine goesL_ (some 6) rfl rfl Try.func64 (by kernel_rfl) rfl #[.agg #[.int .i64 a0_0, .int .i64 a0_1, .slice A0_2 l0_2.length c0_2]] rfl qz4 ?_; (with_reducible refine (impl_FloorOk.calls k a0_0 a0_1 _ _ l0_2 false _ ?side1 ?side2 A3.out).mono ?_); (case side1 => exact qz6); (case side2 => exact HC0_2.out); rintro e w22 ⟨rfl, hb⟩; refine ⟨_, rfl, ?_⟩; replace BK247 := bB_ BK247 hb; replace HB := bS_ hb; (try clear hb)))
 go_ret
 exact ⟨qzw, qz1⟩

 }
/-! ### impl_standsOk: function 65 -/
def impl_standsOk.f (k : Nat) (a0_0 : Int) (a0_1 : Int) (l0_2 : List Int) (a1_0 : Int) (a1_1 : Int) (a1_2 : Int) (a1_3 : Bool) (a1_4 : Int) : Option (Bool) := (impl_KindAt.f k a0_0 a0_1 l0_2 a1_1).bind fun t253 => (if t253 = 0 then (some false) else (if a1_2 = (-1) then (some true) else ((impl_KindAt.f k a0_0 a0_1 l0_2 a1_2).bind fun t254 => (some (t254 != 0)))))
theorem impl_standsOk.mono : ∀ a0 a1 a2 a3 a4 a5 a6 a7 k, LeO (impl_standsOk.f k a0 a1 a2 a3 a4 a5 a6 a7) (impl_standsOk.f (k + 1) a0 a1 a2 a3 a4 a5 a6 a7) := by
 intro a0 a1 a2 a3 a4 a5 a6 a7 k
 unfold impl_standsOk.f
 have j0 := @impl_KindAt.mono
 exact qL
set_option maxHeartbeats 8000000 in
set_option maxRecDepth 100000 in
theorem impl_standsOk.calls (k : Nat) (a0_0 : Int) (a0_1 : Int) (A0_2 : Option Addr) (c0_2 : Nat) (l0_2 : List Int) (a1_0 : Int) (a1_1 : Int) (a1_2 : Int) (a1_3 : Bool) (a1_4 : Int) (r : Bool) (w : World) (hr0_2 : Kd.C (Kd.int .i64) w A0_2 l0_2.length l0_2) (hc0_2 : l0_2.length ≤ c0_2) (h : impl_standsOk.f k a0_0 a0_1 l0_2 a1_0 a1_1 a1_2 a1_3 a1_4 = some r) :
  Calls Try.prog 65 #[.agg #[.int .i64 a0_0, .int .i64 a0_1, .slice A0_2 l0_2.length c0_2], .agg #[.int .i64 a1_0, .int .i64 a1_1, .int .i64 a1_2, .bool a1_3, .int .i64 a1_4]] w fun e w' => e = .returned (.bool r) ∧ Below w.heap.size w w' := by
 have hu43 := Try.underlying43
 have hu37 := Try.underlying37
 have HR0_2 := aM hr0_2
 have HC0_2 := aM hc0_2
 clear hr0_2 hc0_2
 have HB := aM (Below.refl w.heap.size w)
 have H : ((impl_KindAt.f k a0_0 a0_1 l0_2 a1_1).bind fun t253 => (if t253 = 0 then (some false) else (if a1_2 = (-1) then (some true) else ((impl_KindAt.f k a0_0 a0_1 l0_2 a1_2).bind fun t254 => (some (t254 != 0)))))) = some r := h
 clear h
 replace H := Option.bind_eq_some_iff.mp H
 obtain ⟨t253, A30, H⟩ := H
 replace H : (if t253 = 0 then (some false) else (if a1_2 = (-1) then (some true) else ((impl_KindAt.f k a0_0 a0_1 l0_2 a1_2).bind fun t254 => (some (t254 != 0))))) = some r := H
 have A3 := aM A30
 clear A30
 by_cases c4 : t253 = 0
 {
 rw [if_pos c4] at H
 have c4b0 := beq_iff_eq.mpr c4
 have c4b1 := bne_eq_false_iff_eq.mpr c4
 clear c4
 obtain rfl := Option.some.inj H
 simp only [Option.some.injEq, Prod.mk.injEq] at H
 obtain ⟨rfl⟩ := H
 go_enter Try.func65, Try.ntmps65
 go_wp2_with (first | ((with_reducible refine gate_dst (N := 2) rfl ?_); refine bx_ 2 #[.int .i64 a0_0, .int .i64 a0_1, .slice A0_2 l0_2.length c0_2] 43 ?_; intro gb251 hg w5 hbox hb; have BK251 := aM (hbox); have GW251 := aM (bz_ w hg qz1); have GE251 := GW251; replace HB := bS_ hb; clear hb hbox hg) | ((with_reducible refine gate_dst (N := 3) rfl ?_); refine bx_ 3 #[.int .i64 a1_0, .int .i64 a1_1, .int .i64 a1_2, .bool a1_3, .int .i64 a1_4] 37 ?_; intro gb252 hg w6 hbox hb; have BK252 := aM (hbox); have GW252 := aM (bz_ w hg qz1); have GE252 := GW252; replace HB := bS_ hb; obtain ⟨NB251_252, NB252_251⟩ := nb_ hg (bk_ BK251.out); replace BK251 := bB_ BK251 hb; clear hb hbox hg; have hnb7 := NB251_252.out; have hnc7 := NB252_251.out; obtain ⟨hcz8_0, hcz8_1, hcz8_2, hfz8_0, hfz8_1, hfz8_2⟩ := b6_ BK251.out; have hcz9_0 := bc0_ BK252.out; have hcz9_1 := bc1_ BK252.out; have hcz9_2 := bc2_ BK252.out; have hcz9_3 := bc3_ BK252.out; have hcz9_4 := bc4_ BK252.out; have hfz9_0 := blk_frozen BK252.out 0; have hfz9_1 := blk_frozen BK252.out 1; have hfz9_2 := blk_frozen BK252.out 2; have hfz9_3 := blk_frozen BK252.out 3; have hfz9_4 := blk_frozen BK252.out 4) | ((with_reducible refine gate_callee (f := 75) rfl ?_); refine goesL_ (some 8) rfl rfl Try.func75 (by kernel_rfl) rfl #[.agg #[.int .i64 a0_0, .int .i64 a0_1, .slice A0_2 l0_2.length c0_2], .int .i64 a1_1] rfl qz4 ?_; (with_reducible refine (impl_KindAt.calls k a0_0 a0_1 _ _ l0_2 a1_1 t253 _ ?side1 ?side2 A3.out).mono ?_); (case side1 => exact qz6); (case side2 => exact HC0_2.out); rintro e w10 ⟨rfl, hb⟩; refine ⟨_, rfl, ?_⟩; replace BK251 := bB_ BK251 hb; replace BK252 := bB_ BK252 hb; replace HB := bS_ hb; (try clear hb)))
 go_ret
 exact ⟨qzw, qz1⟩
 }
 {
 rw [if_neg c4] at H
 have c4b0 := beq_eq_false_iff_ne.mpr c4
 have c4b1 := bne_iff_ne.mpr c4
 by_cases c11 : a1_2 = (-1)
 {
 rw [if_pos c11] at H
 have c11b0 := beq_iff_eq.mpr c11
 have c11b1 := bne_eq_false_iff_eq.mpr c11
 clear c11
 obtain rfl := Option.some.inj H
 simp only [Option.some.injEq, Prod.mk.injEq] at H
 obtain ⟨rfl⟩ := H
 go_enter Try.func65, Try.ntmps65
 go_wp2_with (first | ((with_reducible refine gate_dst (N := 2) rfl ?_); refine bx_ 2 #[.int .i64 a0_0, .int .i64 a0_1, .slice A0_2 l0_2.length c0_2] 43 ?_; intro gb251 hg w12 hbox hb; have BK251 := aM (hbox); have GW251 := aM (bz_ w hg qz1); have GE251 := GW251; replace HB := bS_ hb; clear hb hbox hg) | ((with_reducible refine gate_dst (N := 3) rfl ?_); refine bx_ 3 #[.int .i64 a1_0, .int .i64 a1_1, .int .i64 a1_2, .bool a1_3, .int .i64 a1_4] 37 ?_; intro gb252 hg w13 hbox hb; have BK252 := aM (hbox); have GW252 := aM (bz_ w hg qz1); have GE252 := GW252; replace HB := bS_ hb; obtain ⟨NB251_252, NB252_251⟩ := nb_ hg (bk_ BK251.out); replace BK251 := bB_ BK251 hb; clear hb hbox hg; have hnb14 := NB251_252.out; have hnc14 := NB252_251.out; obtain ⟨hcz15_0, hcz15_1, hcz15_2, hfz15_0, hfz15_1, hfz15_2⟩ := b6_ BK251.out; have hcz16_0 := bc0_ BK252.out; have hcz16_1 := bc1_ BK252.out; have hcz16_2 := bc2_ BK252.out; have hcz16_3 := bc3_ BK252.out; have hcz16_4 := bc4_ BK252.out; have hfz16_0 := blk_frozen BK252.out 0; have hfz16_1 := blk_frozen BK252.out 1; have hfz16_2 := blk_frozen BK252.out 2; have hfz16_3 := blk_frozen BK252.out 3; have hfz16_4 := blk_frozen BK252.out 4) | ((with_reducible refine gate_callee (f := 75) rfl ?_); refine goesL_ (some 8) rfl rfl Try.func75 (by kernel_rfl) rfl #[.agg #[.int .i64 a0_0, .int .i64 a0_1, .slice A0_2 l0_2.length c0_2], .int .i64 a1_1] rfl qz4 ?_; (with_reducible refine (impl_KindAt.calls k a0_0 a0_1 _ _ l0_2 a1_1 t253 _ ?side1 ?side2 A3.out).mono ?_); (case side1 => exact qz6); (case side2 => exact HC0_2.out); rintro e w17 ⟨rfl, hb⟩; refine ⟨_, rfl, ?_⟩; replace BK251 := bB_ BK251 hb; replace BK252 := bB_ BK252 hb; replace HB := bS_ hb; (try clear hb); have hcz18_0 := bc0_ BK252.out; have hcz18_1 := bc1_ BK252.out; have hcz18_2 := bc2_ BK252.out; have hcz18_3 := bc3_ BK252.out; have hcz18_4 := bc4_ BK252.out; have hfz18_0 := blk_frozen BK252.out 0; have hfz18_1 := blk_frozen BK252.out 1; have hfz18_2 := blk_frozen BK252.out 2; have hfz18_3 := blk_frozen BK252.out 3; have hfz18_4 := blk_frozen BK252.out 4))
 go_ret
 exact ⟨qzw, qz1⟩
 }
 {
 rw [if_neg c11] at H
 have c11b0 := beq_eq_false_iff_ne.mpr c11
 have c11b1 := bne_iff_ne.mpr c11
 replace H := Option.bind_eq_some_iff.mp H
 obtain ⟨t254, A190, H⟩ := H
 replace H : (some (t254 != 0)) = some r := H
 have A19 := aM A190
 clear A190
 obtain rfl := Option.some.inj H
 simp only [Option.some.injEq, Prod.mk.injEq] at H
 obtain ⟨rfl⟩ := H
 go_enter Try.func65, Try.ntmps65
 go_wp2_with (first | ((with_reducible refine gate_dst (N := 2) rfl ?_); refine bx_ 2 #[.int .i64 a0_0, .int .i64 a0_1, .slice A0_2 l0_2.length c0_2] 43 ?_; intro gb251 hg w20 hbox hb; have BK251 := aM (hbox); have GW251 := aM (bz_ w hg qz1); have GE251 := GW251; replace HB := bS_ hb; clear hb hbox hg) | ((with_reducible refine gate_dst (N := 3) rfl ?_); refine bx_ 3 #[.int .i64 a1_0, .int .i64 a1_1, .int .i64 a1_2, .bool a1_3, .int .i64 a1_4] 37 ?_; intro gb252 hg w21 hbox hb; have BK252 := aM (hbox); have GW252 := aM (bz_ w hg qz1); have GE252 := GW252; replace HB := bS_ hb; obtain ⟨NB251_252, NB252_251⟩ := nb_ hg (bk_ BK251.out); replace BK251 := bB_ BK251 hb; clear hb hbox hg; have hnb22 := NB251_252.out; have hnc22 := NB252_251.out; obtain ⟨hcz23_0, hcz23_1, hcz23_2, hfz23_0, hfz23_1, hfz23_2⟩ := b6_ BK251.out; have hcz24_0 := bc0_ BK252.out; have hcz24_1 := bc1_ BK252.out; have hcz24_2 := bc2_ BK252.out; have hcz24_3 := bc3_ BK252.out; have hcz24_4 := bc4_ BK252.out; have hfz24_0 := blk_frozen BK252.out 0; have hfz24_1 := blk_frozen BK252.out 1; have hfz24_2 := blk_frozen BK252.out 2; have hfz24_3 := blk_frozen BK252.out 3; have hfz24_4 := blk_frozen BK252.out 4) | ((with_reducible refine gate_callee (f := 75) rfl ?_); refine goesL_ (some 8) rfl rfl Try.func75 (by kernel_rfl) rfl #[.agg #[.int .i64 a0_0, .int .i64 a0_1, .slice A0_2 l0_2.length c0_2], .int .i64 a1_1] rfl qz4 ?_; (with_reducible refine (impl_KindAt.calls k a0_0 a0_1 _ _ l0_2 a1_1 t253 _ ?side1 ?side2 A3.out).mono ?_); (case side1 => exact qz6); (case side2 => exact HC0_2.out); rintro e w25 ⟨rfl, hb⟩; refine ⟨_, rfl, ?_⟩; replace BK251 := bB_ BK251 hb; replace BK252 := bB_ BK252 hb; replace HB := bS_ hb; (try clear hb); have hcz26_0 := bc0_ BK252.out; have hcz26_1 := bc1_ BK252.out; have hcz26_2 := bc2_ BK252.out; have hcz26_3 := bc3_ BK252.out; have hcz26_4 := bc4_ BK252.out; have hfz26_0 := blk_frozen BK252.out 0; have hfz26_1 := blk_frozen BK252.out 1; have hfz26_2 := blk_frozen BK252.out 2; have hfz26_3 := blk_frozen BK252.out 3; have hfz26_4 := blk_frozen BK252.out 4; obtain ⟨hcz27_0, hcz27_1, hcz27_2, hfz27_0, hfz27_1, hfz27_2⟩ := b6_ BK251.out) | (go_at_call 75; (with_reducible refine (impl_KindAt.calls k a0_0 a0_1 _ _ l0_2 a1_2 t254 _ ?side1 ?side2 A19.out).mono ?_); (case side1 => exact qz6); (case side2 => exact HC0_2.out); rintro e w28 ⟨rfl, hb⟩; replace BK251 := bB_ BK251 hb; replace BK252 := bB_ BK252 hb; replace HB := bS_ hb; (try clear hb)))
 go_ret
 exact ⟨qzw, qz1⟩

 }
 }
/-! ### impl_beside: function 68 -/
mutual
def impl_beside.j0 : Nat → Int → List Int → Int → Int → Int → Int → List Int → Option (List Int)
 | 0, _, _, _, _, _, _, _ => none
 | k + 1, x1, x5, x6, x7, x256000, x256001, x256002 => if x6 > 0 then (if x5.length < 17592186044416 then (impl_beside.j1 k x1 (x5 ++ [wrap64 (x1 - 1)]) x6 x7 x256000 x256001 x256002) else (none)) else (impl_beside.j1 k x1 x5 x6 x7 x256000 x256001 x256002)
def impl_beside.j1 : Nat → Int → List Int → Int → Int → Int → Int → List Int → Option (List Int)
 | 0, _, _, _, _, _, _, _ => none
 | k + 1, x1, x5, x6, x7, x256000, x256001, x256002 => if x6 < (wrap64 (x256000 - 1)) then (if x5.length < 17592186044416 then ((some (x5 ++ [wrap64 (x1 + 1)] : List Int)).bind fun y262 => (if x7 < (wrap64 (x256001 - 1)) then (if y262.length < 17592186044416 then (some (y262 ++ [wrap64 (x1 + x256000)])) else (none)) else (some y262))) else (none)) else (if x7 < (wrap64 (x256001 - 1)) then (if x5.length < 17592186044416 then (some (x5 ++ [wrap64 (x1 + x256000)])) else (none)) else (some x5))
end
def impl_beside.f (k : Nat) (a0_0 : Int) (a0_1 : Int) (l0_2 : List Int) (a1 : Int) : Option (List Int) := if a0_0 = 0 then (none) else (if (wrap64 (Int.tdiv a1 a0_0)) > 0 then (if ([] : List Int).length < 17592186044416 then (impl_beside.j0 k a1 (([] : List Int) ++ [wrap64 (a1 - a0_0)]) (Int.tmod a1 a0_0) (wrap64 (Int.tdiv a1 a0_0)) a0_0 a0_1 l0_2) else (none)) else (impl_beside.j0 k a1 ([] : List Int) (Int.tmod a1 a0_0) (wrap64 (Int.tdiv a1 a0_0)) a0_0 a0_1 l0_2))
theorem impl_beside.mono_l : ∀ k, (∀ y0 y1 y2 y3 y4 y5 y6, LeO (impl_beside.j0 k y0 y1 y2 y3 y4 y5 y6) (impl_beside.j0 (k + 1) y0 y1 y2 y3 y4 y5 y6)) ∧ (∀ y0 y1 y2 y3 y4 y5 y6, LeO (impl_beside.j1 k y0 y1 y2 y3 y4 y5 y6) (impl_beside.j1 (k + 1) y0 y1 y2 y3 y4 y5 y6))
 | 0 => ⟨fun _ _ _ _ _ _ _ r h => by simp [impl_beside.j0] at h, fun _ _ _ _ _ _ _ r h => by simp [impl_beside.j1] at h⟩
 | k + 1 => by
  obtain ⟨ih0, ih1⟩ := impl_beside.mono_l k
  refine ⟨?_, ?_⟩
  {
  intro y0 y1 y2 y3 y4 y5 y6
  unfold impl_beside.j0
  exact qL
  }
  {
  intro y0 y1 y2 y3 y4 y5 y6
  unfold impl_beside.j1
  exact qL
  }
theorem impl_beside.mono : ∀ a0 a1 a2 a3 k, LeO (impl_beside.f k a0 a1 a2 a3) (impl_beside.f (k + 1) a0 a1 a2 a3) := by
 intro a0 a1 a2 a3 k
 obtain ⟨ih0, ih1⟩ := impl_beside.mono_l k
 unfold impl_beside.f
 exact qL
set_option maxHeartbeats 8000000 in
set_option maxRecDepth 100000 in
theorem impl_beside.calls (k : Nat) (a0_0 : Int) (a0_1 : Int) (A0_2 : Option Addr) (c0_2 : Nat) (l0_2 : List Int) (a1 : Int) (r : List Int) (w : World) (hr0_2 : Kd.C (Kd.int .i64) w A0_2 l0_2.length l0_2) (hc0_2 : l0_2.length ≤ c0_2) (h : impl_beside.f k a0_0 a0_1 l0_2 a1 = some r) :
  Calls Try.prog 68 #[.agg #[.int .i64 a0_0, .int .i64 a0_1, .slice A0_2 l0_2.length c0_2], .int .i64 a1] w fun e w' => ∃ v0_ : Value, e = .returned (v0_) ∧ Kd.R (Kd.int .i64) 3 w' w.heap.size (fun _ => True) v0_ r ∧ Below w.heap.size w w' := by
 have hu43 := Try.underlying43
 have HR0_2 := aM hr0_2
 have HC0_2 := aM hc0_2
 clear hr0_2 hc0_2
 have HB := aM (Below.refl w.heap.size w)
 have H : (if a0_0 = 0 then (none) else (if (wrap64 (Int.tdiv a1 a0_0)) > 0 then (if ([] : List Int).length < 17592186044416 then (impl_beside.j0 k a1 (([] : List Int) ++ [wrap64 (a1 - a0_0)]) (Int.tmod a1 a0_0) (wrap64 (Int.tdiv a1 a0_0)) a0_0 a0_1 l0_2) else (none)) else (impl_beside.j0 k a1 ([] : List Int) (Int.tmod a1 a0_0) (wrap64 (Int.tdiv a1 a0_0)) a0_0 a0_1 l0_2))) = some r := h
 clear h
 by_cases c3 : a0_0 = 0
 {
 exact ap_ c3 H
 }
 {
 rw [if_neg c3] at H
 have c3b0 := beq_eq_false_iff_ne.mpr c3
 have c3b1 := bne_iff_ne.mpr c3
 have HC4 := aM H
 clear H
 go_enter Try.func68, Try.ntmps68
 go_upto_if 17 with (first | ((with_reducible refine gate_dst (N := 2) rfl ?_); refine bx_ 2 #[.int .i64 a0_0, .int .i64 a0_1, .slice A0_2 l0_2.length c0_2] 43 ?_; intro gb255 hg w5 hbox hb; have BK255 := aM (hbox); have GW255 := aM (bz_ w hg qz1); have GE255 := GW255; replace HB := bS_ hb; clear hb hbox hg; obtain ⟨hcz6_0, hcz6_1, hcz6_2, hfz6_0, hfz6_1, hfz6_2⟩ := b6_ BK255.out))
 repeat (go_quiet (first | ((with_reducible refine gate_dst (N := 2) rfl ?_); refine bx_ 2 #[.int .i64 a0_0, .int .i64 a0_1, .slice A0_2 l0_2.length c0_2] 43 ?_; intro gb255 hg w5 hbox hb; have BK255 := aM (hbox); have GW255 := aM (bz_ w hg qz1); have GE255 := GW255; replace HB := bS_ hb; clear hb hbox hg; obtain ⟨hcz6_0, hcz6_1, hcz6_2, hfz6_0, hfz6_1, hfz6_2⟩ := b6_ BK255.out)); go_upto_if 17 with (first | ((with_reducible refine gate_dst (N := 2) rfl ?_); refine bx_ 2 #[.int .i64 a0_0, .int .i64 a0_1, .slice A0_2 l0_2.length c0_2] 43 ?_; intro gb255 hg w5 hbox hb; have BK255 := aM (hbox); have GW255 := aM (bz_ w hg qz1); have GE255 := GW255; replace HB := bS_ hb; clear hb hbox hg; obtain ⟨hcz6_0, hcz6_1, hcz6_2, hfz6_0, hfz6_1, hfz6_2⟩ := b6_ BK255.out)))
 (try simp only [Act.put, List.setIfInBounds_toArray, List.set_cons_zero, List.set_cons_succ])
 go_cut [5] (fun v5 wc => ∃ (kq : Nat) (x5_3 : List Int), Aside0 (impl_beside.j0 kq a1 x5_3 (Int.tmod a1 a0_0) (wrap64 (Int.tdiv a1 a0_0)) a0_0 a0_1 l0_2 = some r) ∧ Aside0 (kq ≤ k) ∧ Aside0 (Kd.R (Kd.int .i64) 3 wc w.heap.size (fun _ => True) v5 x5_3) ∧ Aside0 (wc.heap[gb255]? = some (.cells #[.int .i64 a0_0, .int .i64 a0_1, (.slice A0_2 l0_2.length c0_2)] 43 (0, 0))) ∧ Aside0 (Below w.heap.size w wc))
 case first =>
  have H := HC4.out
  clear HC4
  by_cases c7 : (wrap64 (Int.tdiv a1 a0_0)) > 0
  {
  rw [if_pos c7] at H
  have c7b0 := decide_eq_true c7
  clear c7
  (first | rw [c7b0] | (simp only [i64_w, i32_w]; rw [c7b0]) | rw [@decide_eq_true _ _ (of_decide_eq_true c7b0)] | rw [@decide_eq_true _ _ (of_decide_eq_true c7b1)] | skip)
  by_cases c8 : ([] : List Int).length < 17592186044416
  {
  rw [if_pos c8] at H
  have LMc8 := aM c8
  clear c8
  obtain ⟨y256, hy256⟩ : ∃ y_ : List Int, y_ = (([] : List Int) ++ [wrap64 (a1 - a0_0)]) := ⟨_, rfl⟩
  replace H : (impl_beside.j0 k a1 y256 (Int.tmod a1 a0_0) (wrap64 (Int.tdiv a1 a0_0)) a0_0 a0_1 l0_2) = some r := by first | (rw [hy256]; with_reducible exact H) | (have H2_ := (Option.bind_some _ _).symm.trans H; rw [hy256]; with_reducible exact H2_) | (have H2_ := (Option.bind_some _ _).symm.trans H; with_reducible exact H2_) | with_reducible exact H | (rw [hy256]; exact H) | exact H
  have Ny256 := aM hy256
  clear hy256
  have H' := aM H
  clear H
  obtain ⟨hcz9_0, hcz9_1, hcz9_2, hfz9_0, hfz9_1, hfz9_2⟩ := b6_ BK255.out
  go_wp2_with (first | ((with_reducible refine gate_builtin (b := .append) (xs := #[.tmp 18, .tmp 23]) rfl ?_); at_builtin; refine Kd.R_append (Kd.int .i64) (w0 := w) w.heap.size rfl (.tmp 18) (.tmp 23) 24 3 (.int .i64 0) 8 rfl Try.underlying24 info3 rfl (by decide) (by omega) (.slice none 0 0) ([] : List Int) (wrap64 (a1 - a0_0)) [.int .i64 (wrap64 (a1 - a0_0))] (fun _ => True) (fun _ => False) rfl rfl ?aP (fun _ hk => hk.elim) ?aF ?aO ?aB ?aS ?aL ?_; (case aP => exact rfl); (case aB => exact qz1); (case aF => exact qz21); (case aO => exact ((Kd.R_nil _ _ _ _ (fun _ => True)))); (case aS => exact qz32); (case aL => have := LMc8.out; omega); intro v257 w10 ho hb hg hat; rw [← Ny256.out] at ho; replace BK255 := aM (blk_grown (bk_ BK255.out) hg (by simp [Value.ownBlock])); replace HB := aM (hb); have HO258 := aM (ho); clear ho hb hg hat))
  repeat (go_quiet (first | ((with_reducible refine gate_builtin (b := .append) (xs := #[.tmp 18, .tmp 23]) rfl ?_); at_builtin; refine Kd.R_append (Kd.int .i64) (w0 := w) w.heap.size rfl (.tmp 18) (.tmp 23) 24 3 (.int .i64 0) 8 rfl Try.underlying24 info3 rfl (by decide) (by omega) (.slice none 0 0) ([] : List Int) (wrap64 (a1 - a0_0)) [.int .i64 (wrap64 (a1 - a0_0))] (fun _ => True) (fun _ => False) rfl rfl ?aP (fun _ hk => hk.elim) ?aF ?aO ?aB ?aS ?aL ?_; (case aP => exact rfl); (case aB => exact qz1); (case aF => exact qz21); (case aO => exact ((Kd.R_nil _ _ _ _ (fun _ => True)))); (case aS => exact qz32); (case aL => have := LMc8.out; omega); intro v257 w10 ho hb hg hat; rw [← Ny256.out] at ho; replace BK255 := aM (blk_grown (bk_ BK255.out) hg (by simp [Value.ownBlock])); replace HB := aM (hb); have HO258 := aM (ho); clear ho hb hg hat)); try go_wp2_with (first | ((with_reducible refine gate_builtin (b := .append) (xs := #[.tmp 18, .tmp 23]) rfl ?_); at_builtin; refine Kd.R_append (Kd.int .i64) (w0 := w) w.heap.size rfl (.tmp 18) (.tmp 23) 24 3 (.int .i64 0) 8 rfl Try.underlying24 info3 rfl (by decide) (by omega) (.slice none 0 0) ([] : List Int) (wrap64 (a1 - a0_0)) [.int .i64 (wrap64 (a1 - a0_0))] (fun _ => True) (fun _ => False) rfl rfl ?aP (fun _ hk => hk.elim) ?aF ?aO ?aB ?aS ?aL ?_; (case aP => exact rfl); (case aB => exact qz1); (case aF => exact qz21); (case aO => exact ((Kd.R_nil _ _ _ _ (fun _ => True)))); (case aS => exact qz32); (case aL => have := LMc8.out; omega); intro v257 w10 ho hb hg hat; rw [← Ny256.out] at ho; replace BK255 := aM (blk_grown (bk_ BK255.out) hg (by simp [Value.ownBlock])); replace HB := aM (hb); have HO258 := aM (ho); clear ho hb hg hat)))
  go_meet
  case rel => exact ⟨_, (y256), H', ⟨by first | omega | exact Nat.le_refl _⟩, ⟨rm_ HO258.out⟩, ⟨bk_ BK255.out⟩, ⟨qz1⟩⟩
  }
  {
  exact an_ c8 H
  }
  }
  {
  rw [if_neg c7] at H
  have c7b0 := decide_eq_false c7
  clear c7
  (first | rw [c7b0] | (simp only [i64_w, i32_w]; rw [c7b0]) | rw [@decide_eq_false _ _ (of_decide_eq_false c7b0)] | rw [@decide_eq_false _ _ (of_decide_eq_false c7b1)] | skip)
  have H' := aM H
  clear H
  go_wp2
  repeat (go_quiet (fail); try go_wp2)
  go_meet
  case rel => exact ⟨_, (([] : List Int)), H', ⟨by first | omega | exact Nat.le_refl _⟩, ⟨by first | exact Kd.R_nil _ _ _ _ _ | exact Kd.N_nil _ _ _ _ _ | exact Kd.V_nil _ _ _ _ _ | exact Kd.Q_nil _ _ _ _ _ | exact Kd.S_nil _ _ _ _ _⟩, ⟨bk_ BK255.out⟩, ⟨qz1⟩⟩
  }
 case rest =>
  clear HC4
  try clear p2
  try clear c3
  try clear c3b0
  try clear c3b1
  try clear c6
  try clear p6
  try clear c7
  try clear c7b0
  try clear c7b1
  try clear c8
  try clear hcz6_0 hcz6_1 hcz6_2 hfz6_0 hfz6_1 hfz6_2
  try clear hcz9_0 hcz9_1 hcz9_2 hfz9_0 hfz9_1 hfz9_2
  obtain ⟨kq, x5_3, HA, HJ3, HO_5, BK255, HB⟩ := hcut
  cases kq with
  | zero => exact absurd HA.out (by simp [impl_beside.j0])
  | succ kj3 =>
   have H := HA.out
   clear HA
   simp only [impl_beside.j0] at H
   have HC11 := aM H
   clear H
   go_upto_if 26 with (fail)
   repeat (go_quiet (fail); go_upto_if 26 with (fail))
   go_cut [5] (fun v5 wc => ∃ (kq : Nat) (x5_10 : List Int), Aside0 (impl_beside.j1 kq a1 x5_10 (Int.tmod a1 a0_0) (wrap64 (Int.tdiv a1 a0_0)) a0_0 a0_1 l0_2 = some r) ∧ Aside0 (kq ≤ kj3) ∧ Aside0 (Kd.R (Kd.int .i64) 3 wc w.heap.size (fun _ => True) v5 x5_10) ∧ Aside0 (wc.heap[gb255]? = some (.cells #[.int .i64 a0_0, .int .i64 a0_1, (.slice A0_2 l0_2.length c0_2)] 43 (0, 0))) ∧ Aside0 (Below w.heap.size w wc))
   case first =>
    have H := HC11.out
    clear HC11
    by_cases c12 : (Int.tmod a1 a0_0) > 0
    {
    rw [if_pos c12] at H
    have c12b0 := decide_eq_true c12
    clear c12
    (first | rw [c12b0] | (simp only [i64_w, i32_w]; rw [c12b0]) | rw [@decide_eq_true _ _ (of_decide_eq_true c12b0)] | rw [@decide_eq_true _ _ (of_decide_eq_true c12b1)] | skip)
    by_cases c13 : x5_3.length < 17592186044416
    {
    rw [if_pos c13] at H
    have LMc13 := aM c13
    clear c13
    obtain ⟨y259, hy259⟩ : ∃ y_ : List Int, y_ = (x5_3 ++ [wrap64 (a1 - 1)]) := ⟨_, rfl⟩
    replace H : (impl_beside.j1 kj3 a1 y259 (Int.tmod a1 a0_0) (wrap64 (Int.tdiv a1 a0_0)) a0_0 a0_1 l0_2) = some r := by first | (rw [hy259]; with_reducible exact H) | (have H2_ := (Option.bind_some _ _).symm.trans H; rw [hy259]; with_reducible exact H2_) | (have H2_ := (Option.bind_some _ _).symm.trans H; with_reducible exact H2_) | with_reducible exact H | (rw [hy259]; exact H) | exact H
    have Ny259 := aM hy259
    clear hy259
    have H' := aM H
    clear H
    go_wp2_with (first | ((with_reducible refine gate_builtin (b := .append) (xs := #[.tmp 27, .tmp 30]) rfl ?_); at_builtin; refine Kd.R_append (Kd.int .i64) (w0 := w) w.heap.size rfl (.tmp 27) (.tmp 30) 24 3 (.int .i64 0) 8 rfl Try.underlying24 info3 rfl (by decide) (by omega) u5 x5_3 (wrap64 (a1 - 1)) [.int .i64 (wrap64 (a1 - 1))] (fun _ => True) (fun _ => False) rfl rfl ?aP (fun _ hk => hk.elim) ?aF ?aO ?aB ?aS ?aL ?_; (case aP => exact rfl); (case aB => exact qz1); (case aF => exact qz21); (case aO => exact (rr_ HO_5.out)); (case aS => exact qz32); (case aL => have := LMc13.out; omega); intro v260 w14 ho hb hg hat; rw [← Ny259.out] at ho; replace BK255 := aM (blk_grown (bk_ BK255.out) hg (Kd.R_ne HO_5.out BK255.out (by decide))); replace HB := aM (hb); have HO261 := aM (ho); clear HO_5; clear ho hb hg hat))
    repeat (go_quiet (first | ((with_reducible refine gate_builtin (b := .append) (xs := #[.tmp 27, .tmp 30]) rfl ?_); at_builtin; refine Kd.R_append (Kd.int .i64) (w0 := w) w.heap.size rfl (.tmp 27) (.tmp 30) 24 3 (.int .i64 0) 8 rfl Try.underlying24 info3 rfl (by decide) (by omega) u5 x5_3 (wrap64 (a1 - 1)) [.int .i64 (wrap64 (a1 - 1))] (fun _ => True) (fun _ => False) rfl rfl ?aP (fun _ hk => hk.elim) ?aF ?aO ?aB ?aS ?aL ?_; (case aP => exact rfl); (case aB => exact qz1); (case aF => exact qz21); (case aO => exact (rr_ HO_5.out)); (case aS => exact qz32); (case aL => have := LMc13.out; omega); intro v260 w14 ho hb hg hat; rw [← Ny259.out] at ho; replace BK255 := aM (blk_grown (bk_ BK255.out) hg (Kd.R_ne HO_5.out BK255.out (by decide))); replace HB := aM (hb); have HO261 := aM (ho); clear HO_5; clear ho hb hg hat)); try go_wp2_with (first | ((with_reducible refine gate_builtin (b := .append) (xs := #[.tmp 27, .tmp 30]) rfl ?_); at_builtin; refine Kd.R_append (Kd.int .i64) (w0 := w) w.heap.size rfl (.tmp 27) (.tmp 30) 24 3 (.int .i64 0) 8 rfl Try.underlying24 info3 rfl (by decide) (by omega) u5 x5_3 (wrap64 (a1 - 1)) [.int .i64 (wrap64 (a1 - 1))] (fun _ => True) (fun _ => False) rfl rfl ?aP (fun _ hk => hk.elim) ?aF ?aO ?aB ?aS ?aL ?_; (case aP => exact rfl); (case aB => exact qz1); (case aF => exact qz21); (case aO => exact (rr_ HO_5.out)); (case aS => exact qz32); (case aL => have := LMc13.out; omega); intro v260 w14 ho hb hg hat; rw [← Ny259.out] at ho; replace BK255 := aM (blk_grown (bk_ BK255.out) hg (Kd.R_ne HO_5.out BK255.out (by decide))); replace HB := aM (hb); have HO261 := aM (ho); clear HO_5; clear ho hb hg hat)))
    go_meet
    case rel => exact ⟨_, (y259), H', ⟨by have := HJ3.out; first | omega | exact Nat.le_refl _⟩, ⟨rm_ HO261.out⟩, ⟨bk_ BK255.out⟩, ⟨qz1⟩⟩
    }
    {
    exact an_ c13 H
    }
    }
    {
    rw [if_neg c12] at H
    have c12b0 := decide_eq_false c12
    clear c12
    (first | rw [c12b0] | (simp only [i64_w, i32_w]; rw [c12b0]) | rw [@decide_eq_false _ _ (of_decide_eq_false c12b0)] | rw [@decide_eq_false _ _ (of_decide_eq_false c12b1)] | skip)
    have H' := aM H
    clear H
    go_wp2
    repeat (go_quiet (fail); try go_wp2)
    go_meet
    case rel => exact ⟨_, (x5_3), H', ⟨by have := HJ3.out; first | omega | exact Nat.le_refl _⟩, ⟨rm_ HO_5.out⟩, ⟨bk_ BK255.out⟩, ⟨qz1⟩⟩
    }
   case rest =>
    clear HC11
    try clear c1
    try clear p2
    try clear c3
    try clear c3b0
    try clear c3b1
    try clear c6
    try clear p6
    try clear c7
    try clear c7b0
    try clear c7b1
    try clear c8
    try clear c12
    try clear c12b0
    try clear c12b1
    try clear c13
    try clear hcz6_0 hcz6_1 hcz6_2 hfz6_0 hfz6_1 hfz6_2
    try clear hcz9_0 hcz9_1 hcz9_2 hfz9_0 hfz9_1 hfz9_2
    obtain ⟨kq, x5_10, HA, HJ10, HO_5, BK255, HB⟩ := hcut
    cases kq with
    | zero => exact absurd HA.out (by simp [impl_beside.j1])
    | succ kj10 =>
     have H := HA.out
     clear HA
     simp only [impl_beside.j1] at H
     by_cases c15 : (Int.tmod a1 a0_0) < (wrap64 (a0_0 - 1))
     {
     rw [if_pos c15] at H
     have c15b0 := decide_eq_true c15
     clear c15
     by_cases c16 : x5_10.length < 17592186044416
     {
     rw [if_pos c16] at H
     have LMc16 := aM c16
     clear c16
     obtain ⟨y262, hy262⟩ : ∃ y_ : List Int, y_ = (x5_10 ++ [wrap64 (a1 + 1)]) := ⟨_, rfl⟩
     replace H : (if (wrap64 (Int.tdiv a1 a0_0)) < (wrap64 (a0_1 - 1)) then (if y262.length < 17592186044416 then (some (y262 ++ [wrap64 (a1 + a0_0)])) else (none)) else (some y262)) = some r := by first | (rw [hy262]; with_reducible exact H) | (have H2_ := (Option.bind_some _ _).symm.trans H; rw [hy262]; with_reducible exact H2_) | (have H2_ := (Option.bind_some _ _).symm.trans H; with_reducible exact H2_) | with_reducible exact H | (rw [hy262]; exact H) | exact H
     have Ny262 := aM hy262
     clear hy262
     by_cases c17 : (wrap64 (Int.tdiv a1 a0_0)) < (wrap64 (a0_1 - 1))
     {
     rw [if_pos c17] at H
     have c17b0 := decide_eq_true c17
     clear c17
     by_cases c18 : y262.length < 17592186044416
     {
     rw [if_pos c18] at H
     have LMc18 := aM c18
     clear c18
     obtain ⟨y265, hy265⟩ : ∃ y_ : List Int, y_ = (y262 ++ [wrap64 (a1 + a0_0)]) := ⟨_, rfl⟩
     replace H : (some y265) = some r := by first | (rw [hy265]; with_reducible exact H) | (have H2_ := (Option.bind_some _ _).symm.trans H; rw [hy265]; with_reducible exact H2_) | (have H2_ := (Option.bind_some _ _).symm.trans H; with_reducible exact H2_) | with_reducible exact H | (rw [hy265]; exact H) | exact H
     have Ny265 := aM hy265
     clear hy265
     obtain rfl := Option.some.inj H
     simp only [Option.some.injEq, Prod.mk.injEq] at H
     obtain ⟨rfl⟩ := H
     obtain ⟨hcz19_0, hcz19_1, hcz19_2, hfz19_0, hfz19_1, hfz19_2⟩ := b6_ BK255.out
     go_wp2_with (first | ((with_reducible refine gate_builtin (b := .append) (xs := #[.tmp 37, .tmp 40]) rfl ?_); at_builtin; refine Kd.R_append (Kd.int .i64) (w0 := w) w.heap.size rfl (.tmp 37) (.tmp 40) 24 3 (.int .i64 0) 8 rfl Try.underlying24 info3 rfl (by decide) (by omega) u5 x5_10 (wrap64 (a1 + 1)) [.int .i64 (wrap64 (a1 + 1))] (fun _ => True) (fun _ => False) rfl rfl ?aP (fun _ hk => hk.elim) ?aF ?aO ?aB ?aS ?aL ?_; (case aP => exact rfl); (case aB => exact qz1); (case aF => exact qz21); (case aO => exact (rr_ HO_5.out)); (case aS => exact qz32); (case aL => have := LMc16.out; omega); intro v263 w20 ho hb hg hat; rw [← Ny262.out] at ho; replace BK255 := aM (blk_grown (bk_ BK255.out) hg (Kd.R_ne HO_5.out BK255.out (by decide))); replace HB := aM (hb); have HO264 := aM (ho); clear HO_5; clear ho hb hg hat; obtain ⟨hcz21_0, hcz21_1, hcz21_2, hfz21_0, hfz21_1, hfz21_2⟩ := b6_ BK255.out) | ((with_reducible refine gate_builtin (b := .append) (xs := #[.tmp 47, .tmp 52]) rfl ?_); at_builtin; refine Kd.R_append (Kd.int .i64) (w0 := w) w.heap.size rfl (.tmp 47) (.tmp 52) 24 3 (.int .i64 0) 8 rfl Try.underlying24 info3 rfl (by decide) (by omega) v263 y262 (wrap64 (a1 + a0_0)) [.int .i64 (wrap64 (a1 + a0_0))] (fun _ => True) (fun _ => False) rfl rfl ?aP (fun _ hk => hk.elim) ?aF ?aO ?aB ?aS ?aL ?_; (case aP => exact rfl); (case aB => exact qz1); (case aF => exact qz21); (case aO => exact (rr_ HO264.out)); (case aS => exact qz32); (case aL => have := LMc18.out; omega); intro v266 w22 ho hb hg hat; rw [← Ny265.out] at ho; replace BK255 := aM (blk_grown (bk_ BK255.out) hg (Kd.R_ne HO264.out BK255.out (by decide))); replace HB := aM (hb); have HO267 := aM (ho); clear HO264; clear ho hb hg hat))
     repeat (go_quiet (first | ((with_reducible refine gate_builtin (b := .append) (xs := #[.tmp 37, .tmp 40]) rfl ?_); at_builtin; refine Kd.R_append (Kd.int .i64) (w0 := w) w.heap.size rfl (.tmp 37) (.tmp 40) 24 3 (.int .i64 0) 8 rfl Try.underlying24 info3 rfl (by decide) (by omega) u5 x5_10 (wrap64 (a1 + 1)) [.int .i64 (wrap64 (a1 + 1))] (fun _ => True) (fun _ => False) rfl rfl ?aP (fun _ hk => hk.elim) ?aF ?aO ?aB ?aS ?aL ?_; (case aP => exact rfl); (case aB => exact qz1); (case aF => exact qz21); (case aO => exact (rr_ HO_5.out)); (case aS => exact qz32); (case aL => have := LMc16.out; omega); intro v263 w20 ho hb hg hat; rw [← Ny262.out] at ho; replace BK255 := aM (blk_grown (bk_ BK255.out) hg (Kd.R_ne HO_5.out BK255.out (by decide))); replace HB := aM (hb); have HO264 := aM (ho); clear HO_5; clear ho hb hg hat; obtain ⟨hcz21_0, hcz21_1, hcz21_2, hfz21_0, hfz21_1, hfz21_2⟩ := b6_ BK255.out) | ((with_reducible refine gate_builtin (b := .append) (xs := #[.tmp 47, .tmp 52]) rfl ?_); at_builtin; refine Kd.R_append (Kd.int .i64) (w0 := w) w.heap.size rfl (.tmp 47) (.tmp 52) 24 3 (.int .i64 0) 8 rfl Try.underlying24 info3 rfl (by decide) (by omega) v263 y262 (wrap64 (a1 + a0_0)) [.int .i64 (wrap64 (a1 + a0_0))] (fun _ => True) (fun _ => False) rfl rfl ?aP (fun _ hk => hk.elim) ?aF ?aO ?aB ?aS ?aL ?_; (case aP => exact rfl); (case aB => exact qz1); (case aF => exact qz21); (case aO => exact (rr_ HO264.out)); (case aS => exact qz32); (case aL => have := LMc18.out; omega); intro v266 w22 ho hb hg hat; rw [← Ny265.out] at ho; replace BK255 := aM (blk_grown (bk_ BK255.out) hg (Kd.R_ne HO264.out BK255.out (by decide))); replace HB := aM (hb); have HO267 := aM (ho); clear HO264; clear ho hb hg hat)); try go_wp2_with (first | ((with_reducible refine gate_builtin (b := .append) (xs := #[.tmp 37, .tmp 40]) rfl ?_); at_builtin; refine Kd.R_append (Kd.int .i64) (w0 := w) w.heap.size rfl (.tmp 37) (.tmp 40) 24 3 (.int .i64 0) 8 rfl Try.underlying24 info3 rfl (by decide) (by omega) u5 x5_10 (wrap64 (a1 + 1)) [.int .i64 (wrap64 (a1 + 1))] (fun _ => True) (fun _ => False) rfl rfl ?aP (fun _ hk => hk.elim) ?aF ?aO ?aB ?aS ?aL ?_; (case aP => exact rfl); (case aB => exact qz1); (case aF => exact qz21); (case aO => exact (rr_ HO_5.out)); (case aS => exact qz32); (case aL => have := LMc16.out; omega); intro v263 w20 ho hb hg hat; rw [← Ny262.out] at ho; replace BK255 := aM (blk_grown (bk_ BK255.out) hg (Kd.R_ne HO_5.out BK255.out (by decide))); replace HB := aM (hb); have HO264 := aM (ho); clear HO_5; clear ho hb hg hat; obtain ⟨hcz21_0, hcz21_1, hcz21_2, hfz21_0, hfz21_1, hfz21_2⟩ := b6_ BK255.out) | ((with_reducible refine gate_builtin (b := .append) (xs := #[.tmp 47, .tmp 52]) rfl ?_); at_builtin; refine Kd.R_append (Kd.int .i64) (w0 := w) w.heap.size rfl (.tmp 47) (.tmp 52) 24 3 (.int .i64 0) 8 rfl Try.underlying24 info3 rfl (by decide) (by omega) v263 y262 (wrap64 (a1 + a0_0)) [.int .i64 (wrap64 (a1 + a0_0))] (fun _ => True) (fun _ => False) rfl rfl ?aP (fun _ hk => hk.elim) ?aF ?aO ?aB ?aS ?aL ?_; (case aP => exact rfl); (case aB => exact qz1); (case aF => exact qz21); (case aO => exact (rr_ HO264.out)); (case aS => exact qz32); (case aL => have := LMc18.out; omega); intro v266 w22 ho hb hg hat; rw [← Ny265.out] at ho; replace BK255 := aM (blk_grown (bk_ BK255.out) hg (Kd.R_ne HO264.out BK255.out (by decide))); replace HB := aM (hb); have HO267 := aM (ho); clear HO264; clear ho hb hg hat)))
     go_ret
     exact ⟨_, qzw, by (with_reducible repeat (first | apply Kd.R_alloc | apply Kd.R_drewN | apply Kd.R_drew)); exact HO267.out, qz1⟩
     }
     {
     exact an_ c18 H
     }
     }
     {
     rw [if_neg c17] at H
     have c17b0 := decide_eq_false c17
     clear c17
     obtain rfl := Option.some.inj H
     simp only [Option.some.injEq, Prod.mk.injEq] at H
     obtain ⟨rfl⟩ := H
     obtain ⟨hcz23_0, hcz23_1, hcz23_2, hfz23_0, hfz23_1, hfz23_2⟩ := b6_ BK255.out
     go_wp2_with (first | ((with_reducible refine gate_builtin (b := .append) (xs := #[.tmp 37, .tmp 40]) rfl ?_); at_builtin; refine Kd.R_append (Kd.int .i64) (w0 := w) w.heap.size rfl (.tmp 37) (.tmp 40) 24 3 (.int .i64 0) 8 rfl Try.underlying24 info3 rfl (by decide) (by omega) u5 x5_10 (wrap64 (a1 + 1)) [.int .i64 (wrap64 (a1 + 1))] (fun _ => True) (fun _ => False) rfl rfl ?aP (fun _ hk => hk.elim) ?aF ?aO ?aB ?aS ?aL ?_; (case aP => exact rfl); (case aB => exact qz1); (case aF => exact qz21); (case aO => exact (rr_ HO_5.out)); (case aS => exact qz32); (case aL => have := LMc16.out; omega); intro v263 w24 ho hb hg hat; rw [← Ny262.out] at ho; replace BK255 := aM (blk_grown (bk_ BK255.out) hg (Kd.R_ne HO_5.out BK255.out (by decide))); replace HB := aM (hb); have HO264 := aM (ho); clear HO_5; clear ho hb hg hat; obtain ⟨hcz25_0, hcz25_1, hcz25_2, hfz25_0, hfz25_1, hfz25_2⟩ := b6_ BK255.out))
     repeat (go_quiet (first | ((with_reducible refine gate_builtin (b := .append) (xs := #[.tmp 37, .tmp 40]) rfl ?_); at_builtin; refine Kd.R_append (Kd.int .i64) (w0 := w) w.heap.size rfl (.tmp 37) (.tmp 40) 24 3 (.int .i64 0) 8 rfl Try.underlying24 info3 rfl (by decide) (by omega) u5 x5_10 (wrap64 (a1 + 1)) [.int .i64 (wrap64 (a1 + 1))] (fun _ => True) (fun _ => False) rfl rfl ?aP (fun _ hk => hk.elim) ?aF ?aO ?aB ?aS ?aL ?_; (case aP => exact rfl); (case aB => exact qz1); (case aF => exact qz21); (case aO => exact (rr_ HO_5.out)); (case aS => exact qz32); (case aL => have := LMc16.out; omega); intro v263 w24 ho hb hg hat; rw [← Ny262.out] at ho; replace BK255 := aM (blk_grown (bk_ BK255.out) hg (Kd.R_ne HO_5.out BK255.out (by decide))); replace HB := aM (hb); have HO264 := aM (ho); clear HO_5; clear ho hb hg hat; obtain ⟨hcz25_0, hcz25_1, hcz25_2, hfz25_0, hfz25_1, hfz25_2⟩ := b6_ BK255.out)); try go_wp2_with (first | ((with_reducible refine gate_builtin (b := .append) (xs := #[.tmp 37, .tmp 40]) rfl ?_); at_builtin; refine Kd.R_append (Kd.int .i64) (w0 := w) w.heap.size rfl (.tmp 37) (.tmp 40) 24 3 (.int .i64 0) 8 rfl Try.underlying24 info3 rfl (by decide) (by omega) u5 x5_10 (wrap64 (a1 + 1)) [.int .i64 (wrap64 (a1 + 1))] (fun _ => True) (fun _ => False) rfl rfl ?aP (fun _ hk => hk.elim) ?aF ?aO ?aB ?aS ?aL ?_; (case aP => exact rfl); (case aB => exact qz1); (case aF => exact qz21); (case aO => exact (rr_ HO_5.out)); (case aS => exact qz32); (case aL => have := LMc16.out; omega); intro v263 w24 ho hb hg hat; rw [← Ny262.out] at ho; replace BK255 := aM (blk_grown (bk_ BK255.out) hg (Kd.R_ne HO_5.out BK255.out (by decide))); replace HB := aM (hb); have HO264 := aM (ho); clear HO_5; clear ho hb hg hat; obtain ⟨hcz25_0, hcz25_1, hcz25_2, hfz25_0, hfz25_1, hfz25_2⟩ := b6_ BK255.out)))
     go_ret
     exact ⟨_, qzw, by (with_reducible repeat (first | apply Kd.R_alloc | apply Kd.R_drewN | apply Kd.R_drew)); exact HO264.out, qz1⟩
     }
     }
     {
     exact an_ c16 H
     }
     }
     {
     rw [if_neg c15] at H
     have c15b0 := decide_eq_false c15
     clear c15
     by_cases c26 : (wrap64 (Int.tdiv a1 a0_0)) < (wrap64 (a0_1 - 1))
     {
     rw [if_pos c26] at H
     have c26b0 := decide_eq_true c26
     clear c26
     by_cases c27 : x5_10.length < 17592186044416
     {
     rw [if_pos c27] at H
     have LMc27 := aM c27
     clear c27
     obtain ⟨y268, hy268⟩ : ∃ y_ : List Int, y_ = (x5_10 ++ [wrap64 (a1 + a0_0)]) := ⟨_, rfl⟩
     replace H : (some y268) = some r := by first | (rw [hy268]; with_reducible exact H) | (have H2_ := (Option.bind_some _ _).symm.trans H; rw [hy268]; with_reducible exact H2_) | (have H2_ := (Option.bind_some _ _).symm.trans H; with_reducible exact H2_) | with_reducible exact H | (rw [hy268]; exact H) | exact H
     have Ny268 := aM hy268
     clear hy268
     obtain rfl := Option.some.inj H
     simp only [Option.some.injEq, Prod.mk.injEq] at H
     obtain ⟨rfl⟩ := H
     obtain ⟨hcz28_0, hcz28_1, hcz28_2, hfz28_0, hfz28_1, hfz28_2⟩ := b6_ BK255.out
     go_wp2_with (first | ((with_reducible refine gate_builtin (b := .append) (xs := #[.tmp 47, .tmp 52]) rfl ?_); at_builtin; refine Kd.R_append (Kd.int .i64) (w0 := w) w.heap.size rfl (.tmp 47) (.tmp 52) 24 3 (.int .i64 0) 8 rfl Try.underlying24 info3 rfl (by decide) (by omega) u5 x5_10 (wrap64 (a1 + a0_0)) [.int .i64 (wrap64 (a1 + a0_0))] (fun _ => True) (fun _ => False) rfl rfl ?aP (fun _ hk => hk.elim) ?aF ?aO ?aB ?aS ?aL ?_; (case aP => exact rfl); (case aB => exact qz1); (case aF => exact qz21); (case aO => exact (rr_ HO_5.out)); (case aS => exact qz32); (case aL => have := LMc27.out; omega); intro v269 w29 ho hb hg hat; rw [← Ny268.out] at ho; replace BK255 := aM (blk_grown (bk_ BK255.out) hg (Kd.R_ne HO_5.out BK255.out (by decide))); replace HB := aM (hb); have HO270 := aM (ho); clear HO_5; clear ho hb hg hat))
     repeat (go_quiet (first | ((with_reducible refine gate_builtin (b := .append) (xs := #[.tmp 47, .tmp 52]) rfl ?_); at_builtin; refine Kd.R_append (Kd.int .i64) (w0 := w) w.heap.size rfl (.tmp 47) (.tmp 52) 24 3 (.int .i64 0) 8 rfl Try.underlying24 info3 rfl (by decide) (by omega) u5 x5_10 (wrap64 (a1 + a0_0)) [.int .i64 (wrap64 (a1 + a0_0))] (fun _ => True) (fun _ => False) rfl rfl ?aP (fun _ hk => hk.elim) ?aF ?aO ?aB ?aS ?aL ?_; (case aP => exact rfl); (case aB => exact qz1); (case aF => exact qz21); (case aO => exact (rr_ HO_5.out)); (case aS => exact qz32); (case aL => have := LMc27.out; omega); intro v269 w29 ho hb hg hat; rw [← Ny268.out] at ho; replace BK255 := aM (blk_grown (bk_ BK255.out) hg (Kd.R_ne HO_5.out BK255.out (by decide))); replace HB := aM (hb); have HO270 := aM (ho); clear HO_5; clear ho hb hg hat)); try go_wp2_with (first | ((with_reducible refine gate_builtin (b := .append) (xs := #[.tmp 47, .tmp 52]) rfl ?_); at_builtin; refine Kd.R_append (Kd.int .i64) (w0 := w) w.heap.size rfl (.tmp 47) (.tmp 52) 24 3 (.int .i64 0) 8 rfl Try.underlying24 info3 rfl (by decide) (by omega) u5 x5_10 (wrap64 (a1 + a0_0)) [.int .i64 (wrap64 (a1 + a0_0))] (fun _ => True) (fun _ => False) rfl rfl ?aP (fun _ hk => hk.elim) ?aF ?aO ?aB ?aS ?aL ?_; (case aP => exact rfl); (case aB => exact qz1); (case aF => exact qz21); (case aO => exact (rr_ HO_5.out)); (case aS => exact qz32); (case aL => have := LMc27.out; omega); intro v269 w29 ho hb hg hat; rw [← Ny268.out] at ho; replace BK255 := aM (blk_grown (bk_ BK255.out) hg (Kd.R_ne HO_5.out BK255.out (by decide))); replace HB := aM (hb); have HO270 := aM (ho); clear HO_5; clear ho hb hg hat)))
     go_ret
     exact ⟨_, qzw, by (with_reducible repeat (first | apply Kd.R_alloc | apply Kd.R_drewN | apply Kd.R_drew)); exact HO270.out, qz1⟩
     }
     {
     exact an_ c27 H
     }
     }
     {
     rw [if_neg c26] at H
     have c26b0 := decide_eq_false c26
     clear c26
     obtain rfl := Option.some.inj H
     simp only [Option.some.injEq, Prod.mk.injEq] at H
     obtain ⟨rfl⟩ := H
     obtain ⟨hcz30_0, hcz30_1, hcz30_2, hfz30_0, hfz30_1, hfz30_2⟩ := b6_ BK255.out
     go_wp2
     repeat (go_quiet (fail); try go_wp2)
     go_ret
     exact ⟨_, qzw, by (with_reducible repeat (first | apply Kd.R_alloc | apply Kd.R_drewN | apply Kd.R_drew)); exact HO_5.out, qz1⟩

     }
     }
 }
/-! ### impl_near: function 66 -/
def impl_near.l0 : Nat → Bool → List Int → List Int → Int → Int → Int → Int → List Int → Option (List Int)
 | 0, _, _, _, _, _, _, _, _ => none
 | k + 1, x2, x7, x13, x14, x15, x272000, x272001, x272002 => if x15 < x14 then (if 0 ≤ x15 then (if x15 < (x13.length : Int) then (if 0 ≤ (rd x13 x15) then (if (rd x13 x15) < (x272002.length : Int) then (if (rd x272002 (rd x13 x15)) = 0 then (impl_near.l0 k x2 x7 x13 x14 (wrap64 (x15 + 1)) x272000 x272001 x272002) else (if x2 = true then (if (rd x272002 (rd x13 x15)) = 2 then (impl_near.l0 k x2 x7 x13 x14 (wrap64 (x15 + 1)) x272000 x272001 x272002) else (if x7.length < 17592186044416 then (impl_near.l0 k x2 (x7 ++ [rd x13 x15]) x13 x14 (wrap64 (x15 + 1)) x272000 x272001 x272002) else (none))) else (if x7.length < 17592186044416 then (impl_near.l0 k x2 (x7 ++ [rd x13 x15]) x13 x14 (wrap64 (x15 + 1)) x272000 x272001 x272002) else (none)))) else (none)) else (none)) else (none)) else (none)) else (some x7)
def impl_near.f (k : Nat) (a0_0 : Int) (a0_1 : Int) (l0_2 : List Int) (a1 : Int) (a2 : Bool) : Option (List Int) := (impl_beside.f k a0_0 a0_1 l0_2 a1).bind fun t272 => (impl_near.l0 k a2 ([] : List Int) t272 (t272.length : Int) 0 a0_0 a0_1 l0_2)
theorem impl_near.mono_l : ∀ k, (∀ y0 y1 y2 y3 y4 y5 y6 y7, LeO (impl_near.l0 k y0 y1 y2 y3 y4 y5 y6 y7) (impl_near.l0 (k + 1) y0 y1 y2 y3 y4 y5 y6 y7))
 | 0 => fun _ _ _ _ _ _ _ _ r h => by simp [impl_near.l0] at h
 | k + 1 => by
  have ih0 := impl_near.mono_l k
  {
  intro y0 y1 y2 y3 y4 y5 y6 y7
  unfold impl_near.l0
  have j0 := @impl_beside.mono
  exact qL
  }
theorem impl_near.mono : ∀ a0 a1 a2 a3 a4 k, LeO (impl_near.f k a0 a1 a2 a3 a4) (impl_near.f (k + 1) a0 a1 a2 a3 a4) := by
 intro a0 a1 a2 a3 a4 k
 have ih0 := impl_near.mono_l k
 unfold impl_near.f
 have j0 := @impl_beside.mono
 exact qL
set_option maxHeartbeats 8000000 in
set_option maxRecDepth 100000 in
theorem impl_near.calls (k : Nat) (a0_0 : Int) (a0_1 : Int) (A0_2 : Option Addr) (c0_2 : Nat) (l0_2 : List Int) (a1 : Int) (a2 : Bool) (r : List Int) (w : World) (hr0_2 : Kd.C (Kd.int .i64) w A0_2 l0_2.length l0_2) (hc0_2 : l0_2.length ≤ c0_2) (h : impl_near.f k a0_0 a0_1 l0_2 a1 a2 = some r) :
  Calls Try.prog 66 #[.agg #[.int .i64 a0_0, .int .i64 a0_1, .slice A0_2 l0_2.length c0_2], .int .i64 a1, .bool a2] w fun e w' => ∃ v0_ : Value, e = .returned (v0_) ∧ Kd.R (Kd.int .i64) 3 w' w.heap.size (fun _ => True) v0_ r ∧ Below w.heap.size w w' := by
 have hu43 := Try.underlying43
 have HR0_2 := aM hr0_2
 have HC0_2 := aM hc0_2
 clear hr0_2 hc0_2
 have HB := aM (Below.refl w.heap.size w)
 have H : ((impl_beside.f k a0_0 a0_1 l0_2 a1).bind fun t272 => (impl_near.l0 k a2 ([] : List Int) t272 (t272.length : Int) 0 a0_0 a0_1 l0_2)) = some r := h
 clear h
 replace H := Option.bind_eq_some_iff.mp H
 obtain ⟨t272, A40, H⟩ := H
 replace H : (impl_near.l0 k a2 ([] : List Int) t272 (t272.length : Int) 0 a0_0 a0_1 l0_2) = some r := H
 have A4 := aM A40
 clear A40
 have H' := aM H
 clear H
 go_enter Try.func66, Try.ntmps66
 go_wp2_with (first | ((with_reducible refine gate_dst (N := 3) rfl ?_); refine bx_ 3 #[.int .i64 a0_0, .int .i64 a0_1, .slice A0_2 l0_2.length c0_2] 43 ?_; intro gb271 hg w5 hbox hb; have BK271 := aM (hbox); have GW271 := aM (bz_ w hg qz1); have GE271 := GW271; replace HB := bS_ hb; clear hb hbox hg; obtain ⟨hcz6_0, hcz6_1, hcz6_2, hfz6_0, hfz6_1, hfz6_2⟩ := b6_ BK271.out) | ((with_reducible refine gate_callee (f := 68) rfl ?_); refine goesL_ (some 13) rfl rfl Try.func68 (by kernel_rfl) rfl #[.agg #[.int .i64 a0_0, .int .i64 a0_1, .slice A0_2 l0_2.length c0_2], .int .i64 a1] rfl qz4 ?_; (with_reducible refine (impl_beside.calls k a0_0 a0_1 _ _ l0_2 a1 t272 _ ?side1 ?side2 A4.out).mono ?_); (case side1 => exact qz6); (case side2 => exact HC0_2.out); rintro e w7 ⟨v273, rfl, ho0, hb⟩; refine ⟨_, rfl, ?_⟩; have HO274 := aM (Kd.R_lower ho0 (below_size qz1)); replace BK271 := bB_ BK271 hb; replace HB := bS_ hb; (try clear hb ho0); obtain ⟨Ao8, co8, eo8⟩ := Kd.R_slice HO274.out; subst eo8))
 go_loopg [7, 15] k (fun kq v7 v15 w' => ∃ (x7_1 : List Int) (x15_1 : Int), v15 = .int .i64 x15_1 ∧ Aside0 (impl_near.l0 kq a2 x7_1 t272 (t272.length : Int) x15_1 a0_0 a0_1 l0_2 = some r) ∧ Aside0 (kq ≤ k) ∧ Aside0 (Kd.R (Kd.int .i64) 3 w' w.heap.size (fun k_ => some k_ ≠ ((.slice Ao8 t272.length co8) : Value).ownBlock) v7 x7_1) ∧ Aside0 (Kd.R (Kd.int .i64) 3 w' w.heap.size (fun k_ => some k_ ≠ (v7 : Value).ownBlock) (.slice Ao8 t272.length co8) t272) ∧ Aside0 (w'.heap[gb271]? = some (.cells #[.int .i64 a0_0, .int .i64 a0_1, (.slice A0_2 l0_2.length c0_2)] 43 (0, 0))) ∧ Aside0 (Below w.heap.size w w'))
 case atStart => exact ⟨(([] : List Int)), (0), qz8, H', ⟨Nat.le_refl _⟩, ⟨by first | exact Kd.R_nil _ _ _ _ _ | exact Kd.N_nil _ _ _ _ _ | exact Kd.V_nil _ _ _ _ _ | exact Kd.Q_nil _ _ _ _ _ | exact Kd.S_nil _ _ _ _ _⟩, ⟨by (with_reducible repeat (first | apply Kd.R_alloc | apply Kd.R_drewN | apply Kd.R_drew)); exact Kd.R_mono HO274.out (fun _ hk => (by simp [Value.ownBlock]))⟩, ⟨bk_ BK271.out⟩, ⟨qz1⟩⟩
 case round =>
  clear H'
  try clear p2
  try clear c6
  try clear hcz6_0 hcz6_1 hcz6_2 hfz6_0 hfz6_1 hfz6_2
  obtain ⟨x7_1, x15_1, rfl, HA, HK1, HO_7, HO_13, BK271, HB⟩ := hrel
  cases gk with
  | zero => exact absurd HA.out (by simp [impl_near.l0])
  | succ k1 =>
   have H := HA.out
   clear HA
   simp only [impl_near.l0] at H
   by_cases c9 : x15_1 < (t272.length : Int)
   {
   rw [if_pos c9] at H
   have c9b0 := decide_eq_true c9
   clear c9
   by_cases c10 : 0 ≤ x15_1
   {
   rw [if_pos c10] at H
   have c10b0 := decide_eq_true c10
   clear c10
   by_cases c11 : x15_1 < (t272.length : Int)
   {
   rw [if_pos c11] at H
   have c11b0 := decide_eq_true c11
   clear c11
   by_cases c12 : 0 ≤ (rd t272 x15_1)
   {
   rw [if_pos c12] at H
   have c12b0 := decide_eq_true c12
   clear c12
   by_cases c13 : (rd t272 x15_1) < (l0_2.length : Int)
   {
   rw [if_pos c13] at H
   have c13b0 := decide_eq_true c13
   clear c13
   by_cases c14 : (rd l0_2 (rd t272 x15_1)) = 0
   {
   rw [if_pos c14] at H
   have c14b0 := beq_iff_eq.mpr c14
   have c14b1 := bne_eq_false_iff_eq.mpr c14
   clear c14
   have H' := aM H
   clear H
   have p275 : 0 ≤ (x15_1 : Int) := dt_
   have q275 : x15_1 < (t272.length : Int) := dt_
   obtain ⟨ad275, e275, hx275_0⟩ := Kd.at_int (Kd.R_reads' HO_13.out).2.2 x15_1 p275 q275
   cases e275
   replace p275 := eq_true p275
   replace q275 := eq_true q275
   obtain ⟨hcz15_0, hcz15_1, hcz15_2, hfz15_0, hfz15_1, hfz15_2⟩ := b6_ BK271.out
   have p276 : 0 ≤ ((rd t272 x15_1) : Int) := dt_
   have q276 : (rd t272 x15_1) < (l0_2.length : Int) := dt_
   obtain ⟨ad276, e276, hx276_0⟩ := Kd.at_int HR0_2.out (rd t272 x15_1) p276 q276
   cases e276
   replace hx276_0 := cB_ hx276_0
   replace p276 := eq_true p276
   replace q276 := eq_true q276
   go_wp2
   go_roundg k1
   case measure => have := HK1.out; omega
   case rel => exact ⟨(x7_1), (wrap64 (x15_1 + 1)), qz8, H', ⟨by have := HK1.out; omega⟩, ⟨rm_ HO_7.out⟩, ⟨rm_ HO_13.out⟩, ⟨bk_ BK271.out⟩, ⟨qz1⟩⟩
   }
   {
   rw [if_neg c14] at H
   have c14b0 := beq_eq_false_iff_ne.mpr c14
   have c14b1 := bne_iff_ne.mpr c14
   by_cases c16 : a2 = true
   {
   subst c16
   rw [if_pos rfl] at H
   by_cases c17 : (rd l0_2 (rd t272 x15_1)) = 2
   {
   rw [if_pos c17] at H
   have c17b0 := beq_iff_eq.mpr c17
   have c17b1 := bne_eq_false_iff_eq.mpr c17
   clear c17
   have H' := aM H
   clear H
   have p275 : 0 ≤ (x15_1 : Int) := dt_
   have q275 : x15_1 < (t272.length : Int) := dt_
   obtain ⟨ad275, e275, hx275_0⟩ := Kd.at_int (Kd.R_reads' HO_13.out).2.2 x15_1 p275 q275
   cases e275
   replace p275 := eq_true p275
   replace q275 := eq_true q275
   obtain ⟨hcz18_0, hcz18_1, hcz18_2, hfz18_0, hfz18_1, hfz18_2⟩ := b6_ BK271.out
   have p276 : 0 ≤ ((rd t272 x15_1) : Int) := dt_
   have q276 : (rd t272 x15_1) < (l0_2.length : Int) := dt_
   obtain ⟨ad276, e276, hx276_0⟩ := Kd.at_int HR0_2.out (rd t272 x15_1) p276 q276
   cases e276
   replace hx276_0 := cB_ hx276_0
   replace p276 := eq_true p276
   replace q276 := eq_true q276
   go_wp2
   go_roundg k1
   case measure => have := HK1.out; omega
   case rel => exact ⟨(x7_1), (wrap64 (x15_1 + 1)), qz8, H', ⟨by have := HK1.out; omega⟩, ⟨rm_ HO_7.out⟩, ⟨rm_ HO_13.out⟩, ⟨bk_ BK271.out⟩, ⟨qz1⟩⟩
   }
   {
   rw [if_neg c17] at H
   have c17b0 := beq_eq_false_iff_ne.mpr c17
   have c17b1 := bne_iff_ne.mpr c17
   by_cases c19 : x7_1.length < 17592186044416
   {
   rw [if_pos c19] at H
   have LMc19 := aM c19
   clear c19
   obtain ⟨y277, hy277⟩ : ∃ y_ : List Int, y_ = (x7_1 ++ [rd t272 x15_1]) := ⟨_, rfl⟩
   replace H : (impl_near.l0 k1 true y277 t272 (t272.length : Int) (wrap64 (x15_1 + 1)) a0_0 a0_1 l0_2) = some r := by first | (rw [hy277]; with_reducible exact H) | (have H2_ := (Option.bind_some _ _).symm.trans H; rw [hy277]; with_reducible exact H2_) | (have H2_ := (Option.bind_some _ _).symm.trans H; with_reducible exact H2_) | with_reducible exact H | (rw [hy277]; exact H) | exact H
   have Ny277 := aM hy277
   clear hy277
   have H' := aM H
   clear H
   have p275 : 0 ≤ (x15_1 : Int) := dt_
   have q275 : x15_1 < (t272.length : Int) := dt_
   obtain ⟨ad275, e275, hx275_0⟩ := Kd.at_int (Kd.R_reads' HO_13.out).2.2 x15_1 p275 q275
   cases e275
   replace p275 := eq_true p275
   replace q275 := eq_true q275
   obtain ⟨hcz20_0, hcz20_1, hcz20_2, hfz20_0, hfz20_1, hfz20_2⟩ := b6_ BK271.out
   have p276 : 0 ≤ ((rd t272 x15_1) : Int) := dt_
   have q276 : (rd t272 x15_1) < (l0_2.length : Int) := dt_
   obtain ⟨ad276, e276, hx276_0⟩ := Kd.at_int HR0_2.out (rd t272 x15_1) p276 q276
   cases e276
   replace hx276_0 := cB_ hx276_0
   replace p276 := eq_true p276
   replace q276 := eq_true q276
   go_wp2_with (first | ((with_reducible refine gate_builtin (b := .append) (xs := #[.tmp 34, .tmp 36]) rfl ?_); at_builtin; refine Kd.R_append (Kd.int .i64) (w0 := w) w.heap.size rfl (.tmp 34) (.tmp 36) 24 3 (.int .i64 0) 8 rfl Try.underlying24 info3 rfl (by decide) (by omega) u7 x7_1 (rd t272 x15_1) [.int .i64 (rd t272 x15_1)] (fun k_ => some k_ ≠ (.slice (some ad275) t272.length co8 : Value).ownBlock) (fun _ => False) rfl rfl ?aP (fun _ hk => hk.elim) ?aF ?aO ?aB ?aS ?aL ?_; (case aP => exact rfl); (case aB => exact qz1); (case aF => exact (fun k_ hk => Kd.fresh' (Kd.R_lt (rr_ HO_13.out)) k_ hk)); (case aO => exact (rr_ HO_7.out)); (case aS => exact qz32); (case aL => have := LMc19.out; omega); intro v278 w21 ho hb hg hat; rw [← Ny277.out] at ho; replace HO_13 := aM (Kd.R_after (ok := (fun _ => True)) (by (with_reducible repeat (first | apply Kd.R_alloc | apply Kd.R_drewN | apply Kd.R_drew)); exact Kd.R_mono HO_13.out (fun _ hk => ⟨trivial, hk⟩)) hg hat); replace BK271 := aM (blk_grown (bk_ BK271.out) hg (Kd.R_ne HO_7.out BK271.out (by decide))); replace HB := aM (hb); have HO279 := aM (ho); clear HO_7; clear ho hb hg hat))
   go_roundg k1
   case measure => have := HK1.out; omega
   case rel => exact ⟨(y277), (wrap64 (x15_1 + 1)), qz8, H', ⟨by have := HK1.out; omega⟩, ⟨rm_ HO279.out⟩, ⟨by (with_reducible repeat (first | apply Kd.R_alloc | apply Kd.R_drewN | apply Kd.R_drew)); exact Kd.R_mono HO_13.out (fun _ hk => hk.2)⟩, ⟨bk_ BK271.out⟩, ⟨qz1⟩⟩
   }
   {
   exact an_ c19 H
   }
   }
   }
   {
   replace c16 := Bool.eq_false_iff.mpr c16
   subst c16
   rw [if_neg (show ¬ (false = true) by decide)] at H
   by_cases c22 : x7_1.length < 17592186044416
   {
   rw [if_pos c22] at H
   have LMc22 := aM c22
   clear c22
   obtain ⟨y280, hy280⟩ : ∃ y_ : List Int, y_ = (x7_1 ++ [rd t272 x15_1]) := ⟨_, rfl⟩
   replace H : (impl_near.l0 k1 false y280 t272 (t272.length : Int) (wrap64 (x15_1 + 1)) a0_0 a0_1 l0_2) = some r := by first | (rw [hy280]; with_reducible exact H) | (have H2_ := (Option.bind_some _ _).symm.trans H; rw [hy280]; with_reducible exact H2_) | (have H2_ := (Option.bind_some _ _).symm.trans H; with_reducible exact H2_) | with_reducible exact H | (rw [hy280]; exact H) | exact H
   have Ny280 := aM hy280
   clear hy280
   have H' := aM H
   clear H
   have p275 : 0 ≤ (x15_1 : Int) := dt_
   have q275 : x15_1 < (t272.length : Int) := dt_
   obtain ⟨ad275, e275, hx275_0⟩ := Kd.at_int (Kd.R_reads' HO_13.out).2.2 x15_1 p275 q275
   cases e275
   replace p275 := eq_true p275
   replace q275 := eq_true q275
   obtain ⟨hcz23_0, hcz23_1, hcz23_2, hfz23_0, hfz23_1, hfz23_2⟩ := b6_ BK271.out
   have p276 : 0 ≤ ((rd t272 x15_1) : Int) := dt_
   have q276 : (rd t272 x15_1) < (l0_2.length : Int) := dt_
   obtain ⟨ad276, e276, hx276_0⟩ := Kd.at_int HR0_2.out (rd t272 x15_1) p276 q276
   cases e276
   replace hx276_0 := cB_ hx276_0
   replace p276 := eq_true p276
   replace q276 := eq_true q276
   go_wp2_with (first | ((with_reducible refine gate_builtin (b := .append) (xs := #[.tmp 34, .tmp 36]) rfl ?_); at_builtin; refine Kd.R_append (Kd.int .i64) (w0 := w) w.heap.size rfl (.tmp 34) (.tmp 36) 24 3 (.int .i64 0) 8 rfl Try.underlying24 info3 rfl (by decide) (by omega) u7 x7_1 (rd t272 x15_1) [.int .i64 (rd t272 x15_1)] (fun k_ => some k_ ≠ (.slice (some ad275) t272.length co8 : Value).ownBlock) (fun _ => False) rfl rfl ?aP (fun _ hk => hk.elim) ?aF ?aO ?aB ?aS ?aL ?_; (case aP => exact rfl); (case aB => exact qz1); (case aF => exact (fun k_ hk => Kd.fresh' (Kd.R_lt (rr_ HO_13.out)) k_ hk)); (case aO => exact (rr_ HO_7.out)); (case aS => exact qz32); (case aL => have := LMc22.out; omega); intro v281 w24 ho hb hg hat; rw [← Ny280.out] at ho; replace HO_13 := aM (Kd.R_after (ok := (fun _ => True)) (by (with_reducible repeat (first | apply Kd.R_alloc | apply Kd.R_drewN | apply Kd.R_drew)); exact Kd.R_mono HO_13.out (fun _ hk => ⟨trivial, hk⟩)) hg hat); replace BK271 := aM (blk_grown (bk_ BK271.out) hg (Kd.R_ne HO_7.out BK271.out (by decide))); replace HB := aM (hb); have HO282 := aM (ho); clear HO_7; clear ho hb hg hat))
   go_roundg k1
   case measure => have := HK1.out; omega
   case rel => exact ⟨(y280), (wrap64 (x15_1 + 1)), qz8, H', ⟨by have := HK1.out; omega⟩, ⟨rm_ HO282.out⟩, ⟨by (with_reducible repeat (first | apply Kd.R_alloc | apply Kd.R_drewN | apply Kd.R_drew)); exact Kd.R_mono HO_13.out (fun _ hk => hk.2)⟩, ⟨bk_ BK271.out⟩, ⟨qz1⟩⟩
   }
   {
   exact an_ c22 H
   }
   }
   }
   }
   {
   exact an_ c13 H
   }
   }
   {
   exact an_ c12 H
   }
   }
   {
   exact an_ c11 H
   }
   }
   {
   exact an_ c10 H
   }
   }
   {
   rw [if_neg c9] at H
   have c9b0 := decide_eq_false c9
   clear c9
   obtain rfl := Option.some.inj H
   simp only [Option.some.injEq, Prod.mk.injEq] at H
   obtain ⟨rfl⟩ := H
   go_wp2
   go_ret
   exact ⟨_, qzw, by (with_reducible repeat (first | apply Kd.R_alloc | apply Kd.R_drewN | apply Kd.R_drew)); exact Kd.R_mono HO_7.out (fun _ hk => trivial), qz1⟩

   }
/-! ### impl_hasInt: function 67 -/
def impl_hasInt.l0 : Nat → Int → List Int → Int → Int → Option (Bool)
 | 0, _, _, _, _ => none
 | k + 1, x1, x7, x8, x9 => if x9 < x8 then (if 0 ≤ x9 then (if x9 < (x7.length : Int) then (if (rd x7 x9) = x1 then (some true) else (impl_hasInt.l0 k x1 x7 x8 (wrap64 (x9 + 1)))) else (none)) else (none)) else (some false)
def impl_hasInt.f (k : Nat) (l0 : List Int) (a1 : Int) : Option (Bool) := impl_hasInt.l0 k a1 l0 (l0.length : Int) 0
theorem impl_hasInt.mono_l : ∀ k, (∀ y0 y1 y2 y3, LeO (impl_hasInt.l0 k y0 y1 y2 y3) (impl_hasInt.l0 (k + 1) y0 y1 y2 y3))
 | 0 => fun _ _ _ _ r h => by simp [impl_hasInt.l0] at h
 | k + 1 => by
  have ih0 := impl_hasInt.mono_l k
  {
  intro y0 y1 y2 y3
  unfold impl_hasInt.l0
  exact qL
  }
theorem impl_hasInt.mono : ∀ a0 a1 k, LeO (impl_hasInt.f k a0 a1) (impl_hasInt.f (k + 1) a0 a1) := by
 intro a0 a1 k
 have ih0 := impl_hasInt.mono_l k
 unfold impl_hasInt.f
 exact qL
set_option maxHeartbeats 8000000 in
set_option maxRecDepth 100000 in
theorem impl_hasInt.calls (k : Nat) (A0 : Option Addr) (c0 : Nat) (l0 : List Int) (a1 : Int) (r : Bool) (w : World) (hr0 : Kd.C (Kd.int .i64) w A0 l0.length l0) (hc0 : l0.length ≤ c0) (h : impl_hasInt.f k l0 a1 = some r) :
  Calls Try.prog 67 #[.slice A0 l0.length c0, .int .i64 a1] w fun e w' => e = .returned (.bool r) ∧ Drawn0 w w' := by
 have HR0 := aM hr0
 have HC0 := aM hc0
 clear hr0 hc0
 have H : (impl_hasInt.l0 k a1 l0 (l0.length : Int) 0) = some r := h
 clear h
 have H' := aM H
 clear H
 go_enter Try.func67, Try.ntmps67
 go_wp2
 go_loopg [9] k (fun kq v9 w' => ∃ (x9_1 : Int), v9 = .int .i64 x9_1 ∧ Aside0 (impl_hasInt.l0 kq a1 l0 (l0.length : Int) x9_1 = some r) ∧ Aside0 (kq ≤ k) ∧ Drawn0 w w')
 case atStart => exact ⟨(0), qz8, H', ⟨Nat.le_refl _⟩, by repeat (first | exact Drawn0.refl _ | apply Drawn0.step)⟩
 case round =>
  clear H'
  try clear p2
  obtain ⟨x9_1, rfl, HA, HK1, ⟨m1, rfl⟩⟩ := hrel
  cases gk with
  | zero => exact absurd HA.out (by simp [impl_hasInt.l0])
  | succ k1 =>
   have H := HA.out
   clear HA
   simp only [impl_hasInt.l0] at H
   by_cases c3 : x9_1 < (l0.length : Int)
   {
   rw [if_pos c3] at H
   have c3b0 := decide_eq_true c3
   clear c3
   by_cases c4 : 0 ≤ x9_1
   {
   rw [if_pos c4] at H
   have c4b0 := decide_eq_true c4
   clear c4
   by_cases c5 : x9_1 < (l0.length : Int)
   {
   rw [if_pos c5] at H
   have c5b0 := decide_eq_true c5
   clear c5
   by_cases c6 : (rd l0 x9_1) = a1
   {
   rw [if_pos c6] at H
   have c6b0 := beq_iff_eq.mpr c6
   have c6b1 := bne_eq_false_iff_eq.mpr c6
   clear c6
   obtain rfl := Option.some.inj H
   simp only [Option.some.injEq, Prod.mk.injEq] at H
   obtain ⟨rfl⟩ := H
   have p283 : 0 ≤ (x9_1 : Int) := dt_
   have q283 : x9_1 < (l0.length : Int) := dt_
   obtain ⟨ad283, e283, hx283_0⟩ := Kd.at_int HR0.out x9_1 p283 q283
   cases e283
   replace p283 := eq_true p283
   replace q283 := eq_true q283
   go_wp2
   go_ret
   exact ⟨by first | rfl | (simp; done) | (simp [*]; done), by repeat (first | exact Drawn0.refl _ | apply Drawn0.step)⟩
   }
   {
   rw [if_neg c6] at H
   have c6b0 := beq_eq_false_iff_ne.mpr c6
   have c6b1 := bne_iff_ne.mpr c6
   have H' := aM H
   clear H
   have p283 : 0 ≤ (x9_1 : Int) := dt_
   have q283 : x9_1 < (l0.length : Int) := dt_
   obtain ⟨ad283, e283, hx283_0⟩ := Kd.at_int HR0.out x9_1 p283 q283
   cases e283
   replace p283 := eq_true p283
   replace q283 := eq_true q283
   go_wp2
   go_roundg k1
   case measure => have := HK1.out; omega
   case rel => exact ⟨(wrap64 (x9_1 + 1)), qz8, H', ⟨by have := HK1.out; omega⟩, by repeat (first | exact Drawn0.refl _ | apply Drawn0.step)⟩
   }
   }
   {
   exact an_ c5 H
   }
   }
   {
   exact an_ c4 H
   }
   }
   {
   rw [if_neg c3] at H
   have c3b0 := decide_eq_false c3
   clear c3
   obtain rfl := Option.some.inj H
   simp only [Option.some.injEq, Prod.mk.injEq] at H
   obtain ⟨rfl⟩ := H
   go_wp2
   go_ret
   exact ⟨by first | rfl | (simp; done) | (simp [*]; done), by repeat (first | exact Drawn0.refl _ | apply Drawn0.step)⟩

   }
end Go.Proofs.Ytankmdbbgepmbaa.PFnChosen
