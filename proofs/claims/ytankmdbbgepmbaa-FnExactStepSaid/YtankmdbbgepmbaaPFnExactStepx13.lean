-- Made by a program of this session out of the translation. Lean checks it.
import Derived.Test.YtankmdbbgepmbaaPFnExactStepx12
namespace Go.Proofs.Ytankmdbbgepmbaa.PFnExactStep
open Go.RowKit Go.Proofs.YtankmdbbgepmbaaW.PrintWords Go.Proofs.YtankmdbbgepmbaaW.PrintLast Go.Proofs.YtankmdbbgepmbaaW.PrintMore
attribute [local go_sem] max2_int min2_int max_two min_two max_three min_three max_four min_four   -- for this text's walks alone
set_option linter.unusedVariables false
set_option linter.unusedSimpArgs false

/-! ### impl_isCell: function 74 -/
def impl_isCell.f (a0_0 : Int) (a0_1 : Int) (l0_2 : List Int) (a1 : Int) : Option (Bool) := (impl_in.f a1 0 (wrap64 ((l0_2.length : Int) - 1))).bind fun t321 => (some t321)
set_option maxHeartbeats 8000000 in
set_option maxRecDepth 100000 in
theorem impl_isCell.calls (a0_0 : Int) (a0_1 : Int) (A0_2 : Option Addr) (c0_2 : Nat) (l0_2 : List Int) (a1 : Int) (r : Bool) (w : World) (hr0_2 : Kd.C (Kd.int .i64) w A0_2 l0_2.length l0_2) (hc0_2 : l0_2.length ≤ c0_2) (h : impl_isCell.f a0_0 a0_1 l0_2 a1 = some r) :
  Calls Try.prog 74 #[.agg #[.int .i64 a0_0, .int .i64 a0_1, .slice A0_2 l0_2.length c0_2], .int .i64 a1] w fun e w' => e = .returned (.bool r) ∧ Below w.heap.size w w' := by
 have hu43 := Try.underlying43
 have HR0_2 := aM hr0_2
 have HC0_2 := aM hc0_2
 clear hr0_2 hc0_2
 have HB := aM (Below.refl w.heap.size w)
 have H : ((impl_in.f a1 0 (wrap64 ((l0_2.length : Int) - 1))).bind fun t321 => (some t321)) = some r := h
 clear h
 replace H := Option.bind_eq_some_iff.mp H
 obtain ⟨t321, A30, H⟩ := H
 replace H : (some t321) = some r := H
 have A3 := aM A30
 clear A30
 obtain rfl := Option.some.inj H
 simp only [Option.some.injEq, Prod.mk.injEq] at H
 obtain ⟨rfl⟩ := H
 go_enter Try.func74, Try.ntmps74
 go_wp2_with (first | ((with_reducible refine gate_dst (N := 2) rfl ?_); refine bx_ 2 #[.int .i64 a0_0, .int .i64 a0_1, .slice A0_2 l0_2.length c0_2] 43 ?_; intro gb320 hg w4 hbox hb; have BK320 := aM (hbox); have GW320 := aM (bz_ w hg qz1); have GE320 := GW320; replace HB := bS_ hb; clear hb hbox hg; obtain ⟨hcz5_0, hcz5_1, hcz5_2, hfz5_0, hfz5_1, hfz5_2⟩ := b6_ BK320.out) | ((with_reducible refine gate_callee (f := 88) rfl ?_); refine goesL_ (some 10) rfl rfl Try.func88 (by kernel_rfl) rfl #[.int .i64 a1, .int .i64 0, .int .i64 (wrap64 ((l0_2.length : Int) - 1))] rfl qz2 ?_; (with_reducible refine (impl_in.calls a1 0 (wrap64 ((l0_2.length : Int) - 1)) t321 _ A3.out).mono ?_); rintro e w' ⟨rfl, ⟨nd, rfl⟩⟩; refine ⟨_, rfl, ?_⟩))
 go_ret
 exact ⟨qzw, qz1⟩

/-! ### impl_KindAt: function 75 -/
def impl_KindAt.f (k : Nat) (a0_0 : Int) (a0_1 : Int) (l0_2 : List Int) (a1 : Int) : Option (Int) := (impl_FloorOk.f k a0_0 a0_1 l0_2).bind fun t323 => (if t323 = true then ((impl_isCell.f a0_0 a0_1 l0_2 a1).bind fun t324 => (if t324 = true then (if 0 ≤ a1 then (if a1 < (l0_2.length : Int) then (some (rd l0_2 a1)) else (none)) else (none)) else (some 0))) else (some 0))
theorem impl_KindAt.mono : ∀ a0 a1 a2 a3 k, LeO (impl_KindAt.f k a0 a1 a2 a3) (impl_KindAt.f (k + 1) a0 a1 a2 a3) := by
 intro a0 a1 a2 a3 k
 unfold impl_KindAt.f
 have j0 := @impl_FloorOk.mono
 exact qL
set_option maxHeartbeats 8000000 in
set_option maxRecDepth 100000 in
theorem impl_KindAt.calls (k : Nat) (a0_0 : Int) (a0_1 : Int) (A0_2 : Option Addr) (c0_2 : Nat) (l0_2 : List Int) (a1 : Int) (r : Int) (w : World) (hr0_2 : Kd.C (Kd.int .i64) w A0_2 l0_2.length l0_2) (hc0_2 : l0_2.length ≤ c0_2) (h : impl_KindAt.f k a0_0 a0_1 l0_2 a1 = some r) :
  Calls Try.prog 75 #[.agg #[.int .i64 a0_0, .int .i64 a0_1, .slice A0_2 l0_2.length c0_2], .int .i64 a1] w fun e w' => e = .returned (.int .i64 r) ∧ Below w.heap.size w w' := by
 have hu43 := Try.underlying43
 have HR0_2 := aM hr0_2
 have HC0_2 := aM hc0_2
 clear hr0_2 hc0_2
 have HB := aM (Below.refl w.heap.size w)
 have H : ((impl_FloorOk.f k a0_0 a0_1 l0_2).bind fun t323 => (if t323 = true then ((impl_isCell.f a0_0 a0_1 l0_2 a1).bind fun t324 => (if t324 = true then (if 0 ≤ a1 then (if a1 < (l0_2.length : Int) then (some (rd l0_2 a1)) else (none)) else (none)) else (some 0))) else (some 0))) = some r := h
 clear h
 replace H := Option.bind_eq_some_iff.mp H
 obtain ⟨t323, A30, H⟩ := H
 replace H : (if t323 = true then ((impl_isCell.f a0_0 a0_1 l0_2 a1).bind fun t324 => (if t324 = true then (if 0 ≤ a1 then (if a1 < (l0_2.length : Int) then (some (rd l0_2 a1)) else (none)) else (none)) else (some 0))) else (some 0)) = some r := H
 have A3 := aM A30
 clear A30
 by_cases c4 : t323 = true
 {
 subst c4
 rw [if_pos rfl] at H
 replace H := Option.bind_eq_some_iff.mp H
 obtain ⟨t324, A50, H⟩ := H
 replace H : (if t324 = true then (if 0 ≤ a1 then (if a1 < (l0_2.length : Int) then (some (rd l0_2 a1)) else (none)) else (none)) else (some 0)) = some r := H
 have A5 := aM A50
 clear A50
 by_cases c6 : t324 = true
 {
 subst c6
 rw [if_pos rfl] at H
 by_cases c7 : 0 ≤ a1
 {
 rw [if_pos c7] at H
 have c7b0 := decide_eq_true c7
 clear c7
 by_cases c8 : a1 < (l0_2.length : Int)
 {
 rw [if_pos c8] at H
 have c8b0 := decide_eq_true c8
 clear c8
 obtain rfl := Option.some.inj H
 simp only [Option.some.injEq, Prod.mk.injEq] at H
 obtain ⟨rfl⟩ := H
 go_enter Try.func75, Try.ntmps75
 go_wp2_with (first | ((with_reducible refine gate_dst (N := 2) rfl ?_); refine bx_ 2 #[.int .i64 a0_0, .int .i64 a0_1, .slice A0_2 l0_2.length c0_2] 43 ?_; intro gb322 hg w9 hbox hb; have BK322 := aM (hbox); have GW322 := aM (bz_ w hg qz1); have GE322 := GW322; replace HB := bS_ hb; clear hb hbox hg; obtain ⟨hcz10_0, hcz10_1, hcz10_2, hfz10_0, hfz10_1, hfz10_2⟩ := b6_ BK322.out) | ((with_reducible refine gate_callee (f := 64) rfl ?_); refine goesL_ (some 6) rfl rfl Try.func64 (by kernel_rfl) rfl #[.agg #[.int .i64 a0_0, .int .i64 a0_1, .slice A0_2 l0_2.length c0_2]] rfl qz2 ?_; (with_reducible refine (impl_FloorOk.calls k a0_0 a0_1 _ _ l0_2 true _ ?side1 ?side2 A3.out).mono ?_); (case side1 => exact qz3); (case side2 => exact qz15); rintro e w11 ⟨rfl, hb⟩; refine ⟨_, rfl, ?_⟩; replace BK322 := bB_ BK322 hb; replace HB := bS_ hb; (try clear hb); obtain ⟨hcz12_0, hcz12_1, hcz12_2, hfz12_0, hfz12_1, hfz12_2⟩ := b6_ BK322.out) | (go_at_call 74; (with_reducible refine (impl_isCell.calls a0_0 a0_1 _ _ l0_2 a1 true _ ?side1 ?side2 A5.out).mono ?_); (case side1 => exact qz3); (case side2 => exact qz15); rintro e w13 ⟨rfl, hb⟩; replace BK322 := bB_ BK322 hb; replace HB := bS_ hb; (try clear hb); obtain ⟨hcz14_0, hcz14_1, hcz14_2, hfz14_0, hfz14_1, hfz14_2⟩ := b6_ BK322.out; have p325 : 0 ≤ (a1 : Int) := dt_; have q325 : a1 < (l0_2.length : Int) := dt_; obtain ⟨ad325, e325, hx325_0⟩ := Kd.at_int HR0_2.out a1 p325 q325; cases e325; replace hx325_0 := cB_ hx325_0; replace p325 := eq_true p325; replace q325 := eq_true q325))
 go_ret
 exact ⟨qzw, qz1⟩
 }
 {
 exact an_ c8 H
 }
 }
 {
 exact an_ c7 H
 }
 }
 {
 replace c6 := Bool.eq_false_iff.mpr c6
 subst c6
 rw [if_neg (show ¬ (false = true) by decide)] at H
 obtain rfl := Option.some.inj H
 simp only [Option.some.injEq, Prod.mk.injEq] at H
 obtain ⟨rfl⟩ := H
 go_enter Try.func75, Try.ntmps75
 go_wp2_with (first | ((with_reducible refine gate_dst (N := 2) rfl ?_); refine bx_ 2 #[.int .i64 a0_0, .int .i64 a0_1, .slice A0_2 l0_2.length c0_2] 43 ?_; intro gb322 hg w15 hbox hb; have BK322 := aM (hbox); have GW322 := aM (bz_ w hg qz1); have GE322 := GW322; replace HB := bS_ hb; clear hb hbox hg; obtain ⟨hcz16_0, hcz16_1, hcz16_2, hfz16_0, hfz16_1, hfz16_2⟩ := b6_ BK322.out) | ((with_reducible refine gate_callee (f := 64) rfl ?_); refine goesL_ (some 6) rfl rfl Try.func64 (by kernel_rfl) rfl #[.agg #[.int .i64 a0_0, .int .i64 a0_1, .slice A0_2 l0_2.length c0_2]] rfl qz2 ?_; (with_reducible refine (impl_FloorOk.calls k a0_0 a0_1 _ _ l0_2 true _ ?side1 ?side2 A3.out).mono ?_); (case side1 => exact qz3); (case side2 => exact qz15); rintro e w17 ⟨rfl, hb⟩; refine ⟨_, rfl, ?_⟩; replace BK322 := bB_ BK322 hb; replace HB := bS_ hb; (try clear hb); obtain ⟨hcz18_0, hcz18_1, hcz18_2, hfz18_0, hfz18_1, hfz18_2⟩ := b6_ BK322.out) | (go_at_call 74; (with_reducible refine (impl_isCell.calls a0_0 a0_1 _ _ l0_2 a1 false _ ?side1 ?side2 A5.out).mono ?_); (case side1 => exact qz3); (case side2 => exact qz15); rintro e w19 ⟨rfl, hb⟩; replace BK322 := bB_ BK322 hb; replace HB := bS_ hb; (try clear hb)))
 go_ret
 exact ⟨qzw, qz1⟩
 }
 }
 {
 replace c4 := Bool.eq_false_iff.mpr c4
 subst c4
 rw [if_neg (show ¬ (false = true) by decide)] at H
 obtain rfl := Option.some.inj H
 simp only [Option.some.injEq, Prod.mk.injEq] at H
 obtain ⟨rfl⟩ := H
 go_enter Try.func75, Try.ntmps75
 go_wp2_with (first | ((with_reducible refine gate_dst (N := 2) rfl ?_); refine bx_ 2 #[.int .i64 a0_0, .int .i64 a0_1, .slice A0_2 l0_2.length c0_2] 43 ?_; intro gb322 hg w20 hbox hb; have BK322 := aM (hbox); have GW322 := aM (bz_ w hg qz1); have GE322 := GW322; replace HB := bS_ hb; clear hb hbox hg; obtain ⟨hcz21_0, hcz21_1, hcz21_2, hfz21_0, hfz21_1, hfz21_2⟩ := b6_ BK322.out) | ((with_reducible refine gate_callee (f := 64) rfl ?_); refine goesL_ (some 6) rfl rfl Try.func64 (by kernel_rfl) rfl #[.agg #[.int .i64 a0_0, .int .i64 a0_1, .slice A0_2 l0_2.length c0_2]] rfl qz2 ?_; (with_reducible refine (impl_FloorOk.calls k a0_0 a0_1 _ _ l0_2 false _ ?side1 ?side2 A3.out).mono ?_); (case side1 => exact qz3); (case side2 => exact qz15); rintro e w22 ⟨rfl, hb⟩; refine ⟨_, rfl, ?_⟩; replace BK322 := bB_ BK322 hb; replace HB := bS_ hb; (try clear hb)))
 go_ret
 exact ⟨qzw, qz1⟩

 }
/-! ### impl_standsOk: function 65 -/
def impl_standsOk.f (k : Nat) (a0_0 : Int) (a0_1 : Int) (l0_2 : List Int) (a1_0 : Int) (a1_1 : Int) (a1_2 : Int) (a1_3 : Bool) (a1_4 : Int) : Option (Bool) := (impl_KindAt.f k a0_0 a0_1 l0_2 a1_1).bind fun t328 => (if t328 = 0 then (some false) else (if a1_2 = (-1) then (some true) else ((impl_KindAt.f k a0_0 a0_1 l0_2 a1_2).bind fun t329 => (some (t329 != 0)))))
theorem impl_standsOk.mono : ∀ a0 a1 a2 a3 a4 a5 a6 a7 k, LeO (impl_standsOk.f k a0 a1 a2 a3 a4 a5 a6 a7) (impl_standsOk.f (k + 1) a0 a1 a2 a3 a4 a5 a6 a7) := by
 intro a0 a1 a2 a3 a4 a5 a6 a7 k
 unfold impl_standsOk.f
 have j0 := @impl_KindAt.mono
 exact qL
set_option maxHeartbeats 8000000 in
set_option maxRecDepth 100000 in
theorem impl_standsOk.calls (k : Nat) (a0_0 : Int) (a0_1 : Int) (A0_2 : Option Addr) (c0_2 : Nat) (l0_2 : List Int) (a1_0 : Int) (a1_1 : Int) (a1_2 : Int) (a1_3 : Bool) (a1_4 : Int) (r : Bool) (w : World) (hr0_2 : Kd.C (Kd.int .i64) w A0_2 l0_2.length l0_2) (hc0_2 : l0_2.length ≤ c0_2) (h : impl_standsOk.f k a0_0 a0_1 l0_2 a1_0 a1_1 a1_2 a1_3 a1_4 = some r) :
  Calls Try.prog 65 #[.agg #[.int .i64 a0_0, .int .i64 a0_1, .slice A0_2 l0_2.length c0_2], .agg #[.int .i64 a1_0, .int .i64 a1_1, .int .i64 a1_2, .bool a1_3, .int .i64 a1_4]] w fun e w' => e = .returned (.bool r) ∧ Below w.heap.size w w' := by
 have hu43 := Try.underlying43
 have hu37 := Try.underlying37
 have HR0_2 := aM hr0_2
 have HC0_2 := aM hc0_2
 clear hr0_2 hc0_2
 have HB := aM (Below.refl w.heap.size w)
 have H : ((impl_KindAt.f k a0_0 a0_1 l0_2 a1_1).bind fun t328 => (if t328 = 0 then (some false) else (if a1_2 = (-1) then (some true) else ((impl_KindAt.f k a0_0 a0_1 l0_2 a1_2).bind fun t329 => (some (t329 != 0)))))) = some r := h
 clear h
 replace H := Option.bind_eq_some_iff.mp H
 obtain ⟨t328, A30, H⟩ := H
 replace H : (if t328 = 0 then (some false) else (if a1_2 = (-1) then (some true) else ((impl_KindAt.f k a0_0 a0_1 l0_2 a1_2).bind fun t329 => (some (t329 != 0))))) = some r := H
 have A3 := aM A30
 clear A30
 by_cases c4 : t328 = 0
 {
 rw [if_pos c4] at H
 have c4b0 := beq_iff_eq.mpr c4
 have c4b1 := bne_eq_false_iff_eq.mpr c4
 clear c4
 obtain rfl := Option.some.inj H
 simp only [Option.some.injEq, Prod.mk.injEq] at H
 obtain ⟨rfl⟩ := H
 go_enter Try.func65, Try.ntmps65
 go_wp2_with (first | ((with_reducible refine gate_dst (N := 2) rfl ?_); refine bx_ 2 #[.int .i64 a0_0, .int .i64 a0_1, .slice A0_2 l0_2.length c0_2] 43 ?_; intro gb326 hg w5 hbox hb; have BK326 := aM (hbox); have GW326 := aM (bz_ w hg qz1); have GE326 := GW326; replace HB := bS_ hb; clear hb hbox hg) | ((with_reducible refine gate_dst (N := 3) rfl ?_); refine bx_ 3 #[.int .i64 a1_0, .int .i64 a1_1, .int .i64 a1_2, .bool a1_3, .int .i64 a1_4] 37 ?_; intro gb327 hg w6 hbox hb; have BK327 := aM (hbox); have GW327 := aM (bz_ w hg qz1); have GE327 := GW327; replace HB := bS_ hb; obtain ⟨NB326_327, NB327_326⟩ := nb_ hg (bk_ BK326.out); replace BK326 := bB_ BK326 hb; clear hb hbox hg; have hnb7 := NB326_327.out; have hnc7 := NB327_326.out; obtain ⟨hcz8_0, hcz8_1, hcz8_2, hfz8_0, hfz8_1, hfz8_2⟩ := b6_ BK326.out; have hcz9_0 := bc0_ BK327.out; have hcz9_1 := bc1_ BK327.out; have hcz9_2 := bc2_ BK327.out; have hcz9_3 := bc3_ BK327.out; have hcz9_4 := bc4_ BK327.out; have hfz9_0 := blk_frozen BK327.out 0; have hfz9_1 := blk_frozen BK327.out 1; have hfz9_2 := blk_frozen BK327.out 2; have hfz9_3 := blk_frozen BK327.out 3; have hfz9_4 := blk_frozen BK327.out 4) | ((with_reducible refine gate_callee (f := 75) rfl ?_); refine goesL_ (some 8) rfl rfl Try.func75 (by kernel_rfl) rfl #[.agg #[.int .i64 a0_0, .int .i64 a0_1, .slice A0_2 l0_2.length c0_2], .int .i64 a1_1] rfl qz2 ?_; (with_reducible refine (impl_KindAt.calls k a0_0 a0_1 _ _ l0_2 a1_1 t328 _ ?side1 ?side2 A3.out).mono ?_); (case side1 => exact qz3); (case side2 => exact qz15); rintro e w10 ⟨rfl, hb⟩; refine ⟨_, rfl, ?_⟩; replace BK326 := bB_ BK326 hb; replace BK327 := bB_ BK327 hb; replace HB := bS_ hb; (try clear hb)))
 go_ret
 exact ⟨qzw, qz1⟩
 }
 {
 rw [if_neg c4] at H
 have c4b0 := beq_eq_false_iff_ne.mpr c4
 have c4b1 := bne_iff_ne.mpr c4
 by_cases c11 : a1_2 = (-1)
 {
 rw [if_pos c11] at H
 have c11b0 := beq_iff_eq.mpr c11
 have c11b1 := bne_eq_false_iff_eq.mpr c11
 clear c11
 obtain rfl := Option.some.inj H
 simp only [Option.some.injEq, Prod.mk.injEq] at H
 obtain ⟨rfl⟩ := H
 go_enter Try.func65, Try.ntmps65
 go_wp2_with (first | ((with_reducible refine gate_dst (N := 2) rfl ?_); refine bx_ 2 #[.int .i64 a0_0, .int .i64 a0_1, .slice A0_2 l0_2.length c0_2] 43 ?_; intro gb326 hg w12 hbox hb; have BK326 := aM (hbox); have GW326 := aM (bz_ w hg qz1); have GE326 := GW326; replace HB := bS_ hb; clear hb hbox hg) | ((with_reducible refine gate_dst (N := 3) rfl ?_); refine bx_ 3 #[.int .i64 a1_0, .int .i64 a1_1, .int .i64 a1_2, .bool a1_3, .int .i64 a1_4] 37 ?_; intro gb327 hg w13 hbox hb; have BK327 := aM (hbox); have GW327 := aM (bz_ w hg qz1); have GE327 := GW327; replace HB := bS_ hb; obtain ⟨NB326_327, NB327_326⟩ := nb_ hg (bk_ BK326.out); replace BK326 := bB_ BK326 hb; clear hb hbox hg; have hnb14 := NB326_327.out; have hnc14 := NB327_326.out; obtain ⟨hcz15_0, hcz15_1, hcz15_2, hfz15_0, hfz15_1, hfz15_2⟩ := b6_ BK326.out; have hcz16_0 := bc0_ BK327.out; have hcz16_1 := bc1_ BK327.out; have hcz16_2 := bc2_ BK327.out; have hcz16_3 := bc3_ BK327.out; have hcz16_4 := bc4_ BK327.out; have hfz16_0 := blk_frozen BK327.out 0; have hfz16_1 := blk_frozen BK327.out 1; have hfz16_2 := blk_frozen BK327.out 2; have hfz16_3 := blk_frozen BK327.out 3; have hfz16_4 := blk_frozen BK327.out 4) | ((with_reducible refine gate_callee (f := 75) rfl ?_); refine goesL_ (some 8) rfl rfl Try.func75 (by kernel_rfl) rfl #[.agg #[.int .i64 a0_0, .int .i64 a0_1, .slice A0_2 l0_2.length c0_2], .int .i64 a1_1] rfl qz2 ?_; (with_reducible refine (impl_KindAt.calls k a0_0 a0_1 _ _ l0_2 a1_1 t328 _ ?side1 ?side2 A3.out).mono ?_); (case side1 => exact qz3); (case side2 => exact qz15); rintro e w17 ⟨rfl, hb⟩; refine ⟨_, rfl, ?_⟩; replace BK326 := bB_ BK326 hb; replace BK327 := bB_ BK327 hb; replace HB := bS_ hb; (try clear hb); have hcz18_0 := bc0_ BK327.out; have hcz18_1 := bc1_ BK327.out; have hcz18_2 := bc2_ BK327.out; have hcz18_3 := bc3_ BK327.out; have hcz18_4 := bc4_ BK327.out; have hfz18_0 := blk_frozen BK327.out 0; have hfz18_1 := blk_frozen BK327.out 1; have hfz18_2 := blk_frozen BK327.out 2; have hfz18_3 := blk_frozen BK327.out 3; have hfz18_4 := blk_frozen BK327.out 4))
 go_ret
 exact ⟨qzw, qz1⟩
 }
 {
 rw [if_neg c11] at H
 have c11b0 := beq_eq_false_iff_ne.mpr c11
 have c11b1 := bne_iff_ne.mpr c11
 replace H := Option.bind_eq_some_iff.mp H
 obtain ⟨t329, A190, H⟩ := H
 replace H : (some (t329 != 0)) = some r := H
 have A19 := aM A190
 clear A190
 obtain rfl := Option.some.inj H
 simp only [Option.some.injEq, Prod.mk.injEq] at H
 obtain ⟨rfl⟩ := H
 go_enter Try.func65, Try.ntmps65
 go_wp2_with (first | ((with_reducible refine gate_dst (N := 2) rfl ?_); refine bx_ 2 #[.int .i64 a0_0, .int .i64 a0_1, .slice A0_2 l0_2.length c0_2] 43 ?_; intro gb326 hg w20 hbox hb; have BK326 := aM (hbox); have GW326 := aM (bz_ w hg qz1); have GE326 := GW326; replace HB := bS_ hb; clear hb hbox hg) | ((with_reducible refine gate_dst (N := 3) rfl ?_); refine bx_ 3 #[.int .i64 a1_0, .int .i64 a1_1, .int .i64 a1_2, .bool a1_3, .int .i64 a1_4] 37 ?_; intro gb327 hg w21 hbox hb; have BK327 := aM (hbox); have GW327 := aM (bz_ w hg qz1); have GE327 := GW327; replace HB := bS_ hb; obtain ⟨NB326_327, NB327_326⟩ := nb_ hg (bk_ BK326.out); replace BK326 := bB_ BK326 hb; clear hb hbox hg; have hnb22 := NB326_327.out; have hnc22 := NB327_326.out; obtain ⟨hcz23_0, hcz23_1, hcz23_2, hfz23_0, hfz23_1, hfz23_2⟩ := b6_ BK326.out; have hcz24_0 := bc0_ BK327.out; have hcz24_1 := bc1_ BK327.out; have hcz24_2 := bc2_ BK327.out; have hcz24_3 := bc3_ BK327.out; have hcz24_4 := bc4_ BK327.out; have hfz24_0 := blk_frozen BK327.out 0; have hfz24_1 := blk_frozen BK327.out 1; have hfz24_2 := blk_frozen BK327.out 2; have hfz24_3 := blk_frozen BK327.out 3; have hfz24_4 := blk_frozen BK327.out 4) | ((with_reducible refine gate_callee (f := 75) rfl ?_); refine goesL_ (some 8) rfl rfl Try.func75 (by kernel_rfl) rfl #[.agg #[.int .i64 a0_0, .int .i64 a0_1, .slice A0_2 l0_2.length c0_2], .int .i64 a1_1] rfl qz2 ?_; (with_reducible refine (impl_KindAt.calls k a0_0 a0_1 _ _ l0_2 a1_1 t328 _ ?side1 ?side2 A3.out).mono ?_); (case side1 => exact qz3); (case side2 => exact qz15); rintro e w25 ⟨rfl, hb⟩; refine ⟨_, rfl, ?_⟩; replace BK326 := bB_ BK326 hb; replace BK327 := bB_ BK327 hb; replace HB := bS_ hb; (try clear hb); have hcz26_0 := bc0_ BK327.out; have hcz26_1 := bc1_ BK327.out; have hcz26_2 := bc2_ BK327.out; have hcz26_3 := bc3_ BK327.out; have hcz26_4 := bc4_ BK327.out; have hfz26_0 := blk_frozen BK327.out 0; have hfz26_1 := blk_frozen BK327.out 1; have hfz26_2 := blk_frozen BK327.out 2; have hfz26_3 := blk_frozen BK327.out 3; have hfz26_4 := blk_frozen BK327.out 4; obtain ⟨hcz27_0, hcz27_1, hcz27_2, hfz27_0, hfz27_1, hfz27_2⟩ := b6_ BK326.out) | (go_at_call 75; (with_reducible refine (impl_KindAt.calls k a0_0 a0_1 _ _ l0_2 a1_2 t329 _ ?side1 ?side2 A19.out).mono ?_); (case side1 => exact qz3); (case side2 => exact qz15); rintro e w28 ⟨rfl, hb⟩; replace BK326 := bB_ BK326 hb; replace BK327 := bB_ BK327 hb; replace HB := bS_ hb; (try clear hb)))
 go_ret
 exact ⟨qzw, qz1⟩

 }
 }
end Go.Proofs.Ytankmdbbgepmbaa.PFnExactStep
