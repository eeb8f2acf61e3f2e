-- Made by a program of this session out of the translation. Lean checks it.
import Derived.Test.YtankmdbbgepmbaaPFnFirstx1
namespace Go.Proofs.Ytankmdbbgepmbaa.PFnFirst
open Go.RowKit Go.Proofs.YtankmdbbgepmbaaW.PrintWords Go.Proofs.YtankmdbbgepmbaaW.PrintLast Go.Proofs.YtankmdbbgepmbaaW.PrintMore
attribute [local go_sem] max2_int min2_int max_two min_two max_three min_three max_four min_four   -- for this text's walks alone
set_option linter.unusedVariables false
set_option linter.unusedSimpArgs false

/-! ### impl_KindAt: function 75 -/
def impl_KindAt.f (k : Nat) (a0_0 : Int) (a0_1 : Int) (l0_2 : List Int) (a1 : Int) : Option (Int) := (impl_FloorOk.f k a0_0 a0_1 l0_2).bind fun t109 => (if t109 = true then ((impl_isCell.f a0_0 a0_1 l0_2 a1).bind fun t110 => (if t110 = true then (if 0 ≤ a1 then (if a1 < (l0_2.length : Int) then (some (rd l0_2 a1)) else (none)) else (none)) else (some 0))) else (some 0))
theorem impl_KindAt.mono : ∀ a0 a1 a2 a3 k, LeO (impl_KindAt.f k a0 a1 a2 a3) (impl_KindAt.f (k + 1) a0 a1 a2 a3) := by
 intro a0 a1 a2 a3 k
 unfold impl_KindAt.f
 have j0 := @impl_FloorOk.mono
 exact qL
set_option maxHeartbeats 8000000 in
set_option maxRecDepth 100000 in
theorem impl_KindAt.calls (k : Nat) (a0_0 : Int) (a0_1 : Int) (A0_2 : Option Addr) (c0_2 : Nat) (l0_2 : List Int) (a1 : Int) (r : Int) (w : World) (hr0_2 : Kd.C (Kd.int .i64) w A0_2 l0_2.length l0_2) (hc0_2 : l0_2.length ≤ c0_2) (h : impl_KindAt.f k a0_0 a0_1 l0_2 a1 = some r) :
  Calls Try.prog 75 #[.agg #[.int .i64 a0_0, .int .i64 a0_1, .slice A0_2 l0_2.length c0_2], .int .i64 a1] w fun e w' => e = .returned (.int .i64 r) ∧ Below w.heap.size w w' := by
 have hu43 := Try.underlying43
 have HR0_2 := aM hr0_2
 have HC0_2 := aM hc0_2
 clear hr0_2 hc0_2
 have HB := aM (Below.refl w.heap.size w)
 unfold impl_KindAt.f at h
 have H := h
 clear h
 replace H := Option.bind_eq_some_iff.mp H
 obtain ⟨t109, A30, H⟩ := H
 have A3 := aM A30
 clear A30
 replace H := iB_ H
 rcases H with ⟨rfl, H⟩ | ⟨rfl, H⟩
 {
 replace H := Option.bind_eq_some_iff.mp H
 obtain ⟨t110, A50, H⟩ := H
 have A5 := aM A50
 clear A50
 replace H := iB_ H
 rcases H with ⟨rfl, H⟩ | ⟨rfl, H⟩
 {
 replace H := iD_ H
 obtain ⟨c7b0, H⟩ := H
 replace H := iD_ H
 obtain ⟨c8b0, H⟩ := H
 obtain rfl := Option.some.inj H
 go_enter Try.func75, Try.ntmps75
 go_wp2_with (first | ((with_reducible refine gate_dst (N := 2) rfl ?_); refine bx_ 2 #[.int .i64 a0_0, .int .i64 a0_1, .slice A0_2 l0_2.length c0_2] 43 ?_; intro gb108 hg w9 hbox hb; have BK108 := aM (hbox); have GW108 := aM (bz_ w hg qz1); have GE108 := GW108; replace HB := bS_ hb; clear hb hbox hg; obtain ⟨hcz10_0, hcz10_1, hcz10_2, hfz10_0, hfz10_1, hfz10_2⟩ := b6_ BK108.out) | ((with_reducible refine gate_callee (f := 64) rfl ?_); refine goesL_ (some 6) rfl rfl Try.func64 (by kernel_rfl) rfl #[.agg #[.int .i64 a0_0, .int .i64 a0_1, .slice A0_2 l0_2.length c0_2]] rfl qz2 ?_; (with_reducible refine (impl_FloorOk.calls k a0_0 a0_1 _ _ l0_2 true _ ?_ ?_ A3.out).mono ?_); exact qz5; exact qz16; rintro e w11 ⟨rfl, hb⟩; refine ⟨_, rfl, ?_⟩; replace BK108 := bB_ BK108 hb; replace HB := bS_ hb; (try clear hb); obtain ⟨hcz12_0, hcz12_1, hcz12_2, hfz12_0, hfz12_1, hfz12_2⟩ := b6_ BK108.out) | (go_at_call 74; (with_reducible refine (impl_isCell.calls a0_0 a0_1 _ _ l0_2 a1 true _ ?_ ?_ A5.out).mono ?_); exact qz5; exact qz16; rintro e w13 ⟨rfl, hb⟩; replace BK108 := bB_ BK108 hb; replace HB := bS_ hb; (try clear hb); obtain ⟨hcz14_0, hcz14_1, hcz14_2, hfz14_0, hfz14_1, hfz14_2⟩ := b6_ BK108.out; have p111 : 0 ≤ (a1 : Int) := dt_; have q111 : a1 < (l0_2.length : Int) := dt_; obtain ⟨ad111, e111, hx111_0⟩ := Kd.at_int HR0_2.out a1 p111 q111; cases e111; replace hx111_0 := cB_ hx111_0; replace p111 := eq_true p111; replace q111 := eq_true q111))
 go_ret
 exact ⟨qzw, qz1⟩
 }
 {
 obtain rfl := Option.some.inj H
 go_enter Try.func75, Try.ntmps75
 go_wp2_with (first | ((with_reducible refine gate_dst (N := 2) rfl ?_); refine bx_ 2 #[.int .i64 a0_0, .int .i64 a0_1, .slice A0_2 l0_2.length c0_2] 43 ?_; intro gb108 hg w15 hbox hb; have BK108 := aM (hbox); have GW108 := aM (bz_ w hg qz1); have GE108 := GW108; replace HB := bS_ hb; clear hb hbox hg; obtain ⟨hcz16_0, hcz16_1, hcz16_2, hfz16_0, hfz16_1, hfz16_2⟩ := b6_ BK108.out) | ((with_reducible refine gate_callee (f := 64) rfl ?_); refine goesL_ (some 6) rfl rfl Try.func64 (by kernel_rfl) rfl #[.agg #[.int .i64 a0_0, .int .i64 a0_1, .slice A0_2 l0_2.length c0_2]] rfl qz2 ?_; (with_reducible refine (impl_FloorOk.calls k a0_0 a0_1 _ _ l0_2 true _ ?_ ?_ A3.out).mono ?_); exact qz5; exact qz16; rintro e w17 ⟨rfl, hb⟩; refine ⟨_, rfl, ?_⟩; replace BK108 := bB_ BK108 hb; replace HB := bS_ hb; (try clear hb); obtain ⟨hcz18_0, hcz18_1, hcz18_2, hfz18_0, hfz18_1, hfz18_2⟩ := b6_ BK108.out) | (go_at_call 74; (with_reducible refine (impl_isCell.calls a0_0 a0_1 _ _ l0_2 a1 false _ ?_ ?_ A5.out).mono ?_); exact qz5; exact qz16; rintro e w19 ⟨rfl, hb⟩; replace BK108 := bB_ BK108 hb; replace HB := bS_ hb; (try clear hb)))
 go_ret
 exact ⟨qzw, qz1⟩
 }
 }
 {
 obtain rfl := Option.some.inj H
 go_enter Try.func75, Try.ntmps75
 go_wp2_with (first | ((with_reducible refine gate_dst (N := 2) rfl ?_); refine bx_ 2 #[.int .i64 a0_0, .int .i64 a0_1, .slice A0_2 l0_2.length c0_2] 43 ?_; intro gb108 hg w20 hbox hb; have BK108 := aM (hbox); have GW108 := aM (bz_ w hg qz1); have GE108 := GW108; replace HB := bS_ hb; clear hb hbox hg; obtain ⟨hcz21_0, hcz21_1, hcz21_2, hfz21_0, hfz21_1, hfz21_2⟩ := b6_ BK108.out) | ((with_reducible refine gate_callee (f := 64) rfl ?_); refine goesL_ (some 6) rfl rfl Try.func64 (by kernel_rfl) rfl #[.agg #[.int .i64 a0_0, .int .i64 a0_1, .slice A0_2 l0_2.length c0_2]] rfl qz2 ?_; (with_reducible refine (impl_FloorOk.calls k a0_0 a0_1 _ _ l0_2 false _ ?_ ?_ A3.out).mono ?_); exact qz5; exact qz16; rintro e w22 ⟨rfl, hb⟩; refine ⟨_, rfl, ?_⟩; replace BK108 := bB_ BK108 hb; replace HB := bS_ hb; (try clear hb)))
 go_ret
 exact ⟨qzw, qz1⟩
 }
/-! ### impl_standsOk: function 65 -/
def impl_standsOk.f (k : Nat) (a0_0 : Int) (a0_1 : Int) (l0_2 : List Int) (a1_0 : Int) (a1_1 : Int) (a1_2 : Int) (a1_3 : Bool) (a1_4 : Int) : Option (Bool) := (impl_KindAt.f k a0_0 a0_1 l0_2 a1_1).bind fun t114 => (if t114 = 0 then (some false) else (if a1_2 = (-1) then (some true) else ((impl_KindAt.f k a0_0 a0_1 l0_2 a1_2).bind fun t115 => (some (t115 != 0)))))
theorem impl_standsOk.mono : ∀ a0 a1 a2 a3 a4 a5 a6 a7 k, LeO (impl_standsOk.f k a0 a1 a2 a3 a4 a5 a6 a7) (impl_standsOk.f (k + 1) a0 a1 a2 a3 a4 a5 a6 a7) := by
 intro a0 a1 a2 a3 a4 a5 a6 a7 k
 unfold impl_standsOk.f
 have j0 := @impl_KindAt.mono
 exact qL
set_option maxHeartbeats 8000000 in
set_option maxRecDepth 100000 in
theorem impl_standsOk.calls (k : Nat) (a0_0 : Int) (a0_1 : Int) (A0_2 : Option Addr) (c0_2 : Nat) (l0_2 : List Int) (a1_0 : Int) (a1_1 : Int) (a1_2 : Int) (a1_3 : Bool) (a1_4 : Int) (r : Bool) (w : World) (hr0_2 : Kd.C (Kd.int .i64) w A0_2 l0_2.length l0_2) (hc0_2 : l0_2.length ≤ c0_2) (h : impl_standsOk.f k a0_0 a0_1 l0_2 a1_0 a1_1 a1_2 a1_3 a1_4 = some r) :
  Calls Try.prog 65 #[.agg #[.int .i64 a0_0, .int .i64 a0_1, .slice A0_2 l0_2.length c0_2], .agg #[.int .i64 a1_0, .int .i64 a1_1, .int .i64 a1_2, .bool a1_3, .int .i64 a1_4]] w fun e w' => e = .returned (.bool r) ∧ Below w.heap.size w w' := by
 have hu43 := Try.underlying43
 have hu37 := Try.underlying37
 have HR0_2 := aM hr0_2
 have HC0_2 := aM hc0_2
 clear hr0_2 hc0_2
 have HB := aM (Below.refl w.heap.size w)
 unfold impl_standsOk.f at h
 have H := h
 clear h
 replace H := Option.bind_eq_some_iff.mp H
 obtain ⟨t114, A30, H⟩ := H
 have A3 := aM A30
 clear A30
 replace H := iQ_ H
 rcases H with ⟨c4b0, c4b1, H⟩ | ⟨c4, c4b0, c4b1, H⟩
 {
 obtain rfl := Option.some.inj H
 go_enter Try.func65, Try.ntmps65
 go_wp2_with (first | ((with_reducible refine gate_dst (N := 2) rfl ?_); refine bx_ 2 #[.int .i64 a0_0, .int .i64 a0_1, .slice A0_2 l0_2.length c0_2] 43 ?_; intro gb112 hg w5 hbox hb; have BK112 := aM (hbox); have GW112 := aM (bz_ w hg qz1); have GE112 := GW112; replace HB := bS_ hb; clear hb hbox hg) | ((with_reducible refine gate_dst (N := 3) rfl ?_); refine bx_ 3 #[.int .i64 a1_0, .int .i64 a1_1, .int .i64 a1_2, .bool a1_3, .int .i64 a1_4] 37 ?_; intro gb113 hg w6 hbox hb; have BK113 := aM (hbox); have GW113 := aM (bz_ w hg qz1); have GE113 := GW113; replace HB := bS_ hb; obtain ⟨NB112_113, NB113_112⟩ := nb_ hg (bk_ BK112.out); replace BK112 := bB_ BK112 hb; clear hb hbox hg; have hnb7 := NB112_113.out; have hnc7 := NB113_112.out; obtain ⟨hcz8_0, hcz8_1, hcz8_2, hfz8_0, hfz8_1, hfz8_2⟩ := b6_ BK112.out; obtain ⟨hcz9_0, hcz9_1, hcz9_2, hcz9_3, hcz9_4, hfz9_0, hfz9_1, hfz9_2, hfz9_3, hfz9_4⟩ := b10_ BK113.out) | ((with_reducible refine gate_callee (f := 75) rfl ?_); refine goesL_ (some 8) rfl rfl Try.func75 (by kernel_rfl) rfl #[.agg #[.int .i64 a0_0, .int .i64 a0_1, .slice A0_2 l0_2.length c0_2], .int .i64 a1_1] rfl qz2 ?_; (with_reducible refine (impl_KindAt.calls k a0_0 a0_1 _ _ l0_2 a1_1 t114 _ ?_ ?_ A3.out).mono ?_); exact qz5; exact qz16; rintro e w10 ⟨rfl, hb⟩; refine ⟨_, rfl, ?_⟩; replace BK112 := bB_ BK112 hb; replace BK113 := bB_ BK113 hb; replace HB := bS_ hb; (try clear hb)))
 go_ret
 exact ⟨qzw, qz1⟩
 }
 {
 replace H := iQ_ H
 rcases H with ⟨c11b0, c11b1, H⟩ | ⟨c11, c11b0, c11b1, H⟩
 {
 obtain rfl := Option.some.inj H
 go_enter Try.func65, Try.ntmps65
 go_wp2_with (first | ((with_reducible refine gate_dst (N := 2) rfl ?_); refine bx_ 2 #[.int .i64 a0_0, .int .i64 a0_1, .slice A0_2 l0_2.length c0_2] 43 ?_; intro gb112 hg w12 hbox hb; have BK112 := aM (hbox); have GW112 := aM (bz_ w hg qz1); have GE112 := GW112; replace HB := bS_ hb; clear hb hbox hg) | ((with_reducible refine gate_dst (N := 3) rfl ?_); refine bx_ 3 #[.int .i64 a1_0, .int .i64 a1_1, .int .i64 a1_2, .bool a1_3, .int .i64 a1_4] 37 ?_; intro gb113 hg w13 hbox hb; have BK113 := aM (hbox); have GW113 := aM (bz_ w hg qz1); have GE113 := GW113; replace HB := bS_ hb; obtain ⟨NB112_113, NB113_112⟩ := nb_ hg (bk_ BK112.out); replace BK112 := bB_ BK112 hb; clear hb hbox hg; have hnb14 := NB112_113.out; have hnc14 := NB113_112.out; obtain ⟨hcz15_0, hcz15_1, hcz15_2, hfz15_0, hfz15_1, hfz15_2⟩ := b6_ BK112.out; obtain ⟨hcz16_0, hcz16_1, hcz16_2, hcz16_3, hcz16_4, hfz16_0, hfz16_1, hfz16_2, hfz16_3, hfz16_4⟩ := b10_ BK113.out) | ((with_reducible refine gate_callee (f := 75) rfl ?_); refine goesL_ (some 8) rfl rfl Try.func75 (by kernel_rfl) rfl #[.agg #[.int .i64 a0_0, .int .i64 a0_1, .slice A0_2 l0_2.length c0_2], .int .i64 a1_1] rfl qz2 ?_; (with_reducible refine (impl_KindAt.calls k a0_0 a0_1 _ _ l0_2 a1_1 t114 _ ?_ ?_ A3.out).mono ?_); exact qz5; exact qz16; rintro e w17 ⟨rfl, hb⟩; refine ⟨_, rfl, ?_⟩; replace BK112 := bB_ BK112 hb; replace BK113 := bB_ BK113 hb; replace HB := bS_ hb; (try clear hb); obtain ⟨hcz18_0, hcz18_1, hcz18_2, hcz18_3, hcz18_4, hfz18_0, hfz18_1, hfz18_2, hfz18_3, hfz18_4⟩ := b10_ BK113.out))
 go_ret
 exact ⟨qzw, qz1⟩
 }
 {
 replace H := Option.bind_eq_some_iff.mp H
 obtain ⟨t115, A190, H⟩ := H
 have A19 := aM A190
 clear A190
 obtain rfl := Option.some.inj H
 go_enter Try.func65, Try.ntmps65
 go_wp2_with (first | ((with_reducible refine gate_dst (N := 2) rfl ?_); refine bx_ 2 #[.int .i64 a0_0, .int .i64 a0_1, .slice A0_2 l0_2.length c0_2] 43 ?_; intro gb112 hg w20 hbox hb; have BK112 := aM (hbox); have GW112 := aM (bz_ w hg qz1); have GE112 := GW112; replace HB := bS_ hb; clear hb hbox hg) | ((with_reducible refine gate_dst (N := 3) rfl ?_); refine bx_ 3 #[.int .i64 a1_0, .int .i64 a1_1, .int .i64 a1_2, .bool a1_3, .int .i64 a1_4] 37 ?_; intro gb113 hg w21 hbox hb; have BK113 := aM (hbox); have GW113 := aM (bz_ w hg qz1); have GE113 := GW113; replace HB := bS_ hb; obtain ⟨NB112_113, NB113_112⟩ := nb_ hg (bk_ BK112.out); replace BK112 := bB_ BK112 hb; clear hb hbox hg; have hnb22 := NB112_113.out; have hnc22 := NB113_112.out; obtain ⟨hcz23_0, hcz23_1, hcz23_2, hfz23_0, hfz23_1, hfz23_2⟩ := b6_ BK112.out; obtain ⟨hcz24_0, hcz24_1, hcz24_2, hcz24_3, hcz24_4, hfz24_0, hfz24_1, hfz24_2, hfz24_3, hfz24_4⟩ := b10_ BK113.out) | ((with_reducible refine gate_callee (f := 75) rfl ?_); refine goesL_ (some 8) rfl rfl Try.func75 (by kernel_rfl) rfl #[.agg #[.int .i64 a0_0, .int .i64 a0_1, .slice A0_2 l0_2.length c0_2], .int .i64 a1_1] rfl qz2 ?_; (with_reducible refine (impl_KindAt.calls k a0_0 a0_1 _ _ l0_2 a1_1 t114 _ ?_ ?_ A3.out).mono ?_); exact qz5; exact qz16; rintro e w25 ⟨rfl, hb⟩; refine ⟨_, rfl, ?_⟩; replace BK112 := bB_ BK112 hb; replace BK113 := bB_ BK113 hb; replace HB := bS_ hb; (try clear hb); obtain ⟨hcz26_0, hcz26_1, hcz26_2, hcz26_3, hcz26_4, hfz26_0, hfz26_1, hfz26_2, hfz26_3, hfz26_4⟩ := b10_ BK113.out; obtain ⟨hcz27_0, hcz27_1, hcz27_2, hfz27_0, hfz27_1, hfz27_2⟩ := b6_ BK112.out) | (go_at_call 75; (with_reducible refine (impl_KindAt.calls k a0_0 a0_1 _ _ l0_2 a1_2 t115 _ ?_ ?_ A19.out).mono ?_); exact qz5; exact qz16; rintro e w28 ⟨rfl, hb⟩; replace BK112 := bB_ BK112 hb; replace BK113 := bB_ BK113 hb; replace HB := bS_ hb; (try clear hb)))
 go_ret
 exact ⟨qzw, qz1⟩
 }
 }
/-! ### impl_beside: function 68 -/
mutual
def impl_beside.j0 : Nat → Int → List Int → Int → Int → Int → Int → List Int → Option (List Int)
 | 0, _, _, _, _, _, _, _ => none
 | k + 1, x1, x5, x6, x7, x117000, x117001, x117002 => if x6 > 0 then (if x5.length < 17592186044416 then (impl_beside.j1 k x1 (x5 ++ [wrap64 (x1 - 1)]) x6 x7 x117000 x117001 x117002) else (none)) else (impl_beside.j1 k x1 x5 x6 x7 x117000 x117001 x117002)
def impl_beside.j1 : Nat → Int → List Int → Int → Int → Int → Int → List Int → Option (List Int)
 | 0, _, _, _, _, _, _, _ => none
 | k + 1, x1, x5, x6, x7, x117000, x117001, x117002 => if x6 < (wrap64 (x117000 - 1)) then (if x5.length < 17592186044416 then ((some (x5 ++ [wrap64 (x1 + 1)] : List Int)).bind fun y123 => (if x7 < (wrap64 (x117001 - 1)) then (if y123.length < 17592186044416 then (some (y123 ++ [wrap64 (x1 + x117000)])) else (none)) else (some y123))) else (none)) else (if x7 < (wrap64 (x117001 - 1)) then (if x5.length < 17592186044416 then (some (x5 ++ [wrap64 (x1 + x117000)])) else (none)) else (some x5))
end
def impl_beside.f (k : Nat) (a0_0 : Int) (a0_1 : Int) (l0_2 : List Int) (a1 : Int) : Option (List Int) := if a0_0 = 0 then (none) else (if (wrap64 (Int.tdiv a1 a0_0)) > 0 then (if ([] : List Int).length < 17592186044416 then (impl_beside.j0 k a1 (([] : List Int) ++ [wrap64 (a1 - a0_0)]) (Int.tmod a1 a0_0) (wrap64 (Int.tdiv a1 a0_0)) a0_0 a0_1 l0_2) else (none)) else (impl_beside.j0 k a1 ([] : List Int) (Int.tmod a1 a0_0) (wrap64 (Int.tdiv a1 a0_0)) a0_0 a0_1 l0_2))
theorem impl_beside.mono_l : ∀ k, (∀ y0 y1 y2 y3 y4 y5 y6, LeO (impl_beside.j0 k y0 y1 y2 y3 y4 y5 y6) (impl_beside.j0 (k + 1) y0 y1 y2 y3 y4 y5 y6)) ∧ (∀ y0 y1 y2 y3 y4 y5 y6, LeO (impl_beside.j1 k y0 y1 y2 y3 y4 y5 y6) (impl_beside.j1 (k + 1) y0 y1 y2 y3 y4 y5 y6))
 | 0 => ⟨fun _ _ _ _ _ _ _ r h => by simp [impl_beside.j0] at h, fun _ _ _ _ _ _ _ r h => by simp [impl_beside.j1] at h⟩
 | k + 1 => by
  obtain ⟨ih0, ih1⟩ := impl_beside.mono_l k
  refine ⟨?_, ?_⟩
  {
  intro y0 y1 y2 y3 y4 y5 y6
  unfold impl_beside.j0
  exact qL
  }
  {
  intro y0 y1 y2 y3 y4 y5 y6
  unfold impl_beside.j1
  exact qL
  }
theorem impl_beside.mono : ∀ a0 a1 a2 a3 k, LeO (impl_beside.f k a0 a1 a2 a3) (impl_beside.f (k + 1) a0 a1 a2 a3) := by
 intro a0 a1 a2 a3 k
 obtain ⟨ih0, ih1⟩ := impl_beside.mono_l k
 unfold impl_beside.f
 exact qL
set_option maxHeartbeats 8000000 in
set_option maxRecDepth 100000 in
theorem impl_beside.calls (k : Nat) (a0_0 : Int) (a0_1 : Int) (A0_2 : Option Addr) (c0_2 : Nat) (l0_2 : List Int) (a1 : Int) (r : List Int) (w : World) (hr0_2 : Kd.C (Kd.int .i64) w A0_2 l0_2.length l0_2) (hc0_2 : l0_2.length ≤ c0_2) (h : impl_beside.f k a0_0 a0_1 l0_2 a1 = some r) :
  Calls Try.prog 68 #[.agg #[.int .i64 a0_0, .int .i64 a0_1, .slice A0_2 l0_2.length c0_2], .int .i64 a1] w fun e w' => ∃ v0_ : Value, e = .returned (v0_) ∧ Kd.R (Kd.int .i64) 3 w' w.heap.size (fun _ => True) v0_ r ∧ Below w.heap.size w w' := by
 have hu43 := Try.underlying43
 have HR0_2 := aM hr0_2
 have HC0_2 := aM hc0_2
 clear hr0_2 hc0_2
 have HB := aM (Below.refl w.heap.size w)
 unfold impl_beside.f at h
 have H := h
 clear h
 by_cases c3 : a0_0 = 0
 {
 exact ap_ c3 H
 }
 {
 rw [if_neg c3] at H
 have c3b0 := beq_eq_false_iff_ne.mpr c3
 have c3b1 := bne_iff_ne.mpr c3
 have HC4 := aM H
 clear H
 go_enter Try.func68, Try.ntmps68
 go_upto_if 17 with (first | ((with_reducible refine gate_dst (N := 2) rfl ?_); refine bx_ 2 #[.int .i64 a0_0, .int .i64 a0_1, .slice A0_2 l0_2.length c0_2] 43 ?_; intro gb116 hg w5 hbox hb; have BK116 := aM (hbox); have GW116 := aM (bz_ w hg qz1); have GE116 := GW116; replace HB := bS_ hb; clear hb hbox hg; obtain ⟨hcz6_0, hcz6_1, hcz6_2, hfz6_0, hfz6_1, hfz6_2⟩ := b6_ BK116.out))
 repeat (go_quiet (first | ((with_reducible refine gate_dst (N := 2) rfl ?_); refine bx_ 2 #[.int .i64 a0_0, .int .i64 a0_1, .slice A0_2 l0_2.length c0_2] 43 ?_; intro gb116 hg w5 hbox hb; have BK116 := aM (hbox); have GW116 := aM (bz_ w hg qz1); have GE116 := GW116; replace HB := bS_ hb; clear hb hbox hg; obtain ⟨hcz6_0, hcz6_1, hcz6_2, hfz6_0, hfz6_1, hfz6_2⟩ := b6_ BK116.out)); go_upto_if 17 with (first | ((with_reducible refine gate_dst (N := 2) rfl ?_); refine bx_ 2 #[.int .i64 a0_0, .int .i64 a0_1, .slice A0_2 l0_2.length c0_2] 43 ?_; intro gb116 hg w5 hbox hb; have BK116 := aM (hbox); have GW116 := aM (bz_ w hg qz1); have GE116 := GW116; replace HB := bS_ hb; clear hb hbox hg; obtain ⟨hcz6_0, hcz6_1, hcz6_2, hfz6_0, hfz6_1, hfz6_2⟩ := b6_ BK116.out)))
 (try simp only [Act.put, List.setIfInBounds_toArray, List.set_cons_zero, List.set_cons_succ])
 go_cut [5] (fun v5 wc => ∃ (kq : Nat) (x5_3 : List Int), Aside0 (impl_beside.j0 kq a1 x5_3 (Int.tmod a1 a0_0) (wrap64 (Int.tdiv a1 a0_0)) a0_0 a0_1 l0_2 = some r) ∧ Aside0 (kq ≤ k) ∧ Aside0 (Kd.R (Kd.int .i64) 3 wc w.heap.size (fun _ => True) v5 x5_3) ∧ Aside0 (wc.heap[gb116]? = some (.cells #[.int .i64 a0_0, .int .i64 a0_1, (.slice A0_2 l0_2.length c0_2)] 43 (0, 0))) ∧ Aside0 (Below w.heap.size w wc))
 case first =>
  have H := HC4.out
  clear HC4
  replace H := iE_ H
  rcases H with ⟨c7b0, H⟩ | ⟨c7b0, H⟩
  {
  (first | rw [c7b0] | (simp only [i64_w, i32_w]; rw [c7b0]) | rw [@decide_eq_true _ _ (of_decide_eq_true c7b0)] | rw [@decide_eq_true _ _ (of_decide_eq_true c7b1)] | skip)
  replace H := iN_ H
  obtain ⟨c8, H⟩ := H
  have LMc8 := aM c8
  clear c8
  obtain ⟨y117, hy117⟩ : ∃ y_ : List Int, y_ = (([] : List Int) ++ [wrap64 (a1 - a0_0)]) := ⟨_, rfl⟩
  replace H : (impl_beside.j0 k a1 y117 (Int.tmod a1 a0_0) (wrap64 (Int.tdiv a1 a0_0)) a0_0 a0_1 l0_2) = some r := by first | (rw [hy117]; exact H) | exact H
  have Ny117 := aM hy117
  clear hy117
  have H' := aM H
  clear H
  obtain ⟨hcz9_0, hcz9_1, hcz9_2, hfz9_0, hfz9_1, hfz9_2⟩ := b6_ BK116.out
  go_wp2_with (first | ((with_reducible refine gate_builtin (b := .append) (xs := #[.tmp 18, .tmp 23]) rfl ?_); at_builtin; refine Kd.R_append (Kd.int .i64) (w0 := w) w.heap.size rfl (.tmp 18) (.tmp 23) 24 3 (.int .i64 0) 8 rfl Try.underlying24 info3 rfl (by decide) (by omega) (.slice none 0 0) ([] : List Int) (wrap64 (a1 - a0_0)) [.int .i64 (wrap64 (a1 - a0_0))] (fun _ => True) (fun _ => False) rfl rfl ?aP (fun _ hk => hk.elim) ?aF ?aO ?aB ?aS ?aL ?_; (case aP => exact rfl); (case aB => exact qz1); (case aF => exact qz14); (case aO => exact ((Kd.R_nil _ _ _ _ (fun _ => True)))); (case aS => exact qz26); (case aL => have := LMc8.out; omega); intro v118 w10 ho hb hg hat; rw [← Ny117.out] at ho; replace BK116 := aM (blk_grown (bk_ BK116.out) hg (by simp [Value.ownBlock])); replace HB := aM (hb); have HO119 := aM (ho); clear ho hb hg hat) | go_quiet (fail))
  go_meet
  case rel => exact ⟨_, (y117), H', ⟨by first | omega | exact Nat.le_refl _⟩, ⟨rm_ HO119.out⟩, ⟨bk_ BK116.out⟩, ⟨qz1⟩⟩
  }
  {
  (first | rw [c7b0] | (simp only [i64_w, i32_w]; rw [c7b0]) | rw [@decide_eq_false _ _ (of_decide_eq_false c7b0)] | rw [@decide_eq_false _ _ (of_decide_eq_false c7b1)] | skip)
  have H' := aM H
  clear H
  go_wp2
  repeat (go_quiet (fail); try go_wp2)
  go_meet
  case rel => exact ⟨_, (([] : List Int)), H', ⟨by first | omega | exact Nat.le_refl _⟩, ⟨by first | exact Kd.R_nil _ _ _ _ _ | exact Kd.N_nil _ _ _ _ _ | exact Kd.V_nil _ _ _ _ _ | exact Kd.Q_nil _ _ _ _ _ | exact Kd.S_nil _ _ _ _ _⟩, ⟨bk_ BK116.out⟩, ⟨qz1⟩⟩
  }
 case rest =>
 clear HC4
 try clear c3
 try clear c3b0
 try clear c3b1
 try clear hcz6_0 hcz6_1 hcz6_2 hfz6_0 hfz6_1 hfz6_2
 obtain ⟨kq, x5_3, HA, HJ3, HO_5, BK116, HB⟩ := hcut
 cases kq with
 | zero => exact absurd HA.out (by simp [impl_beside.j0])
 | succ kj3 =>
 have H := HA.out
 clear HA
 simp only [impl_beside.j0] at H
 have HC11 := aM H
 clear H
 go_upto_if 26 with (fail)
 repeat (go_quiet (fail); go_upto_if 26 with (fail))
 go_cut [5] (fun v5 wc => ∃ (kq : Nat) (x5_10 : List Int), Aside0 (impl_beside.j1 kq a1 x5_10 (Int.tmod a1 a0_0) (wrap64 (Int.tdiv a1 a0_0)) a0_0 a0_1 l0_2 = some r) ∧ Aside0 (kq ≤ kj3) ∧ Aside0 (Kd.R (Kd.int .i64) 3 wc w.heap.size (fun _ => True) v5 x5_10) ∧ Aside0 (wc.heap[gb116]? = some (.cells #[.int .i64 a0_0, .int .i64 a0_1, (.slice A0_2 l0_2.length c0_2)] 43 (0, 0))) ∧ Aside0 (Below w.heap.size w wc))
 case first =>
  have H := HC11.out
  clear HC11
  replace H := iE_ H
  rcases H with ⟨c12b0, H⟩ | ⟨c12b0, H⟩
  {
  (first | rw [c12b0] | (simp only [i64_w, i32_w]; rw [c12b0]) | rw [@decide_eq_true _ _ (of_decide_eq_true c12b0)] | rw [@decide_eq_true _ _ (of_decide_eq_true c12b1)] | skip)
  replace H := iN_ H
  obtain ⟨c13, H⟩ := H
  have LMc13 := aM c13
  clear c13
  obtain ⟨y120, hy120⟩ : ∃ y_ : List Int, y_ = (x5_3 ++ [wrap64 (a1 - 1)]) := ⟨_, rfl⟩
  replace H : (impl_beside.j1 kj3 a1 y120 (Int.tmod a1 a0_0) (wrap64 (Int.tdiv a1 a0_0)) a0_0 a0_1 l0_2) = some r := by first | (rw [hy120]; exact H) | exact H
  have Ny120 := aM hy120
  clear hy120
  have H' := aM H
  clear H
  go_wp2_with (first | ((with_reducible refine gate_builtin (b := .append) (xs := #[.tmp 27, .tmp 30]) rfl ?_); at_builtin; refine Kd.R_append (Kd.int .i64) (w0 := w) w.heap.size rfl (.tmp 27) (.tmp 30) 24 3 (.int .i64 0) 8 rfl Try.underlying24 info3 rfl (by decide) (by omega) u5 x5_3 (wrap64 (a1 - 1)) [.int .i64 (wrap64 (a1 - 1))] (fun _ => True) (fun _ => False) rfl rfl ?aP (fun _ hk => hk.elim) ?aF ?aO ?aB ?aS ?aL ?_; (case aP => exact rfl); (case aB => exact qz1); (case aF => exact qz14); (case aO => exact (rr_ HO_5.out)); (case aS => exact qz26); (case aL => have := LMc13.out; omega); intro v121 w14 ho hb hg hat; rw [← Ny120.out] at ho; replace BK116 := aM (blk_grown (bk_ BK116.out) hg (Kd.R_ne HO_5.out BK116.out (by decide))); replace HB := aM (hb); have HO122 := aM (ho); clear HO_5; clear ho hb hg hat) | go_quiet (fail))
  go_meet
  case rel => exact ⟨_, (y120), H', ⟨by have := HJ3.out; first | omega | exact Nat.le_refl _⟩, ⟨rm_ HO122.out⟩, ⟨bk_ BK116.out⟩, ⟨qz1⟩⟩
  }
  {
  (first | rw [c12b0] | (simp only [i64_w, i32_w]; rw [c12b0]) | rw [@decide_eq_false _ _ (of_decide_eq_false c12b0)] | rw [@decide_eq_false _ _ (of_decide_eq_false c12b1)] | skip)
  have H' := aM H
  clear H
  go_wp2
  repeat (go_quiet (fail); try go_wp2)
  go_meet
  case rel => exact ⟨_, (x5_3), H', ⟨by have := HJ3.out; first | omega | exact Nat.le_refl _⟩, ⟨rm_ HO_5.out⟩, ⟨bk_ BK116.out⟩, ⟨qz1⟩⟩
  }
 case rest =>
 clear HC11
 try clear c3
 try clear c3b0
 try clear c3b1
 try clear hcz6_0 hcz6_1 hcz6_2 hfz6_0 hfz6_1 hfz6_2
 obtain ⟨kq, x5_10, HA, HJ10, HO_5, BK116, HB⟩ := hcut
 cases kq with
 | zero => exact absurd HA.out (by simp [impl_beside.j1])
 | succ kj10 =>
 have H := HA.out
 clear HA
 simp only [impl_beside.j1] at H
 replace H := iE_ H
 rcases H with ⟨c15b0, H⟩ | ⟨c15b0, H⟩
 {
 replace H := iN_ H
 obtain ⟨c16, H⟩ := H
 have LMc16 := aM c16
 clear c16
 obtain ⟨y123, hy123⟩ : ∃ y_ : List Int, y_ = (x5_10 ++ [wrap64 (a1 + 1)]) := ⟨_, rfl⟩
 replace H := yB_ hy123 H
 have Ny123 := aM hy123
 clear hy123
 replace H := iE_ H
 rcases H with ⟨c17b0, H⟩ | ⟨c17b0, H⟩
 {
 replace H := iN_ H
 obtain ⟨c18, H⟩ := H
 have LMc18 := aM c18
 clear c18
 obtain ⟨y126, hy126⟩ : ∃ y_ : List Int, y_ = (y123 ++ [wrap64 (a1 + a0_0)]) := ⟨_, rfl⟩
 replace H : (some y126) = some r := by first | (rw [hy126]; exact H) | exact H
 have Ny126 := aM hy126
 clear hy126
 obtain rfl := Option.some.inj H
 obtain ⟨hcz19_0, hcz19_1, hcz19_2, hfz19_0, hfz19_1, hfz19_2⟩ := b6_ BK116.out
 go_wp2_with (first | ((with_reducible refine gate_builtin (b := .append) (xs := #[.tmp 37, .tmp 40]) rfl ?_); at_builtin; refine Kd.R_append (Kd.int .i64) (w0 := w) w.heap.size rfl (.tmp 37) (.tmp 40) 24 3 (.int .i64 0) 8 rfl Try.underlying24 info3 rfl (by decide) (by omega) u5 x5_10 (wrap64 (a1 + 1)) [.int .i64 (wrap64 (a1 + 1))] (fun _ => True) (fun _ => False) rfl rfl ?aP (fun _ hk => hk.elim) ?aF ?aO ?aB ?aS ?aL ?_; (case aP => exact rfl); (case aB => exact qz1); (case aF => exact qz14); (case aO => exact (rr_ HO_5.out)); (case aS => exact qz26); (case aL => have := LMc16.out; omega); intro v124 w20 ho hb hg hat; rw [← Ny123.out] at ho; replace BK116 := aM (blk_grown (bk_ BK116.out) hg (Kd.R_ne HO_5.out BK116.out (by decide))); replace HB := aM (hb); have HO125 := aM (ho); clear HO_5; clear ho hb hg hat; obtain ⟨hcz21_0, hcz21_1, hcz21_2, hfz21_0, hfz21_1, hfz21_2⟩ := b6_ BK116.out) | ((with_reducible refine gate_builtin (b := .append) (xs := #[.tmp 47, .tmp 52]) rfl ?_); at_builtin; refine Kd.R_append (Kd.int .i64) (w0 := w) w.heap.size rfl (.tmp 47) (.tmp 52) 24 3 (.int .i64 0) 8 rfl Try.underlying24 info3 rfl (by decide) (by omega) v124 y123 (wrap64 (a1 + a0_0)) [.int .i64 (wrap64 (a1 + a0_0))] (fun _ => True) (fun _ => False) rfl rfl ?aP (fun _ hk => hk.elim) ?aF ?aO ?aB ?aS ?aL ?_; (case aP => exact rfl); (case aB => exact qz1); (case aF => exact qz14); (case aO => exact (rr_ HO125.out)); (case aS => exact qz26); (case aL => have := LMc18.out; omega); intro v127 w22 ho hb hg hat; rw [← Ny126.out] at ho; replace BK116 := aM (blk_grown (bk_ BK116.out) hg (Kd.R_ne HO125.out BK116.out (by decide))); replace HB := aM (hb); have HO128 := aM (ho); clear HO125; clear ho hb hg hat) | go_quiet (fail))
 go_ret
 exact ⟨_, qzw, by (with_reducible repeat (first | apply Kd.R_alloc | apply Kd.R_drewN | apply Kd.R_drew)); exact HO128.out, qz1⟩
 }
 {
 obtain rfl := Option.some.inj H
 obtain ⟨hcz23_0, hcz23_1, hcz23_2, hfz23_0, hfz23_1, hfz23_2⟩ := b6_ BK116.out
 go_wp2_with (first | ((with_reducible refine gate_builtin (b := .append) (xs := #[.tmp 37, .tmp 40]) rfl ?_); at_builtin; refine Kd.R_append (Kd.int .i64) (w0 := w) w.heap.size rfl (.tmp 37) (.tmp 40) 24 3 (.int .i64 0) 8 rfl Try.underlying24 info3 rfl (by decide) (by omega) u5 x5_10 (wrap64 (a1 + 1)) [.int .i64 (wrap64 (a1 + 1))] (fun _ => True) (fun _ => False) rfl rfl ?aP (fun _ hk => hk.elim) ?aF ?aO ?aB ?aS ?aL ?_; (case aP => exact rfl); (case aB => exact qz1); (case aF => exact qz14); (case aO => exact (rr_ HO_5.out)); (case aS => exact qz26); (case aL => have := LMc16.out; omega); intro v124 w24 ho hb hg hat; rw [← Ny123.out] at ho; replace BK116 := aM (blk_grown (bk_ BK116.out) hg (Kd.R_ne HO_5.out BK116.out (by decide))); replace HB := aM (hb); have HO125 := aM (ho); clear HO_5; clear ho hb hg hat; obtain ⟨hcz25_0, hcz25_1, hcz25_2, hfz25_0, hfz25_1, hfz25_2⟩ := b6_ BK116.out) | go_quiet (fail))
 go_ret
 exact ⟨_, qzw, by (with_reducible repeat (first | apply Kd.R_alloc | apply Kd.R_drewN | apply Kd.R_drew)); exact HO125.out, qz1⟩
 }
 }
 {
 replace H := iE_ H
 rcases H with ⟨c26b0, H⟩ | ⟨c26b0, H⟩
 {
 replace H := iN_ H
 obtain ⟨c27, H⟩ := H
 have LMc27 := aM c27
 clear c27
 obtain ⟨y129, hy129⟩ : ∃ y_ : List Int, y_ = (x5_10 ++ [wrap64 (a1 + a0_0)]) := ⟨_, rfl⟩
 replace H : (some y129) = some r := by first | (rw [hy129]; exact H) | exact H
 have Ny129 := aM hy129
 clear hy129
 obtain rfl := Option.some.inj H
 obtain ⟨hcz28_0, hcz28_1, hcz28_2, hfz28_0, hfz28_1, hfz28_2⟩ := b6_ BK116.out
 go_wp2_with (first | ((with_reducible refine gate_builtin (b := .append) (xs := #[.tmp 47, .tmp 52]) rfl ?_); at_builtin; refine Kd.R_append (Kd.int .i64) (w0 := w) w.heap.size rfl (.tmp 47) (.tmp 52) 24 3 (.int .i64 0) 8 rfl Try.underlying24 info3 rfl (by decide) (by omega) u5 x5_10 (wrap64 (a1 + a0_0)) [.int .i64 (wrap64 (a1 + a0_0))] (fun _ => True) (fun _ => False) rfl rfl ?aP (fun _ hk => hk.elim) ?aF ?aO ?aB ?aS ?aL ?_; (case aP => exact rfl); (case aB => exact qz1); (case aF => exact qz14); (case aO => exact (rr_ HO_5.out)); (case aS => exact qz26); (case aL => have := LMc27.out; omega); intro v130 w29 ho hb hg hat; rw [← Ny129.out] at ho; replace BK116 := aM (blk_grown (bk_ BK116.out) hg (Kd.R_ne HO_5.out BK116.out (by decide))); replace HB := aM (hb); have HO131 := aM (ho); clear HO_5; clear ho hb hg hat) | go_quiet (fail))
 go_ret
 exact ⟨_, qzw, by (with_reducible repeat (first | apply Kd.R_alloc | apply Kd.R_drewN | apply Kd.R_drew)); exact HO131.out, qz1⟩
 }
 {
 obtain rfl := Option.some.inj H
 obtain ⟨hcz30_0, hcz30_1, hcz30_2, hfz30_0, hfz30_1, hfz30_2⟩ := b6_ BK116.out
 go_wp2
 repeat (go_quiet (fail); try go_wp2)
 go_ret
 exact ⟨_, qzw, by (with_reducible repeat (first | apply Kd.R_alloc | apply Kd.R_drewN | apply Kd.R_drew)); exact HO_5.out, qz1⟩
 }
 }
 }
/-! ### impl_near: function 66 -/
def impl_near.l0 : Nat → Bool → List Int → List Int → Int → Int → Int → Int → List Int → Option (List Int)
 | 0, _, _, _, _, _, _, _, _ => none
 | k + 1, x2, x7, x13, x14, x15, x133000, x133001, x133002 => if x15 < x14 then (if 0 ≤ x15 then (if x15 < (x13.length : Int) then (if 0 ≤ (rd x13 x15) then (if (rd x13 x15) < (x133002.length : Int) then (if (rd x133002 (rd x13 x15)) = 0 then (impl_near.l0 k x2 x7 x13 x14 (wrap64 (x15 + 1)) x133000 x133001 x133002) else (if x2 = true then (if (rd x133002 (rd x13 x15)) = 2 then (impl_near.l0 k x2 x7 x13 x14 (wrap64 (x15 + 1)) x133000 x133001 x133002) else (if x7.length < 17592186044416 then (impl_near.l0 k x2 (x7 ++ [rd x13 x15]) x13 x14 (wrap64 (x15 + 1)) x133000 x133001 x133002) else (none))) else (if x7.length < 17592186044416 then (impl_near.l0 k x2 (x7 ++ [rd x13 x15]) x13 x14 (wrap64 (x15 + 1)) x133000 x133001 x133002) else (none)))) else (none)) else (none)) else (none)) else (none)) else (some x7)
def impl_near.f (k : Nat) (a0_0 : Int) (a0_1 : Int) (l0_2 : List Int) (a1 : Int) (a2 : Bool) : Option (List Int) := (impl_beside.f k a0_0 a0_1 l0_2 a1).bind fun t133 => (impl_near.l0 k a2 ([] : List Int) t133 (t133.length : Int) 0 a0_0 a0_1 l0_2)
theorem impl_near.mono_l : ∀ k, (∀ y0 y1 y2 y3 y4 y5 y6 y7, LeO (impl_near.l0 k y0 y1 y2 y3 y4 y5 y6 y7) (impl_near.l0 (k + 1) y0 y1 y2 y3 y4 y5 y6 y7))
 | 0 => fun _ _ _ _ _ _ _ _ r h => by simp [impl_near.l0] at h
 | k + 1 => by
  have ih0 := impl_near.mono_l k
  {
  intro y0 y1 y2 y3 y4 y5 y6 y7
  unfold impl_near.l0
  have j0 := @impl_beside.mono
  exact qL
  }
theorem impl_near.mono : ∀ a0 a1 a2 a3 a4 k, LeO (impl_near.f k a0 a1 a2 a3 a4) (impl_near.f (k + 1) a0 a1 a2 a3 a4) := by
 intro a0 a1 a2 a3 a4 k
 have ih0 := impl_near.mono_l k
 unfold impl_near.f
 have j0 := @impl_beside.mono
 exact qL
set_option maxHeartbeats 8000000 in
set_option maxRecDepth 100000 in
theorem impl_near.calls (k : Nat) (a0_0 : Int) (a0_1 : Int) (A0_2 : Option Addr) (c0_2 : Nat) (l0_2 : List Int) (a1 : Int) (a2 : Bool) (r : List Int) (w : World) (hr0_2 : Kd.C (Kd.int .i64) w A0_2 l0_2.length l0_2) (hc0_2 : l0_2.length ≤ c0_2) (h : impl_near.f k a0_0 a0_1 l0_2 a1 a2 = some r) :
  Calls Try.prog 66 #[.agg #[.int .i64 a0_0, .int .i64 a0_1, .slice A0_2 l0_2.length c0_2], .int .i64 a1, .bool a2] w fun e w' => ∃ v0_ : Value, e = .returned (v0_) ∧ Kd.R (Kd.int .i64) 3 w' w.heap.size (fun _ => True) v0_ r ∧ Below w.heap.size w w' := by
 have hu43 := Try.underlying43
 have HR0_2 := aM hr0_2
 have HC0_2 := aM hc0_2
 clear hr0_2 hc0_2
 have HB := aM (Below.refl w.heap.size w)
 unfold impl_near.f at h
 have H := h
 clear h
 replace H := Option.bind_eq_some_iff.mp H
 obtain ⟨t133, A40, H⟩ := H
 have A4 := aM A40
 clear A40
 have H' := aM H
 clear H
 go_enter Try.func66, Try.ntmps66
 go_wp2_with (first | ((with_reducible refine gate_dst (N := 3) rfl ?_); refine bx_ 3 #[.int .i64 a0_0, .int .i64 a0_1, .slice A0_2 l0_2.length c0_2] 43 ?_; intro gb132 hg w5 hbox hb; have BK132 := aM (hbox); have GW132 := aM (bz_ w hg qz1); have GE132 := GW132; replace HB := bS_ hb; clear hb hbox hg; obtain ⟨hcz6_0, hcz6_1, hcz6_2, hfz6_0, hfz6_1, hfz6_2⟩ := b6_ BK132.out) | ((with_reducible refine gate_callee (f := 68) rfl ?_); refine goesL_ (some 13) rfl rfl Try.func68 (by kernel_rfl) rfl #[.agg #[.int .i64 a0_0, .int .i64 a0_1, .slice A0_2 l0_2.length c0_2], .int .i64 a1] rfl qz2 ?_; (with_reducible refine (impl_beside.calls k a0_0 a0_1 _ _ l0_2 a1 t133 _ ?_ ?_ A4.out).mono ?_); exact qz5; exact qz16; rintro e w7 ⟨v134, rfl, ho0, hb⟩; refine ⟨_, rfl, ?_⟩; have HO135 := aM (Kd.R_lower ho0 (below_size qz1)); replace BK132 := bB_ BK132 hb; replace HB := bS_ hb; (try clear hb ho0); obtain ⟨Ao8, co8, eo8⟩ := Kd.R_slice HO135.out; subst eo8))
 go_loopg [7, 15] k (fun kq v7 v15 w' => ∃ (x7_1 : List Int) (x15_1 : Int), v15 = .int .i64 x15_1 ∧ Aside0 (impl_near.l0 kq a2 x7_1 t133 (t133.length : Int) x15_1 a0_0 a0_1 l0_2 = some r) ∧ Aside0 (kq ≤ k) ∧ Aside0 (Kd.R (Kd.int .i64) 3 w' w.heap.size (fun k_ => some k_ ≠ ((.slice Ao8 t133.length co8) : Value).ownBlock) v7 x7_1) ∧ Aside0 (Kd.R (Kd.int .i64) 3 w' w.heap.size (fun k_ => some k_ ≠ (v7 : Value).ownBlock) (.slice Ao8 t133.length co8) t133) ∧ Aside0 (w'.heap[gb132]? = some (.cells #[.int .i64 a0_0, .int .i64 a0_1, (.slice A0_2 l0_2.length c0_2)] 43 (0, 0))) ∧ Aside0 (Below w.heap.size w w'))
 case atStart => exact ⟨(([] : List Int)), (0), qz6, H', ⟨Nat.le_refl _⟩, ⟨by first | exact Kd.R_nil _ _ _ _ _ | exact Kd.N_nil _ _ _ _ _ | exact Kd.V_nil _ _ _ _ _ | exact Kd.Q_nil _ _ _ _ _ | exact Kd.S_nil _ _ _ _ _⟩, ⟨by (with_reducible repeat (first | apply Kd.R_alloc | apply Kd.R_drewN | apply Kd.R_drew)); exact Kd.R_mono HO135.out (fun _ hk => (by simp [Value.ownBlock]))⟩, ⟨bk_ BK132.out⟩, ⟨qz1⟩⟩
 case round =>
 clear H'
 try clear hcz6_0 hcz6_1 hcz6_2 hfz6_0 hfz6_1 hfz6_2
 obtain ⟨x7_1, x15_1, rfl, HA, HK1, HO_7, HO_13, BK132, HB⟩ := hrel
 cases gk with
 | zero => exact absurd HA.out (by simp [impl_near.l0])
 | succ k1 =>
 have H := HA.out
 clear HA
 simp only [impl_near.l0] at H
 replace H := iE_ H
 rcases H with ⟨c9b0, H⟩ | ⟨c9b0, H⟩
 {
 replace H := iD_ H
 obtain ⟨c10b0, H⟩ := H
 replace H := iD_ H
 obtain ⟨c11b0, H⟩ := H
 replace H := iD_ H
 obtain ⟨c12b0, H⟩ := H
 replace H := iD_ H
 obtain ⟨c13b0, H⟩ := H
 replace H := iQ_ H
 rcases H with ⟨c14b0, c14b1, H⟩ | ⟨c14, c14b0, c14b1, H⟩
 {
 have H' := aM H
 clear H
 have p136 : (0 ≤ (x15_1 : Int)) = True := et_
 have q136 : (x15_1 < (t133.length : Int)) = True := et_
 obtain ⟨ad136, e136, hx136_0⟩ := Kd.at_int (Kd.R_reads' HO_13.out).2.2 x15_1 dt_ dt_
 cases e136
 obtain ⟨hcz15_0, hcz15_1, hcz15_2, hfz15_0, hfz15_1, hfz15_2⟩ := b6_ BK132.out
 have p137 : (0 ≤ ((rd t133 x15_1) : Int)) = True := et_
 have q137 : ((rd t133 x15_1) < (l0_2.length : Int)) = True := et_
 obtain ⟨ad137, e137, hx137_0⟩ := Kd.at_int HR0_2.out (rd t133 x15_1) dt_ dt_
 cases e137
 replace hx137_0 := cB_ hx137_0
 go_wp2
 go_roundg k1
 case measure => have := HK1.out; omega
 case rel => exact ⟨(x7_1), (wrap64 (x15_1 + 1)), qz6, H', ⟨by have := HK1.out; omega⟩, ⟨rm_ HO_7.out⟩, ⟨rm_ HO_13.out⟩, ⟨bk_ BK132.out⟩, ⟨qz1⟩⟩
 }
 {
 replace H := iB_ H
 rcases H with ⟨rfl, H⟩ | ⟨rfl, H⟩
 {
 replace H := iQ_ H
 rcases H with ⟨c17b0, c17b1, H⟩ | ⟨c17, c17b0, c17b1, H⟩
 {
 have H' := aM H
 clear H
 have p136 : (0 ≤ (x15_1 : Int)) = True := et_
 have q136 : (x15_1 < (t133.length : Int)) = True := et_
 obtain ⟨ad136, e136, hx136_0⟩ := Kd.at_int (Kd.R_reads' HO_13.out).2.2 x15_1 dt_ dt_
 cases e136
 obtain ⟨hcz18_0, hcz18_1, hcz18_2, hfz18_0, hfz18_1, hfz18_2⟩ := b6_ BK132.out
 have p137 : (0 ≤ ((rd t133 x15_1) : Int)) = True := et_
 have q137 : ((rd t133 x15_1) < (l0_2.length : Int)) = True := et_
 obtain ⟨ad137, e137, hx137_0⟩ := Kd.at_int HR0_2.out (rd t133 x15_1) dt_ dt_
 cases e137
 replace hx137_0 := cB_ hx137_0
 go_wp2
 go_roundg k1
 case measure => have := HK1.out; omega
 case rel => exact ⟨(x7_1), (wrap64 (x15_1 + 1)), qz6, H', ⟨by have := HK1.out; omega⟩, ⟨rm_ HO_7.out⟩, ⟨rm_ HO_13.out⟩, ⟨bk_ BK132.out⟩, ⟨qz1⟩⟩
 }
 {
 replace H := iN_ H
 obtain ⟨c19, H⟩ := H
 have LMc19 := aM c19
 clear c19
 obtain ⟨y138, hy138⟩ : ∃ y_ : List Int, y_ = (x7_1 ++ [rd t133 x15_1]) := ⟨_, rfl⟩
 replace H : (impl_near.l0 k1 true y138 t133 (t133.length : Int) (wrap64 (x15_1 + 1)) a0_0 a0_1 l0_2) = some r := by first | (rw [hy138]; exact H) | exact H
 have Ny138 := aM hy138
 clear hy138
 have H' := aM H
 clear H
 have p136 : (0 ≤ (x15_1 : Int)) = True := et_
 have q136 : (x15_1 < (t133.length : Int)) = True := et_
 obtain ⟨ad136, e136, hx136_0⟩ := Kd.at_int (Kd.R_reads' HO_13.out).2.2 x15_1 dt_ dt_
 cases e136
 obtain ⟨hcz20_0, hcz20_1, hcz20_2, hfz20_0, hfz20_1, hfz20_2⟩ := b6_ BK132.out
 have p137 : (0 ≤ ((rd t133 x15_1) : Int)) = True := et_
 have q137 : ((rd t133 x15_1) < (l0_2.length : Int)) = True := et_
 obtain ⟨ad137, e137, hx137_0⟩ := Kd.at_int HR0_2.out (rd t133 x15_1) dt_ dt_
 cases e137
 replace hx137_0 := cB_ hx137_0
 go_wp2_with (first | ((with_reducible refine gate_builtin (b := .append) (xs := #[.tmp 34, .tmp 36]) rfl ?_); at_builtin; refine Kd.R_append (Kd.int .i64) (w0 := w) w.heap.size rfl (.tmp 34) (.tmp 36) 24 3 (.int .i64 0) 8 rfl Try.underlying24 info3 rfl (by decide) (by omega) u7 x7_1 (rd t133 x15_1) [.int .i64 (rd t133 x15_1)] (fun k_ => some k_ ≠ (.slice (some ad136) t133.length co8 : Value).ownBlock) (fun _ => False) rfl rfl ?aP (fun _ hk => hk.elim) ?aF ?aO ?aB ?aS ?aL ?_; (case aP => exact rfl); (case aB => exact qz1); (case aF => exact (fun k_ hk => Kd.fresh' (Kd.R_lt (rr_ HO_13.out)) k_ hk)); (case aO => exact (rr_ HO_7.out)); (case aS => exact qz26); (case aL => have := LMc19.out; omega); intro v139 w21 ho hb hg hat; rw [← Ny138.out] at ho; replace HO_13 := aM (Kd.R_after (ok := (fun _ => True)) (by (with_reducible repeat (first | apply Kd.R_alloc | apply Kd.R_drewN | apply Kd.R_drew)); exact Kd.R_mono HO_13.out (fun _ hk => ⟨trivial, hk⟩)) hg hat); replace BK132 := aM (blk_grown (bk_ BK132.out) hg (Kd.R_ne HO_7.out BK132.out (by decide))); replace HB := aM (hb); have HO140 := aM (ho); clear HO_7; clear ho hb hg hat))
 go_roundg k1
 case measure => have := HK1.out; omega
 case rel => exact ⟨(y138), (wrap64 (x15_1 + 1)), qz6, H', ⟨by have := HK1.out; omega⟩, ⟨rm_ HO140.out⟩, ⟨by (with_reducible repeat (first | apply Kd.R_alloc | apply Kd.R_drewN | apply Kd.R_drew)); exact Kd.R_mono HO_13.out (fun _ hk => hk.2)⟩, ⟨bk_ BK132.out⟩, ⟨qz1⟩⟩
 }
 }
 {
 replace H := iN_ H
 obtain ⟨c22, H⟩ := H
 have LMc22 := aM c22
 clear c22
 obtain ⟨y141, hy141⟩ : ∃ y_ : List Int, y_ = (x7_1 ++ [rd t133 x15_1]) := ⟨_, rfl⟩
 replace H : (impl_near.l0 k1 false y141 t133 (t133.length : Int) (wrap64 (x15_1 + 1)) a0_0 a0_1 l0_2) = some r := by first | (rw [hy141]; exact H) | exact H
 have Ny141 := aM hy141
 clear hy141
 have H' := aM H
 clear H
 have p136 : (0 ≤ (x15_1 : Int)) = True := et_
 have q136 : (x15_1 < (t133.length : Int)) = True := et_
 obtain ⟨ad136, e136, hx136_0⟩ := Kd.at_int (Kd.R_reads' HO_13.out).2.2 x15_1 dt_ dt_
 cases e136
 obtain ⟨hcz23_0, hcz23_1, hcz23_2, hfz23_0, hfz23_1, hfz23_2⟩ := b6_ BK132.out
 have p137 : (0 ≤ ((rd t133 x15_1) : Int)) = True := et_
 have q137 : ((rd t133 x15_1) < (l0_2.length : Int)) = True := et_
 obtain ⟨ad137, e137, hx137_0⟩ := Kd.at_int HR0_2.out (rd t133 x15_1) dt_ dt_
 cases e137
 replace hx137_0 := cB_ hx137_0
 go_wp2_with (first | ((with_reducible refine gate_builtin (b := .append) (xs := #[.tmp 34, .tmp 36]) rfl ?_); at_builtin; refine Kd.R_append (Kd.int .i64) (w0 := w) w.heap.size rfl (.tmp 34) (.tmp 36) 24 3 (.int .i64 0) 8 rfl Try.underlying24 info3 rfl (by decide) (by omega) u7 x7_1 (rd t133 x15_1) [.int .i64 (rd t133 x15_1)] (fun k_ => some k_ ≠ (.slice (some ad136) t133.length co8 : Value).ownBlock) (fun _ => False) rfl rfl ?aP (fun _ hk => hk.elim) ?aF ?aO ?aB ?aS ?aL ?_; (case aP => exact rfl); (case aB => exact qz1); (case aF => exact (fun k_ hk => Kd.fresh' (Kd.R_lt (rr_ HO_13.out)) k_ hk)); (case aO => exact (rr_ HO_7.out)); (case aS => exact qz26); (case aL => have := LMc22.out; omega); intro v142 w24 ho hb hg hat; rw [← Ny141.out] at ho; replace HO_13 := aM (Kd.R_after (ok := (fun _ => True)) (by (with_reducible repeat (first | apply Kd.R_alloc | apply Kd.R_drewN | apply Kd.R_drew)); exact Kd.R_mono HO_13.out (fun _ hk => ⟨trivial, hk⟩)) hg hat); replace BK132 := aM (blk_grown (bk_ BK132.out) hg (Kd.R_ne HO_7.out BK132.out (by decide))); replace HB := aM (hb); have HO143 := aM (ho); clear HO_7; clear ho hb hg hat))
 go_roundg k1
 case measure => have := HK1.out; omega
 case rel => exact ⟨(y141), (wrap64 (x15_1 + 1)), qz6, H', ⟨by have := HK1.out; omega⟩, ⟨rm_ HO143.out⟩, ⟨by (with_reducible repeat (first | apply Kd.R_alloc | apply Kd.R_drewN | apply Kd.R_drew)); exact Kd.R_mono HO_13.out (fun _ hk => hk.2)⟩, ⟨bk_ BK132.out⟩, ⟨qz1⟩⟩
 }
 }
 }
 {
 obtain rfl := Option.some.inj H
 go_wp2
 go_ret
 exact ⟨_, qzw, by (with_reducible repeat (first | apply Kd.R_alloc | apply Kd.R_drewN | apply Kd.R_drew)); exact Kd.R_mono HO_7.out (fun _ hk => trivial), qz1⟩
 }
/-! ### impl_hasInt: function 67 -/
def impl_hasInt.l0 : Nat → Int → List Int → Int → Int → Option (Bool)
 | 0, _, _, _, _ => none
 | k + 1, x1, x7, x8, x9 => if x9 < x8 then (if 0 ≤ x9 then (if x9 < (x7.length : Int) then (if (rd x7 x9) = x1 then (some true) else (impl_hasInt.l0 k x1 x7 x8 (wrap64 (x9 + 1)))) else (none)) else (none)) else (some false)
def impl_hasInt.f (k : Nat) (l0 : List Int) (a1 : Int) : Option (Bool) := impl_hasInt.l0 k a1 l0 (l0.length : Int) 0
theorem impl_hasInt.mono_l : ∀ k, (∀ y0 y1 y2 y3, LeO (impl_hasInt.l0 k y0 y1 y2 y3) (impl_hasInt.l0 (k + 1) y0 y1 y2 y3))
 | 0 => fun _ _ _ _ r h => by simp [impl_hasInt.l0] at h
 | k + 1 => by
  have ih0 := impl_hasInt.mono_l k
  {
  intro y0 y1 y2 y3
  unfold impl_hasInt.l0
  exact qL
  }
theorem impl_hasInt.mono : ∀ a0 a1 k, LeO (impl_hasInt.f k a0 a1) (impl_hasInt.f (k + 1) a0 a1) := by
 intro a0 a1 k
 have ih0 := impl_hasInt.mono_l k
 unfold impl_hasInt.f
 exact qL
set_option maxHeartbeats 8000000 in
set_option maxRecDepth 100000 in
theorem impl_hasInt.calls (k : Nat) (A0 : Option Addr) (c0 : Nat) (l0 : List Int) (a1 : Int) (r : Bool) (w : World) (hr0 : Kd.C (Kd.int .i64) w A0 l0.length l0) (hc0 : l0.length ≤ c0) (h : impl_hasInt.f k l0 a1 = some r) :
  Calls Try.prog 67 #[.slice A0 l0.length c0, .int .i64 a1] w fun e w' => e = .returned (.bool r) ∧ Drawn0 w w' := by
 have HR0 := aM hr0
 have HC0 := aM hc0
 clear hr0 hc0
 unfold impl_hasInt.f at h
 have H := h
 clear h
 have H' := aM H
 clear H
 go_enter Try.func67, Try.ntmps67
 go_wp2
 go_loopg [9] k (fun kq v9 w' => ∃ (x9_1 : Int), v9 = .int .i64 x9_1 ∧ Aside0 (impl_hasInt.l0 kq a1 l0 (l0.length : Int) x9_1 = some r) ∧ Aside0 (kq ≤ k) ∧ Drawn0 w w')
 case atStart => exact ⟨(0), qz6, H', ⟨Nat.le_refl _⟩, by repeat (first | exact Drawn0.refl _ | apply Drawn0.step)⟩
 case round =>
 clear H'
 obtain ⟨x9_1, rfl, HA, HK1, ⟨m1, rfl⟩⟩ := hrel
 cases gk with
 | zero => exact absurd HA.out (by simp [impl_hasInt.l0])
 | succ k1 =>
 have H := HA.out
 clear HA
 simp only [impl_hasInt.l0] at H
 replace H := iE_ H
 rcases H with ⟨c3b0, H⟩ | ⟨c3b0, H⟩
 {
 replace H := iD_ H
 obtain ⟨c4b0, H⟩ := H
 replace H := iD_ H
 obtain ⟨c5b0, H⟩ := H
 replace H := iQ_ H
 rcases H with ⟨c6b0, c6b1, H⟩ | ⟨c6, c6b0, c6b1, H⟩
 {
 obtain rfl := Option.some.inj H
 have p144 : (0 ≤ (x9_1 : Int)) = True := et_
 have q144 : (x9_1 < (l0.length : Int)) = True := et_
 obtain ⟨ad144, e144, hx144_0⟩ := Kd.at_int HR0.out x9_1 dt_ dt_
 cases e144
 go_wp2
 go_ret
 exact ⟨by first | rfl | (simp; done) | (simp [*]; done), by repeat (first | exact Drawn0.refl _ | apply Drawn0.step)⟩
 }
 {
 have H' := aM H
 clear H
 have p144 : (0 ≤ (x9_1 : Int)) = True := et_
 have q144 : (x9_1 < (l0.length : Int)) = True := et_
 obtain ⟨ad144, e144, hx144_0⟩ := Kd.at_int HR0.out x9_1 dt_ dt_
 cases e144
 go_wp2
 go_roundg k1
 case measure => have := HK1.out; omega
 case rel => exact ⟨(wrap64 (x9_1 + 1)), qz6, H', ⟨by have := HK1.out; omega⟩, by repeat (first | exact Drawn0.refl _ | apply Drawn0.step)⟩
 }
 }
 {
 obtain rfl := Option.some.inj H
 go_wp2
 go_ret
 exact ⟨by first | rfl | (simp; done) | (simp [*]; done), by repeat (first | exact Drawn0.refl _ | apply Drawn0.step)⟩
 }
end Go.Proofs.Ytankmdbbgepmbaa.PFnFirst
