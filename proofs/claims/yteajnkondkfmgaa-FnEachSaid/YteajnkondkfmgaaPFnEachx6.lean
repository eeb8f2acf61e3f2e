-- Made by a program of this session out of the translation. Lean checks it.
import Derived.Test.YteajnkondkfmgaaPFnEachx3
import Derived.Test.YteajnkondkfmgaaPFnEachx5
namespace Go.Proofs.Yteajnkondkfmgaa.PFnEach
open Go.RowKit Go.Proofs.YteajnkondkfmgaaW.PrintWords Go.Proofs.YteajnkondkfmgaaW.PrintLast Go.Proofs.YteajnkondkfmgaaW.PrintMore
attribute [local go_sem] max2_int min2_int max_two min_two max_three min_three max_four min_four   -- for this text's walks alone
set_option linter.unusedVariables false
set_option linter.unusedSimpArgs false

/-! ### impl_podAt: function 69 -/
def impl_podAt.l0 : Nat → Int → List (S79) → Int → Int → Option (Int)
 | 0, _, _, _, _ => none
 | k + 1, x1, x8, x9, x10 => if x10 < x9 then (if 0 ≤ x10 then (if x10 < (x8.length : Int) then (if ((rd_T79 x8 x10).f0) = x1 then (some x10) else (impl_podAt.l0 k x1 x8 x9 (wrap64 (x10 + 1)))) else (none)) else (none)) else (some (-1))
def impl_podAt.f (k : Nat) (l0_0 : List (S79)) (a1 : Int) : Option (Int) := impl_podAt.l0 k a1 l0_0 (l0_0.length : Int) 0
theorem impl_podAt.mono_l : ∀ k, (∀ y0 y1 y2 y3, LeO (impl_podAt.l0 k y0 y1 y2 y3) (impl_podAt.l0 (k + 1) y0 y1 y2 y3))
 | 0 => fun _ _ _ _ r h => by simp [impl_podAt.l0] at h
 | k + 1 => by
  have ih0 := impl_podAt.mono_l k
  {
  intro y0 y1 y2 y3
  unfold impl_podAt.l0
  exact qL
  }
theorem impl_podAt.mono : ∀ a0 a1 k, LeO (impl_podAt.f k a0 a1) (impl_podAt.f (k + 1) a0 a1) := by
 intro a0 a1 k
 have ih0 := impl_podAt.mono_l k
 unfold impl_podAt.f
 exact qL
set_option maxHeartbeats 8000000 in
set_option maxRecDepth 100000 in
theorem impl_podAt.calls (k : Nat) (A0_0 : Option Addr) (c0_0 : Nat) (l0_0 : List (S79)) (a1 : Int) (r : Int) (w : World) (hr0_0 : Kd.C k79 w A0_0 l0_0.length l0_0) (hc0_0 : l0_0.length ≤ c0_0) (h : impl_podAt.f k l0_0 a1 = some r) :
  Calls Try.prog 69 #[.agg #[.slice A0_0 l0_0.length c0_0], .int .i64 a1] w fun e w' => e = .returned (.int .i64 r) ∧ Below w.heap.size w w' := by
 have hu26 := Try.underlying26
 have hu79 := Try.underlying79
 have HR0_0 := aM hr0_0
 have HC0_0 := aM hc0_0
 clear hr0_0 hc0_0
 have HB := aM (Below.refl w.heap.size w)
 have H : (impl_podAt.l0 k a1 l0_0 (l0_0.length : Int) 0) = some r := h
 clear h
 have H' := aM H
 clear H
 go_enter Try.func69, Try.ntmps69
 go_wp2_with (first | ((with_reducible refine gate_dst (N := 2) rfl ?_); refine bx_ 2 #[.slice A0_0 l0_0.length c0_0] 26 ?_; intro gb143 hg w3 hbox hb; have BK143 := aM (hbox); have GW143 := aM (bz_ w hg qz1); have GE143 := GW143; replace HB := bS_ hb; clear hb hbox hg; obtain ⟨hcz4_0, hfz4_0⟩ := bf_ BK143.out))
 go_loopg [10] k (fun kq v10 w' => ∃ (x10_1 : Int), v10 = .int .i64 x10_1 ∧ Aside0 (impl_podAt.l0 kq a1 l0_0 (l0_0.length : Int) x10_1 = some r) ∧ Aside0 (kq ≤ k) ∧ Aside0 (w'.heap[gb143]? = some (.cells #[(.slice A0_0 l0_0.length c0_0)] 26 (0, 0))) ∧ Aside0 (Below w.heap.size w w'))
 case atStart => exact ⟨(0), qz5, H', ⟨Nat.le_refl _⟩, ⟨bk_ BK143.out⟩, ⟨qz1⟩⟩
 case round =>
  clear H'
  try clear p2
  try clear hcz4_0 hfz4_0
  obtain ⟨x10_1, rfl, HA, HK1, BK143, HB⟩ := hrel
  cases gk with
  | zero => exact absurd HA.out (by simp [impl_podAt.l0])
  | succ k1 =>
   have H := HA.out
   clear HA
   simp only [impl_podAt.l0] at H
   by_cases c5 : x10_1 < (l0_0.length : Int)
   {
   rw [if_pos c5] at H
   have c5b0 := decide_eq_true c5
   clear c5
   by_cases c6 : 0 ≤ x10_1
   {
   rw [if_pos c6] at H
   have c6b0 := decide_eq_true c6
   clear c6
   by_cases c7 : x10_1 < (l0_0.length : Int)
   {
   rw [if_pos c7] at H
   have c7b0 := decide_eq_true c7
   clear c7
   by_cases c8 : ((rd_T79 l0_0 x10_1).f0) = a1
   {
   rw [if_pos c8] at H
   have c8b0 := beq_iff_eq.mpr c8
   have c8b1 := bne_eq_false_iff_eq.mpr c8
   clear c8
   obtain rfl := Option.some.inj H
   simp only [Option.some.injEq, Prod.mk.injEq] at H
   obtain ⟨rfl⟩ := H
   have p144 : 0 ≤ (x10_1 : Int) := dt_
   have q144 : x10_1 < (l0_0.length : Int) := dt_
   obtain ⟨ad144, A144_2, c144_2, e144, hx144_0, hx144_1, hx144_2, hl144_2, hi144_2⟩ := at_T79 HR0_0.out x10_1 p144 q144
   cases e144
   replace hx144_0 := cB_ hx144_0
   replace hx144_1 := cB_ hx144_1
   replace hx144_2 := cB_ hx144_2
   have HR144_2 := aM hi144_2
   have HC144_2 := aM hl144_2
   clear hi144_2 hl144_2
   replace p144 := eq_true p144
   replace q144 := eq_true q144
   go_wp2_with (first | ((with_reducible refine gate_dst (N := 6) rfl ?_); refine bx_ 6 #[.int .i64 0, .int .i64 0, .slice none 0 0] 79 ?_; intro gb145 hg w9 hbox hb; have BK145 := aM (hbox); have GW145 := aM (bz_ w hg qz1); have GE145 := GW145; replace HB := bS_ hb; obtain ⟨NB143_145, NB145_143⟩ := nb_ hg (bk_ BK143.out); replace BK143 := bB_ BK143 hb; clear hb hbox hg; have hnb10 := NB145_143.out; have hnc10 := NB143_145.out; obtain ⟨hcz11_0, hcz11_1, hcz11_2, hfz11_0, hfz11_1, hfz11_2⟩ := b6_ BK145.out))
   go_ret
   exact ⟨qzw, qz1⟩
   }
   {
   rw [if_neg c8] at H
   have c8b0 := beq_eq_false_iff_ne.mpr c8
   have c8b1 := bne_iff_ne.mpr c8
   have H' := aM H
   clear H
   have p144 : 0 ≤ (x10_1 : Int) := dt_
   have q144 : x10_1 < (l0_0.length : Int) := dt_
   obtain ⟨ad144, A144_2, c144_2, e144, hx144_0, hx144_1, hx144_2, hl144_2, hi144_2⟩ := at_T79 HR0_0.out x10_1 p144 q144
   cases e144
   replace hx144_0 := cB_ hx144_0
   replace hx144_1 := cB_ hx144_1
   replace hx144_2 := cB_ hx144_2
   have HR144_2 := aM hi144_2
   have HC144_2 := aM hl144_2
   clear hi144_2 hl144_2
   replace p144 := eq_true p144
   replace q144 := eq_true q144
   go_wp2_with (first | ((with_reducible refine gate_dst (N := 6) rfl ?_); refine bx_ 6 #[.int .i64 0, .int .i64 0, .slice none 0 0] 79 ?_; intro gb145 hg w12 hbox hb; have BK145 := aM (hbox); have GW145 := aM (bz_ w hg qz1); have GE145 := GW145; replace HB := bS_ hb; obtain ⟨NB143_145, NB145_143⟩ := nb_ hg (bk_ BK143.out); replace BK143 := bB_ BK143 hb; clear hb hbox hg; have hnb13 := NB145_143.out; have hnc13 := NB143_145.out; obtain ⟨hcz14_0, hcz14_1, hcz14_2, hfz14_0, hfz14_1, hfz14_2⟩ := b6_ BK145.out))
   go_roundg k1
   case measure => have := HK1.out; omega
   case rel => exact ⟨(wrap64 (x10_1 + 1)), qz5, H', ⟨by have := HK1.out; omega⟩, ⟨by (with_reducible repeat (first | refine blk_drewN ?_ _ | refine blk_drew ?_ | refine blk_alloc ?_ _)); refine blk_far ?_ NB143_145.out _; (with_reducible repeat (first | refine blk_drewN ?_ _ | refine blk_drew ?_ | refine blk_alloc ?_ _)); refine blk_far ?_ NB143_145.out _; (with_reducible repeat (first | refine blk_drewN ?_ _ | refine blk_drew ?_ | refine blk_alloc ?_ _)); refine blk_far ?_ NB143_145.out _; exact bk_ BK143.out⟩, ⟨qz1⟩⟩
   }
   }
   {
   exact an_ c7 H
   }
   }
   {
   exact an_ c6 H
   }
   }
   {
   rw [if_neg c5] at H
   have c5b0 := decide_eq_false c5
   clear c5
   obtain rfl := Option.some.inj H
   simp only [Option.some.injEq, Prod.mk.injEq] at H
   obtain ⟨rfl⟩ := H
   go_wp2
   go_ret
   exact ⟨qzw, qz1⟩

   }
/-! ### impl_place: function 68 -/
def impl_place.j0 : Nat → Int → Bool → List (S79) → Option (Int × Int)
 | 0, _, _, _ => none
 | k + 1, x1, x23, x147000 => if x23 = true then (some ((-1), 1)) else ((impl_podAt.f k x147000 x1).bind fun t150 => (if t150 ≥ 0 then (some (t150, 0)) else (some ((-1), 2))))
def impl_place.f (k : Nat) (l0_0 : List (S79)) (a1 : Int) (a2 : Int) (a3 : Int) : Option (Int × Int) := (impl_StockOk.f k l0_0).bind fun t147 => (if t147 = true then ((impl_in.f a2 1 50).bind fun t148 => (if t148 = true then ((impl_in.f a3 1 1000).bind fun t149 => (impl_place.j0 k a1 (!t149) l0_0)) else (impl_place.j0 k a1 true l0_0))) else (impl_place.j0 k a1 true l0_0))
theorem impl_place.mono_l : ∀ k, (∀ y0 y1 y2, LeO (impl_place.j0 k y0 y1 y2) (impl_place.j0 (k + 1) y0 y1 y2))
 | 0 => fun _ _ _ r h => by simp [impl_place.j0] at h
 | k + 1 => by
  have ih0 := impl_place.mono_l k
  {
  intro y0 y1 y2
  unfold impl_place.j0
  have j0 := @impl_StockOk.mono
  have j1 := @impl_podAt.mono
  exact qL
  }
theorem impl_place.mono : ∀ a0 a1 a2 a3 k, LeO (impl_place.f k a0 a1 a2 a3) (impl_place.f (k + 1) a0 a1 a2 a3) := by
 intro a0 a1 a2 a3 k
 have ih0 := impl_place.mono_l k
 unfold impl_place.f
 have j0 := @impl_StockOk.mono
 have j1 := @impl_podAt.mono
 exact qL
set_option maxHeartbeats 8000000 in
set_option maxRecDepth 100000 in
theorem impl_place.calls (k : Nat) (A0_0 : Option Addr) (c0_0 : Nat) (l0_0 : List (S79)) (a1 : Int) (a2 : Int) (a3 : Int) (r1 : Int) (r2 : Int) (w : World) (hr0_0 : Kd.C k79 w A0_0 l0_0.length l0_0) (hc0_0 : l0_0.length ≤ c0_0) (h : impl_place.f k l0_0 a1 a2 a3 = some (r1, r2)) :
  Calls Try.prog 68 #[.agg #[.slice A0_0 l0_0.length c0_0], .int .i64 a1, .int .i64 a2, .int .i64 a3] w fun e w' => e = .returned (.tuple #[.int .i64 r1, .int .i64 r2]) ∧ Below w.heap.size w w' := by
 have hu26 := Try.underlying26
 have HR0_0 := aM hr0_0
 have HC0_0 := aM hc0_0
 clear hr0_0 hc0_0
 have HB := aM (Below.refl w.heap.size w)
 have H : ((impl_StockOk.f k l0_0).bind fun t147 => (if t147 = true then ((impl_in.f a2 1 50).bind fun t148 => (if t148 = true then ((impl_in.f a3 1 1000).bind fun t149 => (impl_place.j0 k a1 (!t149) l0_0)) else (impl_place.j0 k a1 true l0_0))) else (impl_place.j0 k a1 true l0_0))) = some (r1, r2) := h
 clear h
 have HC5 := aM H
 clear H
 go_enter Try.func68, Try.ntmps68
 go_upto_region 1 with (first | ((with_reducible refine gate_dst (N := 4) rfl ?_); refine bx_ 4 #[.slice A0_0 l0_0.length c0_0] 26 ?_; intro gb146 hg w6 hbox hb; have BK146 := aM (hbox); have GW146 := aM (bz_ w hg qz1); have GE146 := GW146; replace HB := bS_ hb; clear hb hbox hg))
 (try simp only [Act.put, List.setIfInBounds_toArray, List.set_cons_zero, List.set_cons_succ])
 go_cut [23] (fun v23 wc => ∃ (kq : Nat) (x23_4 : Bool), v23 = .bool x23_4 ∧ Aside0 (impl_place.j0 kq a1 x23_4 l0_0 = some (r1, r2)) ∧ Aside0 (kq ≤ k) ∧ Aside0 (wc.heap[gb146]? = some (.cells #[(.slice A0_0 l0_0.length c0_0)] 26 (0, 0))) ∧ Aside0 (Below w.heap.size w wc))
 case first =>
  have H := HC5.out
  clear HC5
  replace H := Option.bind_eq_some_iff.mp H
  obtain ⟨t147, A70, H⟩ := H
  replace H : (if t147 = true then ((impl_in.f a2 1 50).bind fun t148 => (if t148 = true then ((impl_in.f a3 1 1000).bind fun t149 => (impl_place.j0 k a1 (!t149) l0_0)) else (impl_place.j0 k a1 true l0_0))) else (impl_place.j0 k a1 true l0_0)) = some (r1, r2) := H
  have A7 := aM A70
  clear A70
  by_cases c8 : t147 = true
  {
  subst c8
  rw [if_pos rfl] at H
  replace H := Option.bind_eq_some_iff.mp H
  obtain ⟨t148, A90, H⟩ := H
  replace H : (if t148 = true then ((impl_in.f a3 1 1000).bind fun t149 => (impl_place.j0 k a1 (!t149) l0_0)) else (impl_place.j0 k a1 true l0_0)) = some (r1, r2) := H
  have A9 := aM A90
  clear A90
  by_cases c10 : t148 = true
  {
  subst c10
  rw [if_pos rfl] at H
  replace H := Option.bind_eq_some_iff.mp H
  obtain ⟨t149, A110, H⟩ := H
  replace H : (impl_place.j0 k a1 (!t149) l0_0) = some (r1, r2) := H
  have A11 := aM A110
  clear A110
  have H' := aM H
  clear H
  obtain ⟨hcz12_0, hfz12_0⟩ := bf_ BK146.out
  go_wp2_with (first | ((with_reducible refine gate_callee (f := 21) rfl ?_); refine goesL_ (some 12) rfl rfl Try.func21 (by kernel_rfl) rfl #[.agg #[.slice A0_0 l0_0.length c0_0]] rfl qz4 ?_; (with_reducible refine (impl_StockOk.calls k _ _ l0_0 true _ ?side1 ?side2 A7.out).mono ?_); (case side1 => exact qz6); (case side2 => exact HC0_0.out); rintro e w13 ⟨rfl, hb⟩; refine ⟨_, rfl, ?_⟩; replace BK146 := bB_ BK146 hb; replace HB := bS_ hb; (try clear hb)) | (go_at_call 64; (with_reducible refine (impl_in.calls a2 1 50 true _ A9.out).mono ?_); rintro e w' ⟨rfl, ⟨nd, rfl⟩⟩) | (go_at_call 64; (with_reducible refine (impl_in.calls a3 1 1000 t149 _ A11.out).mono ?_); rintro e w' ⟨rfl, ⟨nd, rfl⟩⟩))
  go_meet
  case rel => exact ⟨_, (!t149), qz5, H', ⟨by first | omega | exact Nat.le_refl _⟩, ⟨bk_ BK146.out⟩, ⟨qz1⟩⟩
  }
  {
  replace c10 := Bool.eq_false_iff.mpr c10
  subst c10
  rw [if_neg (show ¬ (false = true) by decide)] at H
  have H' := aM H
  clear H
  obtain ⟨hcz14_0, hfz14_0⟩ := bf_ BK146.out
  go_wp2_with (first | ((with_reducible refine gate_callee (f := 21) rfl ?_); refine goesL_ (some 12) rfl rfl Try.func21 (by kernel_rfl) rfl #[.agg #[.slice A0_0 l0_0.length c0_0]] rfl qz4 ?_; (with_reducible refine (impl_StockOk.calls k _ _ l0_0 true _ ?side1 ?side2 A7.out).mono ?_); (case side1 => exact qz6); (case side2 => exact HC0_0.out); rintro e w15 ⟨rfl, hb⟩; refine ⟨_, rfl, ?_⟩; replace BK146 := bB_ BK146 hb; replace HB := bS_ hb; (try clear hb)) | (go_at_call 64; (with_reducible refine (impl_in.calls a2 1 50 false _ A9.out).mono ?_); rintro e w' ⟨rfl, ⟨nd, rfl⟩⟩))
  go_meet
  case rel => exact ⟨_, (true), qz5, H', ⟨by first | omega | exact Nat.le_refl _⟩, ⟨bk_ BK146.out⟩, ⟨qz1⟩⟩
  }
  }
  {
  replace c8 := Bool.eq_false_iff.mpr c8
  subst c8
  rw [if_neg (show ¬ (false = true) by decide)] at H
  have H' := aM H
  clear H
  obtain ⟨hcz16_0, hfz16_0⟩ := bf_ BK146.out
  go_wp2_with (first | ((with_reducible refine gate_callee (f := 21) rfl ?_); refine goesL_ (some 12) rfl rfl Try.func21 (by kernel_rfl) rfl #[.agg #[.slice A0_0 l0_0.length c0_0]] rfl qz4 ?_; (with_reducible refine (impl_StockOk.calls k _ _ l0_0 false _ ?side1 ?side2 A7.out).mono ?_); (case side1 => exact qz6); (case side2 => exact HC0_0.out); rintro e w17 ⟨rfl, hb⟩; refine ⟨_, rfl, ?_⟩; replace BK146 := bB_ BK146 hb; replace HB := bS_ hb; (try clear hb)))
  go_meet
  case rel => exact ⟨_, (true), qz5, H', ⟨by first | omega | exact Nat.le_refl _⟩, ⟨bk_ BK146.out⟩, ⟨qz1⟩⟩
  }
 case rest =>
  clear HC5
  try clear c1
  try clear c2
  try clear p2
  try clear c6
  try clear c8
  try clear c10
  try clear hcz12_0 hfz12_0
  try clear hcz14_0 hfz14_0
  try clear hcz16_0 hfz16_0
  obtain ⟨kq, x23_4, rfl, HA, HJ4, BK146, HB⟩ := hcut
  cases kq with
  | zero => exact absurd HA.out (by simp [impl_place.j0])
  | succ kj4 =>
   have H := HA.out
   clear HA
   simp only [impl_place.j0] at H
   by_cases c18 : x23_4 = true
   {
   subst c18
   rw [if_pos rfl] at H
   simp only [Option.some.injEq, Prod.mk.injEq] at H
   obtain ⟨rfl, rfl⟩ := H
   go_wp2
   go_ret2
   exact ⟨qzw, qz1⟩
   }
   {
   replace c18 := Bool.eq_false_iff.mpr c18
   subst c18
   rw [if_neg (show ¬ (false = true) by decide)] at H
   replace H := Option.bind_eq_some_iff.mp H
   obtain ⟨t150, A190, H⟩ := H
   replace H : (if t150 ≥ 0 then (some (t150, 0)) else (some ((-1), 2))) = some (r1, r2) := H
   have A19 := aM A190
   clear A190
   by_cases c20 : t150 ≥ 0
   {
   rw [if_pos c20] at H
   have c20b0 := decide_eq_true c20
   clear c20
   simp only [Option.some.injEq, Prod.mk.injEq] at H
   obtain ⟨rfl, rfl⟩ := H
   obtain ⟨hcz21_0, hfz21_0⟩ := bf_ BK146.out
   go_wp2_with (first | ((with_reducible refine gate_callee (f := 69) rfl ?_); refine goesL_ (some 26) rfl rfl Try.func69 (by kernel_rfl) rfl #[.agg #[.slice A0_0 l0_0.length c0_0], .int .i64 a1] rfl qz4 ?_; (with_reducible refine (impl_podAt.calls kj4 _ _ l0_0 a1 t150 _ ?side1 ?side2 A19.out).mono ?_); (case side1 => exact qz6); (case side2 => exact HC0_0.out); rintro e w22 ⟨rfl, hb⟩; refine ⟨_, rfl, ?_⟩; replace BK146 := bB_ BK146 hb; replace HB := bS_ hb; (try clear hb)))
   go_ret2
   exact ⟨qzw, qz1⟩
   }
   {
   rw [if_neg c20] at H
   have c20b0 := decide_eq_false c20
   clear c20
   simp only [Option.some.injEq, Prod.mk.injEq] at H
   obtain ⟨rfl, rfl⟩ := H
   obtain ⟨hcz23_0, hfz23_0⟩ := bf_ BK146.out
   go_wp2_with (first | ((with_reducible refine gate_callee (f := 69) rfl ?_); refine goesL_ (some 26) rfl rfl Try.func69 (by kernel_rfl) rfl #[.agg #[.slice A0_0 l0_0.length c0_0], .int .i64 a1] rfl qz4 ?_; (with_reducible refine (impl_podAt.calls kj4 _ _ l0_0 a1 t150 _ ?side1 ?side2 A19.out).mono ?_); (case side1 => exact qz6); (case side2 => exact HC0_0.out); rintro e w24 ⟨rfl, hb⟩; refine ⟨_, rfl, ?_⟩; replace BK146 := bB_ BK146 hb; replace HB := bS_ hb; (try clear hb)))
   go_ret2
   exact ⟨qzw, qz1⟩

   }
   }
/-! ### impl_held: function 60 -/
def impl_held.f (k : Nat) (l : List S79) (a1 a2 a3 a4 : Int) : Option (List S79 × Int) :=
 (impl_copyStock.f k l).bind fun o => (impl_place.f k l a1 a2 a3).bind fun q =>
  if q.2 = 0 then (if 0 ≤ q.1 then (if q.1 < (o.length : Int) then
   (impl_stackAt.f k (rd_T79 o q.1).f0 (rd_T79 o q.1).f1 (rd_T79 o q.1).f2 a2).bind fun s =>
    if s.2 = true then (if 0 ≤ s.1 then (if s.1 < ((rd_T79 o q.1).f2.length : Int) then
     (impl_in.f (wrap64 ((rd_T72 (rd_T79 o q.1).f2 s.1).f2 + a4)) 0 (rd_T72 (rd_T79 o q.1).f2 s.1).f1).bind fun b =>
      if b = true then some (o.set q.1.toNat ⟨(rd_T79 o q.1).f0, (rd_T79 o q.1).f1, (rd_T79 o q.1).f2.set s.1.toNat ⟨(rd_T72 (rd_T79 o q.1).f2 s.1).f0, (rd_T72 (rd_T79 o q.1).f2 s.1).f1, wrap64 ((rd_T72 (rd_T79 o q.1).f2 s.1).f2 + a4)⟩⟩, 0) else some (o, 3)
     else none) else none) else some (o, 3)
   else none) else none) else some (o, q.2)
theorem impl_held.mono : ∀ l a1 a2 a3 a4 k, LeO (impl_held.f k l a1 a2 a3 a4) (impl_held.f (k + 1) l a1 a2 a3 a4) := by
 intro l a1 a2 a3 a4 k
 unfold impl_held.f
 have j0 := @impl_copyStock.mono
 have j1 := @impl_place.mono
 have j2 := @impl_stackAt.mono
 exact qL
def impl_held.T9 : Bool × List (List Nat × List Nat) := (true, [([], []), ([0], [0]), ([1], [1]), ([2], [2]), ([], []), ([3, 4], [3, 4]), ([], []), ([6], [6]), ([7], [7]), ([8], [8]), ([5, 9], [5, 9]), ([10], [10])])
def impl_held.B9 : List Nat := [0, 1, 3, 7, 0, 31, 0, 64, 192, 448, 1023, 2047]
theorem impl_held.tab9 : rtab .any (opsOf Try.f60 9) = impl_held.T9 := by kernel_rfl
theorem impl_held.bits9 : waitsOk impl_held.T9.2 impl_held.B9 = true := by kernel_rfl
set_option maxHeartbeats 8000000 in
set_option maxRecDepth 100000 in
theorem impl_held.calls (k : Nat) (A0 : Option Addr) (c0 : Nat) (l : List S79) (a1 a2 a3 a4 : Int) (r1 : List S79) (r2 : Int) (w : World) (hr0 : Kd.C k79 w A0 l.length l) (hc0 : l.length ≤ c0) (h : impl_held.f k l a1 a2 a3 a4 = some (r1, r2)) :
  Calls Try.prog 60 #[.agg #[.slice A0 l.length c0], .int .i64 a1, .int .i64 a2, .int .i64 a3, .int .i64 a4] w fun e w' => ∃ v0_ : Value, e = .returned (.tuple #[.agg #[v0_], .int .i64 r2]) ∧ Kd.S k79 79 w' w.heap.size (fun _ => True) v0_ r1 ∧ Below w.heap.size w w' := by
 have hu26 := Try.underlying26
 have hu79 := Try.underlying79
 have hu72 := Try.underlying72
 have hu24 := Try.underlying24
 have hu77 := Try.underlying77
 unfold impl_held.f at h
 obtain ⟨o, ho, h⟩ := Option.bind_eq_some_iff.mp h
 obtain ⟨⟨i, code⟩, hp, h⟩ := Option.bind_eq_some_iff.mp h
 have Ho := aM ho
 have Hp := aM hp
 have HR := aM hr0
 have HC := aM hc0
 clear ho hp hr0 hc0
 dsimp only at h
 by_cases c1 : code = 0
 {
 subst c1
 rw [if_pos rfl] at h
 by_cases ci0 : 0 ≤ i
 {
 rw [if_pos ci0] at h
 by_cases ci1 : i < (o.length : Int)
 {
 rw [if_pos ci1] at h
 obtain ⟨⟨j, ok⟩, hs, h⟩ := Option.bind_eq_some_iff.mp h
 have Hs := aM hs
 clear hs
 dsimp only at h
 cases ok with
 | false =>
  rw [if_neg (by decide)] at h
  obtain ⟨rfl, rfl⟩ : o = r1 ∧ 3 = r2 := by simpa using h
  clear h
  go_enter Try.func60, Try.ntmps60
  go_wp2_with (first
   | (go_at_call 65; refine (impl_copyStock.calls k A0 c0 l o _ (Kd.C_alloc (Kd.C_alloc HR.out _) _) HC.out Ho.out).mono ?_; rintro e w1 ⟨v0, rfl, hS, hb⟩; obtain ⟨Ao, co, rfl⟩ := Kd.S_slice hS; have B5 := aM (blk_below (blk_alloc (blk_new w (.cells #[.slice A0 l.length c0] 26)) (.cells #[.slice none 0 0] 26)) hb); have B10 := aM (blk_below (blk_new1 w (.cells #[.slice A0 l.length c0] 26) (.cells #[.slice none 0 0] 26)) hb); have HB1 := aM (below_step (below_alloc (below_alloc (Below.refl w.heap.size w) _) _) hb); have HS := aM (show Kd.S k79 79 w1 (w.heap.size + 2) (fun _ => True) (.slice Ao o.length co) o by rw [show w.heap.size + 2 = ((w.alloc (.cells #[.slice A0 l.length c0] 26)).alloc (.cells #[.slice none 0 0] 26)).heap.size by simp]; exact hS); have HGW := aM (Kd.S_lt hS); have C5 : w1.cell? ⟨w.heap.size, 0, none⟩ = some (.slice A0 l.length c0) := (blk_cell B5.out 0).trans rfl; have C10 : w1.cell? ⟨w.heap.size + 1, 0, none⟩ = some (.slice none 0 0) := (blk_cell B10.out 0).trans rfl; have F10 := blk_frozen B10.out 0; have L5 := blk_lt B5.out; have L10 := blk_lt B10.out; clear hb hS)
   | (go_at_call 68; refine (impl_place.calls k A0 c0 l a1 a2 a3 i 0 _ (Kd.C_below HR.out (below_alloc HB1.out _)) HC.out Hp.out).mono ?_; rintro e w2 ⟨rfl, hb⟩; have B12 := aM (blk_below (blk_new w1 (.cells #[.slice Ao o.length co] 26)) hb); replace B10 := aM (blk_below (blk_alloc B10.out _) hb); have HB2 := aM (below_step (below_alloc HB1.out _) hb); replace HS := aM (Kd.S_below (Kd.S_alloc HS.out _) hb); have N10 := Nat.ne_of_lt L10; clear C5 C10 F10 HB1 B5; have C12 : w2.cell? ⟨w1.heap.size, 0, none⟩ = some (.slice Ao o.length co) := (blk_cell B12.out 0).trans rfl; have F12 := blk_frozen B12.out 0; have C10 : w2.cell? ⟨w.heap.size + 1, 0, none⟩ = some (.slice none 0 0) := (blk_cell B10.out 0).trans rfl; have F10 := blk_frozen B10.out 0; have L10 := blk_lt B10.out; have L12 := blk_lt B12.out; clear hb; have HS' := HS.out; obtain ⟨g, oki, A2, c2, e, hgb, hgl, x0, x1, x2, f0, f1, f2, hR2, hoki, hn, hH⟩ := S79_at HS' i ci0 ci1; cases e; have HR2 := aM (Kd.R_reads' hR2); have HRs := aM hR2; have HGB := aM hgb; clear hR2 hoki hH hgb HS')
   | (go_at_call 67; refine (impl_stackAt.calls k (rd_T79 o i).f0 (rd_T79 o i).f1 A2 c2 (rd_T79 o i).f2 a2 j false _ HR2.out.2.2 HR2.out.2.1 Hs.out).mono ?_; rintro e w3 ⟨rfl, hb⟩; replace B12 := aM (blk_below B12.out hb); replace B10 := aM (blk_below B10.out hb); have HB3 := aM (below_step HB2.out hb); replace HS := aM (Kd.S_below HS.out hb); replace HRs := aM (Kd.R_below HRs.out hb); replace x0 := pw_cell_below hb x0; replace x1 := pw_cell_below hb x1; replace x2 := pw_cell_below hb x2; have HGL := aM (Nat.lt_of_lt_of_le hgl (below_size hb)); clear C12 F12 C10 F10 f0 f1 f2; have C12 : w3.cell? ⟨w1.heap.size, 0, none⟩ = some (.slice (some ⟨g, 0, none⟩) o.length co) := (blk_cell B12.out 0).trans rfl; have C10 : w3.cell? ⟨w.heap.size + 1, 0, none⟩ = some (.slice none 0 0) := (blk_cell B10.out 0).trans rfl; have F10 := blk_frozen B10.out 0; replace L10 := blk_lt B10.out; replace L12 := blk_lt B12.out; clear hb HB2))
  refine bodyPost_ret (results_ct rfl _ _ (w.heap.size + 1) 26 #[.slice (some ⟨g, 0, none⟩) o.length co] (0, 0) _ rfl (blk_put (cs := #[.slice none 0 0]) B10.out 0 _ rfl) Try.underlying26 rfl (by kernel_rfl)) rfl ?_
  exact ⟨_, rfl, Kd.S_lower (S_box HS.out (by omega) _) (by omega), below_set HB3.out (by omega)⟩
 | true =>
  rw [if_pos rfl] at h
  by_cases cj0 : 0 ≤ j
  {
  rw [if_pos cj0] at h
  by_cases cj1 : j < ((rd_T79 o i).f2.length : Int)
  {
  rw [if_pos cj1] at h
  obtain ⟨b, hb', h⟩ := Option.bind_eq_some_iff.mp h
  have Hb := aM hb'
  clear hb'
  cases b with
  | false =>
   rw [if_neg (by decide)] at h
   have H := aM h
   clear h
   go_enter Try.func60, Try.ntmps60
   go_wp2_with (first
    | (go_at_call 65; refine (impl_copyStock.calls k A0 c0 l o _ (Kd.C_alloc (Kd.C_alloc HR.out _) _) HC.out Ho.out).mono ?_; rintro e w1 ⟨v0, rfl, hS, hb⟩; obtain ⟨Ao, co, rfl⟩ := Kd.S_slice hS; have B5 := aM (blk_below (blk_alloc (blk_new w (.cells #[.slice A0 l.length c0] 26)) (.cells #[.slice none 0 0] 26)) hb); have B10 := aM (blk_below (blk_new1 w (.cells #[.slice A0 l.length c0] 26) (.cells #[.slice none 0 0] 26)) hb); have HB1 := aM (below_step (below_alloc (below_alloc (Below.refl w.heap.size w) _) _) hb); have HS := aM (show Kd.S k79 79 w1 (w.heap.size + 2) (fun _ => True) (.slice Ao o.length co) o by rw [show w.heap.size + 2 = ((w.alloc (.cells #[.slice A0 l.length c0] 26)).alloc (.cells #[.slice none 0 0] 26)).heap.size by simp]; exact hS); have HGW := aM (Kd.S_lt hS); have C5 : w1.cell? ⟨w.heap.size, 0, none⟩ = some (.slice A0 l.length c0) := (blk_cell B5.out 0).trans rfl; have C10 : w1.cell? ⟨w.heap.size + 1, 0, none⟩ = some (.slice none 0 0) := (blk_cell B10.out 0).trans rfl; have F10 := blk_frozen B10.out 0; have L5 := blk_lt B5.out; have L10 := blk_lt B10.out; clear hb hS)
    | (go_at_call 68; refine (impl_place.calls k A0 c0 l a1 a2 a3 i 0 _ (Kd.C_below HR.out (below_alloc HB1.out _)) HC.out Hp.out).mono ?_; rintro e w2 ⟨rfl, hb⟩; have B12 := aM (blk_below (blk_new w1 (.cells #[.slice Ao o.length co] 26)) hb); replace B10 := aM (blk_below (blk_alloc B10.out _) hb); have HB2 := aM (below_step (below_alloc HB1.out _) hb); replace HS := aM (Kd.S_below (Kd.S_alloc HS.out _) hb); have N10 := Nat.ne_of_lt L10; clear C5 C10 F10 HB1 B5; have C12 : w2.cell? ⟨w1.heap.size, 0, none⟩ = some (.slice Ao o.length co) := (blk_cell B12.out 0).trans rfl; have F12 := blk_frozen B12.out 0; have C10 : w2.cell? ⟨w.heap.size + 1, 0, none⟩ = some (.slice none 0 0) := (blk_cell B10.out 0).trans rfl; have F10 := blk_frozen B10.out 0; have L10 := blk_lt B10.out; have L12 := blk_lt B12.out; clear hb; have HS' := HS.out; obtain ⟨g, oki, A2, c2, e, hgb, hgl, x0, x1, x2, f0, f1, f2, hR2, hoki, hn, hH⟩ := S79_at HS' i ci0 ci1; cases e; have HR2 := aM (Kd.R_reads' hR2); have HRs := aM hR2; have HGB := aM hgb; clear hR2 hoki hH hgb HS')
    | (go_at_call 67; refine (impl_stackAt.calls k (rd_T79 o i).f0 (rd_T79 o i).f1 A2 c2 (rd_T79 o i).f2 a2 j true _ HR2.out.2.2 HR2.out.2.1 Hs.out).mono ?_; rintro e w3 ⟨rfl, hb⟩; replace B12 := aM (blk_below B12.out hb); replace B10 := aM (blk_below B10.out hb); have HB3 := aM (below_step HB2.out hb); replace HS := aM (Kd.S_below HS.out hb); replace HRs := aM (Kd.R_below HRs.out hb); replace x0 := pw_cell_below hb x0; replace x1 := pw_cell_below hb x1; replace x2 := pw_cell_below hb x2; have HGL := aM (Nat.lt_of_lt_of_le hgl (below_size hb)); clear C12 F12 C10 F10 f0 f1 f2; have C12 : w3.cell? ⟨w1.heap.size, 0, none⟩ = some (.slice (some ⟨g, 0, none⟩) o.length co) := (blk_cell B12.out 0).trans rfl; have C10 : w3.cell? ⟨w.heap.size + 1, 0, none⟩ = some (.slice none 0 0) := (blk_cell B10.out 0).trans rfl; have F10 := blk_frozen B10.out 0; replace L10 := blk_lt B10.out; replace L12 := blk_lt B12.out; clear hb HB2; have HRs' := HRs.out; obtain ⟨g2, e, hgb2, hgl2, hok2, hn2, y0, y1, y2, z0, z1, z2, hput1, hput2⟩ := R72_at HRs' j cj0 cj1; cases e; clear hput1 hput2 HRs'; have HG2 := aM hgb2; clear hok2 hgb2))
   refine start_ (n := 12) (S := fun w' => w'.cell? ⟨g2, j.toNat * 3 + 1, none⟩ = some (.int .i64 (rd_T72 (rd_T79 o i).f2 j).f1) ∧ w'.cell? ⟨g2, j.toNat * 3 + 2, none⟩ = some (.int .i64 (rd_T72 (rd_T79 o i).f2 j).f2)) (ds := []) #[false, false, false, false, false, false, false, false, false, false, false, false] (by kernel_rfl) rfl rfl ⟨y1, y2⟩ (fun hHeld => ?_); refine with_tabW impl_held.tab9 impl_held.bits9 (fun HT_ HW_ => ?_)
   refine pI_ 0 53 (bqz 12 1) ?_
   refine jI_ 1 54 ?_
   refine jI_ 2 55 ?_
   refine jI_ 4 57 ?_
   refine jI_ 6 59 ?_
   refine jI_ 7 60 ?_
   refine jI_ 8 61 ?_
   refine sI2_ 3 56 ?_
   refine jI_ 5 58 ?_
   refine sI2_ 9 62 ?_
   refine one_ (i := 10) (N := some 63) (bqz 12 2047) rfl rfl qzc (by decide) (fun K hK => ?_)
   refine goes_ Try.func64 (by kernel_rfl) rfl #[.int .i64 (wrap64 ((rd_T72 (rd_T79 o i).f2 j).f2 + a4)), .int .i64 0, .int .i64 (rd_T72 (rd_T79 o i).f2 j).f1] (by rfl) rfl rfl (by (try simp only [List.map_toArray, List.map_cons, List.map_nil]); first | done | rfl) ?_
   refine (impl_in.calls _ _ _ false _ Hb.out).mono ?_
   rintro e w' ⟨rfl, ⟨nd, rfl⟩⟩
   refine ⟨_, rfl, ?_⟩
   refine hK.out _ _ hHeld (fun hHeld => ?_)
   clear hK K
   refine nm_ 63 ?_
   refine jI_ 11 64 ?_
   refine done_ (done_of HT_.out (by kernel_rfl)) ?_
   go_wp2
   obtain ⟨rfl, rfl⟩ : o = r1 ∧ 3 = r2 := by simpa using H.out
   refine bodyPost_ret (results_ct rfl _ _ (w.heap.size + 1) 26 #[.slice (some ⟨g, 0, none⟩) o.length co] (0, 0) _ rfl (blk_put (cs := #[.slice none 0 0]) (blk_drewN B10.out _) 0 _ rfl) Try.underlying26 rfl (by kernel_rfl)) rfl ?_
   exact ⟨_, rfl, Kd.S_lower (S_box (Kd.S_drewN HS.out _) (by omega) _) (by omega), below_set (pw_below_drewN HB3.out _) (by omega)⟩
  | true =>
   rw [if_pos rfl] at h
   have H := aM h
   clear h
   go_enter Try.func60, Try.ntmps60
   go_wp2_with (first
    | (go_at_call 65; refine (impl_copyStock.calls k A0 c0 l o _ (Kd.C_alloc (Kd.C_alloc HR.out _) _) HC.out Ho.out).mono ?_; rintro e w1 ⟨v0, rfl, hS, hb⟩; obtain ⟨Ao, co, rfl⟩ := Kd.S_slice hS; have B5 := aM (blk_below (blk_alloc (blk_new w (.cells #[.slice A0 l.length c0] 26)) (.cells #[.slice none 0 0] 26)) hb); have B10 := aM (blk_below (blk_new1 w (.cells #[.slice A0 l.length c0] 26) (.cells #[.slice none 0 0] 26)) hb); have HB1 := aM (below_step (below_alloc (below_alloc (Below.refl w.heap.size w) _) _) hb); have HS := aM (show Kd.S k79 79 w1 (w.heap.size + 2) (fun _ => True) (.slice Ao o.length co) o by rw [show w.heap.size + 2 = ((w.alloc (.cells #[.slice A0 l.length c0] 26)).alloc (.cells #[.slice none 0 0] 26)).heap.size by simp]; exact hS); have HGW := aM (Kd.S_lt hS); have C5 : w1.cell? ⟨w.heap.size, 0, none⟩ = some (.slice A0 l.length c0) := (blk_cell B5.out 0).trans rfl; have C10 : w1.cell? ⟨w.heap.size + 1, 0, none⟩ = some (.slice none 0 0) := (blk_cell B10.out 0).trans rfl; have F10 := blk_frozen B10.out 0; have L5 := blk_lt B5.out; have L10 := blk_lt B10.out; clear hb hS)
    | (go_at_call 68; refine (impl_place.calls k A0 c0 l a1 a2 a3 i 0 _ (Kd.C_below HR.out (below_alloc HB1.out _)) HC.out Hp.out).mono ?_; rintro e w2 ⟨rfl, hb⟩; have B12 := aM (blk_below (blk_new w1 (.cells #[.slice Ao o.length co] 26)) hb); replace B10 := aM (blk_below (blk_alloc B10.out _) hb); have HB2 := aM (below_step (below_alloc HB1.out _) hb); replace HS := aM (Kd.S_below (Kd.S_alloc HS.out _) hb); have N10 := Nat.ne_of_lt L10; clear C5 C10 F10 HB1 B5; have C12 : w2.cell? ⟨w1.heap.size, 0, none⟩ = some (.slice Ao o.length co) := (blk_cell B12.out 0).trans rfl; have F12 := blk_frozen B12.out 0; have C10 : w2.cell? ⟨w.heap.size + 1, 0, none⟩ = some (.slice none 0 0) := (blk_cell B10.out 0).trans rfl; have F10 := blk_frozen B10.out 0; have L10 := blk_lt B10.out; have L12 := blk_lt B12.out; clear hb; have HS' := HS.out; obtain ⟨g, oki, A2, c2, e, hgb, hgl, x0, x1, x2, f0, f1, f2, hR2, hoki, hn, hH⟩ := S79_at HS' i ci0 ci1; cases e; have HR2 := aM (Kd.R_reads' hR2); have HRs := aM hR2; have HGB := aM hgb; clear hR2 hoki hH hgb HS')
    | (go_at_call 67; refine (impl_stackAt.calls k (rd_T79 o i).f0 (rd_T79 o i).f1 A2 c2 (rd_T79 o i).f2 a2 j true _ HR2.out.2.2 HR2.out.2.1 Hs.out).mono ?_; rintro e w3 ⟨rfl, hb⟩; replace B12 := aM (blk_below B12.out hb); replace B10 := aM (blk_below B10.out hb); have HB3 := aM (below_step HB2.out hb); replace HS := aM (Kd.S_below HS.out hb); replace HRs := aM (Kd.R_below HRs.out hb); replace x0 := pw_cell_below hb x0; replace x1 := pw_cell_below hb x1; replace x2 := pw_cell_below hb x2; have HGL := aM (Nat.lt_of_lt_of_le hgl (below_size hb)); clear C12 F12 C10 F10 f0 f1 f2; have C12 : w3.cell? ⟨w1.heap.size, 0, none⟩ = some (.slice (some ⟨g, 0, none⟩) o.length co) := (blk_cell B12.out 0).trans rfl; have C10 : w3.cell? ⟨w.heap.size + 1, 0, none⟩ = some (.slice none 0 0) := (blk_cell B10.out 0).trans rfl; have F10 := blk_frozen B10.out 0; replace L10 := blk_lt B10.out; replace L12 := blk_lt B12.out; clear hb HB2; have HRs' := HRs.out; obtain ⟨g2, e, hgb2, hgl2, hok2, hn2, y0, y1, y2, z0, z1, z2, hput1, hput2⟩ := R72_at HRs' j cj0 cj1; cases e; clear hput1 hput2 HRs'; have HG2 := aM hgb2; clear hok2 hgb2))
   refine start_ (n := 12) (S := fun w' => w'.cell? ⟨g2, j.toNat * 3 + 1, none⟩ = some (.int .i64 (rd_T72 (rd_T79 o i).f2 j).f1) ∧ w'.cell? ⟨g2, j.toNat * 3 + 2, none⟩ = some (.int .i64 (rd_T72 (rd_T79 o i).f2 j).f2)) (ds := []) #[false, false, false, false, false, false, false, false, false, false, false, false] (by kernel_rfl) rfl rfl ⟨y1, y2⟩ (fun hHeld => ?_); refine with_tabW impl_held.tab9 impl_held.bits9 (fun HT_ HW_ => ?_)
   refine pI_ 0 53 (bqz 12 1) ?_
   refine jI_ 1 54 ?_
   refine jI_ 2 55 ?_
   refine jI_ 4 57 ?_
   refine jI_ 6 59 ?_
   refine jI_ 7 60 ?_
   refine jI_ 8 61 ?_
   refine sI2_ 3 56 ?_
   refine jI_ 5 58 ?_
   refine sI2_ 9 62 ?_
   refine one_ (i := 10) (N := some 63) (bqz 12 2047) rfl rfl qzc (by decide) (fun K hK => ?_)
   refine goes_ Try.func64 (by kernel_rfl) rfl #[.int .i64 (wrap64 ((rd_T72 (rd_T79 o i).f2 j).f2 + a4)), .int .i64 0, .int .i64 (rd_T72 (rd_T79 o i).f2 j).f1] (by rfl) rfl rfl (by (try simp only [List.map_toArray, List.map_cons, List.map_nil]); first | done | rfl) ?_
   refine (impl_in.calls _ _ _ true _ Hb.out).mono ?_
   rintro e w' ⟨rfl, ⟨nd, rfl⟩⟩
   refine ⟨_, rfl, ?_⟩
   refine hK.out _ _ hHeld (fun hHeld => ?_)
   clear hK K
   refine nm_ 63 ?_
   refine jI_ 11 64 ?_
   refine done_ (done_of HT_.out (by kernel_rfl)) ?_
   go_wp2
   have hP := (S79_put (Kd.S_drewN HS.out (1 + nd)) i j ci0 ci1 cj0 cj1 (c2 := c2) (g2 := g2) x2 (wrap64 ((rd_T72 (rd_T79 o i).f2 j).f2 + a4))).2
   have hG := HG2.out
   obtain ⟨rfl, rfl⟩ : _ = r1 ∧ _ = r2 := by simpa using H.out
   refine bodyPost_ret (results_ct rfl _ _ (w.heap.size + 1) 26 #[.slice (some ⟨g, 0, none⟩) o.length co] (0, 0) _ rfl (blk_put (cs := #[.slice none 0 0]) (blk_far (blk_drewN B10.out _) (by show w.heap.size + 1 ≠ g2; omega) _) 0 _ rfl) Try.underlying26 rfl (by kernel_rfl)) rfl ?_
   exact ⟨_, rfl, Kd.S_lower (S_box hP.1.1 (by omega) _) (by omega), below_set (below_set (pw_below_drewN HB3.out _) (by omega)) (by omega)⟩
  }
  {
  rw [if_neg cj1] at h; cases h
  }
  }
  {
  rw [if_neg cj0] at h; cases h
  }
 }
 {
 rw [if_neg ci1] at h; cases h
 }
 }
 {
 rw [if_neg ci0] at h; cases h
 }
 }
 {
 rw [if_neg c1] at h
 obtain ⟨rfl, rfl⟩ : o = r1 ∧ code = r2 := by simpa using h
 have c1b : (code != 0) = true := by simpa using c1
 clear h c1
 go_enter Try.func60, Try.ntmps60
 go_wp2_with (first
  | (go_at_call 65; refine (impl_copyStock.calls k A0 c0 l o _ (Kd.C_alloc (Kd.C_alloc HR.out _) _) HC.out Ho.out).mono ?_; rintro e w1 ⟨v0, rfl, hS, hb⟩; obtain ⟨Ao, co, rfl⟩ := Kd.S_slice hS; have B5 := aM (blk_below (blk_alloc (blk_new w (.cells #[.slice A0 l.length c0] 26)) (.cells #[.slice none 0 0] 26)) hb); have B10 := aM (blk_below (blk_new1 w (.cells #[.slice A0 l.length c0] 26) (.cells #[.slice none 0 0] 26)) hb); have HB1 := aM (below_step (below_alloc (below_alloc (Below.refl w.heap.size w) _) _) hb); have HS := aM (show Kd.S k79 79 w1 (w.heap.size + 2) (fun _ => True) (.slice Ao o.length co) o by rw [show w.heap.size + 2 = ((w.alloc (.cells #[.slice A0 l.length c0] 26)).alloc (.cells #[.slice none 0 0] 26)).heap.size by simp]; exact hS); have HGW := aM (Kd.S_lt hS); have C5 : w1.cell? ⟨w.heap.size, 0, none⟩ = some (.slice A0 l.length c0) := (blk_cell B5.out 0).trans rfl; have C10 : w1.cell? ⟨w.heap.size + 1, 0, none⟩ = some (.slice none 0 0) := (blk_cell B10.out 0).trans rfl; have F10 := blk_frozen B10.out 0; have L5 := blk_lt B5.out; have L10 := blk_lt B10.out; clear hb hS)
  | (go_at_call 68; refine (impl_place.calls k A0 c0 l a1 a2 a3 i code _ (Kd.C_below HR.out (below_alloc HB1.out _)) HC.out Hp.out).mono ?_; rintro e w2 ⟨rfl, hb⟩; have B12 := aM (blk_below (blk_new w1 (.cells #[.slice Ao o.length co] 26)) hb); replace B10 := aM (blk_below (blk_alloc B10.out _) hb); have HB2 := aM (below_step (below_alloc HB1.out _) hb); replace HS := aM (Kd.S_below (Kd.S_alloc HS.out _) hb); have N10 := Nat.ne_of_lt L10; clear C5 C10 F10 HB1 B5; have C12 : w2.cell? ⟨w1.heap.size, 0, none⟩ = some (.slice Ao o.length co) := (blk_cell B12.out 0).trans rfl; have F12 := blk_frozen B12.out 0; have C10 : w2.cell? ⟨w.heap.size + 1, 0, none⟩ = some (.slice none 0 0) := (blk_cell B10.out 0).trans rfl; have F10 := blk_frozen B10.out 0; have L10 := blk_lt B10.out; have L12 := blk_lt B12.out; clear hb))
 refine bodyPost_ret (results_ct rfl _ _ (w.heap.size + 1) 26 #[.slice Ao o.length co] (0, 0) _ rfl (blk_put (cs := #[.slice none 0 0]) B10.out 0 _ rfl) Try.underlying26 rfl (by kernel_rfl)) rfl ?_
 exact ⟨_, rfl, Kd.S_lower (S_box HS.out (by omega) _) (by omega), below_set HB2.out (by omega)⟩

 }
/-! ### impl_Hold: function 17 -/
def impl_Hold.f (k : Nat) (l0_0 : List (S79)) (a1 : Int) (a2 : Int) (a3 : Int) : Option ((List (S79)) × Int) := (impl_held.f k l0_0 a1 a2 a3 a3).bind fun bt153 => (some (bt153.1, bt153.2))
theorem impl_Hold.mono : ∀ a0 a1 a2 a3 k, LeO (impl_Hold.f k a0 a1 a2 a3) (impl_Hold.f (k + 1) a0 a1 a2 a3) := by
 intro a0 a1 a2 a3 k
 unfold impl_Hold.f
 have j0 := @impl_held.mono
 exact qL
set_option maxHeartbeats 8000000 in
set_option maxRecDepth 100000 in
theorem impl_Hold.calls (k : Nat) (A0_0 : Option Addr) (c0_0 : Nat) (l0_0 : List (S79)) (a1 : Int) (a2 : Int) (a3 : Int) (r1 : List (S79)) (r2 : Int) (w : World) (hr0_0 : Kd.C k79 w A0_0 l0_0.length l0_0) (hc0_0 : l0_0.length ≤ c0_0) (h : impl_Hold.f k l0_0 a1 a2 a3 = some (r1, r2)) :
  Calls Try.prog 17 #[.agg #[.slice A0_0 l0_0.length c0_0], .int .i64 a1, .int .i64 a2, .int .i64 a3] w fun e w' => ∃ v0_ : Value, e = .returned (.tuple #[.agg #[v0_], .int .i64 r2]) ∧ Kd.S k79 79 w' w.heap.size (fun _ => True) v0_ r1 ∧ Below w.heap.size w w' := by
 have hu26 := Try.underlying26
 have HR0_0 := aM hr0_0
 have HC0_0 := aM hc0_0
 clear hr0_0 hc0_0
 have HB := aM (Below.refl w.heap.size w)
 have H : ((impl_held.f k l0_0 a1 a2 a3 a3).bind fun bt153 => (some (bt153.1, bt153.2))) = some (r1, r2) := h
 clear h
 replace H := Option.bind_eq_some_iff.mp H
 obtain ⟨⟨t153, t156⟩, A50, H⟩ := H
 replace H : (some (t153, t156)) = some (r1, r2) := H
 have A5 := aM A50
 clear A50
 simp only [Option.some.injEq, Prod.mk.injEq] at H
 obtain ⟨rfl, rfl⟩ := H
 go_enter Try.func17, Try.ntmps17
 go_wp2_with (first | ((with_reducible refine gate_dst (N := 4) rfl ?_); refine bx_ 4 #[.slice A0_0 l0_0.length c0_0] 26 ?_; intro gb151 hg w6 hbox hb; have BK151 := aM (hbox); have GW151 := aM (bz_ w hg qz1); have GE151 := GW151; replace HB := bS_ hb; clear hb hbox hg) | ((with_reducible refine gate_dst (N := 8) rfl ?_); refine bx_ 8 #[.slice none 0 0] 26 ?_; intro gb152 hg w7 hbox hb; have BK152 := aM (hbox); have GW152 := aM (bz_ w hg qz1); have GE152 := GW152; replace HB := bS_ hb; obtain ⟨NB151_152, NB152_151⟩ := nb_ hg (bk_ BK151.out); replace BK151 := bB_ BK151 hb; clear hb hbox hg; have hnb8 := NB151_152.out; have hnc8 := NB152_151.out; obtain ⟨hcz9_0, hfz9_0⟩ := bf_ BK151.out) | ((with_reducible refine gate_callee (f := 60) rfl ?_); refine goesL_ (some 15) rfl rfl Try.func60 (by kernel_rfl) rfl #[.agg #[.slice A0_0 l0_0.length c0_0], .int .i64 a1, .int .i64 a2, .int .i64 a3, .int .i64 a3] rfl qz4 ?_; (with_reducible refine (impl_held.calls k _ _ l0_0 a1 a2 a3 a3 t153 t156 _ ?side1 ?side2 A5.out).mono ?_); (case side1 => exact qz6); (case side2 => exact HC0_0.out); rintro e w10 ⟨v154, rfl, ho0, hb⟩; refine ⟨_, rfl, ?_⟩; have HO155 := aM (Kd.S_lower ho0 (below_size qz1)); replace BK151 := bB_ BK151 hb; replace BK152 := bB_ BK152 hb; replace HB := bS_ hb; (try clear hb ho0); obtain ⟨Ao11, co11, eo11⟩ := Kd.S_slice HO155.out; subst eo11; obtain ⟨hcz12_0, hfz12_0⟩ := bf_ BK152.out))
 refine bodyPost_ret (results_ct rfl _ _ gb152 26 #[.slice Ao11 t153.length co11] (0, 0) _ rfl (by (with_reducible repeat (first | refine blk_drewN ?_ _ | refine blk_drew ?_ | refine blk_alloc ?_ _)); refine blk_put (cs := #[.slice none 0 0]) ?_ 0 _ rfl; exact bk_ BK152.out) Try.underlying26 rfl (by kernel_rfl)) rfl ?_
 exact ⟨_, qzw, by (with_reducible repeat (first | apply Kd.S_alloc | apply Kd.S_drewN | apply Kd.S_drew)); exact Kd.S_mono (Kd.S_far (p := ⟨gb152, 0, none⟩) (Kd.S_types HO155.out BK152.out (by decide)) (fun _ hk => hk.2) (.slice Ao11 t153.length co11)) (fun _ hk => trivial), qz1⟩

-- NOT PRINTED: function 83 (impl_each)

/-! ### impl_HoldAll: function 39, impl.each over Hold: function 83 -/
def impl_eachHold.l0 : Nat → List S79 → List S50 → Int → List S79 → Option (List S79 × Bool)
 | 0, _, _, _, _ => none
 | k + 1, s, p, i, out => if i < (p.length : Int) then (if 0 ≤ i then ((impl_Hold.f k out (rd_T50 p i).f0 (rd_T50 p i).f1 (rd_T50 p i).f2).bind fun q => if q.2 = 0 then impl_eachHold.l0 k s p (wrap64 (i + 1)) q.1 else ((impl_copyStock.f k s).bind fun c => some (c, false))) else none) else some (out, true)
def impl_eachHold.f (k : Nat) (s : List S79) (p : List S50) : Option (List S79 × Bool) := (impl_copyStock.f k s).bind fun o => impl_eachHold.l0 k s p 0 o
theorem impl_eachHold.mono_l : ∀ k, (∀ y0 y1 y2 y3, LeO (impl_eachHold.l0 k y0 y1 y2 y3) (impl_eachHold.l0 (k + 1) y0 y1 y2 y3))
 | 0 => fun _ _ _ _ r h => by simp [impl_eachHold.l0] at h
 | k + 1 => by
  have ih0 := impl_eachHold.mono_l k
  intro y0 y1 y2 y3
  unfold impl_eachHold.l0
  have j0 := @impl_Hold.mono
  have j1 := @impl_copyStock.mono
  exact qL
theorem impl_eachHold.mono : ∀ a0 a1 k, LeO (impl_eachHold.f k a0 a1) (impl_eachHold.f (k + 1) a0 a1) := by
 intro a0 a1 k
 unfold impl_eachHold.f
 exact LeO.bind (impl_copyStock.mono _ _) (fun _ => impl_eachHold.mono_l k _ _ _ _)
set_option maxHeartbeats 8000000 in
set_option maxRecDepth 100000 in
theorem impl_eachHold.calls (k : Nat) (A0_0 : Option Addr) (c0_0 : Nat) (l0_0 : List S79) (A1 : Option Addr) (c1 : Nat) (l1 : List S50) (r1 : List S79) (r2 : Bool) (w : World) (hr0_0 : Kd.C k79 w A0_0 l0_0.length l0_0) (hc0_0 : l0_0.length ≤ c0_0) (hr1 : Kd.C k50 w A1 l1.length l1) (hc1 : l1.length ≤ c1) (h : impl_eachHold.f k l0_0 l1 = some (r1, r2)) :
  Calls Try.prog 83 #[.agg #[.slice A0_0 l0_0.length c0_0], .slice A1 l1.length c1, .func (.func 17) #[] #[]] w fun e w' => ∃ v0_ : Value, e = .returned (.tuple #[.agg #[v0_], .bool r2]) ∧ Kd.S k79 79 w' w.heap.size (fun _ => True) v0_ r1 ∧ Below w.heap.size w w' := by
 have hu26 := Try.underlying26
 have hu24 := Try.underlying24
 have hu50 := Try.underlying50
 have hu43 := Try.underlying43
 unfold impl_eachHold.f at h
 obtain ⟨o, ho, h⟩ := Option.bind_eq_some_iff.mp h
 have Ho := aM ho
 have H' := aM h
 have HR := aM hr0_0
 have HC := aM hc0_0
 have HP := aM hr1
 have HPC := aM hc1
 clear ho h hr0_0 hc0_0 hr1 hc1
 go_enter Try.func83, Try.ntmps83
 go_wp2_with (first
  | (go_at_call 65; refine (impl_copyStock.calls k _ _ l0_0 o _ (Kd.C_alloc (Kd.C_alloc HR.out _) _) HC.out Ho.out).mono ?_; rintro e w1 ⟨v0, rfl, hS, hb⟩; obtain ⟨Ao, co, rfl⟩ := Kd.S_slice hS; have B3 := aM (blk_below (blk_alloc (blk_new w (.cells #[.slice A0_0 l0_0.length c0_0] 26)) (.cells #[.slice none 0 0] 26)) hb); have B6 := aM (blk_below (blk_new1 w (.cells #[.slice A0_0 l0_0.length c0_0] 26) (.cells #[.slice none 0 0] 26)) hb); have HB1 := aM (below_step (below_alloc (below_alloc (Below.refl w.heap.size w) _) _) hb); have HS := aM (show Kd.S k79 79 w1 (w.heap.size + 2) (fun k => k < w1.heap.size) (.slice Ao o.length co) o by refine Kd.S_mono (Kd.S_bound (ok := fun _ => True) ?_) (fun _ hk => hk.2.2.1); rw [show w.heap.size + 2 = ((w.alloc (.cells #[.slice A0_0 l0_0.length c0_0] 26)).alloc (.cells #[.slice none 0 0] 26)).heap.size by simp]; exact hS); have L6 := aM (blk_lt B6.out); clear hb hS))
 have hS := aM (Kd.S_mono (ok' := fun k => k ≠ w1.heap.size) (Kd.S_alloc HS.out (.cells #[.slice Ao o.length co] 26)) (fun k (hk : k < w1.heap.size) => Nat.ne_of_lt hk))
 have B8 := aM (blk_new w1 (.cells #[.slice Ao o.length co] 26))
 replace B3 := aM (blk_alloc B3.out (.cells #[.slice Ao o.length co] 26))
 replace B6 := aM (blk_alloc B6.out (.cells #[.slice Ao o.length co] 26))
 have HB2 := aM (below_alloc HB1.out (.cells #[.slice Ao o.length co] 26))
 clear HS HB1
 generalize w1.alloc (.cells #[.slice Ao o.length co] 26) = w2 at hS B3 B6 B8 HB2 ⊢
 generalize hg8 : w1.heap.size = g8 at hS B8 L6 ⊢
 clear hg8
 go_loopg [17] k (fun kq v17 w' => ∃ (x17 : Int) (out : List S79) (Ao : Option Addr) (co : Nat), v17 = .int .i64 x17 ∧ Aside0 (impl_eachHold.l0 kq l0_0 l1 x17 out = some (r1, r2)) ∧ Aside0 (kq ≤ k) ∧ Aside0 (Kd.S k79 79 w' (w.heap.size + 2) (fun k => k ≠ g8) (.slice Ao out.length co) out) ∧ Aside0 (w'.heap[w.heap.size]? = some (.cells #[.slice A0_0 l0_0.length c0_0] 26 (0, 0))) ∧ Aside0 (w'.heap[w.heap.size + 1]? = some (.cells #[.slice none 0 0] 26 (0, 0))) ∧ Aside0 (w'.heap[g8]? = some (.cells #[.slice Ao out.length co] 26 (0, 0))) ∧ Aside0 (Below w.heap.size w w'))
 case atStart => exact ⟨0, o, Ao, co, rfl, H', ⟨Nat.le_refl _⟩, hS, B3, B6, B8, HB2⟩
 case round =>
  clear H' hS B3 B6 B8 HB2
  try clear p2
  obtain ⟨x17, out, Ao, co, rfl, HA, HK1, HS, B3, B6, B8, HB⟩ := hrel
  have L6w := L6.out
  have L8 := blk_lt B8.out
  have C3 : wr.cell? ⟨w.heap.size, 0, none⟩ = some (.slice A0_0 l0_0.length c0_0) := (blk_cell B3.out 0).trans rfl
  have C6 : wr.cell? ⟨w.heap.size + 1, 0, none⟩ = some (.slice none 0 0) := (blk_cell B6.out 0).trans rfl
  have C8 : wr.cell? ⟨g8, 0, none⟩ = some (.slice Ao out.length co) := (blk_cell B8.out 0).trans rfl
  have F6 := blk_frozen B6.out 0
  have F8 := blk_frozen B8.out 0
  have L3 := blk_lt B3.out
  have L6r := blk_lt B6.out
  have N8 : w.heap.size + 1 ≠ g8 := Nat.ne_of_lt L6w
  have N8' : g8 ≠ w.heap.size + 1 := Nat.ne_of_gt L6w
  have N83 : w.heap.size ≠ g8 := by omega
  have N83' : g8 ≠ w.heap.size := by omega
  cases gk with
  | zero => exact absurd HA.out (by simp [impl_eachHold.l0])
  | succ k1 =>
   have H := HA.out
   clear HA
   simp only [impl_eachHold.l0] at H
   by_cases c3 : x17 < (l1.length : Int)
   {
   rw [if_pos c3] at H
   by_cases c4 : 0 ≤ x17
   {
   rw [if_pos c4] at H
   obtain ⟨⟨q1, q2⟩, hq, H⟩ := Option.bind_eq_some_iff.mp H
   have HQ := aM hq
   clear hq
   dsimp only at H
   obtain ⟨adp, ep, y0, y1, y2⟩ := at_T50 HP.out x17 c4 c3
   subst ep
   replace y0 := pw_cell_below' HB.out y0
   replace y1 := pw_cell_below' HB.out y1
   replace y2 := pw_cell_below' HB.out y2
   have c3b0 := decide_eq_true c3
   have p5 := eq_true c4
   have q5 := eq_true c3
   have HRO := aM (Kd.S_reads' (Kd.S_alloc HS.out (.cells #[.int .i64 (rd_T50 l1 x17).f0, .int .i64 (rd_T50 l1 x17).f1, .int .i64 (rd_T50 l1 x17).f2] 50)))
   by_cases cq : q2 = 0
   {
   subst cq
   rw [if_pos rfl] at H
   have H' := aM H
   clear H
   go_wp2_with (first
    | (go_at_call 17; refine (impl_Hold.calls k1 _ _ out (rd_T50 l1 x17).f0 (rd_T50 l1 x17).f1 (rd_T50 l1 x17).f2 q1 0 _ HRO.out.2.2 HRO.out.2.1 HQ.out).mono ?_; rintro e w4 ⟨v0, rfl, hS, hb⟩; obtain ⟨An, cn, rfl⟩ := Kd.S_slice hS; have hU := below_step (below_alloc (Below.refl wr.heap.size wr) _) hb; replace B3 := aM (blk_below B3.out hU); replace B6 := aM (blk_below B6.out hU); replace B8 := aM (blk_below B8.out hU); replace HB := aM (below_step HB.out hU); have HS4 := aM (show Kd.S k79 79 w4 (w.heap.size + 2) (fun k => k ≠ g8) (.slice An q1.length cn) q1 from Kd.S_lower (Kd.S_mono (Kd.S_bound hS) (fun k hk => by have h2 := hk.2.1; rw [World.size_alloc] at h2; have h3 := L8; omega)) (by rw [World.size_alloc]; have h3 := L6r; omega)); replace C8 : w4.cell? ⟨g8, 0, none⟩ = some (.slice Ao out.length co) := (blk_cell B8.out 0).trans rfl; replace F8 := blk_frozen B8.out 0; have L84 := blk_lt B8.out; have N84 := Nat.ne_of_lt L84; have N84' := Nat.ne_of_gt L84; clear HS HRO hS hb hU C3 C6 F6 L8 y0 y1 y2 L3 L6r))
   go_roundg k1
   case measure => have := HK1.out; omega
   case rel => exact ⟨wrap64 (x17 + 1), q1, An, cn, rfl, H', ⟨by have := HK1.out; omega⟩, ⟨Kd.S_alloc (Kd.S_far (p := ⟨g8, 0, none⟩) HS4.out (fun _ hk => hk) _) _⟩, ⟨blk_alloc (blk_far B3.out N83 _) _⟩, ⟨blk_alloc (blk_far B6.out N8 _) _⟩, ⟨blk_alloc (blk_put (cs := #[.slice Ao out.length co]) B8.out 0 _ rfl) _⟩, ⟨below_alloc (below_set HB.out (by omega)) _⟩⟩
   }
   {
   rw [if_neg cq] at H
   obtain ⟨cc, hcc, H⟩ := Option.bind_eq_some_iff.mp H
   have HCC := aM hcc
   obtain ⟨rfl, rfl⟩ : cc = r1 ∧ false = r2 := by simpa using H
   clear hcc H
   have cqb : (q2 != 0) = true := by simpa using cq
   clear cq
   go_wp2_with (first
    | (go_at_call 17; refine (impl_Hold.calls k1 _ _ out (rd_T50 l1 x17).f0 (rd_T50 l1 x17).f1 (rd_T50 l1 x17).f2 q1 q2 _ HRO.out.2.2 HRO.out.2.1 HQ.out).mono ?_; rintro e w4 ⟨v0, rfl, hS, hb⟩; obtain ⟨An, cn, rfl⟩ := Kd.S_slice hS; have hU := below_step (below_alloc (Below.refl wr.heap.size wr) _) hb; replace B3 := aM (blk_below B3.out hU); replace B6 := aM (blk_below B6.out hU); replace HB := aM (below_step HB.out hU); have C3' : w4.cell? ⟨w.heap.size, 0, none⟩ = some (.slice A0_0 l0_0.length c0_0) := (blk_cell B3.out 0).trans rfl; have L3' := blk_lt B3.out; clear HS HRO hS hb hU C3 C6 C8 F6 F8 L8 L3 L6r B8 y0 y1 y2)
    | (go_at_call 65; refine (impl_copyStock.calls k1 _ _ l0_0 cc _ (Kd.C_below HR.out (below_alloc HB.out _)) HC.out HCC.out).mono ?_; rintro e w5 ⟨v0, rfl, hS, hb⟩; obtain ⟨Ac, cc5, rfl⟩ := Kd.S_slice hS; have hU := below_step (below_alloc (Below.refl w4.heap.size w4) _) hb; have L6q := blk_lt B6.out; replace B6 := aM (blk_below B6.out hU); replace HB := aM (below_step HB.out hU); have HS5 := aM (show Kd.S k79 79 w5 (w.heap.size + 2) (fun k => True) (.slice Ac cc.length cc5) cc from Kd.S_lower hS (by rw [World.size_alloc]; omega)); have C6' : w5.cell? ⟨w.heap.size + 1, 0, none⟩ = some (.slice none 0 0) := (blk_cell B6.out 0).trans rfl; have F6' := blk_frozen B6.out 0; clear hS hb hU C3' L3'))
   refine bodyPost_ret (results_ct rfl _ _ (w.heap.size + 1) 26 #[.slice Ac cc.length cc5] (0, 0) _ rfl (blk_put (cs := #[.slice none 0 0]) B6.out 0 _ rfl) Try.underlying26 rfl (by kernel_rfl)) rfl ?_
   exact ⟨_, rfl, Kd.S_lower (S_box HS5.out (show w.heap.size + 1 < w.heap.size + 2 by omega) _) (by omega), below_set HB.out (by omega)⟩
   }
   }
   {
   exact an_ c4 H
   }
   }
   {
   rw [if_neg c3] at H
   have c3b0 := decide_eq_false c3
   clear c3
   obtain ⟨rfl, rfl⟩ : out = r1 ∧ true = r2 := by simpa using H
   clear H
   go_wp2
   refine bodyPost_ret (results_ct rfl _ _ (w.heap.size + 1) 26 #[.slice Ao out.length co] (0, 0) _ rfl (blk_put (cs := #[.slice none 0 0]) B6.out 0 _ rfl) Try.underlying26 rfl (by kernel_rfl)) rfl ?_
   exact ⟨_, rfl, Kd.S_mono (ok' := fun _ => True) (Kd.S_lower (S_box HS.out (show w.heap.size + 1 < w.heap.size + 2 by omega) _) (by omega)) (fun _ _ => trivial), below_set HB.out (by omega)⟩
   }
def impl_HoldAll.f (k : Nat) (s : List S79) (p : List S50) : Option (List S79 × Bool) := impl_eachHold.f k s p
theorem impl_HoldAll.mono : ∀ a0 a1 k, LeO (impl_HoldAll.f k a0 a1) (impl_HoldAll.f (k + 1) a0 a1) := impl_eachHold.mono
set_option maxHeartbeats 8000000 in
set_option maxRecDepth 100000 in
theorem impl_HoldAll.calls (k : Nat) (A0_0 : Option Addr) (c0_0 : Nat) (l0_0 : List S79) (A1 : Option Addr) (c1 : Nat) (l1 : List S50) (r1 : List S79) (r2 : Bool) (w : World) (hr0_0 : Kd.C k79 w A0_0 l0_0.length l0_0) (hc0_0 : l0_0.length ≤ c0_0) (hr1 : Kd.C k50 w A1 l1.length l1) (hc1 : l1.length ≤ c1) (h : impl_HoldAll.f k l0_0 l1 = some (r1, r2)) :
  Calls Try.prog 39 #[.agg #[.slice A0_0 l0_0.length c0_0], .slice A1 l1.length c1] w fun e w' => ∃ v0_ : Value, e = .returned (.tuple #[.agg #[v0_], .bool r2]) ∧ Kd.S k79 79 w' w.heap.size (fun _ => True) v0_ r1 ∧ Below w.heap.size w w' := by
 have hu26 := Try.underlying26
 have H := aM h
 have HR := aM hr0_0
 have HC := aM hc0_0
 have HP := aM hr1
 have HPC := aM hc1
 clear h hr0_0 hc0_0 hr1 hc1
 go_enter Try.func39, Try.ntmps39
 go_wp2_with (first
  | (go_at_call 83; refine (impl_eachHold.calls k _ _ l0_0 _ _ l1 r1 r2 _ (Kd.C_alloc (Kd.C_alloc HR.out _) _) HC.out (Kd.C_alloc (Kd.C_alloc HP.out _) _) HPC.out H.out).mono ?_; rintro e w1 ⟨v0, rfl, hS, hb⟩; obtain ⟨Ao, co, rfl⟩ := Kd.S_slice hS; have B4 := aM (blk_below (blk_new1 w (.cells #[.slice A0_0 l0_0.length c0_0] 26) (.cells #[.slice none 0 0] 26)) hb); have HB := aM (below_step (below_alloc (below_alloc (Below.refl w.heap.size w) _) _) hb); have HS := aM (show Kd.S k79 79 w1 (w.heap.size + 2) (fun _ => True) (.slice Ao r1.length co) r1 by rw [show w.heap.size + 2 = ((w.alloc (.cells #[.slice A0_0 l0_0.length c0_0] 26)).alloc (.cells #[.slice none 0 0] 26)).heap.size by simp]; exact hS); have C4 : w1.cell? ⟨w.heap.size + 1, 0, none⟩ = some (.slice none 0 0) := (blk_cell B4.out 0).trans rfl; have F4 := blk_frozen B4.out 0; clear hb hS))
 refine bodyPost_ret (results_ct rfl _ _ (w.heap.size + 1) 26 #[.slice Ao r1.length co] (0, 0) _ rfl (blk_put (cs := #[.slice none 0 0]) B4.out 0 _ rfl) Try.underlying26 rfl (by kernel_rfl)) rfl ?_
 exact ⟨_, rfl, Kd.S_lower (S_box HS.out (show w.heap.size + 1 < w.heap.size + 2 by omega) _) (by omega), below_set HB.out (by omega)⟩

end Go.Proofs.Yteajnkondkfmgaa.PFnEach
