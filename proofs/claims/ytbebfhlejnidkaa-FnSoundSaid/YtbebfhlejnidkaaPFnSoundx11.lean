-- Made by a program of this session out of the translation. Lean checks it.
import Derived.Test.YtbebfhlejnidkaaPFnSoundx0
import Derived.Test.YtbebfhlejnidkaaPFnSoundx10
namespace Go.Proofs.Ytbebfhlejnidkaa.PFnSound
open Go.RowKit Go.Proofs.YtbebfhlejnidkaaW.PrintWords Go.Proofs.YtbebfhlejnidkaaW.PrintLast Go.Proofs.YtbebfhlejnidkaaW.PrintMore
attribute [local go_sem] max2_int min2_int max_two min_two max_three min_three max_four min_four   -- for this text's walks alone
set_option linter.unusedVariables false
set_option linter.unusedSimpArgs false

/-! ### impl_FloorOk: function 57 -/
mutual
def impl_FloorOk.j0 : Nat → Bool → Int → Int → List Int → Option (Bool)
 | 0, _, _, _, _ => none
 | k + 1, x25, x405000, x405001, x405002 => if x25 = true then (some false) else (impl_FloorOk.l0 k x405002 (x405002.length : Int) 0)
def impl_FloorOk.l0 : Nat → List Int → Int → Int → Option (Bool)
 | 0, _, _, _ => none
 | k + 1, x27, x28, x29 => if x29 < x28 then (if 0 ≤ x29 then (if x29 < (x27.length : Int) then ((impl_in.f (rd x27 x29) 0 4).bind fun t408 => (if t408 = true then (impl_FloorOk.l0 k x27 x28 (wrap64 (x29 + 1))) else (some false))) else (none)) else (none)) else (some true)
end
def impl_FloorOk.f (k : Nat) (a0_0 : Int) (a0_1 : Int) (l0_2 : List Int) : Option (Bool) := (impl_in.f a0_0 1 10).bind fun t405 => (if t405 = true then ((impl_in.f a0_1 1 10).bind fun t406 => (if t406 = true then (impl_FloorOk.j0 k ((l0_2.length : Int) != (wrap64 (a0_0 * a0_1))) a0_0 a0_1 l0_2) else (impl_FloorOk.j0 k true a0_0 a0_1 l0_2))) else (impl_FloorOk.j0 k true a0_0 a0_1 l0_2))
theorem impl_FloorOk.mono_l : ∀ k, (∀ y0 y1 y2 y3, LeO (impl_FloorOk.j0 k y0 y1 y2 y3) (impl_FloorOk.j0 (k + 1) y0 y1 y2 y3)) ∧ (∀ y0 y1 y2, LeO (impl_FloorOk.l0 k y0 y1 y2) (impl_FloorOk.l0 (k + 1) y0 y1 y2))
 | 0 => ⟨fun _ _ _ _ r h => by simp [impl_FloorOk.j0] at h, fun _ _ _ r h => by simp [impl_FloorOk.l0] at h⟩
 | k + 1 => by
  obtain ⟨ih0, ih1⟩ := impl_FloorOk.mono_l k
  refine ⟨?_, ?_⟩
  {
  intro y0 y1 y2 y3
  unfold impl_FloorOk.j0
  repeat' first
  | (with_reducible first | exact ih0 _ _ _ _ | exact ih1 _ _ _ | exact LeO.refl _ | exact LeO.none _ | refine LeO.ite ?_ ?_ | refine LeO.bind ?_ (fun _ => ?_))
  | exact ih0 _ _ _ _
  | exact ih1 _ _ _
  | exact LeO.none _
  | refine LeO.ite ?_ ?_
  | refine LeO.bind ?_ (fun _ => ?_)
  }
  {
  intro y0 y1 y2
  unfold impl_FloorOk.l0
  repeat' first
  | (with_reducible first | exact ih0 _ _ _ _ | exact ih1 _ _ _ | exact LeO.refl _ | exact LeO.none _ | refine LeO.ite ?_ ?_ | refine LeO.bind ?_ (fun _ => ?_))
  | exact ih0 _ _ _ _
  | exact ih1 _ _ _
  | exact LeO.none _
  | refine LeO.ite ?_ ?_
  | refine LeO.bind ?_ (fun _ => ?_)
  }
theorem impl_FloorOk.mono : ∀ a0 a1 a2 k, LeO (impl_FloorOk.f k a0 a1 a2) (impl_FloorOk.f (k + 1) a0 a1 a2) := by
 intro a0 a1 a2 k
 obtain ⟨ih0, ih1⟩ := impl_FloorOk.mono_l k
 unfold impl_FloorOk.f
 repeat' first
  | (with_reducible first | exact ih0 _ _ _ _ | exact ih1 _ _ _ | exact LeO.refl _ | exact LeO.none _ | refine LeO.ite ?_ ?_ | refine LeO.bind ?_ (fun _ => ?_))
  | exact ih0 _ _ _ _
  | exact ih1 _ _ _
  | exact LeO.none _
  | refine LeO.ite ?_ ?_
  | refine LeO.bind ?_ (fun _ => ?_)
set_option maxHeartbeats 8000000 in
set_option maxRecDepth 100000 in
theorem impl_FloorOk.calls (k : Nat) (a0_0 : Int) (a0_1 : Int) (A0_2 : Option Addr) (c0_2 : Nat) (l0_2 : List Int) (r : Bool) (w : World) (hr0_2 : Kd.C (Kd.int .i64) w A0_2 l0_2.length l0_2) (hc0_2 : l0_2.length ≤ c0_2) (h : impl_FloorOk.f k a0_0 a0_1 l0_2 = some r) :
  Calls Try.prog 57 #[.agg #[.int .i64 a0_0, .int .i64 a0_1, .slice A0_2 l0_2.length c0_2]] w fun e w' => e = .returned (.bool r) ∧ Below w.heap.size w w' := by
 have hu43 := Try.underlying43
 have HR0_2 := aM hr0_2
 have HC0_2 := aM hc0_2
 clear hr0_2 hc0_2
 have HB := aM (Below.refl w.heap.size w)
 have H : ((impl_in.f a0_0 1 10).bind fun t405 => (if t405 = true then ((impl_in.f a0_1 1 10).bind fun t406 => (if t406 = true then (impl_FloorOk.j0 k ((l0_2.length : Int) != (wrap64 (a0_0 * a0_1))) a0_0 a0_1 l0_2) else (impl_FloorOk.j0 k true a0_0 a0_1 l0_2))) else (impl_FloorOk.j0 k true a0_0 a0_1 l0_2))) = some r := h
 clear h
 have HC2 := aM H
 clear H
 go_enter Try.func57, Try.ntmps57
 go_upto_region 1 with (first | ((with_reducible refine gate_dst (N := 1) rfl ?_); (try (refine gate_guard (by rfl) ?_; dsimp only)); refine bx_ 1 #[.int .i64 a0_0, .int .i64 a0_1, .slice A0_2 l0_2.length c0_2] 43 ?_; intro gb404 hg w3 hbox hb; have n0_ := aM (below_step qz1 hb); have n1_ := aM (hbox); have n2_ := aM ((by rw [hg]; exact (below_size qz1) : w.heap.size ≤ gb404)); have n3_ := aM ((by rw [hg]; exact (below_size qz1) : w.heap.size ≤ gb404)); clear HB; have HB := n0_; have BK404 := n1_; have GW404 := n2_; have GE404 := n3_; clear n0_ n1_ n2_ n3_; clear hb hbox hg))
 (try simp only [Act.put, List.setIfInBounds_toArray, List.set_cons_zero, List.set_cons_succ])
 go_cut [25] (fun v25 wc => ∃ (kq : Nat) (x25_1 : Bool), v25 = .bool x25_1 ∧ Aside0 (impl_FloorOk.j0 kq x25_1 a0_0 a0_1 l0_2 = some r) ∧ Aside0 (kq ≤ k) ∧ Aside0 (wc.heap[gb404]? = some (.cells #[.int .i64 a0_0, .int .i64 a0_1, (.slice A0_2 l0_2.length c0_2)] 43 (0, 0))) ∧ Aside0 (Below w.heap.size w wc))
 case first =>
  have H := HC2.out
  clear HC2
  replace H := Option.bind_eq_some_iff.mp H
  obtain ⟨t405, A40, H⟩ := H
  replace H : (if t405 = true then ((impl_in.f a0_1 1 10).bind fun t406 => (if t406 = true then (impl_FloorOk.j0 k ((l0_2.length : Int) != (wrap64 (a0_0 * a0_1))) a0_0 a0_1 l0_2) else (impl_FloorOk.j0 k true a0_0 a0_1 l0_2))) else (impl_FloorOk.j0 k true a0_0 a0_1 l0_2)) = some r := H
  have A4 := aM A40
  clear A40
  by_cases c5 : t405 = true
  {
  subst c5
  rw [if_pos rfl] at H
  replace H := Option.bind_eq_some_iff.mp H
  obtain ⟨t406, A60, H⟩ := H
  replace H : (if t406 = true then (impl_FloorOk.j0 k ((l0_2.length : Int) != (wrap64 (a0_0 * a0_1))) a0_0 a0_1 l0_2) else (impl_FloorOk.j0 k true a0_0 a0_1 l0_2)) = some r := H
  have A6 := aM A60
  clear A60
  by_cases c7 : t406 = true
  {
  subst c7
  rw [if_pos rfl] at H
  have H' := aM H
  clear H
  obtain ⟨hcz8_0, hcz8_1, hcz8_2, hfz8_0, hfz8_1, hfz8_2⟩ := b6_ BK404.out
  go_wp2_with (first | ((with_reducible refine gate_callee (f := 42) rfl ?_); refine goesL_ (some 7) rfl rfl Try.func42 (by kernel_rfl) rfl #[.int .i64 a0_0, .int .i64 1, .int .i64 10] rfl qz3 ?_; (with_reducible refine (impl_in.calls a0_0 1 10 true _ A4.out).mono ?_); rintro e w' ⟨rfl, ⟨nd, rfl⟩⟩; refine ⟨_, rfl, ?_⟩) | (go_at_call 42; (with_reducible refine (impl_in.calls a0_1 1 10 true _ A6.out).mono ?_); rintro e w' ⟨rfl, ⟨nd, rfl⟩⟩))
  go_meet
  case rel => exact ⟨_, (((l0_2.length : Int) != (wrap64 (a0_0 * a0_1)))), qz5, H', ⟨by first | omega | exact Nat.le_refl _⟩, ⟨bk_ BK404.out⟩, ⟨by repeat (first | (with_reducible first | exact HB.out | apply below_alloc | apply pw_below_drewN | apply below_drew1 | refine below_set ?_ GE404.out) | exact HB.out)⟩⟩
  }
  {
  replace c7 := Bool.eq_false_iff.mpr c7
  subst c7
  rw [if_neg (show ¬ (false = true) by decide)] at H
  have H' := aM H
  clear H
  obtain ⟨hcz9_0, hcz9_1, hcz9_2, hfz9_0, hfz9_1, hfz9_2⟩ := b6_ BK404.out
  go_wp2_with (first | ((with_reducible refine gate_callee (f := 42) rfl ?_); refine goesL_ (some 7) rfl rfl Try.func42 (by kernel_rfl) rfl #[.int .i64 a0_0, .int .i64 1, .int .i64 10] rfl qz3 ?_; (with_reducible refine (impl_in.calls a0_0 1 10 true _ A4.out).mono ?_); rintro e w' ⟨rfl, ⟨nd, rfl⟩⟩; refine ⟨_, rfl, ?_⟩) | (go_at_call 42; (with_reducible refine (impl_in.calls a0_1 1 10 false _ A6.out).mono ?_); rintro e w' ⟨rfl, ⟨nd, rfl⟩⟩))
  go_meet
  case rel => exact ⟨_, (true), qz5, H', ⟨by first | omega | exact Nat.le_refl _⟩, ⟨bk_ BK404.out⟩, ⟨by repeat (first | (with_reducible first | exact HB.out | apply below_alloc | apply pw_below_drewN | apply below_drew1 | refine below_set ?_ GE404.out) | exact HB.out)⟩⟩
  }
  }
  {
  replace c5 := Bool.eq_false_iff.mpr c5
  subst c5
  rw [if_neg (show ¬ (false = true) by decide)] at H
  have H' := aM H
  clear H
  obtain ⟨hcz10_0, hcz10_1, hcz10_2, hfz10_0, hfz10_1, hfz10_2⟩ := b6_ BK404.out
  go_wp2_with (first | ((with_reducible refine gate_callee (f := 42) rfl ?_); refine goesL_ (some 7) rfl rfl Try.func42 (by kernel_rfl) rfl #[.int .i64 a0_0, .int .i64 1, .int .i64 10] rfl qz3 ?_; (with_reducible refine (impl_in.calls a0_0 1 10 false _ A4.out).mono ?_); rintro e w' ⟨rfl, ⟨nd, rfl⟩⟩; refine ⟨_, rfl, ?_⟩))
  go_meet
  case rel => exact ⟨_, (true), qz5, H', ⟨by first | omega | exact Nat.le_refl _⟩, ⟨bk_ BK404.out⟩, ⟨by repeat (first | (with_reducible first | exact HB.out | apply below_alloc | apply pw_below_drewN | apply below_drew1 | refine below_set ?_ GE404.out) | exact HB.out)⟩⟩
  }
 case rest =>
  clear HC2
  try clear p2
  try clear c4
  try clear c5
  try clear p6
  try clear c7
  try clear hcz10_0
  try clear hcz10_1
  try clear hcz10_2
  try clear hcz8_0
  try clear hcz8_1
  try clear hcz8_2
  try clear hcz9_0
  try clear hcz9_1
  try clear hcz9_2
  try clear hfz10_0
  try clear hfz10_1
  try clear hfz10_2
  try clear hfz8_0
  try clear hfz8_1
  try clear hfz8_2
  try clear hfz9_0
  try clear hfz9_1
  try clear hfz9_2
  obtain ⟨kq, x25_1, rfl, HA, HJ1, BK404, HB⟩ := hcut
  cases kq with
  | zero => exact absurd HA.out (by simp [impl_FloorOk.j0])
  | succ kj1 =>
   have H := HA.out
   clear HA
   simp only [impl_FloorOk.j0] at H
   by_cases c11 : x25_1 = true
   {
   subst c11
   rw [if_pos rfl] at H
   obtain rfl := Option.some.inj H
   simp only [Option.some.injEq, Prod.mk.injEq] at H
   obtain ⟨rfl⟩ := H
   go_wp2
   go_ret
   exact ⟨by first | rfl | (simp [errW_none, errW_some] <;> rfl) | (simp [*, errW_none, errW_some] <;> rfl), by repeat (first | (with_reducible first | exact HB.out | apply below_alloc | apply pw_below_drewN | apply below_drew1 | refine below_set ?_ GE404.out) | exact HB.out)⟩
   }
   {
   replace c11 := Bool.eq_false_iff.mpr c11
   subst c11
   rw [if_neg (show ¬ (false = true) by decide)] at H
   have H' := aM H
   clear H
   obtain ⟨hcz12_0, hcz12_1, hcz12_2, hfz12_0, hfz12_1, hfz12_2⟩ := b6_ BK404.out
   go_wp2
   go_loopg [29] kj1 (fun kq v29 w' => ∃ (x29_2 : Int), v29 = .int .i64 x29_2 ∧ Aside0 (impl_FloorOk.l0 kq l0_2 (l0_2.length : Int) x29_2 = some r) ∧ Aside0 (kq ≤ kj1) ∧ Aside0 (w'.heap[gb404]? = some (.cells #[.int .i64 a0_0, .int .i64 a0_1, (.slice A0_2 l0_2.length c0_2)] 43 (0, 0))) ∧ Aside0 (Below w.heap.size w w'))
   case atStart => exact ⟨(0), qz5, H', ⟨Nat.le_refl _⟩, ⟨bk_ BK404.out⟩, ⟨by repeat (first | (with_reducible first | exact HB.out | apply below_alloc | apply pw_below_drewN | apply below_drew1 | refine below_set ?_ GE404.out) | exact HB.out)⟩⟩
   case round =>
    clear H'
    try clear c1
    try clear p2
    try clear c4
    try clear c5
    try clear p6
    try clear c7
    try clear c11
    try clear hcz10_0
    try clear hcz10_1
    try clear hcz10_2
    try clear hcz12_0
    try clear hcz12_1
    try clear hcz12_2
    try clear hcz8_0
    try clear hcz8_1
    try clear hcz8_2
    try clear hcz9_0
    try clear hcz9_1
    try clear hcz9_2
    try clear hfz10_0
    try clear hfz10_1
    try clear hfz10_2
    try clear hfz12_0
    try clear hfz12_1
    try clear hfz12_2
    try clear hfz8_0
    try clear hfz8_1
    try clear hfz8_2
    try clear hfz9_0
    try clear hfz9_1
    try clear hfz9_2
    try clear p2
    try clear p6
    obtain ⟨x29_2, rfl, HA, HK2, BK404, HB⟩ := hrel
    cases gk with
    | zero => exact absurd HA.out (by simp [impl_FloorOk.l0])
    | succ k2 =>
     have H := HA.out
     clear HA
     simp only [impl_FloorOk.l0] at H
     by_cases c13 : x29_2 < (l0_2.length : Int)
     {
     rw [if_pos c13] at H
     have c13b0 := decide_eq_true c13
     clear c13
     by_cases c14 : 0 ≤ x29_2
     {
     rw [if_pos c14] at H
     have c14b0 := decide_eq_true c14
     clear c14
     by_cases c15 : x29_2 < (l0_2.length : Int)
     {
     rw [if_pos c15] at H
     have c15b0 := decide_eq_true c15
     clear c15
     replace H := Option.bind_eq_some_iff.mp H
     obtain ⟨t408, A160, H⟩ := H
     replace H : (if t408 = true then (impl_FloorOk.l0 k2 l0_2 (l0_2.length : Int) (wrap64 (x29_2 + 1))) else (some false)) = some r := H
     have A16 := aM A160
     clear A160
     by_cases c17 : t408 = true
     {
     subst c17
     rw [if_pos rfl] at H
     have H' := aM H
     clear H
     have p407 : 0 ≤ (x29_2 : Int) := of_decide_eq_true qz2
     have q407 : x29_2 < (l0_2.length : Int) := of_decide_eq_true qz2
     obtain ⟨ad407, e407, hx407_0⟩ := Kd.at_int HR0_2.out x29_2 p407 q407
     cases e407
     replace hx407_0 := pw_cell_below HB.out hx407_0
     replace p407 := eq_true p407
     replace q407 := eq_true q407
     go_wp2_with (first | ((with_reducible refine gate_callee (f := 42) rfl ?_); refine goesL_ (some 34) rfl rfl Try.func42 (by kernel_rfl) rfl #[.int .i64 (rd l0_2 x29_2), .int .i64 0, .int .i64 4] rfl qz3 ?_; (with_reducible refine (impl_in.calls (rd l0_2 x29_2) 0 4 true _ A16.out).mono ?_); rintro e w' ⟨rfl, ⟨nd, rfl⟩⟩; refine ⟨_, rfl, ?_⟩))
     go_roundg k2
     case measure => have := HJ1.out; have := HK2.out; omega
     case rel => exact ⟨(wrap64 (x29_2 + 1)), qz5, H', ⟨by have := HJ1.out; have := HK2.out; omega⟩, ⟨bk_ BK404.out⟩, ⟨by repeat (first | (with_reducible first | exact HB.out | apply below_alloc | apply pw_below_drewN | apply below_drew1 | refine below_set ?_ GE404.out) | exact HB.out)⟩⟩
     }
     {
     replace c17 := Bool.eq_false_iff.mpr c17
     subst c17
     rw [if_neg (show ¬ (false = true) by decide)] at H
     obtain rfl := Option.some.inj H
     simp only [Option.some.injEq, Prod.mk.injEq] at H
     obtain ⟨rfl⟩ := H
     have p407 : 0 ≤ (x29_2 : Int) := of_decide_eq_true qz2
     have q407 : x29_2 < (l0_2.length : Int) := of_decide_eq_true qz2
     obtain ⟨ad407, e407, hx407_0⟩ := Kd.at_int HR0_2.out x29_2 p407 q407
     cases e407
     replace hx407_0 := pw_cell_below HB.out hx407_0
     replace p407 := eq_true p407
     replace q407 := eq_true q407
     go_wp2_with (first | ((with_reducible refine gate_callee (f := 42) rfl ?_); refine goesL_ (some 34) rfl rfl Try.func42 (by kernel_rfl) rfl #[.int .i64 (rd l0_2 x29_2), .int .i64 0, .int .i64 4] rfl qz3 ?_; (with_reducible refine (impl_in.calls (rd l0_2 x29_2) 0 4 false _ A16.out).mono ?_); rintro e w' ⟨rfl, ⟨nd, rfl⟩⟩; refine ⟨_, rfl, ?_⟩))
     go_ret
     exact ⟨by first | rfl | (simp [errW_none, errW_some] <;> rfl) | (simp [*, errW_none, errW_some] <;> rfl), by repeat (first | (with_reducible first | exact HB.out | apply below_alloc | apply pw_below_drewN | apply below_drew1 | refine below_set ?_ GE404.out) | exact HB.out)⟩
     }
     }
     {
     rw [if_neg c15] at H
     exact absurd H (by simp)
     }
     }
     {
     rw [if_neg c14] at H
     exact absurd H (by simp)
     }
     }
     {
     rw [if_neg c13] at H
     have c13b0 := decide_eq_false c13
     clear c13
     obtain rfl := Option.some.inj H
     simp only [Option.some.injEq, Prod.mk.injEq] at H
     obtain ⟨rfl⟩ := H
     go_wp2
     go_ret
     exact ⟨by first | rfl | (simp [errW_none, errW_some] <;> rfl) | (simp [*, errW_none, errW_some] <;> rfl), by repeat (first | (with_reducible first | exact HB.out | apply below_alloc | apply pw_below_drewN | apply below_drew1 | refine below_set ?_ GE404.out) | exact HB.out)⟩

     }
   }
/-! ### impl_beside: function 72 -/
mutual
def impl_beside.j0 : Nat → Int → List Int → Int → Int → Int → Int → List Int → Option (List Int)
 | 0, _, _, _, _, _, _, _ => none
 | k + 1, x1, x5, x6, x7, x410000, x410001, x410002 => if x6 > 0 then (if x5.length < 17592186044416 then (impl_beside.j1 k x1 (x5 ++ [wrap64 (x1 - 1)]) x6 x7 x410000 x410001 x410002) else (none)) else (impl_beside.j1 k x1 x5 x6 x7 x410000 x410001 x410002)
def impl_beside.j1 : Nat → Int → List Int → Int → Int → Int → Int → List Int → Option (List Int)
 | 0, _, _, _, _, _, _, _ => none
 | k + 1, x1, x5, x6, x7, x410000, x410001, x410002 => if x6 < (wrap64 (x410000 - 1)) then (if x5.length < 17592186044416 then ((some (x5 ++ [wrap64 (x1 + 1)] : List Int)).bind fun y416 => (if x7 < (wrap64 (x410001 - 1)) then (if y416.length < 17592186044416 then (some (y416 ++ [wrap64 (x1 + x410000)])) else (none)) else (some y416))) else (none)) else (if x7 < (wrap64 (x410001 - 1)) then (if x5.length < 17592186044416 then (some (x5 ++ [wrap64 (x1 + x410000)])) else (none)) else (some x5))
end
def impl_beside.f (k : Nat) (a0_0 : Int) (a0_1 : Int) (l0_2 : List Int) (a1 : Int) : Option (List Int) := if a0_0 = 0 then (none) else (if (wrap64 (Int.tdiv a1 a0_0)) > 0 then (if ([] : List Int).length < 17592186044416 then (impl_beside.j0 k a1 (([] : List Int) ++ [wrap64 (a1 - a0_0)]) (Int.tmod a1 a0_0) (wrap64 (Int.tdiv a1 a0_0)) a0_0 a0_1 l0_2) else (none)) else (impl_beside.j0 k a1 ([] : List Int) (Int.tmod a1 a0_0) (wrap64 (Int.tdiv a1 a0_0)) a0_0 a0_1 l0_2))
theorem impl_beside.mono_l : ∀ k, (∀ y0 y1 y2 y3 y4 y5 y6, LeO (impl_beside.j0 k y0 y1 y2 y3 y4 y5 y6) (impl_beside.j0 (k + 1) y0 y1 y2 y3 y4 y5 y6)) ∧ (∀ y0 y1 y2 y3 y4 y5 y6, LeO (impl_beside.j1 k y0 y1 y2 y3 y4 y5 y6) (impl_beside.j1 (k + 1) y0 y1 y2 y3 y4 y5 y6))
 | 0 => ⟨fun _ _ _ _ _ _ _ r h => by simp [impl_beside.j0] at h, fun _ _ _ _ _ _ _ r h => by simp [impl_beside.j1] at h⟩
 | k + 1 => by
  obtain ⟨ih0, ih1⟩ := impl_beside.mono_l k
  refine ⟨?_, ?_⟩
  {
  intro y0 y1 y2 y3 y4 y5 y6
  unfold impl_beside.j0
  repeat' first
  | (with_reducible first | exact ih0 _ _ _ _ _ _ _ | exact ih1 _ _ _ _ _ _ _ | exact LeO.refl _ | exact LeO.none _ | refine LeO.ite ?_ ?_ | refine LeO.bind ?_ (fun _ => ?_))
  | exact ih0 _ _ _ _ _ _ _
  | exact ih1 _ _ _ _ _ _ _
  | exact LeO.none _
  | refine LeO.ite ?_ ?_
  | refine LeO.bind ?_ (fun _ => ?_)
  }
  {
  intro y0 y1 y2 y3 y4 y5 y6
  unfold impl_beside.j1
  repeat' first
  | (with_reducible first | exact ih0 _ _ _ _ _ _ _ | exact ih1 _ _ _ _ _ _ _ | exact LeO.refl _ | exact LeO.none _ | refine LeO.ite ?_ ?_ | refine LeO.bind ?_ (fun _ => ?_))
  | exact ih0 _ _ _ _ _ _ _
  | exact ih1 _ _ _ _ _ _ _
  | exact LeO.none _
  | refine LeO.ite ?_ ?_
  | refine LeO.bind ?_ (fun _ => ?_)
  }
theorem impl_beside.mono : ∀ a0 a1 a2 a3 k, LeO (impl_beside.f k a0 a1 a2 a3) (impl_beside.f (k + 1) a0 a1 a2 a3) := by
 intro a0 a1 a2 a3 k
 obtain ⟨ih0, ih1⟩ := impl_beside.mono_l k
 unfold impl_beside.f
 repeat' first
  | (with_reducible first | exact ih0 _ _ _ _ _ _ _ | exact ih1 _ _ _ _ _ _ _ | exact LeO.refl _ | exact LeO.none _ | refine LeO.ite ?_ ?_ | refine LeO.bind ?_ (fun _ => ?_))
  | exact ih0 _ _ _ _ _ _ _
  | exact ih1 _ _ _ _ _ _ _
  | exact LeO.none _
  | refine LeO.ite ?_ ?_
  | refine LeO.bind ?_ (fun _ => ?_)
set_option maxHeartbeats 8000000 in
set_option maxRecDepth 100000 in
theorem impl_beside.calls (k : Nat) (a0_0 : Int) (a0_1 : Int) (A0_2 : Option Addr) (c0_2 : Nat) (l0_2 : List Int) (a1 : Int) (r : List Int) (w : World) (hr0_2 : Kd.C (Kd.int .i64) w A0_2 l0_2.length l0_2) (hc0_2 : l0_2.length ≤ c0_2) (h : impl_beside.f k a0_0 a0_1 l0_2 a1 = some r) :
  Calls Try.prog 72 #[.agg #[.int .i64 a0_0, .int .i64 a0_1, .slice A0_2 l0_2.length c0_2], .int .i64 a1] w fun e w' => ∃ v0_ : Value, e = .returned (v0_) ∧ Kd.R (Kd.int .i64) 3 w' w.heap.size (fun _ => True) v0_ r ∧ Below w.heap.size w w' := by
 have hu43 := Try.underlying43
 have HR0_2 := aM hr0_2
 have HC0_2 := aM hc0_2
 clear hr0_2 hc0_2
 have HB := aM (Below.refl w.heap.size w)
 have H : (if a0_0 = 0 then (none) else (if (wrap64 (Int.tdiv a1 a0_0)) > 0 then (if ([] : List Int).length < 17592186044416 then (impl_beside.j0 k a1 (([] : List Int) ++ [wrap64 (a1 - a0_0)]) (Int.tmod a1 a0_0) (wrap64 (Int.tdiv a1 a0_0)) a0_0 a0_1 l0_2) else (none)) else (impl_beside.j0 k a1 ([] : List Int) (Int.tmod a1 a0_0) (wrap64 (Int.tdiv a1 a0_0)) a0_0 a0_1 l0_2))) = some r := h
 clear h
 by_cases c3 : a0_0 = 0
 {
 rw [if_pos c3] at H
 exact absurd H (by simp)
 }
 {
 rw [if_neg c3] at H
 have c3b0 := beq_eq_false_iff_ne.mpr c3
 have c3b1 := bne_iff_ne.mpr c3
 have HC4 := aM H
 clear H
 go_enter Try.func72, Try.ntmps72
 go_upto_if 17 with (first | ((with_reducible refine gate_dst (N := 2) rfl ?_); refine bx_ 2 #[.int .i64 a0_0, .int .i64 a0_1, .slice A0_2 l0_2.length c0_2] 43 ?_; intro gb409 hg w5 hbox hb; have n0_ := aM (below_step qz1 hb); have n1_ := aM (hbox); have n2_ := aM ((by rw [hg]; exact (below_size qz1) : w.heap.size ≤ gb409)); have n3_ := aM ((by rw [hg]; exact (below_size qz1) : w.heap.size ≤ gb409)); clear HB; have HB := n0_; have BK409 := n1_; have GW409 := n2_; have GE409 := n3_; clear n0_ n1_ n2_ n3_; clear hb hbox hg; obtain ⟨hcz6_0, hcz6_1, hcz6_2, hfz6_0, hfz6_1, hfz6_2⟩ := b6_ BK409.out))
 repeat (go_quiet (first | ((with_reducible refine gate_dst (N := 2) rfl ?_); refine bx_ 2 #[.int .i64 a0_0, .int .i64 a0_1, .slice A0_2 l0_2.length c0_2] 43 ?_; intro gb409 hg w5 hbox hb; have n0_ := aM (below_step qz1 hb); have n1_ := aM (hbox); have n2_ := aM ((by rw [hg]; exact (below_size qz1) : w.heap.size ≤ gb409)); have n3_ := aM ((by rw [hg]; exact (below_size qz1) : w.heap.size ≤ gb409)); clear HB; have HB := n0_; have BK409 := n1_; have GW409 := n2_; have GE409 := n3_; clear n0_ n1_ n2_ n3_; clear hb hbox hg; obtain ⟨hcz6_0, hcz6_1, hcz6_2, hfz6_0, hfz6_1, hfz6_2⟩ := b6_ BK409.out)); go_upto_if 17 with (first | ((with_reducible refine gate_dst (N := 2) rfl ?_); refine bx_ 2 #[.int .i64 a0_0, .int .i64 a0_1, .slice A0_2 l0_2.length c0_2] 43 ?_; intro gb409 hg w5 hbox hb; have n0_ := aM (below_step qz1 hb); have n1_ := aM (hbox); have n2_ := aM ((by rw [hg]; exact (below_size qz1) : w.heap.size ≤ gb409)); have n3_ := aM ((by rw [hg]; exact (below_size qz1) : w.heap.size ≤ gb409)); clear HB; have HB := n0_; have BK409 := n1_; have GW409 := n2_; have GE409 := n3_; clear n0_ n1_ n2_ n3_; clear hb hbox hg; obtain ⟨hcz6_0, hcz6_1, hcz6_2, hfz6_0, hfz6_1, hfz6_2⟩ := b6_ BK409.out)))
 (try simp only [Act.put, List.setIfInBounds_toArray, List.set_cons_zero, List.set_cons_succ])
 go_cut [5] (fun v5 wc => ∃ (kq : Nat) (x5_3 : List Int), Aside0 (impl_beside.j0 kq a1 x5_3 (Int.tmod a1 a0_0) (wrap64 (Int.tdiv a1 a0_0)) a0_0 a0_1 l0_2 = some r) ∧ Aside0 (kq ≤ k) ∧ Aside0 (Kd.R (Kd.int .i64) 3 wc w.heap.size (fun _ => True) v5 x5_3) ∧ Aside0 (wc.heap[gb409]? = some (.cells #[.int .i64 a0_0, .int .i64 a0_1, (.slice A0_2 l0_2.length c0_2)] 43 (0, 0))) ∧ Aside0 (Below w.heap.size w wc))
 case first =>
  have H := HC4.out
  clear HC4
  by_cases c7 : (wrap64 (Int.tdiv a1 a0_0)) > 0
  {
  rw [if_pos c7] at H
  have c7b0 := decide_eq_true c7
  clear c7
  (first | rw [c7b0] | (simp only [i64_w, i32_w]; rw [c7b0]) | rw [@decide_eq_true _ _ (of_decide_eq_true c7b0)] | rw [@decide_eq_true _ _ (of_decide_eq_true c7b1)] | skip)
  by_cases c8 : ([] : List Int).length < 17592186044416
  {
  rw [if_pos c8] at H
  have LMc8 := aM c8
  clear c8
  obtain ⟨y410, hy410⟩ : ∃ y_ : List Int, y_ = (([] : List Int) ++ [wrap64 (a1 - a0_0)]) := ⟨_, rfl⟩
  replace H : (impl_beside.j0 k a1 y410 (Int.tmod a1 a0_0) (wrap64 (Int.tdiv a1 a0_0)) a0_0 a0_1 l0_2) = some r := by first | (rw [hy410]; with_reducible exact H) | (have H2_ := (Option.bind_some _ _).symm.trans H; rw [hy410]; with_reducible exact H2_) | (have H2_ := (Option.bind_some _ _).symm.trans H; with_reducible exact H2_) | with_reducible exact H | (rw [hy410]; exact H) | exact H
  have Ny410 := aM hy410
  clear hy410
  have H' := aM H
  clear H
  obtain ⟨hcz9_0, hcz9_1, hcz9_2, hfz9_0, hfz9_1, hfz9_2⟩ := b6_ BK409.out
  go_wp2_with (first | ((with_reducible refine gate_builtin (b := .append) (xs := #[.tmp 18, .tmp 23]) rfl ?_); at_builtin; refine Kd.R_append (Kd.int .i64) (w0 := w) w.heap.size rfl (.tmp 18) (.tmp 23) 24 3 (.int .i64 0) 8 rfl Try.underlying24 info3 rfl (by decide) (by omega) (.slice none 0 0) ([] : List Int) (wrap64 (a1 - a0_0)) [.int .i64 (wrap64 (a1 - a0_0))] (fun _ => True) (fun _ => False) rfl rfl ?aP (fun _ hk => hk.elim) ?aF ?aO ?aB ?aS ?aL ?_; (case aP => exact rfl); (case aB => exact qz6); (case aF => exact qz57); (case aO => exact ((Kd.R_nil _ _ _ _ (fun _ => True)))); (case aS => exact qz80); (case aL => have := LMc8.out; omega); intro v411 w10 ho hb hg hat; rw [← Ny410.out] at ho; have n0_ := aM (blk_grown (bk_ BK409.out) hg (by simp [Value.ownBlock])); have n1_ := aM (hb); have n2_ := aM (ho); clear BK409 HB; have BK409 := n0_; have HB := n1_; have HO412 := n2_; clear n0_ n1_ n2_; clear ho hb hg hat))
  repeat (go_quiet (first | ((with_reducible refine gate_builtin (b := .append) (xs := #[.tmp 18, .tmp 23]) rfl ?_); at_builtin; refine Kd.R_append (Kd.int .i64) (w0 := w) w.heap.size rfl (.tmp 18) (.tmp 23) 24 3 (.int .i64 0) 8 rfl Try.underlying24 info3 rfl (by decide) (by omega) (.slice none 0 0) ([] : List Int) (wrap64 (a1 - a0_0)) [.int .i64 (wrap64 (a1 - a0_0))] (fun _ => True) (fun _ => False) rfl rfl ?aP (fun _ hk => hk.elim) ?aF ?aO ?aB ?aS ?aL ?_; (case aP => exact rfl); (case aB => exact qz6); (case aF => exact qz57); (case aO => exact ((Kd.R_nil _ _ _ _ (fun _ => True)))); (case aS => exact qz80); (case aL => have := LMc8.out; omega); intro v411 w10 ho hb hg hat; rw [← Ny410.out] at ho; have n0_ := aM (blk_grown (bk_ BK409.out) hg (by simp [Value.ownBlock])); have n1_ := aM (hb); have n2_ := aM (ho); clear BK409 HB; have BK409 := n0_; have HB := n1_; have HO412 := n2_; clear n0_ n1_ n2_; clear ho hb hg hat)); try go_wp2_with (first | ((with_reducible refine gate_builtin (b := .append) (xs := #[.tmp 18, .tmp 23]) rfl ?_); at_builtin; refine Kd.R_append (Kd.int .i64) (w0 := w) w.heap.size rfl (.tmp 18) (.tmp 23) 24 3 (.int .i64 0) 8 rfl Try.underlying24 info3 rfl (by decide) (by omega) (.slice none 0 0) ([] : List Int) (wrap64 (a1 - a0_0)) [.int .i64 (wrap64 (a1 - a0_0))] (fun _ => True) (fun _ => False) rfl rfl ?aP (fun _ hk => hk.elim) ?aF ?aO ?aB ?aS ?aL ?_; (case aP => exact rfl); (case aB => exact qz6); (case aF => exact qz57); (case aO => exact ((Kd.R_nil _ _ _ _ (fun _ => True)))); (case aS => exact qz80); (case aL => have := LMc8.out; omega); intro v411 w10 ho hb hg hat; rw [← Ny410.out] at ho; have n0_ := aM (blk_grown (bk_ BK409.out) hg (by simp [Value.ownBlock])); have n1_ := aM (hb); have n2_ := aM (ho); clear BK409 HB; have BK409 := n0_; have HB := n1_; have HO412 := n2_; clear n0_ n1_ n2_; clear ho hb hg hat)))
  go_meet
  case rel => exact ⟨_, (y410), H', ⟨by first | omega | exact Nat.le_refl _⟩, ⟨rm_ HO412.out⟩, ⟨bk_ BK409.out⟩, ⟨by repeat (first | (with_reducible first | exact HB.out | apply below_alloc | apply pw_below_drewN | apply below_drew1 | refine below_set ?_ GE409.out) | exact HB.out)⟩⟩
  }
  {
  rw [if_neg c8] at H
  exact absurd H (by simp)
  }
  }
  {
  rw [if_neg c7] at H
  have c7b0 := decide_eq_false c7
  clear c7
  (first | rw [c7b0] | (simp only [i64_w, i32_w]; rw [c7b0]) | rw [@decide_eq_false _ _ (of_decide_eq_false c7b0)] | rw [@decide_eq_false _ _ (of_decide_eq_false c7b1)] | skip)
  have H' := aM H
  clear H
  go_wp2
  repeat (go_quiet (fail); try go_wp2)
  go_meet
  case rel => exact ⟨_, (([] : List Int)), H', ⟨by first | omega | exact Nat.le_refl _⟩, ⟨by first | exact Kd.R_nil _ _ _ _ _ | exact Kd.N_nil _ _ _ _ _ | exact Kd.V_nil _ _ _ _ _ | exact Kd.Q_nil _ _ _ _ _ | exact Kd.S_nil _ _ _ _ _⟩, ⟨bk_ BK409.out⟩, ⟨by repeat (first | (with_reducible first | exact HB.out | apply below_alloc | apply pw_below_drewN | apply below_drew1 | refine below_set ?_ GE409.out) | exact HB.out)⟩⟩
  }
 case rest =>
  clear HC4
  try clear p2
  try clear c3
  try clear c3b0
  try clear c3b1
  try clear p6
  try clear c7
  try clear c7b0
  try clear c7b1
  try clear c8
  try clear hcz6_0
  try clear hcz6_1
  try clear hcz6_2
  try clear hcz9_0
  try clear hcz9_1
  try clear hcz9_2
  try clear hfz6_0
  try clear hfz6_1
  try clear hfz6_2
  try clear hfz9_0
  try clear hfz9_1
  try clear hfz9_2
  obtain ⟨kq, x5_3, HA, HJ3, HO_5, BK409, HB⟩ := hcut
  cases kq with
  | zero => exact absurd HA.out (by simp [impl_beside.j0])
  | succ kj3 =>
   have H := HA.out
   clear HA
   simp only [impl_beside.j0] at H
   have HC11 := aM H
   clear H
   go_upto_if 26 with (fail)
   repeat (go_quiet (fail); go_upto_if 26 with (fail))
   go_cut [5] (fun v5 wc => ∃ (kq : Nat) (x5_10 : List Int), Aside0 (impl_beside.j1 kq a1 x5_10 (Int.tmod a1 a0_0) (wrap64 (Int.tdiv a1 a0_0)) a0_0 a0_1 l0_2 = some r) ∧ Aside0 (kq ≤ kj3) ∧ Aside0 (Kd.R (Kd.int .i64) 3 wc w.heap.size (fun _ => True) v5 x5_10) ∧ Aside0 (wc.heap[gb409]? = some (.cells #[.int .i64 a0_0, .int .i64 a0_1, (.slice A0_2 l0_2.length c0_2)] 43 (0, 0))) ∧ Aside0 (Below w.heap.size w wc))
   case first =>
    have H := HC11.out
    clear HC11
    by_cases c12 : (Int.tmod a1 a0_0) > 0
    {
    rw [if_pos c12] at H
    have c12b0 := decide_eq_true c12
    clear c12
    (first | rw [c12b0] | (simp only [i64_w, i32_w]; rw [c12b0]) | rw [@decide_eq_true _ _ (of_decide_eq_true c12b0)] | rw [@decide_eq_true _ _ (of_decide_eq_true c12b1)] | skip)
    by_cases c13 : x5_3.length < 17592186044416
    {
    rw [if_pos c13] at H
    have LMc13 := aM c13
    clear c13
    obtain ⟨y413, hy413⟩ : ∃ y_ : List Int, y_ = (x5_3 ++ [wrap64 (a1 - 1)]) := ⟨_, rfl⟩
    replace H : (impl_beside.j1 kj3 a1 y413 (Int.tmod a1 a0_0) (wrap64 (Int.tdiv a1 a0_0)) a0_0 a0_1 l0_2) = some r := by first | (rw [hy413]; with_reducible exact H) | (have H2_ := (Option.bind_some _ _).symm.trans H; rw [hy413]; with_reducible exact H2_) | (have H2_ := (Option.bind_some _ _).symm.trans H; with_reducible exact H2_) | with_reducible exact H | (rw [hy413]; exact H) | exact H
    have Ny413 := aM hy413
    clear hy413
    have H' := aM H
    clear H
    go_wp2_with (first | ((with_reducible refine gate_builtin (b := .append) (xs := #[.tmp 27, .tmp 30]) rfl ?_); at_builtin; refine Kd.R_append (Kd.int .i64) (w0 := w) w.heap.size rfl (.tmp 27) (.tmp 30) 24 3 (.int .i64 0) 8 rfl Try.underlying24 info3 rfl (by decide) (by omega) u5 x5_3 (wrap64 (a1 - 1)) [.int .i64 (wrap64 (a1 - 1))] (fun _ => True) (fun _ => False) rfl rfl ?aP (fun _ hk => hk.elim) ?aF ?aO ?aB ?aS ?aL ?_; (case aP => exact rfl); (case aB => exact qz6); (case aF => exact qz57); (case aO => exact (rr_ HO_5.out)); (case aS => exact qz80); (case aL => have := LMc13.out; omega); intro v414 w14 ho hb hg hat; rw [← Ny413.out] at ho; have n0_ := aM (blk_grown (bk_ BK409.out) hg (Kd.R_ne HO_5.out BK409.out (by decide))); have n1_ := aM (hb); have n2_ := aM (ho); clear BK409 HB HO_5; have BK409 := n0_; have HB := n1_; have HO415 := n2_; clear n0_ n1_ n2_; clear ho hb hg hat))
    repeat (go_quiet (first | ((with_reducible refine gate_builtin (b := .append) (xs := #[.tmp 27, .tmp 30]) rfl ?_); at_builtin; refine Kd.R_append (Kd.int .i64) (w0 := w) w.heap.size rfl (.tmp 27) (.tmp 30) 24 3 (.int .i64 0) 8 rfl Try.underlying24 info3 rfl (by decide) (by omega) u5 x5_3 (wrap64 (a1 - 1)) [.int .i64 (wrap64 (a1 - 1))] (fun _ => True) (fun _ => False) rfl rfl ?aP (fun _ hk => hk.elim) ?aF ?aO ?aB ?aS ?aL ?_; (case aP => exact rfl); (case aB => exact qz6); (case aF => exact qz57); (case aO => exact (rr_ HO_5.out)); (case aS => exact qz80); (case aL => have := LMc13.out; omega); intro v414 w14 ho hb hg hat; rw [← Ny413.out] at ho; have n0_ := aM (blk_grown (bk_ BK409.out) hg (Kd.R_ne HO_5.out BK409.out (by decide))); have n1_ := aM (hb); have n2_ := aM (ho); clear BK409 HB HO_5; have BK409 := n0_; have HB := n1_; have HO415 := n2_; clear n0_ n1_ n2_; clear ho hb hg hat)); try go_wp2_with (first | ((with_reducible refine gate_builtin (b := .append) (xs := #[.tmp 27, .tmp 30]) rfl ?_); at_builtin; refine Kd.R_append (Kd.int .i64) (w0 := w) w.heap.size rfl (.tmp 27) (.tmp 30) 24 3 (.int .i64 0) 8 rfl Try.underlying24 info3 rfl (by decide) (by omega) u5 x5_3 (wrap64 (a1 - 1)) [.int .i64 (wrap64 (a1 - 1))] (fun _ => True) (fun _ => False) rfl rfl ?aP (fun _ hk => hk.elim) ?aF ?aO ?aB ?aS ?aL ?_; (case aP => exact rfl); (case aB => exact qz6); (case aF => exact qz57); (case aO => exact (rr_ HO_5.out)); (case aS => exact qz80); (case aL => have := LMc13.out; omega); intro v414 w14 ho hb hg hat; rw [← Ny413.out] at ho; have n0_ := aM (blk_grown (bk_ BK409.out) hg (Kd.R_ne HO_5.out BK409.out (by decide))); have n1_ := aM (hb); have n2_ := aM (ho); clear BK409 HB HO_5; have BK409 := n0_; have HB := n1_; have HO415 := n2_; clear n0_ n1_ n2_; clear ho hb hg hat)))
    go_meet
    case rel => exact ⟨_, (y413), H', ⟨by have := HJ3.out; first | omega | exact Nat.le_refl _⟩, ⟨rm_ HO415.out⟩, ⟨bk_ BK409.out⟩, ⟨by repeat (first | (with_reducible first | exact HB.out | apply below_alloc | apply pw_below_drewN | apply below_drew1 | refine below_set ?_ GE409.out) | exact HB.out)⟩⟩
    }
    {
    rw [if_neg c13] at H
    exact absurd H (by simp)
    }
    }
    {
    rw [if_neg c12] at H
    have c12b0 := decide_eq_false c12
    clear c12
    (first | rw [c12b0] | (simp only [i64_w, i32_w]; rw [c12b0]) | rw [@decide_eq_false _ _ (of_decide_eq_false c12b0)] | rw [@decide_eq_false _ _ (of_decide_eq_false c12b1)] | skip)
    have H' := aM H
    clear H
    go_wp2
    repeat (go_quiet (fail); try go_wp2)
    go_meet
    case rel => exact ⟨_, (x5_3), H', ⟨by have := HJ3.out; first | omega | exact Nat.le_refl _⟩, ⟨rm_ HO_5.out⟩, ⟨bk_ BK409.out⟩, ⟨by repeat (first | (with_reducible first | exact HB.out | apply below_alloc | apply pw_below_drewN | apply below_drew1 | refine below_set ?_ GE409.out) | exact HB.out)⟩⟩
    }
   case rest =>
    clear HC11
    try clear c1
    try clear p2
    try clear c3
    try clear c3b0
    try clear c3b1
    try clear p6
    try clear c7
    try clear c7b0
    try clear c7b1
    try clear c8
    try clear c12
    try clear c12b0
    try clear c12b1
    try clear c13
    try clear hcz6_0
    try clear hcz6_1
    try clear hcz6_2
    try clear hcz9_0
    try clear hcz9_1
    try clear hcz9_2
    try clear hfz6_0
    try clear hfz6_1
    try clear hfz6_2
    try clear hfz9_0
    try clear hfz9_1
    try clear hfz9_2
    try clear p2
    try clear p6
    obtain ⟨kq, x5_10, HA, HJ10, HO_5, BK409, HB⟩ := hcut
    cases kq with
    | zero => exact absurd HA.out (by simp [impl_beside.j1])
    | succ kj10 =>
     have H := HA.out
     clear HA
     simp only [impl_beside.j1] at H
     by_cases c15 : (Int.tmod a1 a0_0) < (wrap64 (a0_0 - 1))
     {
     rw [if_pos c15] at H
     have c15b0 := decide_eq_true c15
     clear c15
     by_cases c16 : x5_10.length < 17592186044416
     {
     rw [if_pos c16] at H
     have LMc16 := aM c16
     clear c16
     obtain ⟨y416, hy416⟩ : ∃ y_ : List Int, y_ = (x5_10 ++ [wrap64 (a1 + 1)]) := ⟨_, rfl⟩
     replace H : (if (wrap64 (Int.tdiv a1 a0_0)) < (wrap64 (a0_1 - 1)) then (if y416.length < 17592186044416 then (some (y416 ++ [wrap64 (a1 + a0_0)])) else (none)) else (some y416)) = some r := by first | (rw [hy416]; with_reducible exact H) | (have H2_ := (Option.bind_some _ _).symm.trans H; rw [hy416]; with_reducible exact H2_) | (have H2_ := (Option.bind_some _ _).symm.trans H; with_reducible exact H2_) | with_reducible exact H | (rw [hy416]; exact H) | exact H
     have Ny416 := aM hy416
     clear hy416
     by_cases c17 : (wrap64 (Int.tdiv a1 a0_0)) < (wrap64 (a0_1 - 1))
     {
     rw [if_pos c17] at H
     have c17b0 := decide_eq_true c17
     clear c17
     by_cases c18 : y416.length < 17592186044416
     {
     rw [if_pos c18] at H
     have LMc18 := aM c18
     clear c18
     obtain ⟨y419, hy419⟩ : ∃ y_ : List Int, y_ = (y416 ++ [wrap64 (a1 + a0_0)]) := ⟨_, rfl⟩
     replace H : (some y419) = some r := by first | (rw [hy419]; with_reducible exact H) | (have H2_ := (Option.bind_some _ _).symm.trans H; rw [hy419]; with_reducible exact H2_) | (have H2_ := (Option.bind_some _ _).symm.trans H; with_reducible exact H2_) | with_reducible exact H | (rw [hy419]; exact H) | exact H
     have Ny419 := aM hy419
     clear hy419
     obtain rfl := Option.some.inj H
     simp only [Option.some.injEq, Prod.mk.injEq] at H
     obtain ⟨rfl⟩ := H
     obtain ⟨hcz19_0, hcz19_1, hcz19_2, hfz19_0, hfz19_1, hfz19_2⟩ := b6_ BK409.out
     go_wp2_with (first | ((with_reducible refine gate_builtin (b := .append) (xs := #[.tmp 37, .tmp 40]) rfl ?_); at_builtin; refine Kd.R_append (Kd.int .i64) (w0 := w) w.heap.size rfl (.tmp 37) (.tmp 40) 24 3 (.int .i64 0) 8 rfl Try.underlying24 info3 rfl (by decide) (by omega) u5 x5_10 (wrap64 (a1 + 1)) [.int .i64 (wrap64 (a1 + 1))] (fun _ => True) (fun _ => False) rfl rfl ?aP (fun _ hk => hk.elim) ?aF ?aO ?aB ?aS ?aL ?_; (case aP => exact rfl); (case aB => exact qz6); (case aF => exact qz57); (case aO => exact (rr_ HO_5.out)); (case aS => exact qz80); (case aL => have := LMc16.out; omega); intro v417 w20 ho hb hg hat; rw [← Ny416.out] at ho; have n0_ := aM (blk_grown (bk_ BK409.out) hg (Kd.R_ne HO_5.out BK409.out (by decide))); have n1_ := aM (hb); have n2_ := aM (ho); clear BK409 HB HO_5; have BK409 := n0_; have HB := n1_; have HO418 := n2_; clear n0_ n1_ n2_; clear ho hb hg hat; obtain ⟨hcz21_0, hcz21_1, hcz21_2, hfz21_0, hfz21_1, hfz21_2⟩ := b6_ BK409.out) | ((with_reducible refine gate_builtin (b := .append) (xs := #[.tmp 47, .tmp 52]) rfl ?_); at_builtin; refine Kd.R_append (Kd.int .i64) (w0 := w) w.heap.size rfl (.tmp 47) (.tmp 52) 24 3 (.int .i64 0) 8 rfl Try.underlying24 info3 rfl (by decide) (by omega) v417 y416 (wrap64 (a1 + a0_0)) [.int .i64 (wrap64 (a1 + a0_0))] (fun _ => True) (fun _ => False) rfl rfl ?aP (fun _ hk => hk.elim) ?aF ?aO ?aB ?aS ?aL ?_; (case aP => exact rfl); (case aB => exact qz6); (case aF => exact qz57); (case aO => exact (rr_ HO418.out)); (case aS => exact qz80); (case aL => have := LMc18.out; omega); intro v420 w22 ho hb hg hat; rw [← Ny419.out] at ho; have n0_ := aM (blk_grown (bk_ BK409.out) hg (Kd.R_ne HO418.out BK409.out (by decide))); have n1_ := aM (hb); have n2_ := aM (ho); clear BK409 HB HO418; have BK409 := n0_; have HB := n1_; have HO421 := n2_; clear n0_ n1_ n2_; clear ho hb hg hat))
     repeat (go_quiet (first | ((with_reducible refine gate_builtin (b := .append) (xs := #[.tmp 37, .tmp 40]) rfl ?_); at_builtin; refine Kd.R_append (Kd.int .i64) (w0 := w) w.heap.size rfl (.tmp 37) (.tmp 40) 24 3 (.int .i64 0) 8 rfl Try.underlying24 info3 rfl (by decide) (by omega) u5 x5_10 (wrap64 (a1 + 1)) [.int .i64 (wrap64 (a1 + 1))] (fun _ => True) (fun _ => False) rfl rfl ?aP (fun _ hk => hk.elim) ?aF ?aO ?aB ?aS ?aL ?_; (case aP => exact rfl); (case aB => exact qz6); (case aF => exact qz57); (case aO => exact (rr_ HO_5.out)); (case aS => exact qz80); (case aL => have := LMc16.out; omega); intro v417 w20 ho hb hg hat; rw [← Ny416.out] at ho; have n0_ := aM (blk_grown (bk_ BK409.out) hg (Kd.R_ne HO_5.out BK409.out (by decide))); have n1_ := aM (hb); have n2_ := aM (ho); clear BK409 HB HO_5; have BK409 := n0_; have HB := n1_; have HO418 := n2_; clear n0_ n1_ n2_; clear ho hb hg hat; obtain ⟨hcz21_0, hcz21_1, hcz21_2, hfz21_0, hfz21_1, hfz21_2⟩ := b6_ BK409.out) | ((with_reducible refine gate_builtin (b := .append) (xs := #[.tmp 47, .tmp 52]) rfl ?_); at_builtin; refine Kd.R_append (Kd.int .i64) (w0 := w) w.heap.size rfl (.tmp 47) (.tmp 52) 24 3 (.int .i64 0) 8 rfl Try.underlying24 info3 rfl (by decide) (by omega) v417 y416 (wrap64 (a1 + a0_0)) [.int .i64 (wrap64 (a1 + a0_0))] (fun _ => True) (fun _ => False) rfl rfl ?aP (fun _ hk => hk.elim) ?aF ?aO ?aB ?aS ?aL ?_; (case aP => exact rfl); (case aB => exact qz6); (case aF => exact qz57); (case aO => exact (rr_ HO418.out)); (case aS => exact qz80); (case aL => have := LMc18.out; omega); intro v420 w22 ho hb hg hat; rw [← Ny419.out] at ho; have n0_ := aM (blk_grown (bk_ BK409.out) hg (Kd.R_ne HO418.out BK409.out (by decide))); have n1_ := aM (hb); have n2_ := aM (ho); clear BK409 HB HO418; have BK409 := n0_; have HB := n1_; have HO421 := n2_; clear n0_ n1_ n2_; clear ho hb hg hat)); try go_wp2_with (first | ((with_reducible refine gate_builtin (b := .append) (xs := #[.tmp 37, .tmp 40]) rfl ?_); at_builtin; refine Kd.R_append (Kd.int .i64) (w0 := w) w.heap.size rfl (.tmp 37) (.tmp 40) 24 3 (.int .i64 0) 8 rfl Try.underlying24 info3 rfl (by decide) (by omega) u5 x5_10 (wrap64 (a1 + 1)) [.int .i64 (wrap64 (a1 + 1))] (fun _ => True) (fun _ => False) rfl rfl ?aP (fun _ hk => hk.elim) ?aF ?aO ?aB ?aS ?aL ?_; (case aP => exact rfl); (case aB => exact qz6); (case aF => exact qz57); (case aO => exact (rr_ HO_5.out)); (case aS => exact qz80); (case aL => have := LMc16.out; omega); intro v417 w20 ho hb hg hat; rw [← Ny416.out] at ho; have n0_ := aM (blk_grown (bk_ BK409.out) hg (Kd.R_ne HO_5.out BK409.out (by decide))); have n1_ := aM (hb); have n2_ := aM (ho); clear BK409 HB HO_5; have BK409 := n0_; have HB := n1_; have HO418 := n2_; clear n0_ n1_ n2_; clear ho hb hg hat; obtain ⟨hcz21_0, hcz21_1, hcz21_2, hfz21_0, hfz21_1, hfz21_2⟩ := b6_ BK409.out) | ((with_reducible refine gate_builtin (b := .append) (xs := #[.tmp 47, .tmp 52]) rfl ?_); at_builtin; refine Kd.R_append (Kd.int .i64) (w0 := w) w.heap.size rfl (.tmp 47) (.tmp 52) 24 3 (.int .i64 0) 8 rfl Try.underlying24 info3 rfl (by decide) (by omega) v417 y416 (wrap64 (a1 + a0_0)) [.int .i64 (wrap64 (a1 + a0_0))] (fun _ => True) (fun _ => False) rfl rfl ?aP (fun _ hk => hk.elim) ?aF ?aO ?aB ?aS ?aL ?_; (case aP => exact rfl); (case aB => exact qz6); (case aF => exact qz57); (case aO => exact (rr_ HO418.out)); (case aS => exact qz80); (case aL => have := LMc18.out; omega); intro v420 w22 ho hb hg hat; rw [← Ny419.out] at ho; have n0_ := aM (blk_grown (bk_ BK409.out) hg (Kd.R_ne HO418.out BK409.out (by decide))); have n1_ := aM (hb); have n2_ := aM (ho); clear BK409 HB HO418; have BK409 := n0_; have HB := n1_; have HO421 := n2_; clear n0_ n1_ n2_; clear ho hb hg hat)))
     go_ret
     exact ⟨_, by first | rfl | (simp [errW_none, errW_some] <;> rfl) | (simp [*, errW_none, errW_some] <;> rfl), by (with_reducible repeat (first | apply Kd.R_alloc | apply Kd.R_drewN | apply Kd.R_drew)); exact HO421.out, by repeat (first | (with_reducible first | exact HB.out | apply below_alloc | apply pw_below_drewN | apply below_drew1 | refine below_set ?_ GE409.out) | exact HB.out)⟩
     }
     {
     rw [if_neg c18] at H
     exact absurd H (by simp)
     }
     }
     {
     rw [if_neg c17] at H
     have c17b0 := decide_eq_false c17
     clear c17
     obtain rfl := Option.some.inj H
     simp only [Option.some.injEq, Prod.mk.injEq] at H
     obtain ⟨rfl⟩ := H
     obtain ⟨hcz23_0, hcz23_1, hcz23_2, hfz23_0, hfz23_1, hfz23_2⟩ := b6_ BK409.out
     go_wp2_with (first | ((with_reducible refine gate_builtin (b := .append) (xs := #[.tmp 37, .tmp 40]) rfl ?_); at_builtin; refine Kd.R_append (Kd.int .i64) (w0 := w) w.heap.size rfl (.tmp 37) (.tmp 40) 24 3 (.int .i64 0) 8 rfl Try.underlying24 info3 rfl (by decide) (by omega) u5 x5_10 (wrap64 (a1 + 1)) [.int .i64 (wrap64 (a1 + 1))] (fun _ => True) (fun _ => False) rfl rfl ?aP (fun _ hk => hk.elim) ?aF ?aO ?aB ?aS ?aL ?_; (case aP => exact rfl); (case aB => exact qz6); (case aF => exact qz57); (case aO => exact (rr_ HO_5.out)); (case aS => exact qz80); (case aL => have := LMc16.out; omega); intro v417 w24 ho hb hg hat; rw [← Ny416.out] at ho; have n0_ := aM (blk_grown (bk_ BK409.out) hg (Kd.R_ne HO_5.out BK409.out (by decide))); have n1_ := aM (hb); have n2_ := aM (ho); clear BK409 HB HO_5; have BK409 := n0_; have HB := n1_; have HO418 := n2_; clear n0_ n1_ n2_; clear ho hb hg hat; obtain ⟨hcz25_0, hcz25_1, hcz25_2, hfz25_0, hfz25_1, hfz25_2⟩ := b6_ BK409.out))
     repeat (go_quiet (first | ((with_reducible refine gate_builtin (b := .append) (xs := #[.tmp 37, .tmp 40]) rfl ?_); at_builtin; refine Kd.R_append (Kd.int .i64) (w0 := w) w.heap.size rfl (.tmp 37) (.tmp 40) 24 3 (.int .i64 0) 8 rfl Try.underlying24 info3 rfl (by decide) (by omega) u5 x5_10 (wrap64 (a1 + 1)) [.int .i64 (wrap64 (a1 + 1))] (fun _ => True) (fun _ => False) rfl rfl ?aP (fun _ hk => hk.elim) ?aF ?aO ?aB ?aS ?aL ?_; (case aP => exact rfl); (case aB => exact qz6); (case aF => exact qz57); (case aO => exact (rr_ HO_5.out)); (case aS => exact qz80); (case aL => have := LMc16.out; omega); intro v417 w24 ho hb hg hat; rw [← Ny416.out] at ho; have n0_ := aM (blk_grown (bk_ BK409.out) hg (Kd.R_ne HO_5.out BK409.out (by decide))); have n1_ := aM (hb); have n2_ := aM (ho); clear BK409 HB HO_5; have BK409 := n0_; have HB := n1_; have HO418 := n2_; clear n0_ n1_ n2_; clear ho hb hg hat; obtain ⟨hcz25_0, hcz25_1, hcz25_2, hfz25_0, hfz25_1, hfz25_2⟩ := b6_ BK409.out)); try go_wp2_with (first | ((with_reducible refine gate_builtin (b := .append) (xs := #[.tmp 37, .tmp 40]) rfl ?_); at_builtin; refine Kd.R_append (Kd.int .i64) (w0 := w) w.heap.size rfl (.tmp 37) (.tmp 40) 24 3 (.int .i64 0) 8 rfl Try.underlying24 info3 rfl (by decide) (by omega) u5 x5_10 (wrap64 (a1 + 1)) [.int .i64 (wrap64 (a1 + 1))] (fun _ => True) (fun _ => False) rfl rfl ?aP (fun _ hk => hk.elim) ?aF ?aO ?aB ?aS ?aL ?_; (case aP => exact rfl); (case aB => exact qz6); (case aF => exact qz57); (case aO => exact (rr_ HO_5.out)); (case aS => exact qz80); (case aL => have := LMc16.out; omega); intro v417 w24 ho hb hg hat; rw [← Ny416.out] at ho; have n0_ := aM (blk_grown (bk_ BK409.out) hg (Kd.R_ne HO_5.out BK409.out (by decide))); have n1_ := aM (hb); have n2_ := aM (ho); clear BK409 HB HO_5; have BK409 := n0_; have HB := n1_; have HO418 := n2_; clear n0_ n1_ n2_; clear ho hb hg hat; obtain ⟨hcz25_0, hcz25_1, hcz25_2, hfz25_0, hfz25_1, hfz25_2⟩ := b6_ BK409.out)))
     go_ret
     exact ⟨_, by first | rfl | (simp [errW_none, errW_some] <;> rfl) | (simp [*, errW_none, errW_some] <;> rfl), by (with_reducible repeat (first | apply Kd.R_alloc | apply Kd.R_drewN | apply Kd.R_drew)); exact HO418.out, by repeat (first | (with_reducible first | exact HB.out | apply below_alloc | apply pw_below_drewN | apply below_drew1 | refine below_set ?_ GE409.out) | exact HB.out)⟩
     }
     }
     {
     rw [if_neg c16] at H
     exact absurd H (by simp)
     }
     }
     {
     rw [if_neg c15] at H
     have c15b0 := decide_eq_false c15
     clear c15
     by_cases c26 : (wrap64 (Int.tdiv a1 a0_0)) < (wrap64 (a0_1 - 1))
     {
     rw [if_pos c26] at H
     have c26b0 := decide_eq_true c26
     clear c26
     by_cases c27 : x5_10.length < 17592186044416
     {
     rw [if_pos c27] at H
     have LMc27 := aM c27
     clear c27
     obtain ⟨y422, hy422⟩ : ∃ y_ : List Int, y_ = (x5_10 ++ [wrap64 (a1 + a0_0)]) := ⟨_, rfl⟩
     replace H : (some y422) = some r := by first | (rw [hy422]; with_reducible exact H) | (have H2_ := (Option.bind_some _ _).symm.trans H; rw [hy422]; with_reducible exact H2_) | (have H2_ := (Option.bind_some _ _).symm.trans H; with_reducible exact H2_) | with_reducible exact H | (rw [hy422]; exact H) | exact H
     have Ny422 := aM hy422
     clear hy422
     obtain rfl := Option.some.inj H
     simp only [Option.some.injEq, Prod.mk.injEq] at H
     obtain ⟨rfl⟩ := H
     obtain ⟨hcz28_0, hcz28_1, hcz28_2, hfz28_0, hfz28_1, hfz28_2⟩ := b6_ BK409.out
     go_wp2_with (first | ((with_reducible refine gate_builtin (b := .append) (xs := #[.tmp 47, .tmp 52]) rfl ?_); at_builtin; refine Kd.R_append (Kd.int .i64) (w0 := w) w.heap.size rfl (.tmp 47) (.tmp 52) 24 3 (.int .i64 0) 8 rfl Try.underlying24 info3 rfl (by decide) (by omega) u5 x5_10 (wrap64 (a1 + a0_0)) [.int .i64 (wrap64 (a1 + a0_0))] (fun _ => True) (fun _ => False) rfl rfl ?aP (fun _ hk => hk.elim) ?aF ?aO ?aB ?aS ?aL ?_; (case aP => exact rfl); (case aB => exact qz6); (case aF => exact qz57); (case aO => exact (rr_ HO_5.out)); (case aS => exact qz80); (case aL => have := LMc27.out; omega); intro v423 w29 ho hb hg hat; rw [← Ny422.out] at ho; have n0_ := aM (blk_grown (bk_ BK409.out) hg (Kd.R_ne HO_5.out BK409.out (by decide))); have n1_ := aM (hb); have n2_ := aM (ho); clear BK409 HB HO_5; have BK409 := n0_; have HB := n1_; have HO424 := n2_; clear n0_ n1_ n2_; clear ho hb hg hat))
     repeat (go_quiet (first | ((with_reducible refine gate_builtin (b := .append) (xs := #[.tmp 47, .tmp 52]) rfl ?_); at_builtin; refine Kd.R_append (Kd.int .i64) (w0 := w) w.heap.size rfl (.tmp 47) (.tmp 52) 24 3 (.int .i64 0) 8 rfl Try.underlying24 info3 rfl (by decide) (by omega) u5 x5_10 (wrap64 (a1 + a0_0)) [.int .i64 (wrap64 (a1 + a0_0))] (fun _ => True) (fun _ => False) rfl rfl ?aP (fun _ hk => hk.elim) ?aF ?aO ?aB ?aS ?aL ?_; (case aP => exact rfl); (case aB => exact qz6); (case aF => exact qz57); (case aO => exact (rr_ HO_5.out)); (case aS => exact qz80); (case aL => have := LMc27.out; omega); intro v423 w29 ho hb hg hat; rw [← Ny422.out] at ho; have n0_ := aM (blk_grown (bk_ BK409.out) hg (Kd.R_ne HO_5.out BK409.out (by decide))); have n1_ := aM (hb); have n2_ := aM (ho); clear BK409 HB HO_5; have BK409 := n0_; have HB := n1_; have HO424 := n2_; clear n0_ n1_ n2_; clear ho hb hg hat)); try go_wp2_with (first | ((with_reducible refine gate_builtin (b := .append) (xs := #[.tmp 47, .tmp 52]) rfl ?_); at_builtin; refine Kd.R_append (Kd.int .i64) (w0 := w) w.heap.size rfl (.tmp 47) (.tmp 52) 24 3 (.int .i64 0) 8 rfl Try.underlying24 info3 rfl (by decide) (by omega) u5 x5_10 (wrap64 (a1 + a0_0)) [.int .i64 (wrap64 (a1 + a0_0))] (fun _ => True) (fun _ => False) rfl rfl ?aP (fun _ hk => hk.elim) ?aF ?aO ?aB ?aS ?aL ?_; (case aP => exact rfl); (case aB => exact qz6); (case aF => exact qz57); (case aO => exact (rr_ HO_5.out)); (case aS => exact qz80); (case aL => have := LMc27.out; omega); intro v423 w29 ho hb hg hat; rw [← Ny422.out] at ho; have n0_ := aM (blk_grown (bk_ BK409.out) hg (Kd.R_ne HO_5.out BK409.out (by decide))); have n1_ := aM (hb); have n2_ := aM (ho); clear BK409 HB HO_5; have BK409 := n0_; have HB := n1_; have HO424 := n2_; clear n0_ n1_ n2_; clear ho hb hg hat)))
     go_ret
     exact ⟨_, by first | rfl | (simp [errW_none, errW_some] <;> rfl) | (simp [*, errW_none, errW_some] <;> rfl), by (with_reducible repeat (first | apply Kd.R_alloc | apply Kd.R_drewN | apply Kd.R_drew)); exact HO424.out, by repeat (first | (with_reducible first | exact HB.out | apply below_alloc | apply pw_below_drewN | apply below_drew1 | refine below_set ?_ GE409.out) | exact HB.out)⟩
     }
     {
     rw [if_neg c27] at H
     exact absurd H (by simp)
     }
     }
     {
     rw [if_neg c26] at H
     have c26b0 := decide_eq_false c26
     clear c26
     obtain rfl := Option.some.inj H
     simp only [Option.some.injEq, Prod.mk.injEq] at H
     obtain ⟨rfl⟩ := H
     obtain ⟨hcz30_0, hcz30_1, hcz30_2, hfz30_0, hfz30_1, hfz30_2⟩ := b6_ BK409.out
     go_wp2
     repeat (go_quiet (fail); try go_wp2)
     go_ret
     exact ⟨_, by first | rfl | (simp [errW_none, errW_some] <;> rfl) | (simp [*, errW_none, errW_some] <;> rfl), by (with_reducible repeat (first | apply Kd.R_alloc | apply Kd.R_drewN | apply Kd.R_drew)); exact HO_5.out, by repeat (first | (with_reducible first | exact HB.out | apply below_alloc | apply pw_below_drewN | apply below_drew1 | refine below_set ?_ GE409.out) | exact HB.out)⟩

     }
     }
 }
end Go.Proofs.Ytbebfhlejnidkaa.PFnSound
