-- Made by a program of this session out of the translation. Lean checks it.
import Derived.Test.YteajnkondkfmgaaPFnHeldx0
import Derived.Test.YteajnkondkfmgaaPFnHeldx6
namespace Go.Proofs.Yteajnkondkfmgaa.PFnHeld
open Go.RowKit Go.Proofs.YteajnkondkfmgaaW.PrintWords Go.Proofs.YteajnkondkfmgaaW.PrintLast Go.Proofs.YteajnkondkfmgaaW.PrintMore
attribute [local go_sem] max2_int min2_int max_two min_two max_three min_three max_four min_four   -- for this text's walks alone
set_option linter.unusedVariables false
set_option linter.unusedSimpArgs false

/-! ### impl_podOk: function 66 -/
mutual
def impl_podOk.j0 : Nat → Bool → Int → Int → List (S72) → Option (Bool)
 | 0, _, _, _, _ => none
 | k + 1, x20, x271000, x271001, x271002 => if x20 = true then (some false) else (impl_podOk.l0 k x271002 (x271002.length : Int) 0 x271000 x271001 x271002)
def impl_podOk.l0 : Nat → List (S72) → Int → Int → Int → Int → List (S72) → Option (Bool)
 | 0, _, _, _, _, _, _ => none
 | k + 1, x22, x23, x24, x271000, x271001, x271002 => if x24 < x23 then (if 0 ≤ x24 then (if x24 < (x22.length : Int) then ((impl_in.f ((rd_T72 x22 x24).f0) 1 50).bind fun t275 => (if t275 = true then ((impl_in.f ((rd_T72 x22 x24).f1) 1 1000).bind fun t276 => (if t276 = true then ((impl_in.f ((rd_T72 x22 x24).f2) 0 ((rd_T72 x22 x24).f1)).bind fun t277 => (if t277 = true then (if x24 > 0 then (if 0 ≤ (wrap64 (x24 - 1)) then (if (wrap64 (x24 - 1)) < (x271002.length : Int) then (if ((rd_T72 x271002 (wrap64 (x24 - 1))).f0) ≥ ((rd_T72 x22 x24).f0) then (some false) else (impl_podOk.l0 k x22 x23 (wrap64 (x24 + 1)) x271000 x271001 x271002)) else (none)) else (none)) else (impl_podOk.l0 k x22 x23 (wrap64 (x24 + 1)) x271000 x271001 x271002)) else (some false))) else (some false))) else (some false))) else (none)) else (none)) else (some true)
end
def impl_podOk.f (k : Nat) (a0_0 : Int) (a0_1 : Int) (l0_2 : List (S72)) : Option (Bool) := (impl_in.f a0_0 1 999).bind fun t271 => (if t271 = true then ((impl_in.f a0_1 0 99).bind fun t272 => (if t272 = true then (impl_podOk.j0 k (decide ((l0_2.length : Int) > 8)) a0_0 a0_1 l0_2) else (impl_podOk.j0 k true a0_0 a0_1 l0_2))) else (impl_podOk.j0 k true a0_0 a0_1 l0_2))
theorem impl_podOk.mono_l : ∀ k, (∀ y0 y1 y2 y3, LeO (impl_podOk.j0 k y0 y1 y2 y3) (impl_podOk.j0 (k + 1) y0 y1 y2 y3)) ∧ (∀ y0 y1 y2 y3 y4 y5, LeO (impl_podOk.l0 k y0 y1 y2 y3 y4 y5) (impl_podOk.l0 (k + 1) y0 y1 y2 y3 y4 y5))
 | 0 => ⟨fun _ _ _ _ r h => by simp [impl_podOk.j0] at h, fun _ _ _ _ _ _ r h => by simp [impl_podOk.l0] at h⟩
 | k + 1 => by
  obtain ⟨ih0, ih1⟩ := impl_podOk.mono_l k
  refine ⟨?_, ?_⟩
  {
  intro y0 y1 y2 y3
  unfold impl_podOk.j0
  repeat' first
  | (with_reducible first | exact ih0 _ _ _ _ | exact ih1 _ _ _ _ _ _ | exact LeO.refl _ | exact LeO.none _ | refine LeO.ite ?_ ?_ | refine LeO.bind ?_ (fun _ => ?_))
  | exact ih0 _ _ _ _
  | exact ih1 _ _ _ _ _ _
  | exact LeO.none _
  | refine LeO.ite ?_ ?_
  | refine LeO.bind ?_ (fun _ => ?_)
  }
  {
  intro y0 y1 y2 y3 y4 y5
  unfold impl_podOk.l0
  repeat' first
  | (with_reducible first | exact ih0 _ _ _ _ | exact ih1 _ _ _ _ _ _ | exact LeO.refl _ | exact LeO.none _ | refine LeO.ite ?_ ?_ | refine LeO.bind ?_ (fun _ => ?_))
  | exact ih0 _ _ _ _
  | exact ih1 _ _ _ _ _ _
  | exact LeO.none _
  | refine LeO.ite ?_ ?_
  | refine LeO.bind ?_ (fun _ => ?_)
  }
theorem impl_podOk.mono : ∀ a0 a1 a2 k, LeO (impl_podOk.f k a0 a1 a2) (impl_podOk.f (k + 1) a0 a1 a2) := by
 intro a0 a1 a2 k
 obtain ⟨ih0, ih1⟩ := impl_podOk.mono_l k
 unfold impl_podOk.f
 repeat' first
  | (with_reducible first | exact ih0 _ _ _ _ | exact ih1 _ _ _ _ _ _ | exact LeO.refl _ | exact LeO.none _ | refine LeO.ite ?_ ?_ | refine LeO.bind ?_ (fun _ => ?_))
  | exact ih0 _ _ _ _
  | exact ih1 _ _ _ _ _ _
  | exact LeO.none _
  | refine LeO.ite ?_ ?_
  | refine LeO.bind ?_ (fun _ => ?_)
def impl_podOk.T6 : Bool × List (List Nat × List Nat) := (true, [([], []), ([0], [0]), ([1], [1]), ([2], [2]), ([3, 2], [3]), ([4], [4]), ([5, 4], [4, 5]), ([6, 4, 4], [4, 6]), ([7, 4], [4, 7]), ([4, 8], [4, 8]), ([9, 7], [9]), ([10], [10]), ([11, 10], [10, 11]), ([10], [10]), ([13, 10], [10, 13]), ([12, 14, 10, 10], [10, 12, 14]), ([15, 10], [10, 15]), ([10, 16], [10, 16]), ([17, 15], [17]), ([18], [18]), ([19, 18], [18, 19]), ([20, 18, 18], [18, 20]), ([21], [21]), ([22, 21], [21, 22]), ([21], [21]), ([24, 21], [21, 24]), ([23, 25, 21], [21, 23, 25]), ([26, 21], [21, 26]), ([27, 21], [21, 27]), ([21], [21]), ([29, 21], [21, 29]), ([28, 30, 21], [21, 28, 30]), ([21, 31, 18], [18, 21, 31]), ([18, 32], [18, 32])])
def impl_podOk.B6 : List Nat := [0, 1, 3, 7, 15, 31, 63, 127, 255, 511, 1023, 2047, 4095, 2047, 10239, 32767, 65535, 131071, 262143, 524287, 1048575, 2097151, 4194303, 8388607, 4194303, 20971519, 67108863, 134217727, 268435455, 4194303, 541065215, 2147483647, 4294967295, 8589934591]
theorem impl_podOk.tab6 : rtab .any (opsOf Try.f66 6) = impl_podOk.T6 := by kernel_rfl
theorem impl_podOk.bits6 : waitsOk impl_podOk.T6.2 impl_podOk.B6 = true := by kernel_rfl
set_option maxHeartbeats 8000000 in
set_option maxRecDepth 100000 in
theorem impl_podOk.calls (k : Nat) (a0_0 : Int) (a0_1 : Int) (A0_2 : Option Addr) (c0_2 : Nat) (l0_2 : List (S72)) (r : Bool) (w : World) (hr0_2 : Kd.C k72 w A0_2 l0_2.length l0_2) (hc0_2 : l0_2.length ≤ c0_2) (h : impl_podOk.f k a0_0 a0_1 l0_2 = some r) :
  Calls Try.prog 66 #[.agg #[.int .i64 a0_0, .int .i64 a0_1, .slice A0_2 l0_2.length c0_2]] w fun e w' => e = .returned (.bool r) ∧ Below w.heap.size w w' := by
 have hu79 := Try.underlying79
 have hu72 := Try.underlying72
 have HR0_2 := aM hr0_2
 have HC0_2 := aM hc0_2
 clear hr0_2 hc0_2
 have HB := aM (Below.refl w.heap.size w)
 have H : ((impl_in.f a0_0 1 999).bind fun t271 => (if t271 = true then ((impl_in.f a0_1 0 99).bind fun t272 => (if t272 = true then (impl_podOk.j0 k (decide ((l0_2.length : Int) > 8)) a0_0 a0_1 l0_2) else (impl_podOk.j0 k true a0_0 a0_1 l0_2))) else (impl_podOk.j0 k true a0_0 a0_1 l0_2))) = some r := h
 clear h
 have HC2 := aM H
 clear H
 go_enter Try.func66, Try.ntmps66
 go_upto_region 1 with (first | ((with_reducible refine gate_dst (N := 1) rfl ?_); (try (refine gate_guard (by rfl) ?_; dsimp only)); refine bx_ 1 #[.int .i64 a0_0, .int .i64 a0_1, .slice A0_2 l0_2.length c0_2] 79 ?_; intro gb270 hg w3 hbox hb; have n0_ := aM (below_step qz2 hb); have n1_ := aM (hbox); have n2_ := aM ((by rw [hg]; exact (below_size qz2) : w.heap.size ≤ gb270)); have n3_ := aM ((by rw [hg]; exact (below_size qz2) : w.heap.size ≤ gb270)); clear HB; have HB := n0_; have BK270 := n1_; have GW270 := n2_; have GE270 := n3_; clear n0_ n1_ n2_ n3_; clear hb hbox hg))
 (try simp only [Act.put, List.setIfInBounds_toArray, List.set_cons_zero, List.set_cons_succ])
 go_cut [20] (fun v20 wc => ∃ (kq : Nat) (x20_1 : Bool), v20 = .bool x20_1 ∧ Aside0 (impl_podOk.j0 kq x20_1 a0_0 a0_1 l0_2 = some r) ∧ Aside0 (kq ≤ k) ∧ Aside0 (wc.heap[gb270]? = some (.cells #[.int .i64 a0_0, .int .i64 a0_1, (.slice A0_2 l0_2.length c0_2)] 79 (0, 0))) ∧ Aside0 (Below w.heap.size w wc))
 case first =>
  have H := HC2.out
  clear HC2
  replace H := Option.bind_eq_some_iff.mp H
  obtain ⟨t271, A40, H⟩ := H
  replace H : (if t271 = true then ((impl_in.f a0_1 0 99).bind fun t272 => (if t272 = true then (impl_podOk.j0 k (decide ((l0_2.length : Int) > 8)) a0_0 a0_1 l0_2) else (impl_podOk.j0 k true a0_0 a0_1 l0_2))) else (impl_podOk.j0 k true a0_0 a0_1 l0_2)) = some r := H
  have A4 := aM A40
  clear A40
  by_cases c5 : t271 = true
  {
  subst c5
  rw [if_pos rfl] at H
  replace H := Option.bind_eq_some_iff.mp H
  obtain ⟨t272, A60, H⟩ := H
  replace H : (if t272 = true then (impl_podOk.j0 k (decide ((l0_2.length : Int) > 8)) a0_0 a0_1 l0_2) else (impl_podOk.j0 k true a0_0 a0_1 l0_2)) = some r := H
  have A6 := aM A60
  clear A60
  by_cases c7 : t272 = true
  {
  subst c7
  rw [if_pos rfl] at H
  have H' := aM H
  clear H
  obtain ⟨hcz8_0, hcz8_1, hcz8_2, hfz8_0, hfz8_1, hfz8_2⟩ := b6_ BK270.out
  go_wp2_with (first | ((with_reducible refine gate_callee (f := 64) rfl ?_); refine goesL_ (some 7) rfl rfl Try.func64 (by kernel_rfl) rfl #[.int .i64 a0_0, .int .i64 1, .int .i64 999] rfl qz1 ?_; (with_reducible refine (impl_in.calls a0_0 1 999 true _ A4.out).mono ?_); rintro e w' ⟨rfl, ⟨nd, rfl⟩⟩; refine ⟨_, rfl, ?_⟩) | (go_at_call 64; (with_reducible refine (impl_in.calls a0_1 0 99 true _ A6.out).mono ?_); rintro e w' ⟨rfl, ⟨nd, rfl⟩⟩))
  go_meet
  case rel => exact ⟨_, (decide ((l0_2.length : Int) > 8)), qz13, H', ⟨by first | omega | exact Nat.le_refl _⟩, ⟨bk_ BK270.out⟩, ⟨by repeat (first | (with_reducible first | exact HB.out | apply below_alloc | apply pw_below_drewN | apply below_drew1 | refine below_set ?_ GE270.out) | exact HB.out)⟩⟩
  }
  {
  replace c7 := Bool.eq_false_iff.mpr c7
  subst c7
  rw [if_neg (show ¬ (false = true) by decide)] at H
  have H' := aM H
  clear H
  obtain ⟨hcz9_0, hcz9_1, hcz9_2, hfz9_0, hfz9_1, hfz9_2⟩ := b6_ BK270.out
  go_wp2_with (first | ((with_reducible refine gate_callee (f := 64) rfl ?_); refine goesL_ (some 7) rfl rfl Try.func64 (by kernel_rfl) rfl #[.int .i64 a0_0, .int .i64 1, .int .i64 999] rfl qz1 ?_; (with_reducible refine (impl_in.calls a0_0 1 999 true _ A4.out).mono ?_); rintro e w' ⟨rfl, ⟨nd, rfl⟩⟩; refine ⟨_, rfl, ?_⟩) | (go_at_call 64; (with_reducible refine (impl_in.calls a0_1 0 99 false _ A6.out).mono ?_); rintro e w' ⟨rfl, ⟨nd, rfl⟩⟩))
  go_meet
  case rel => exact ⟨_, (true), qz13, H', ⟨by first | omega | exact Nat.le_refl _⟩, ⟨bk_ BK270.out⟩, ⟨by repeat (first | (with_reducible first | exact HB.out | apply below_alloc | apply pw_below_drewN | apply below_drew1 | refine below_set ?_ GE270.out) | exact HB.out)⟩⟩
  }
  }
  {
  replace c5 := Bool.eq_false_iff.mpr c5
  subst c5
  rw [if_neg (show ¬ (false = true) by decide)] at H
  have H' := aM H
  clear H
  obtain ⟨hcz10_0, hcz10_1, hcz10_2, hfz10_0, hfz10_1, hfz10_2⟩ := b6_ BK270.out
  go_wp2_with (first | ((with_reducible refine gate_callee (f := 64) rfl ?_); refine goesL_ (some 7) rfl rfl Try.func64 (by kernel_rfl) rfl #[.int .i64 a0_0, .int .i64 1, .int .i64 999] rfl qz1 ?_; (with_reducible refine (impl_in.calls a0_0 1 999 false _ A4.out).mono ?_); rintro e w' ⟨rfl, ⟨nd, rfl⟩⟩; refine ⟨_, rfl, ?_⟩))
  go_meet
  case rel => exact ⟨_, (true), qz13, H', ⟨by first | omega | exact Nat.le_refl _⟩, ⟨bk_ BK270.out⟩, ⟨by repeat (first | (with_reducible first | exact HB.out | apply below_alloc | apply pw_below_drewN | apply below_drew1 | refine below_set ?_ GE270.out) | exact HB.out)⟩⟩
  }
 case rest =>
  clear HC2
  try clear p2
  try clear c5
  try clear c6
  try clear c7
  try clear hcz10_0
  try clear hcz10_1
  try clear hcz10_2
  try clear hcz8_0
  try clear hcz8_1
  try clear hcz8_2
  try clear hcz9_0
  try clear hcz9_1
  try clear hcz9_2
  try clear hfz10_0
  try clear hfz10_1
  try clear hfz10_2
  try clear hfz8_0
  try clear hfz8_1
  try clear hfz8_2
  try clear hfz9_0
  try clear hfz9_1
  try clear hfz9_2
  obtain ⟨kq, x20_1, rfl, HA, HJ1, BK270, HB⟩ := hcut
  cases kq with
  | zero => exact absurd HA.out (by simp [impl_podOk.j0])
  | succ kj1 =>
   have H := HA.out
   clear HA
   simp only [impl_podOk.j0] at H
   by_cases c11 : x20_1 = true
   {
   subst c11
   rw [if_pos rfl] at H
   obtain rfl := Option.some.inj H
   simp only [Option.some.injEq, Prod.mk.injEq] at H
   obtain ⟨rfl⟩ := H
   go_wp2
   go_ret
   exact ⟨by first | rfl | (simp [errW_none, errW_some] <;> rfl) | (simp [*, errW_none, errW_some] <;> rfl), by repeat (first | (with_reducible first | exact HB.out | apply below_alloc | apply pw_below_drewN | apply below_drew1 | refine below_set ?_ GE270.out) | exact HB.out)⟩
   }
   {
   replace c11 := Bool.eq_false_iff.mpr c11
   subst c11
   rw [if_neg (show ¬ (false = true) by decide)] at H
   have H' := aM H
   clear H
   obtain ⟨hcz12_0, hcz12_1, hcz12_2, hfz12_0, hfz12_1, hfz12_2⟩ := b6_ BK270.out
   go_wp2
   go_loopg [24] kj1 (fun kq v24 w' => ∃ (x24_2 : Int), v24 = .int .i64 x24_2 ∧ Aside0 (impl_podOk.l0 kq l0_2 (l0_2.length : Int) x24_2 a0_0 a0_1 l0_2 = some r) ∧ Aside0 (kq ≤ kj1) ∧ Aside0 (w'.heap[gb270]? = some (.cells #[.int .i64 a0_0, .int .i64 a0_1, (.slice A0_2 l0_2.length c0_2)] 79 (0, 0))) ∧ Aside0 (Below w.heap.size w w'))
   case atStart => exact ⟨(0), qz13, H', ⟨Nat.le_refl _⟩, ⟨bk_ BK270.out⟩, ⟨by repeat (first | (with_reducible first | exact HB.out | apply below_alloc | apply pw_below_drewN | apply below_drew1 | refine below_set ?_ GE270.out) | exact HB.out)⟩⟩
   case round =>
    clear H'
    try clear c1
    try clear p2
    try clear c5
    try clear c6
    try clear c7
    try clear c11
    try clear hcz10_0
    try clear hcz10_1
    try clear hcz10_2
    try clear hcz12_0
    try clear hcz12_1
    try clear hcz12_2
    try clear hcz8_0
    try clear hcz8_1
    try clear hcz8_2
    try clear hcz9_0
    try clear hcz9_1
    try clear hcz9_2
    try clear hfz10_0
    try clear hfz10_1
    try clear hfz10_2
    try clear hfz12_0
    try clear hfz12_1
    try clear hfz12_2
    try clear hfz8_0
    try clear hfz8_1
    try clear hfz8_2
    try clear hfz9_0
    try clear hfz9_1
    try clear hfz9_2
    try clear p2
    obtain ⟨x24_2, rfl, HA, HK2, BK270, HB⟩ := hrel
    cases gk with
    | zero => exact absurd HA.out (by simp [impl_podOk.l0])
    | succ k2 =>
     have H := HA.out
     clear HA
     simp only [impl_podOk.l0] at H
     by_cases c13 : x24_2 < (l0_2.length : Int)
     {
     rw [if_pos c13] at H
     have c13b0 := decide_eq_true c13
     clear c13
     by_cases c14 : 0 ≤ x24_2
     {
     rw [if_pos c14] at H
     have c14b0 := decide_eq_true c14
     clear c14
     by_cases c15 : x24_2 < (l0_2.length : Int)
     {
     rw [if_pos c15] at H
     have c15b0 := decide_eq_true c15
     clear c15
     replace H := Option.bind_eq_some_iff.mp H
     obtain ⟨t275, A160, H⟩ := H
     replace H : (if t275 = true then ((impl_in.f ((rd_T72 l0_2 x24_2).f1) 1 1000).bind fun t276 => (if t276 = true then ((impl_in.f ((rd_T72 l0_2 x24_2).f2) 0 ((rd_T72 l0_2 x24_2).f1)).bind fun t277 => (if t277 = true then (if x24_2 > 0 then (if 0 ≤ (wrap64 (x24_2 - 1)) then (if (wrap64 (x24_2 - 1)) < (l0_2.length : Int) then (if ((rd_T72 l0_2 (wrap64 (x24_2 - 1))).f0) ≥ ((rd_T72 l0_2 x24_2).f0) then (some false) else (impl_podOk.l0 k2 l0_2 (l0_2.length : Int) (wrap64 (x24_2 + 1)) a0_0 a0_1 l0_2)) else (none)) else (none)) else (impl_podOk.l0 k2 l0_2 (l0_2.length : Int) (wrap64 (x24_2 + 1)) a0_0 a0_1 l0_2)) else (some false))) else (some false))) else (some false)) = some r := H
     have A16 := aM A160
     clear A160
     by_cases c17 : t275 = true
     {
     subst c17
     rw [if_pos rfl] at H
     replace H := Option.bind_eq_some_iff.mp H
     obtain ⟨t276, A180, H⟩ := H
     replace H : (if t276 = true then ((impl_in.f ((rd_T72 l0_2 x24_2).f2) 0 ((rd_T72 l0_2 x24_2).f1)).bind fun t277 => (if t277 = true then (if x24_2 > 0 then (if 0 ≤ (wrap64 (x24_2 - 1)) then (if (wrap64 (x24_2 - 1)) < (l0_2.length : Int) then (if ((rd_T72 l0_2 (wrap64 (x24_2 - 1))).f0) ≥ ((rd_T72 l0_2 x24_2).f0) then (some false) else (impl_podOk.l0 k2 l0_2 (l0_2.length : Int) (wrap64 (x24_2 + 1)) a0_0 a0_1 l0_2)) else (none)) else (none)) else (impl_podOk.l0 k2 l0_2 (l0_2.length : Int) (wrap64 (x24_2 + 1)) a0_0 a0_1 l0_2)) else (some false))) else (some false)) = some r := H
     have A18 := aM A180
     clear A180
     by_cases c19 : t276 = true
     {
     subst c19
     rw [if_pos rfl] at H
     replace H := Option.bind_eq_some_iff.mp H
     obtain ⟨t277, A200, H⟩ := H
     replace H : (if t277 = true then (if x24_2 > 0 then (if 0 ≤ (wrap64 (x24_2 - 1)) then (if (wrap64 (x24_2 - 1)) < (l0_2.length : Int) then (if ((rd_T72 l0_2 (wrap64 (x24_2 - 1))).f0) ≥ ((rd_T72 l0_2 x24_2).f0) then (some false) else (impl_podOk.l0 k2 l0_2 (l0_2.length : Int) (wrap64 (x24_2 + 1)) a0_0 a0_1 l0_2)) else (none)) else (none)) else (impl_podOk.l0 k2 l0_2 (l0_2.length : Int) (wrap64 (x24_2 + 1)) a0_0 a0_1 l0_2)) else (some false)) = some r := H
     have A20 := aM A200
     clear A200
     by_cases c21 : t277 = true
     {
     subst c21
     rw [if_pos rfl] at H
     by_cases c22 : x24_2 > 0
     {
     rw [if_pos c22] at H
     have c22b0 := decide_eq_true c22
     clear c22
     obtain ⟨ji23, hji23⟩ : ∃ j_ : Int, (wrap64 (x24_2 - 1)) = j_ := ⟨_, rfl⟩
     replace H : (if 0 ≤ (ji23) then (if (ji23) < (l0_2.length : Int) then (if ((rd_T72 l0_2 (ji23)).f0) ≥ ((rd_T72 l0_2 x24_2).f0) then (some false) else (impl_podOk.l0 k2 l0_2 (l0_2.length : Int) (wrap64 (x24_2 + 1)) a0_0 a0_1 l0_2)) else (none)) else (none)) = some r := by first | (rw [hji23] at H; exact H) | (simp only [hji23] at H ⊢; exact H)
     (try rw [hji23] at A16)
     (try rw [hji23] at A18)
     (try rw [hji23] at A20)
     have hji23w : (IntKind.i64.wrap (x24_2 - 1)) = ji23 := (i64_w _).trans hji23
     by_cases c24 : 0 ≤ (ji23)
     {
     rw [if_pos c24] at H
     have c24b0 := decide_eq_true c24
     clear c24
     by_cases c25 : (ji23) < (l0_2.length : Int)
     {
     rw [if_pos c25] at H
     have c25b0 := decide_eq_true c25
     clear c25
     by_cases c26 : ((rd_T72 l0_2 (ji23)).f0) ≥ ((rd_T72 l0_2 x24_2).f0)
     {
     rw [if_pos c26] at H
     have c26b0 := decide_eq_true c26
     clear c26
     obtain rfl := Option.some.inj H
     simp only [Option.some.injEq, Prod.mk.injEq] at H
     obtain ⟨rfl⟩ := H
     have p273 : 0 ≤ (x24_2 : Int) := of_decide_eq_true qz4
     have q273 : x24_2 < (l0_2.length : Int) := of_decide_eq_true qz4
     obtain ⟨ad273, e273, hx273_0, hx273_1, hx273_2⟩ := at_T72 HR0_2.out x24_2 p273 q273
     cases e273
     replace hx273_0 := pw_cell_below HB.out hx273_0
     replace hx273_1 := pw_cell_below HB.out hx273_1
     replace hx273_2 := pw_cell_below HB.out hx273_2
     replace p273 := eq_true p273
     replace q273 := eq_true q273
     try go_wp2_with (first | ((with_reducible refine gate_dst (N := 4) rfl ?_); (try (refine gate_guard (by rfl) ?_; dsimp only)); refine bx_ 4 #[.int .i64 0, .int .i64 0, .int .i64 0] 72 ?_; intro gb274 hg w27 hbox hb; have n0_ := aM (blk_below (bk_ BK270.out) hb); have n1_ := aM (below_step qz19 hb); have n2_ := aM (hbox); have n3_ := aM ((by rw [hg]; exact (below_size qz19) : w.heap.size ≤ gb274)); have n4_ := aM ((by rw [hg]; exact (below_size qz19) : w.heap.size ≤ gb274)); have n5_ := aM ((by rw [hg]; exact Nat.ne_of_lt (blk_lt (bk_ BK270.out)) : gb270 ≠ gb274)); have n6_ := aM ((by rw [hg]; exact Nat.ne_of_gt (blk_lt (bk_ BK270.out)) : gb274 ≠ gb270)); clear BK270 HB; have BK270 := n0_; have HB := n1_; have BK274 := n2_; have GW274 := n3_; have GE274 := n4_; have NB270_274 := n5_; have NB274_270 := n6_; clear n0_ n1_ n2_ n3_ n4_ n5_ n6_; clear hb hbox hg; have hnb28 := NB274_270.out; have hnc28 := NB270_274.out; obtain ⟨hcz29_0, hcz29_1, hcz29_2, hfz29_0, hfz29_1, hfz29_2⟩ := b6_ BK274.out))
     generalize hq_ : (((w27.setCell ⟨gb274, 0, none⟩ (.int .i64 ((rd_T72 l0_2 x24_2).f0))).setCell ⟨gb274, 1, none⟩ (.int .i64 ((rd_T72 l0_2 x24_2).f1))).setCell ⟨gb274, 2, none⟩ (.int .i64 ((rd_T72 l0_2 x24_2).f2))) = w30
     have n0_ : Aside0 (w30.heap[gb270]? = some (.cells #[.int .i64 a0_0, .int .i64 a0_1, .slice (some ad273) l0_2.length c0_2] 79 (0, 0))) := ⟨by rw [← hq_]; exact qz21⟩
     have n1_ : Aside0 (w30.heap[gb274]? = some (.cells #[.int .i64 ((rd_T72 l0_2 x24_2).f0), .int .i64 ((rd_T72 l0_2 x24_2).f1), .int .i64 ((rd_T72 l0_2 x24_2).f2)] 72 (0, 0))) := ⟨by rw [← hq_]; exact (by (with_reducible repeat (first | refine blk_drewN ?_ _ | refine blk_drew ?_ | refine blk_alloc ?_ _)); refine blk_put (cs := #[.int .i64 ((rd_T72 l0_2 x24_2).f0), .int .i64 ((rd_T72 l0_2 x24_2).f1), .int .i64 0]) ?_ 2 _ rfl; (with_reducible repeat (first | refine blk_drewN ?_ _ | refine blk_drew ?_ | refine blk_alloc ?_ _)); refine blk_put (cs := #[.int .i64 ((rd_T72 l0_2 x24_2).f0), .int .i64 0, .int .i64 0]) ?_ 1 _ rfl; (with_reducible repeat (first | refine blk_drewN ?_ _ | refine blk_drew ?_ | refine blk_alloc ?_ _)); refine blk_put (cs := #[.int .i64 0, .int .i64 0, .int .i64 0]) ?_ 0 _ rfl; exact bk_ BK274.out)⟩
     have n2_ : Aside0 (Below w.heap.size w w30) := ⟨by rw [← hq_]; exact qz53⟩
     (try clear BK270)
     (try clear BK274)
     (try clear HB)
     clear hq_
     have BK270 := n0_
     have BK274 := n1_
     have HB := n2_
     clear n0_ n1_ n2_
     have n0_ := aM (blk_drew BK270.out)
     have n1_ := aM (blk_drew BK274.out)
     have n2_ := aM (below_drew1 HB.out)
     clear BK270
     clear BK274
     clear HB
     have BK270 := n0_
     have BK274 := n1_
     have HB := n2_
     clear n0_ n1_ n2_
     have p278 : 0 ≤ ((ji23) : Int) := of_decide_eq_true qz4
     have q278 : (ji23) < (l0_2.length : Int) := of_decide_eq_true qz4
     obtain ⟨ad278, e278, hx278_0, hx278_1, hx278_2⟩ := at_T72 HR0_2.out (ji23) p278 q278
     have hw278_2 := hx278_2
     have hw278_1 := hx278_1
     have hw278_0 := hx278_0
     obtain rfl : ad273 = ad278 := (by injection e278)
     replace hx278_0 := pw_cell_below HB.out hx278_0
     replace hx278_1 := pw_cell_below HB.out hx278_1
     replace hx278_2 := pw_cell_below HB.out hx278_2
     replace p278 := eq_true p278
     replace q278 := eq_true q278
     refine start_ (n := 34) (S := fun w' => w'.cell? ⟨gb274, 0, none⟩ = some (.int .i64 ((rd_T72 l0_2 x24_2).f0)) ∧ w'.cell? ⟨gb274, 1, none⟩ = some (.int .i64 ((rd_T72 l0_2 x24_2).f1)) ∧ w'.cell? ⟨gb274, 2, none⟩ = some (.int .i64 ((rd_T72 l0_2 x24_2).f2)) ∧ w'.cell? ⟨gb270, 0, none⟩ = some (.int .i64 a0_0) ∧ w'.cell? ⟨gb270, 1, none⟩ = some (.int .i64 a0_1) ∧ w'.cell? ⟨gb270, 2, none⟩ = some (.slice (some ad273) l0_2.length c0_2) ∧ w'.cell? (ad273.add (((ji23)).toNat * 3)) = some (.int .i64 ((rd_T72 l0_2 (ji23)).f0)) ∧ w'.cell? ⟨(ad273.add (((ji23)).toNat * 3)).block, (ad273.add (((ji23)).toNat * 3)).off + 1, none⟩ = some (.int .i64 ((rd_T72 l0_2 (ji23)).f1)) ∧ w'.cell? ⟨(ad273.add (((ji23)).toNat * 3)).block, (ad273.add (((ji23)).toNat * 3)).off + 2, none⟩ = some (.int .i64 ((rd_T72 l0_2 (ji23)).f2))) (ds := []) #[false, false, false, false, false, false, false, false, false, false, false, false, false, false, false, false, false, false, false, false, false, false, false, false, false, false, false, false, false, false, false, false, false, false] (by kernel_rfl) rfl rfl ⟨(blk_cell BK274.out 0).trans rfl, (blk_cell BK274.out 1).trans rfl, (blk_cell BK274.out 2).trans rfl, (blk_cell BK270.out 0).trans rfl, (blk_cell BK270.out 1).trans rfl, (blk_cell BK270.out 2).trans rfl, (pw_cell_below HB.out hw278_0), (pw_cell_below HB.out hw278_1), (pw_cell_below HB.out hw278_2)⟩ (fun hHeld => ?_); refine with_tabW impl_podOk.tab6 impl_podOk.bits6 (fun HT_ HW_ => ?_)
     generalize w30.drew = w31 at BK270 BK274 HB hx278_0 hx278_1 hx278_2 hHeld ⊢
     refine pI_ 0 29 (bqz 34 1) ?_
     refine tI9_ 1 30 (bqz 34 3) ?_
     refine one_ (i := 2) (N := some 31) (bqz 34 7) rfl rfl qzc (by decide) (fun K hK => ?_)
     refine goes_ Try.func64 (by kernel_rfl) rfl #[.int .i64 ((rd_T72 l0_2 x24_2).f0), .int .i64 1, .int .i64 50] (by rfl) rfl rfl qz1 ?_
     with_reducible refine (impl_in.calls ((rd_T72 l0_2 x24_2).f0) 1 50 true _ A16.out).mono ?_
     rintro e w' ⟨rfl, ⟨nd, rfl⟩⟩
     refine ⟨_, rfl, ?_⟩
     refine hK.out _ _ ⟨(blk_cell BK274.out 0).trans rfl, (blk_cell BK274.out 1).trans rfl, (blk_cell BK274.out 2).trans rfl, (blk_cell BK270.out 0).trans rfl, (blk_cell BK270.out 1).trans rfl, (blk_cell BK270.out 2).trans rfl, (pw_cell_below HB.out hw278_0), (pw_cell_below HB.out hw278_1), (pw_cell_below HB.out hw278_2)⟩ (fun hHeld => ?_)
     clear hK K
     refine norm_ (a' := ?_) ?_ ?_
     rotate_left
     {
     show Act.put _ (some 31) _ = _
     simp only [qzs]
     rfl
     }
     refine pI_ 3 32 (bqz 34 15) ?_
     refine pI_ 4 33 (bqz 34 31) ?_
     refine pI_ 5 34 (bqz 34 63) ?_
     refine tI9_ 6 35 (bqz 34 127) ?_
     refine one_ (i := 7) (N := some 36) (bqz 34 255) rfl rfl qzc (by decide) (fun K hK => ?_)
     refine goes_ Try.func64 (by kernel_rfl) rfl #[.int .i64 ((rd_T72 l0_2 x24_2).f1), .int .i64 1, .int .i64 1000] (by rfl) rfl rfl qz1 ?_
     with_reducible refine (impl_in.calls ((rd_T72 l0_2 x24_2).f1) 1 1000 true _ A18.out).mono ?_
     rintro e w' ⟨rfl, ⟨nd, rfl⟩⟩
     refine ⟨_, rfl, ?_⟩
     refine hK.out _ _ ⟨(blk_cell BK274.out 0).trans rfl, (blk_cell BK274.out 1).trans rfl, (blk_cell BK274.out 2).trans rfl, (blk_cell BK270.out 0).trans rfl, (blk_cell BK270.out 1).trans rfl, (blk_cell BK270.out 2).trans rfl, (pw_cell_below HB.out hw278_0), (pw_cell_below HB.out hw278_1), (pw_cell_below HB.out hw278_2)⟩ (fun hHeld => ?_)
     clear hK K
     refine norm_ (a' := ?_) ?_ ?_
     rotate_left
     {
     show Act.put _ (some 36) _ = _
     simp only [qzs]
     rfl
     }
     refine pI_ 8 37 (bqz 34 511) ?_
     refine pI_ 9 38 (bqz 34 1023) ?_
     refine pI_ 10 39 (bqz 34 2047) ?_
     refine pI_ 11 40 (bqz 34 4095) ?_
     refine pI_ 13 42 (bqz 34 12287) ?_
     refine tI9_ 12 41 (bqz 34 16383) ?_
     refine tI9_ 14 43 (bqz 34 32767) ?_
     refine one_ (i := 15) (N := some 44) (bqz 34 65535) rfl rfl qzc (by decide) (fun K hK => ?_)
     refine goes_ Try.func64 (by kernel_rfl) rfl #[.int .i64 ((rd_T72 l0_2 x24_2).f2), .int .i64 0, .int .i64 ((rd_T72 l0_2 x24_2).f1)] (by rfl) rfl rfl qz1 ?_
     with_reducible refine (impl_in.calls ((rd_T72 l0_2 x24_2).f2) 0 ((rd_T72 l0_2 x24_2).f1) true _ A20.out).mono ?_
     rintro e w' ⟨rfl, ⟨nd, rfl⟩⟩
     refine ⟨_, rfl, ?_⟩
     refine hK.out _ _ ⟨(blk_cell BK274.out 0).trans rfl, (blk_cell BK274.out 1).trans rfl, (blk_cell BK274.out 2).trans rfl, (blk_cell BK270.out 0).trans rfl, (blk_cell BK270.out 1).trans rfl, (blk_cell BK270.out 2).trans rfl, (pw_cell_below HB.out hw278_0), (pw_cell_below HB.out hw278_1), (pw_cell_below HB.out hw278_2)⟩ (fun hHeld => ?_)
     clear hK K
     refine norm_ (a' := ?_) ?_ ?_
     rotate_left
     {
     show Act.put _ (some 44) _ = _
     simp only [qzs]
     rfl
     }
     refine pI_ 16 45 (bqz 34 131071) ?_
     refine pI_ 17 46 (bqz 34 262143) ?_
     refine pI_ 18 47 (bqz 34 524287) ?_
     refine pI_ 19 48 (bqz 34 1048575) ?_
     refine pI_ 20 49 (bqz 34 2097151) ?_
     refine pI_ 21 50 (bqz 34 4194303) ?_
     refine pI_ 22 51 (bqz 34 8388607) ?_
     refine pI_ 24 53 (bqz 34 25165823) ?_
     refine pI_ 25 54 (bqz 34 58720255) ?_
     refine pI_ 29 58 (bqz 34 595591167) ?_
     refine tI9_ 23 52 (bqz 34 603979775) ?_
     refine pI_ 26 55 (bqz 34 671088639) ?_
     refine pI_ 27 56 (bqz 34 805306367) ?_
     refine tI9_ 28 57 (bqz 34 1073741823) ?_
     refine tI9_ 30 59 (bqz 34 2147483647) ?_
     refine pI_ 31 60 (bqz 34 4294967295) ?_
     refine pI_ 32 61 (bqz 34 8589934591) ?_
     refine pI_ 33 62 (bqz 34 17179869183) ?_
     refine done_ (done_of HT_.out (by kernel_rfl)) ?_
     try go_wp2
     go_ret
     exact ⟨by first | rfl | (simp [errW_none, errW_some] <;> rfl) | (simp only [← hji23]; first | rfl | (simp [errW_none, errW_some] <;> rfl)) | (simp [*, errW_none, errW_some] <;> rfl), by repeat (first | (with_reducible first | exact HB.out | apply below_alloc | apply pw_below_drewN | apply below_drew1 | refine below_set ?_ GE270.out | refine below_set ?_ GE274.out) | exact HB.out)⟩
     }
     {
     rw [if_neg c26] at H
     have c26b0 := decide_eq_false c26
     clear c26
     have H' := aM H
     clear H
     have p273 : 0 ≤ (x24_2 : Int) := of_decide_eq_true qz4
     have q273 : x24_2 < (l0_2.length : Int) := of_decide_eq_true qz4
     obtain ⟨ad273, e273, hx273_0, hx273_1, hx273_2⟩ := at_T72 HR0_2.out x24_2 p273 q273
     cases e273
     replace hx273_0 := pw_cell_below HB.out hx273_0
     replace hx273_1 := pw_cell_below HB.out hx273_1
     replace hx273_2 := pw_cell_below HB.out hx273_2
     replace p273 := eq_true p273
     replace q273 := eq_true q273
     try go_wp2_with (first | ((with_reducible refine gate_dst (N := 4) rfl ?_); (try (refine gate_guard (by rfl) ?_; dsimp only)); refine bx_ 4 #[.int .i64 0, .int .i64 0, .int .i64 0] 72 ?_; intro gb274 hg w32 hbox hb; have n0_ := aM (blk_below (bk_ BK270.out) hb); have n1_ := aM (below_step qz19 hb); have n2_ := aM (hbox); have n3_ := aM ((by rw [hg]; exact (below_size qz19) : w.heap.size ≤ gb274)); have n4_ := aM ((by rw [hg]; exact (below_size qz19) : w.heap.size ≤ gb274)); have n5_ := aM ((by rw [hg]; exact Nat.ne_of_lt (blk_lt (bk_ BK270.out)) : gb270 ≠ gb274)); have n6_ := aM ((by rw [hg]; exact Nat.ne_of_gt (blk_lt (bk_ BK270.out)) : gb274 ≠ gb270)); clear BK270 HB; have BK270 := n0_; have HB := n1_; have BK274 := n2_; have GW274 := n3_; have GE274 := n4_; have NB270_274 := n5_; have NB274_270 := n6_; clear n0_ n1_ n2_ n3_ n4_ n5_ n6_; clear hb hbox hg; have hnb33 := NB274_270.out; have hnc33 := NB270_274.out; obtain ⟨hcz34_0, hcz34_1, hcz34_2, hfz34_0, hfz34_1, hfz34_2⟩ := b6_ BK274.out))
     generalize hq_ : (((w32.setCell ⟨gb274, 0, none⟩ (.int .i64 ((rd_T72 l0_2 x24_2).f0))).setCell ⟨gb274, 1, none⟩ (.int .i64 ((rd_T72 l0_2 x24_2).f1))).setCell ⟨gb274, 2, none⟩ (.int .i64 ((rd_T72 l0_2 x24_2).f2))) = w35
     have n0_ : Aside0 (w35.heap[gb270]? = some (.cells #[.int .i64 a0_0, .int .i64 a0_1, .slice (some ad273) l0_2.length c0_2] 79 (0, 0))) := ⟨by rw [← hq_]; exact qz21⟩
     have n1_ : Aside0 (w35.heap[gb274]? = some (.cells #[.int .i64 ((rd_T72 l0_2 x24_2).f0), .int .i64 ((rd_T72 l0_2 x24_2).f1), .int .i64 ((rd_T72 l0_2 x24_2).f2)] 72 (0, 0))) := ⟨by rw [← hq_]; exact (by (with_reducible repeat (first | refine blk_drewN ?_ _ | refine blk_drew ?_ | refine blk_alloc ?_ _)); refine blk_put (cs := #[.int .i64 ((rd_T72 l0_2 x24_2).f0), .int .i64 ((rd_T72 l0_2 x24_2).f1), .int .i64 0]) ?_ 2 _ rfl; (with_reducible repeat (first | refine blk_drewN ?_ _ | refine blk_drew ?_ | refine blk_alloc ?_ _)); refine blk_put (cs := #[.int .i64 ((rd_T72 l0_2 x24_2).f0), .int .i64 0, .int .i64 0]) ?_ 1 _ rfl; (with_reducible repeat (first | refine blk_drewN ?_ _ | refine blk_drew ?_ | refine blk_alloc ?_ _)); refine blk_put (cs := #[.int .i64 0, .int .i64 0, .int .i64 0]) ?_ 0 _ rfl; exact bk_ BK274.out)⟩
     have n2_ : Aside0 (Below w.heap.size w w35) := ⟨by rw [← hq_]; exact qz53⟩
     (try clear BK270)
     (try clear BK274)
     (try clear HB)
     clear hq_
     have BK270 := n0_
     have BK274 := n1_
     have HB := n2_
     clear n0_ n1_ n2_
     have n0_ := aM (blk_drew BK270.out)
     have n1_ := aM (blk_drew BK274.out)
     have n2_ := aM (below_drew1 HB.out)
     clear BK270
     clear BK274
     clear HB
     have BK270 := n0_
     have BK274 := n1_
     have HB := n2_
     clear n0_ n1_ n2_
     have p278 : 0 ≤ ((ji23) : Int) := of_decide_eq_true qz4
     have q278 : (ji23) < (l0_2.length : Int) := of_decide_eq_true qz4
     obtain ⟨ad278, e278, hx278_0, hx278_1, hx278_2⟩ := at_T72 HR0_2.out (ji23) p278 q278
     have hw278_2 := hx278_2
     have hw278_1 := hx278_1
     have hw278_0 := hx278_0
     obtain rfl : ad273 = ad278 := (by injection e278)
     replace hx278_0 := pw_cell_below HB.out hx278_0
     replace hx278_1 := pw_cell_below HB.out hx278_1
     replace hx278_2 := pw_cell_below HB.out hx278_2
     replace p278 := eq_true p278
     replace q278 := eq_true q278
     refine start_ (n := 34) (S := fun w' => w'.cell? ⟨gb274, 0, none⟩ = some (.int .i64 ((rd_T72 l0_2 x24_2).f0)) ∧ w'.cell? ⟨gb274, 1, none⟩ = some (.int .i64 ((rd_T72 l0_2 x24_2).f1)) ∧ w'.cell? ⟨gb274, 2, none⟩ = some (.int .i64 ((rd_T72 l0_2 x24_2).f2)) ∧ w'.cell? ⟨gb270, 0, none⟩ = some (.int .i64 a0_0) ∧ w'.cell? ⟨gb270, 1, none⟩ = some (.int .i64 a0_1) ∧ w'.cell? ⟨gb270, 2, none⟩ = some (.slice (some ad273) l0_2.length c0_2) ∧ w'.cell? (ad273.add (((ji23)).toNat * 3)) = some (.int .i64 ((rd_T72 l0_2 (ji23)).f0)) ∧ w'.cell? ⟨(ad273.add (((ji23)).toNat * 3)).block, (ad273.add (((ji23)).toNat * 3)).off + 1, none⟩ = some (.int .i64 ((rd_T72 l0_2 (ji23)).f1)) ∧ w'.cell? ⟨(ad273.add (((ji23)).toNat * 3)).block, (ad273.add (((ji23)).toNat * 3)).off + 2, none⟩ = some (.int .i64 ((rd_T72 l0_2 (ji23)).f2))) (ds := []) #[false, false, false, false, false, false, false, false, false, false, false, false, false, false, false, false, false, false, false, false, false, false, false, false, false, false, false, false, false, false, false, false, false, false] (by kernel_rfl) rfl rfl ⟨(blk_cell BK274.out 0).trans rfl, (blk_cell BK274.out 1).trans rfl, (blk_cell BK274.out 2).trans rfl, (blk_cell BK270.out 0).trans rfl, (blk_cell BK270.out 1).trans rfl, (blk_cell BK270.out 2).trans rfl, (pw_cell_below HB.out hw278_0), (pw_cell_below HB.out hw278_1), (pw_cell_below HB.out hw278_2)⟩ (fun hHeld => ?_); refine with_tabW impl_podOk.tab6 impl_podOk.bits6 (fun HT_ HW_ => ?_)
     generalize w35.drew = w36 at BK270 BK274 HB hx278_0 hx278_1 hx278_2 hHeld ⊢
     refine pI_ 0 29 (bqz 34 1) ?_
     refine tI9_ 1 30 (bqz 34 3) ?_
     refine one_ (i := 2) (N := some 31) (bqz 34 7) rfl rfl qzc (by decide) (fun K hK => ?_)
     refine goes_ Try.func64 (by kernel_rfl) rfl #[.int .i64 ((rd_T72 l0_2 x24_2).f0), .int .i64 1, .int .i64 50] (by rfl) rfl rfl qz1 ?_
     with_reducible refine (impl_in.calls ((rd_T72 l0_2 x24_2).f0) 1 50 true _ A16.out).mono ?_
     rintro e w' ⟨rfl, ⟨nd, rfl⟩⟩
     refine ⟨_, rfl, ?_⟩
     refine hK.out _ _ ⟨(blk_cell BK274.out 0).trans rfl, (blk_cell BK274.out 1).trans rfl, (blk_cell BK274.out 2).trans rfl, (blk_cell BK270.out 0).trans rfl, (blk_cell BK270.out 1).trans rfl, (blk_cell BK270.out 2).trans rfl, (pw_cell_below HB.out hw278_0), (pw_cell_below HB.out hw278_1), (pw_cell_below HB.out hw278_2)⟩ (fun hHeld => ?_)
     clear hK K
     refine norm_ (a' := ?_) ?_ ?_
     rotate_left
     {
     show Act.put _ (some 31) _ = _
     simp only [qzs]
     rfl
     }
     refine pI_ 3 32 (bqz 34 15) ?_
     refine pI_ 4 33 (bqz 34 31) ?_
     refine pI_ 5 34 (bqz 34 63) ?_
     refine tI9_ 6 35 (bqz 34 127) ?_
     refine one_ (i := 7) (N := some 36) (bqz 34 255) rfl rfl qzc (by decide) (fun K hK => ?_)
     refine goes_ Try.func64 (by kernel_rfl) rfl #[.int .i64 ((rd_T72 l0_2 x24_2).f1), .int .i64 1, .int .i64 1000] (by rfl) rfl rfl qz1 ?_
     with_reducible refine (impl_in.calls ((rd_T72 l0_2 x24_2).f1) 1 1000 true _ A18.out).mono ?_
     rintro e w' ⟨rfl, ⟨nd, rfl⟩⟩
     refine ⟨_, rfl, ?_⟩
     refine hK.out _ _ ⟨(blk_cell BK274.out 0).trans rfl, (blk_cell BK274.out 1).trans rfl, (blk_cell BK274.out 2).trans rfl, (blk_cell BK270.out 0).trans rfl, (blk_cell BK270.out 1).trans rfl, (blk_cell BK270.out 2).trans rfl, (pw_cell_below HB.out hw278_0), (pw_cell_below HB.out hw278_1), (pw_cell_below HB.out hw278_2)⟩ (fun hHeld => ?_)
     clear hK K
     refine norm_ (a' := ?_) ?_ ?_
     rotate_left
     {
     show Act.put _ (some 36) _ = _
     simp only [qzs]
     rfl
     }
     refine pI_ 8 37 (bqz 34 511) ?_
     refine pI_ 9 38 (bqz 34 1023) ?_
     refine pI_ 10 39 (bqz 34 2047) ?_
     refine pI_ 11 40 (bqz 34 4095) ?_
     refine pI_ 13 42 (bqz 34 12287) ?_
     refine tI9_ 12 41 (bqz 34 16383) ?_
     refine tI9_ 14 43 (bqz 34 32767) ?_
     refine one_ (i := 15) (N := some 44) (bqz 34 65535) rfl rfl qzc (by decide) (fun K hK => ?_)
     refine goes_ Try.func64 (by kernel_rfl) rfl #[.int .i64 ((rd_T72 l0_2 x24_2).f2), .int .i64 0, .int .i64 ((rd_T72 l0_2 x24_2).f1)] (by rfl) rfl rfl qz1 ?_
     with_reducible refine (impl_in.calls ((rd_T72 l0_2 x24_2).f2) 0 ((rd_T72 l0_2 x24_2).f1) true _ A20.out).mono ?_
     rintro e w' ⟨rfl, ⟨nd, rfl⟩⟩
     refine ⟨_, rfl, ?_⟩
     refine hK.out _ _ ⟨(blk_cell BK274.out 0).trans rfl, (blk_cell BK274.out 1).trans rfl, (blk_cell BK274.out 2).trans rfl, (blk_cell BK270.out 0).trans rfl, (blk_cell BK270.out 1).trans rfl, (blk_cell BK270.out 2).trans rfl, (pw_cell_below HB.out hw278_0), (pw_cell_below HB.out hw278_1), (pw_cell_below HB.out hw278_2)⟩ (fun hHeld => ?_)
     clear hK K
     refine norm_ (a' := ?_) ?_ ?_
     rotate_left
     {
     show Act.put _ (some 44) _ = _
     simp only [qzs]
     rfl
     }
     refine pI_ 16 45 (bqz 34 131071) ?_
     refine pI_ 17 46 (bqz 34 262143) ?_
     refine pI_ 18 47 (bqz 34 524287) ?_
     refine pI_ 19 48 (bqz 34 1048575) ?_
     refine pI_ 20 49 (bqz 34 2097151) ?_
     refine pI_ 21 50 (bqz 34 4194303) ?_
     refine pI_ 22 51 (bqz 34 8388607) ?_
     refine pI_ 24 53 (bqz 34 25165823) ?_
     refine pI_ 25 54 (bqz 34 58720255) ?_
     refine pI_ 29 58 (bqz 34 595591167) ?_
     refine tI9_ 23 52 (bqz 34 603979775) ?_
     refine pI_ 26 55 (bqz 34 671088639) ?_
     refine pI_ 27 56 (bqz 34 805306367) ?_
     refine tI9_ 28 57 (bqz 34 1073741823) ?_
     refine tI9_ 30 59 (bqz 34 2147483647) ?_
     refine pI_ 31 60 (bqz 34 4294967295) ?_
     refine pI_ 32 61 (bqz 34 8589934591) ?_
     refine pI_ 33 62 (bqz 34 17179869183) ?_
     refine done_ (done_of HT_.out (by kernel_rfl)) ?_
     try go_wp2
     go_roundg k2
     case measure => have := HJ1.out; have := HK2.out; omega
     case rel => exact ⟨(wrap64 (x24_2 + 1)), qz13, H', ⟨by have := HJ1.out; have := HK2.out; omega⟩, ⟨bk_ BK270.out⟩, ⟨by repeat (first | (with_reducible first | exact HB.out | apply below_alloc | apply pw_below_drewN | apply below_drew1 | refine below_set ?_ GE270.out | refine below_set ?_ GE274.out) | exact HB.out)⟩⟩
     }
     }
     {
     rw [if_neg c25] at H
     exact absurd H (by simp)
     }
     }
     {
     rw [if_neg c24] at H
     exact absurd H (by simp)
     }
     }
     {
     rw [if_neg c22] at H
     have c22b0 := decide_eq_false c22
     clear c22
     have H' := aM H
     clear H
     have p273 : 0 ≤ (x24_2 : Int) := of_decide_eq_true qz4
     have q273 : x24_2 < (l0_2.length : Int) := of_decide_eq_true qz4
     obtain ⟨ad273, e273, hx273_0, hx273_1, hx273_2⟩ := at_T72 HR0_2.out x24_2 p273 q273
     cases e273
     replace hx273_0 := pw_cell_below HB.out hx273_0
     replace hx273_1 := pw_cell_below HB.out hx273_1
     replace hx273_2 := pw_cell_below HB.out hx273_2
     replace p273 := eq_true p273
     replace q273 := eq_true q273
     try go_wp2_with (first | ((with_reducible refine gate_dst (N := 4) rfl ?_); (try (refine gate_guard (by rfl) ?_; dsimp only)); refine bx_ 4 #[.int .i64 0, .int .i64 0, .int .i64 0] 72 ?_; intro gb274 hg w37 hbox hb; have n0_ := aM (blk_below (bk_ BK270.out) hb); have n1_ := aM (below_step qz19 hb); have n2_ := aM (hbox); have n3_ := aM ((by rw [hg]; exact (below_size qz19) : w.heap.size ≤ gb274)); have n4_ := aM ((by rw [hg]; exact (below_size qz19) : w.heap.size ≤ gb274)); have n5_ := aM ((by rw [hg]; exact Nat.ne_of_lt (blk_lt (bk_ BK270.out)) : gb270 ≠ gb274)); have n6_ := aM ((by rw [hg]; exact Nat.ne_of_gt (blk_lt (bk_ BK270.out)) : gb274 ≠ gb270)); clear BK270 HB; have BK270 := n0_; have HB := n1_; have BK274 := n2_; have GW274 := n3_; have GE274 := n4_; have NB270_274 := n5_; have NB274_270 := n6_; clear n0_ n1_ n2_ n3_ n4_ n5_ n6_; clear hb hbox hg; have hnb38 := NB274_270.out; have hnc38 := NB270_274.out; obtain ⟨hcz39_0, hcz39_1, hcz39_2, hfz39_0, hfz39_1, hfz39_2⟩ := b6_ BK274.out))
     generalize hq_ : (((w37.setCell ⟨gb274, 0, none⟩ (.int .i64 ((rd_T72 l0_2 x24_2).f0))).setCell ⟨gb274, 1, none⟩ (.int .i64 ((rd_T72 l0_2 x24_2).f1))).setCell ⟨gb274, 2, none⟩ (.int .i64 ((rd_T72 l0_2 x24_2).f2))) = w40
     have n0_ : Aside0 (w40.heap[gb270]? = some (.cells #[.int .i64 a0_0, .int .i64 a0_1, .slice (some ad273) l0_2.length c0_2] 79 (0, 0))) := ⟨by rw [← hq_]; exact qz21⟩
     have n1_ : Aside0 (w40.heap[gb274]? = some (.cells #[.int .i64 ((rd_T72 l0_2 x24_2).f0), .int .i64 ((rd_T72 l0_2 x24_2).f1), .int .i64 ((rd_T72 l0_2 x24_2).f2)] 72 (0, 0))) := ⟨by rw [← hq_]; exact (by (with_reducible repeat (first | refine blk_drewN ?_ _ | refine blk_drew ?_ | refine blk_alloc ?_ _)); refine blk_put (cs := #[.int .i64 ((rd_T72 l0_2 x24_2).f0), .int .i64 ((rd_T72 l0_2 x24_2).f1), .int .i64 0]) ?_ 2 _ rfl; (with_reducible repeat (first | refine blk_drewN ?_ _ | refine blk_drew ?_ | refine blk_alloc ?_ _)); refine blk_put (cs := #[.int .i64 ((rd_T72 l0_2 x24_2).f0), .int .i64 0, .int .i64 0]) ?_ 1 _ rfl; (with_reducible repeat (first | refine blk_drewN ?_ _ | refine blk_drew ?_ | refine blk_alloc ?_ _)); refine blk_put (cs := #[.int .i64 0, .int .i64 0, .int .i64 0]) ?_ 0 _ rfl; exact bk_ BK274.out)⟩
     have n2_ : Aside0 (Below w.heap.size w w40) := ⟨by rw [← hq_]; exact qz53⟩
     (try clear BK270)
     (try clear BK274)
     (try clear HB)
     clear hq_
     have BK270 := n0_
     have BK274 := n1_
     have HB := n2_
     clear n0_ n1_ n2_
     have n0_ := aM (blk_drew BK270.out)
     have n1_ := aM (blk_drew BK274.out)
     have n2_ := aM (below_drew1 HB.out)
     clear BK270
     clear BK274
     clear HB
     have BK270 := n0_
     have BK274 := n1_
     have HB := n2_
     clear n0_ n1_ n2_
     refine start_ (n := 34) (S := fun w' => w'.cell? ⟨gb274, 0, none⟩ = some (.int .i64 ((rd_T72 l0_2 x24_2).f0)) ∧ w'.cell? ⟨gb274, 1, none⟩ = some (.int .i64 ((rd_T72 l0_2 x24_2).f1)) ∧ w'.cell? ⟨gb274, 2, none⟩ = some (.int .i64 ((rd_T72 l0_2 x24_2).f2))) (ds := []) #[false, false, false, false, false, false, false, false, false, false, false, false, false, false, false, false, false, false, false, false, false, false, false, false, false, false, false, false, false, false, false, false, false, false] (by kernel_rfl) rfl rfl ⟨(blk_cell BK274.out 0).trans rfl, (blk_cell BK274.out 1).trans rfl, (blk_cell BK274.out 2).trans rfl⟩ (fun hHeld => ?_); refine with_tabW impl_podOk.tab6 impl_podOk.bits6 (fun HT_ HW_ => ?_)
     generalize w40.drew = w41 at BK270 BK274 HB hHeld ⊢
     refine pI_ 0 29 (bqz 34 1) ?_
     refine tI3_ 1 30 (bqz 34 3) ?_
     refine one_ (i := 2) (N := some 31) (bqz 34 7) rfl rfl qzc (by decide) (fun K hK => ?_)
     refine goes_ Try.func64 (by kernel_rfl) rfl #[.int .i64 ((rd_T72 l0_2 x24_2).f0), .int .i64 1, .int .i64 50] (by rfl) rfl rfl qz1 ?_
     with_reducible refine (impl_in.calls ((rd_T72 l0_2 x24_2).f0) 1 50 true _ A16.out).mono ?_
     rintro e w' ⟨rfl, ⟨nd, rfl⟩⟩
     refine ⟨_, rfl, ?_⟩
     refine hK.out _ _ ⟨(blk_cell BK274.out 0).trans rfl, (blk_cell BK274.out 1).trans rfl, (blk_cell BK274.out 2).trans rfl⟩ (fun hHeld => ?_)
     clear hK K
     refine norm_ (a' := ?_) ?_ ?_
     rotate_left
     {
     show Act.put _ (some 31) _ = _
     simp only [qzs]
     rfl
     }
     refine pI_ 3 32 (bqz 34 15) ?_
     refine pI_ 4 33 (bqz 34 31) ?_
     refine pI_ 5 34 (bqz 34 63) ?_
     refine tI3_ 6 35 (bqz 34 127) ?_
     refine one_ (i := 7) (N := some 36) (bqz 34 255) rfl rfl qzc (by decide) (fun K hK => ?_)
     refine goes_ Try.func64 (by kernel_rfl) rfl #[.int .i64 ((rd_T72 l0_2 x24_2).f1), .int .i64 1, .int .i64 1000] (by rfl) rfl rfl qz1 ?_
     with_reducible refine (impl_in.calls ((rd_T72 l0_2 x24_2).f1) 1 1000 true _ A18.out).mono ?_
     rintro e w' ⟨rfl, ⟨nd, rfl⟩⟩
     refine ⟨_, rfl, ?_⟩
     refine hK.out _ _ ⟨(blk_cell BK274.out 0).trans rfl, (blk_cell BK274.out 1).trans rfl, (blk_cell BK274.out 2).trans rfl⟩ (fun hHeld => ?_)
     clear hK K
     refine norm_ (a' := ?_) ?_ ?_
     rotate_left
     {
     show Act.put _ (some 36) _ = _
     simp only [qzs]
     rfl
     }
     refine pI_ 8 37 (bqz 34 511) ?_
     refine pI_ 9 38 (bqz 34 1023) ?_
     refine pI_ 10 39 (bqz 34 2047) ?_
     refine pI_ 11 40 (bqz 34 4095) ?_
     refine pI_ 13 42 (bqz 34 12287) ?_
     refine tI3_ 12 41 (bqz 34 16383) ?_
     refine tI3_ 14 43 (bqz 34 32767) ?_
     refine one_ (i := 15) (N := some 44) (bqz 34 65535) rfl rfl qzc (by decide) (fun K hK => ?_)
     refine goes_ Try.func64 (by kernel_rfl) rfl #[.int .i64 ((rd_T72 l0_2 x24_2).f2), .int .i64 0, .int .i64 ((rd_T72 l0_2 x24_2).f1)] (by rfl) rfl rfl qz1 ?_
     with_reducible refine (impl_in.calls ((rd_T72 l0_2 x24_2).f2) 0 ((rd_T72 l0_2 x24_2).f1) true _ A20.out).mono ?_
     rintro e w' ⟨rfl, ⟨nd, rfl⟩⟩
     refine ⟨_, rfl, ?_⟩
     refine hK.out _ _ ⟨(blk_cell BK274.out 0).trans rfl, (blk_cell BK274.out 1).trans rfl, (blk_cell BK274.out 2).trans rfl⟩ (fun hHeld => ?_)
     clear hK K
     refine norm_ (a' := ?_) ?_ ?_
     rotate_left
     {
     show Act.put _ (some 44) _ = _
     simp only [qzs]
     rfl
     }
     refine pI_ 16 45 (bqz 34 131071) ?_
     refine pI_ 17 46 (bqz 34 262143) ?_
     refine pI_ 18 47 (bqz 34 524287) ?_
     refine pI_ 19 48 (bqz 34 1048575) ?_
     refine pI_ 20 49 (bqz 34 2097151) ?_
     refine pI_ 21 50 (bqz 34 4194303) ?_
     refine pU_ 22 51 (bqz 34 8388607) ?_
     refine pU_ 23 52 (bqz 34 16777215) ?_
     refine pU_ 24 53 (bqz 34 33554431) ?_
     refine pU_ 25 54 (bqz 34 67108863) ?_
     refine pU_ 26 55 (bqz 34 134217727) ?_
     refine pU_ 27 56 (bqz 34 268435455) ?_
     refine pU_ 28 57 (bqz 34 536870911) ?_
     refine pU_ 29 58 (bqz 34 1073741823) ?_
     refine pU_ 30 59 (bqz 34 2147483647) ?_
     refine pU_ 31 60 (bqz 34 4294967295) ?_
     refine pI_ 32 61 (bqz 34 8589934591) ?_
     refine pI_ 33 62 (bqz 34 17179869183) ?_
     refine done_ (done_of HT_.out (by kernel_rfl)) ?_
     try go_wp2
     go_roundg k2
     case measure => have := HJ1.out; have := HK2.out; omega
     case rel => exact ⟨(wrap64 (x24_2 + 1)), qz13, H', ⟨by have := HJ1.out; have := HK2.out; omega⟩, ⟨bk_ BK270.out⟩, ⟨by repeat (first | (with_reducible first | exact HB.out | apply below_alloc | apply pw_below_drewN | apply below_drew1 | refine below_set ?_ GE270.out | refine below_set ?_ GE274.out) | exact HB.out)⟩⟩
     }
     }
     {
     replace c21 := Bool.eq_false_iff.mpr c21
     subst c21
     rw [if_neg (show ¬ (false = true) by decide)] at H
     obtain rfl := Option.some.inj H
     simp only [Option.some.injEq, Prod.mk.injEq] at H
     obtain ⟨rfl⟩ := H
     have p273 : 0 ≤ (x24_2 : Int) := of_decide_eq_true qz4
     have q273 : x24_2 < (l0_2.length : Int) := of_decide_eq_true qz4
     obtain ⟨ad273, e273, hx273_0, hx273_1, hx273_2⟩ := at_T72 HR0_2.out x24_2 p273 q273
     cases e273
     replace hx273_0 := pw_cell_below HB.out hx273_0
     replace hx273_1 := pw_cell_below HB.out hx273_1
     replace hx273_2 := pw_cell_below HB.out hx273_2
     replace p273 := eq_true p273
     replace q273 := eq_true q273
     try go_wp2_with (first | ((with_reducible refine gate_dst (N := 4) rfl ?_); (try (refine gate_guard (by rfl) ?_; dsimp only)); refine bx_ 4 #[.int .i64 0, .int .i64 0, .int .i64 0] 72 ?_; intro gb274 hg w42 hbox hb; have n0_ := aM (blk_below (bk_ BK270.out) hb); have n1_ := aM (below_step qz19 hb); have n2_ := aM (hbox); have n3_ := aM ((by rw [hg]; exact (below_size qz19) : w.heap.size ≤ gb274)); have n4_ := aM ((by rw [hg]; exact (below_size qz19) : w.heap.size ≤ gb274)); have n5_ := aM ((by rw [hg]; exact Nat.ne_of_lt (blk_lt (bk_ BK270.out)) : gb270 ≠ gb274)); have n6_ := aM ((by rw [hg]; exact Nat.ne_of_gt (blk_lt (bk_ BK270.out)) : gb274 ≠ gb270)); clear BK270 HB; have BK270 := n0_; have HB := n1_; have BK274 := n2_; have GW274 := n3_; have GE274 := n4_; have NB270_274 := n5_; have NB274_270 := n6_; clear n0_ n1_ n2_ n3_ n4_ n5_ n6_; clear hb hbox hg; have hnb43 := NB274_270.out; have hnc43 := NB270_274.out; obtain ⟨hcz44_0, hcz44_1, hcz44_2, hfz44_0, hfz44_1, hfz44_2⟩ := b6_ BK274.out))
     generalize hq_ : (((w42.setCell ⟨gb274, 0, none⟩ (.int .i64 ((rd_T72 l0_2 x24_2).f0))).setCell ⟨gb274, 1, none⟩ (.int .i64 ((rd_T72 l0_2 x24_2).f1))).setCell ⟨gb274, 2, none⟩ (.int .i64 ((rd_T72 l0_2 x24_2).f2))) = w45
     have n0_ : Aside0 (w45.heap[gb270]? = some (.cells #[.int .i64 a0_0, .int .i64 a0_1, .slice (some ad273) l0_2.length c0_2] 79 (0, 0))) := ⟨by rw [← hq_]; exact qz21⟩
     have n1_ : Aside0 (w45.heap[gb274]? = some (.cells #[.int .i64 ((rd_T72 l0_2 x24_2).f0), .int .i64 ((rd_T72 l0_2 x24_2).f1), .int .i64 ((rd_T72 l0_2 x24_2).f2)] 72 (0, 0))) := ⟨by rw [← hq_]; exact (by (with_reducible repeat (first | refine blk_drewN ?_ _ | refine blk_drew ?_ | refine blk_alloc ?_ _)); refine blk_put (cs := #[.int .i64 ((rd_T72 l0_2 x24_2).f0), .int .i64 ((rd_T72 l0_2 x24_2).f1), .int .i64 0]) ?_ 2 _ rfl; (with_reducible repeat (first | refine blk_drewN ?_ _ | refine blk_drew ?_ | refine blk_alloc ?_ _)); refine blk_put (cs := #[.int .i64 ((rd_T72 l0_2 x24_2).f0), .int .i64 0, .int .i64 0]) ?_ 1 _ rfl; (with_reducible repeat (first | refine blk_drewN ?_ _ | refine blk_drew ?_ | refine blk_alloc ?_ _)); refine blk_put (cs := #[.int .i64 0, .int .i64 0, .int .i64 0]) ?_ 0 _ rfl; exact bk_ BK274.out)⟩
     have n2_ : Aside0 (Below w.heap.size w w45) := ⟨by rw [← hq_]; exact qz53⟩
     (try clear BK270)
     (try clear BK274)
     (try clear HB)
     clear hq_
     have BK270 := n0_
     have BK274 := n1_
     have HB := n2_
     clear n0_ n1_ n2_
     have n0_ := aM (blk_drew BK270.out)
     have n1_ := aM (blk_drew BK274.out)
     have n2_ := aM (below_drew1 HB.out)
     clear BK270
     clear BK274
     clear HB
     have BK270 := n0_
     have BK274 := n1_
     have HB := n2_
     clear n0_ n1_ n2_
     refine start_ (n := 34) (S := fun w' => w'.cell? ⟨gb274, 0, none⟩ = some (.int .i64 ((rd_T72 l0_2 x24_2).f0)) ∧ w'.cell? ⟨gb274, 1, none⟩ = some (.int .i64 ((rd_T72 l0_2 x24_2).f1)) ∧ w'.cell? ⟨gb274, 2, none⟩ = some (.int .i64 ((rd_T72 l0_2 x24_2).f2))) (ds := []) #[false, false, false, false, false, false, false, false, false, false, false, false, false, false, false, false, false, false, false, false, false, false, false, false, false, false, false, false, false, false, false, false, false, false] (by kernel_rfl) rfl rfl ⟨(blk_cell BK274.out 0).trans rfl, (blk_cell BK274.out 1).trans rfl, (blk_cell BK274.out 2).trans rfl⟩ (fun hHeld => ?_); refine with_tabW impl_podOk.tab6 impl_podOk.bits6 (fun HT_ HW_ => ?_)
     generalize w45.drew = w46 at BK270 BK274 HB hHeld ⊢
     refine pI_ 0 29 (bqz 34 1) ?_
     refine tI3_ 1 30 (bqz 34 3) ?_
     refine one_ (i := 2) (N := some 31) (bqz 34 7) rfl rfl qzc (by decide) (fun K hK => ?_)
     refine goes_ Try.func64 (by kernel_rfl) rfl #[.int .i64 ((rd_T72 l0_2 x24_2).f0), .int .i64 1, .int .i64 50] (by rfl) rfl rfl qz1 ?_
     with_reducible refine (impl_in.calls ((rd_T72 l0_2 x24_2).f0) 1 50 true _ A16.out).mono ?_
     rintro e w' ⟨rfl, ⟨nd, rfl⟩⟩
     refine ⟨_, rfl, ?_⟩
     refine hK.out _ _ ⟨(blk_cell BK274.out 0).trans rfl, (blk_cell BK274.out 1).trans rfl, (blk_cell BK274.out 2).trans rfl⟩ (fun hHeld => ?_)
     clear hK K
     refine norm_ (a' := ?_) ?_ ?_
     rotate_left
     {
     show Act.put _ (some 31) _ = _
     simp only [qzs]
     rfl
     }
     refine pI_ 3 32 (bqz 34 15) ?_
     refine pI_ 4 33 (bqz 34 31) ?_
     refine pI_ 5 34 (bqz 34 63) ?_
     refine tI3_ 6 35 (bqz 34 127) ?_
     refine one_ (i := 7) (N := some 36) (bqz 34 255) rfl rfl qzc (by decide) (fun K hK => ?_)
     refine goes_ Try.func64 (by kernel_rfl) rfl #[.int .i64 ((rd_T72 l0_2 x24_2).f1), .int .i64 1, .int .i64 1000] (by rfl) rfl rfl qz1 ?_
     with_reducible refine (impl_in.calls ((rd_T72 l0_2 x24_2).f1) 1 1000 true _ A18.out).mono ?_
     rintro e w' ⟨rfl, ⟨nd, rfl⟩⟩
     refine ⟨_, rfl, ?_⟩
     refine hK.out _ _ ⟨(blk_cell BK274.out 0).trans rfl, (blk_cell BK274.out 1).trans rfl, (blk_cell BK274.out 2).trans rfl⟩ (fun hHeld => ?_)
     clear hK K
     refine norm_ (a' := ?_) ?_ ?_
     rotate_left
     {
     show Act.put _ (some 36) _ = _
     simp only [qzs]
     rfl
     }
     refine pI_ 8 37 (bqz 34 511) ?_
     refine pI_ 9 38 (bqz 34 1023) ?_
     refine pI_ 10 39 (bqz 34 2047) ?_
     refine pI_ 11 40 (bqz 34 4095) ?_
     refine pI_ 13 42 (bqz 34 12287) ?_
     refine tI3_ 12 41 (bqz 34 16383) ?_
     refine tI3_ 14 43 (bqz 34 32767) ?_
     refine one_ (i := 15) (N := some 44) (bqz 34 65535) rfl rfl qzc (by decide) (fun K hK => ?_)
     refine goes_ Try.func64 (by kernel_rfl) rfl #[.int .i64 ((rd_T72 l0_2 x24_2).f2), .int .i64 0, .int .i64 ((rd_T72 l0_2 x24_2).f1)] (by rfl) rfl rfl qz1 ?_
     with_reducible refine (impl_in.calls ((rd_T72 l0_2 x24_2).f2) 0 ((rd_T72 l0_2 x24_2).f1) false _ A20.out).mono ?_
     rintro e w' ⟨rfl, ⟨nd, rfl⟩⟩
     refine ⟨_, rfl, ?_⟩
     refine hK.out _ _ ⟨(blk_cell BK274.out 0).trans rfl, (blk_cell BK274.out 1).trans rfl, (blk_cell BK274.out 2).trans rfl⟩ (fun hHeld => ?_)
     clear hK K
     refine norm_ (a' := ?_) ?_ ?_
     rotate_left
     {
     show Act.put _ (some 44) _ = _
     simp only [qzs]
     rfl
     }
     refine pI_ 16 45 (bqz 34 131071) ?_
     refine pI_ 17 46 (bqz 34 262143) ?_
     refine pI_ 18 47 (bqz 34 524287) ?_
     refine pU_ 19 48 (bqz 34 1048575) ?_
     refine pU_ 20 49 (bqz 34 2097151) ?_
     refine pU_ 21 50 (bqz 34 4194303) ?_
     refine pU_ 22 51 (bqz 34 8388607) ?_
     refine pU_ 23 52 (bqz 34 16777215) ?_
     refine pU_ 24 53 (bqz 34 33554431) ?_
     refine pU_ 25 54 (bqz 34 67108863) ?_
     refine pU_ 26 55 (bqz 34 134217727) ?_
     refine pU_ 27 56 (bqz 34 268435455) ?_
     refine pU_ 28 57 (bqz 34 536870911) ?_
     refine pU_ 29 58 (bqz 34 1073741823) ?_
     refine pU_ 30 59 (bqz 34 2147483647) ?_
     refine pU_ 31 60 (bqz 34 4294967295) ?_
     refine pU_ 32 61 (bqz 34 8589934591) ?_
     refine pI_ 33 62 (bqz 34 17179869183) ?_
     refine done_ (done_of HT_.out (by kernel_rfl)) ?_
     try go_wp2
     go_ret
     exact ⟨by first | rfl | (simp [errW_none, errW_some] <;> rfl) | (simp [*, errW_none, errW_some] <;> rfl), by repeat (first | (with_reducible first | exact HB.out | apply below_alloc | apply pw_below_drewN | apply below_drew1 | refine below_set ?_ GE270.out | refine below_set ?_ GE274.out) | exact HB.out)⟩
     }
     }
     {
     replace c19 := Bool.eq_false_iff.mpr c19
     subst c19
     rw [if_neg (show ¬ (false = true) by decide)] at H
     obtain rfl := Option.some.inj H
     simp only [Option.some.injEq, Prod.mk.injEq] at H
     obtain ⟨rfl⟩ := H
     have p273 : 0 ≤ (x24_2 : Int) := of_decide_eq_true qz4
     have q273 : x24_2 < (l0_2.length : Int) := of_decide_eq_true qz4
     obtain ⟨ad273, e273, hx273_0, hx273_1, hx273_2⟩ := at_T72 HR0_2.out x24_2 p273 q273
     cases e273
     replace hx273_0 := pw_cell_below HB.out hx273_0
     replace hx273_1 := pw_cell_below HB.out hx273_1
     replace hx273_2 := pw_cell_below HB.out hx273_2
     replace p273 := eq_true p273
     replace q273 := eq_true q273
     try go_wp2_with (first | ((with_reducible refine gate_dst (N := 4) rfl ?_); (try (refine gate_guard (by rfl) ?_; dsimp only)); refine bx_ 4 #[.int .i64 0, .int .i64 0, .int .i64 0] 72 ?_; intro gb274 hg w47 hbox hb; have n0_ := aM (blk_below (bk_ BK270.out) hb); have n1_ := aM (below_step qz19 hb); have n2_ := aM (hbox); have n3_ := aM ((by rw [hg]; exact (below_size qz19) : w.heap.size ≤ gb274)); have n4_ := aM ((by rw [hg]; exact (below_size qz19) : w.heap.size ≤ gb274)); have n5_ := aM ((by rw [hg]; exact Nat.ne_of_lt (blk_lt (bk_ BK270.out)) : gb270 ≠ gb274)); have n6_ := aM ((by rw [hg]; exact Nat.ne_of_gt (blk_lt (bk_ BK270.out)) : gb274 ≠ gb270)); clear BK270 HB; have BK270 := n0_; have HB := n1_; have BK274 := n2_; have GW274 := n3_; have GE274 := n4_; have NB270_274 := n5_; have NB274_270 := n6_; clear n0_ n1_ n2_ n3_ n4_ n5_ n6_; clear hb hbox hg; have hnb48 := NB274_270.out; have hnc48 := NB270_274.out; obtain ⟨hcz49_0, hcz49_1, hcz49_2, hfz49_0, hfz49_1, hfz49_2⟩ := b6_ BK274.out))
     generalize hq_ : (((w47.setCell ⟨gb274, 0, none⟩ (.int .i64 ((rd_T72 l0_2 x24_2).f0))).setCell ⟨gb274, 1, none⟩ (.int .i64 ((rd_T72 l0_2 x24_2).f1))).setCell ⟨gb274, 2, none⟩ (.int .i64 ((rd_T72 l0_2 x24_2).f2))) = w50
     have n0_ : Aside0 (w50.heap[gb270]? = some (.cells #[.int .i64 a0_0, .int .i64 a0_1, .slice (some ad273) l0_2.length c0_2] 79 (0, 0))) := ⟨by rw [← hq_]; exact qz21⟩
     have n1_ : Aside0 (w50.heap[gb274]? = some (.cells #[.int .i64 ((rd_T72 l0_2 x24_2).f0), .int .i64 ((rd_T72 l0_2 x24_2).f1), .int .i64 ((rd_T72 l0_2 x24_2).f2)] 72 (0, 0))) := ⟨by rw [← hq_]; exact (by (with_reducible repeat (first | refine blk_drewN ?_ _ | refine blk_drew ?_ | refine blk_alloc ?_ _)); refine blk_put (cs := #[.int .i64 ((rd_T72 l0_2 x24_2).f0), .int .i64 ((rd_T72 l0_2 x24_2).f1), .int .i64 0]) ?_ 2 _ rfl; (with_reducible repeat (first | refine blk_drewN ?_ _ | refine blk_drew ?_ | refine blk_alloc ?_ _)); refine blk_put (cs := #[.int .i64 ((rd_T72 l0_2 x24_2).f0), .int .i64 0, .int .i64 0]) ?_ 1 _ rfl; (with_reducible repeat (first | refine blk_drewN ?_ _ | refine blk_drew ?_ | refine blk_alloc ?_ _)); refine blk_put (cs := #[.int .i64 0, .int .i64 0, .int .i64 0]) ?_ 0 _ rfl; exact bk_ BK274.out)⟩
     have n2_ : Aside0 (Below w.heap.size w w50) := ⟨by rw [← hq_]; exact qz53⟩
     (try clear BK270)
     (try clear BK274)
     (try clear HB)
     clear hq_
     have BK270 := n0_
     have BK274 := n1_
     have HB := n2_
     clear n0_ n1_ n2_
     have n0_ := aM (blk_drew BK270.out)
     have n1_ := aM (blk_drew BK274.out)
     have n2_ := aM (below_drew1 HB.out)
     clear BK270
     clear BK274
     clear HB
     have BK270 := n0_
     have BK274 := n1_
     have HB := n2_
     clear n0_ n1_ n2_
     refine start_ (n := 34) (S := fun w' => w'.cell? ⟨gb274, 0, none⟩ = some (.int .i64 ((rd_T72 l0_2 x24_2).f0)) ∧ w'.cell? ⟨gb274, 1, none⟩ = some (.int .i64 ((rd_T72 l0_2 x24_2).f1)) ∧ w'.cell? ⟨gb274, 2, none⟩ = some (.int .i64 ((rd_T72 l0_2 x24_2).f2))) (ds := []) #[false, false, false, false, false, false, false, false, false, false, false, false, false, false, false, false, false, false, false, false, false, false, false, false, false, false, false, false, false, false, false, false, false, false] (by kernel_rfl) rfl rfl ⟨(blk_cell BK274.out 0).trans rfl, (blk_cell BK274.out 1).trans rfl, (blk_cell BK274.out 2).trans rfl⟩ (fun hHeld => ?_); refine with_tabW impl_podOk.tab6 impl_podOk.bits6 (fun HT_ HW_ => ?_)
     generalize w50.drew = w51 at BK270 BK274 HB hHeld ⊢
     refine pI_ 0 29 (bqz 34 1) ?_
     refine tI3_ 1 30 (bqz 34 3) ?_
     refine one_ (i := 2) (N := some 31) (bqz 34 7) rfl rfl qzc (by decide) (fun K hK => ?_)
     refine goes_ Try.func64 (by kernel_rfl) rfl #[.int .i64 ((rd_T72 l0_2 x24_2).f0), .int .i64 1, .int .i64 50] (by rfl) rfl rfl qz1 ?_
     with_reducible refine (impl_in.calls ((rd_T72 l0_2 x24_2).f0) 1 50 true _ A16.out).mono ?_
     rintro e w' ⟨rfl, ⟨nd, rfl⟩⟩
     refine ⟨_, rfl, ?_⟩
     refine hK.out _ _ ⟨(blk_cell BK274.out 0).trans rfl, (blk_cell BK274.out 1).trans rfl, (blk_cell BK274.out 2).trans rfl⟩ (fun hHeld => ?_)
     clear hK K
     refine norm_ (a' := ?_) ?_ ?_
     rotate_left
     {
     show Act.put _ (some 31) _ = _
     simp only [qzs]
     rfl
     }
     refine pI_ 3 32 (bqz 34 15) ?_
     refine pI_ 4 33 (bqz 34 31) ?_
     refine pI_ 5 34 (bqz 34 63) ?_
     refine tI3_ 6 35 (bqz 34 127) ?_
     refine one_ (i := 7) (N := some 36) (bqz 34 255) rfl rfl qzc (by decide) (fun K hK => ?_)
     refine goes_ Try.func64 (by kernel_rfl) rfl #[.int .i64 ((rd_T72 l0_2 x24_2).f1), .int .i64 1, .int .i64 1000] (by rfl) rfl rfl qz1 ?_
     with_reducible refine (impl_in.calls ((rd_T72 l0_2 x24_2).f1) 1 1000 false _ A18.out).mono ?_
     rintro e w' ⟨rfl, ⟨nd, rfl⟩⟩
     refine ⟨_, rfl, ?_⟩
     refine hK.out _ _ ⟨(blk_cell BK274.out 0).trans rfl, (blk_cell BK274.out 1).trans rfl, (blk_cell BK274.out 2).trans rfl⟩ (fun hHeld => ?_)
     clear hK K
     refine norm_ (a' := ?_) ?_ ?_
     rotate_left
     {
     show Act.put _ (some 36) _ = _
     simp only [qzs]
     rfl
     }
     refine pI_ 8 37 (bqz 34 511) ?_
     refine pI_ 9 38 (bqz 34 1023) ?_
     refine pI_ 10 39 (bqz 34 2047) ?_
     refine pU_ 11 40 (bqz 34 4095) ?_
     refine pU_ 12 41 (bqz 34 8191) ?_
     refine pU_ 13 42 (bqz 34 16383) ?_
     refine pU_ 14 43 (bqz 34 32767) ?_
     refine pU_ 15 44 (bqz 34 65535) ?_
     refine pU_ 16 45 (bqz 34 131071) ?_
     refine pI_ 17 46 (bqz 34 262143) ?_
     refine pI_ 18 47 (bqz 34 524287) ?_
     refine pU_ 19 48 (bqz 34 1048575) ?_
     refine pU_ 20 49 (bqz 34 2097151) ?_
     refine pU_ 21 50 (bqz 34 4194303) ?_
     refine pU_ 22 51 (bqz 34 8388607) ?_
     refine pU_ 23 52 (bqz 34 16777215) ?_
     refine pU_ 24 53 (bqz 34 33554431) ?_
     refine pU_ 25 54 (bqz 34 67108863) ?_
     refine pU_ 26 55 (bqz 34 134217727) ?_
     refine pU_ 27 56 (bqz 34 268435455) ?_
     refine pU_ 28 57 (bqz 34 536870911) ?_
     refine pU_ 29 58 (bqz 34 1073741823) ?_
     refine pU_ 30 59 (bqz 34 2147483647) ?_
     refine pU_ 31 60 (bqz 34 4294967295) ?_
     refine pU_ 32 61 (bqz 34 8589934591) ?_
     refine pI_ 33 62 (bqz 34 17179869183) ?_
     refine done_ (done_of HT_.out (by kernel_rfl)) ?_
     try go_wp2
     go_ret
     exact ⟨by first | rfl | (simp [errW_none, errW_some] <;> rfl) | (simp [*, errW_none, errW_some] <;> rfl), by repeat (first | (with_reducible first | exact HB.out | apply below_alloc | apply pw_below_drewN | apply below_drew1 | refine below_set ?_ GE270.out | refine below_set ?_ GE274.out) | exact HB.out)⟩
     }
     }
     {
     replace c17 := Bool.eq_false_iff.mpr c17
     subst c17
     rw [if_neg (show ¬ (false = true) by decide)] at H
     obtain rfl := Option.some.inj H
     simp only [Option.some.injEq, Prod.mk.injEq] at H
     obtain ⟨rfl⟩ := H
     have p273 : 0 ≤ (x24_2 : Int) := of_decide_eq_true qz4
     have q273 : x24_2 < (l0_2.length : Int) := of_decide_eq_true qz4
     obtain ⟨ad273, e273, hx273_0, hx273_1, hx273_2⟩ := at_T72 HR0_2.out x24_2 p273 q273
     cases e273
     replace hx273_0 := pw_cell_below HB.out hx273_0
     replace hx273_1 := pw_cell_below HB.out hx273_1
     replace hx273_2 := pw_cell_below HB.out hx273_2
     replace p273 := eq_true p273
     replace q273 := eq_true q273
     try go_wp2_with (first | ((with_reducible refine gate_dst (N := 4) rfl ?_); (try (refine gate_guard (by rfl) ?_; dsimp only)); refine bx_ 4 #[.int .i64 0, .int .i64 0, .int .i64 0] 72 ?_; intro gb274 hg w52 hbox hb; have n0_ := aM (blk_below (bk_ BK270.out) hb); have n1_ := aM (below_step qz19 hb); have n2_ := aM (hbox); have n3_ := aM ((by rw [hg]; exact (below_size qz19) : w.heap.size ≤ gb274)); have n4_ := aM ((by rw [hg]; exact (below_size qz19) : w.heap.size ≤ gb274)); have n5_ := aM ((by rw [hg]; exact Nat.ne_of_lt (blk_lt (bk_ BK270.out)) : gb270 ≠ gb274)); have n6_ := aM ((by rw [hg]; exact Nat.ne_of_gt (blk_lt (bk_ BK270.out)) : gb274 ≠ gb270)); clear BK270 HB; have BK270 := n0_; have HB := n1_; have BK274 := n2_; have GW274 := n3_; have GE274 := n4_; have NB270_274 := n5_; have NB274_270 := n6_; clear n0_ n1_ n2_ n3_ n4_ n5_ n6_; clear hb hbox hg; have hnb53 := NB274_270.out; have hnc53 := NB270_274.out; obtain ⟨hcz54_0, hcz54_1, hcz54_2, hfz54_0, hfz54_1, hfz54_2⟩ := b6_ BK274.out))
     generalize hq_ : (((w52.setCell ⟨gb274, 0, none⟩ (.int .i64 ((rd_T72 l0_2 x24_2).f0))).setCell ⟨gb274, 1, none⟩ (.int .i64 ((rd_T72 l0_2 x24_2).f1))).setCell ⟨gb274, 2, none⟩ (.int .i64 ((rd_T72 l0_2 x24_2).f2))) = w55
     have n0_ : Aside0 (w55.heap[gb270]? = some (.cells #[.int .i64 a0_0, .int .i64 a0_1, .slice (some ad273) l0_2.length c0_2] 79 (0, 0))) := ⟨by rw [← hq_]; exact qz21⟩
     have n1_ : Aside0 (w55.heap[gb274]? = some (.cells #[.int .i64 ((rd_T72 l0_2 x24_2).f0), .int .i64 ((rd_T72 l0_2 x24_2).f1), .int .i64 ((rd_T72 l0_2 x24_2).f2)] 72 (0, 0))) := ⟨by rw [← hq_]; exact (by (with_reducible repeat (first | refine blk_drewN ?_ _ | refine blk_drew ?_ | refine blk_alloc ?_ _)); refine blk_put (cs := #[.int .i64 ((rd_T72 l0_2 x24_2).f0), .int .i64 ((rd_T72 l0_2 x24_2).f1), .int .i64 0]) ?_ 2 _ rfl; (with_reducible repeat (first | refine blk_drewN ?_ _ | refine blk_drew ?_ | refine blk_alloc ?_ _)); refine blk_put (cs := #[.int .i64 ((rd_T72 l0_2 x24_2).f0), .int .i64 0, .int .i64 0]) ?_ 1 _ rfl; (with_reducible repeat (first | refine blk_drewN ?_ _ | refine blk_drew ?_ | refine blk_alloc ?_ _)); refine blk_put (cs := #[.int .i64 0, .int .i64 0, .int .i64 0]) ?_ 0 _ rfl; exact bk_ BK274.out)⟩
     have n2_ : Aside0 (Below w.heap.size w w55) := ⟨by rw [← hq_]; exact qz53⟩
     (try clear BK270)
     (try clear BK274)
     (try clear HB)
     clear hq_
     have BK270 := n0_
     have BK274 := n1_
     have HB := n2_
     clear n0_ n1_ n2_
     have n0_ := aM (blk_drew BK270.out)
     have n1_ := aM (blk_drew BK274.out)
     have n2_ := aM (below_drew1 HB.out)
     clear BK270
     clear BK274
     clear HB
     have BK270 := n0_
     have BK274 := n1_
     have HB := n2_
     clear n0_ n1_ n2_
     refine start_ (n := 34) (S := fun w' => w'.cell? ⟨gb274, 0, none⟩ = some (.int .i64 ((rd_T72 l0_2 x24_2).f0)) ∧ w'.cell? ⟨gb274, 1, none⟩ = some (.int .i64 ((rd_T72 l0_2 x24_2).f1)) ∧ w'.cell? ⟨gb274, 2, none⟩ = some (.int .i64 ((rd_T72 l0_2 x24_2).f2))) (ds := []) #[false, false, false, false, false, false, false, false, false, false, false, false, false, false, false, false, false, false, false, false, false, false, false, false, false, false, false, false, false, false, false, false, false, false] (by kernel_rfl) rfl rfl ⟨(blk_cell BK274.out 0).trans rfl, (blk_cell BK274.out 1).trans rfl, (blk_cell BK274.out 2).trans rfl⟩ (fun hHeld => ?_); refine with_tabW impl_podOk.tab6 impl_podOk.bits6 (fun HT_ HW_ => ?_)
     generalize w55.drew = w56 at BK270 BK274 HB hHeld ⊢
     refine pI_ 0 29 (bqz 34 1) ?_
     refine tI3_ 1 30 (bqz 34 3) ?_
     refine one_ (i := 2) (N := some 31) (bqz 34 7) rfl rfl qzc (by decide) (fun K hK => ?_)
     refine goes_ Try.func64 (by kernel_rfl) rfl #[.int .i64 ((rd_T72 l0_2 x24_2).f0), .int .i64 1, .int .i64 50] (by rfl) rfl rfl qz1 ?_
     with_reducible refine (impl_in.calls ((rd_T72 l0_2 x24_2).f0) 1 50 false _ A16.out).mono ?_
     rintro e w' ⟨rfl, ⟨nd, rfl⟩⟩
     refine ⟨_, rfl, ?_⟩
     refine hK.out _ _ ⟨(blk_cell BK274.out 0).trans rfl, (blk_cell BK274.out 1).trans rfl, (blk_cell BK274.out 2).trans rfl⟩ (fun hHeld => ?_)
     clear hK K
     refine norm_ (a' := ?_) ?_ ?_
     rotate_left
     {
     show Act.put _ (some 31) _ = _
     simp only [qzs]
     rfl
     }
     refine pI_ 3 32 (bqz 34 15) ?_
     refine pI_ 4 33 (bqz 34 31) ?_
     refine pU_ 5 34 (bqz 34 63) ?_
     refine pU_ 6 35 (bqz 34 127) ?_
     refine pU_ 7 36 (bqz 34 255) ?_
     refine pU_ 8 37 (bqz 34 511) ?_
     refine pI_ 9 38 (bqz 34 1023) ?_
     refine pI_ 10 39 (bqz 34 2047) ?_
     refine pU_ 11 40 (bqz 34 4095) ?_
     refine pU_ 12 41 (bqz 34 8191) ?_
     refine pU_ 13 42 (bqz 34 16383) ?_
     refine pU_ 14 43 (bqz 34 32767) ?_
     refine pU_ 15 44 (bqz 34 65535) ?_
     refine pU_ 16 45 (bqz 34 131071) ?_
     refine pI_ 17 46 (bqz 34 262143) ?_
     refine pI_ 18 47 (bqz 34 524287) ?_
     refine pU_ 19 48 (bqz 34 1048575) ?_
     refine pU_ 20 49 (bqz 34 2097151) ?_
     refine pU_ 21 50 (bqz 34 4194303) ?_
     refine pU_ 22 51 (bqz 34 8388607) ?_
     refine pU_ 23 52 (bqz 34 16777215) ?_
     refine pU_ 24 53 (bqz 34 33554431) ?_
     refine pU_ 25 54 (bqz 34 67108863) ?_
     refine pU_ 26 55 (bqz 34 134217727) ?_
     refine pU_ 27 56 (bqz 34 268435455) ?_
     refine pU_ 28 57 (bqz 34 536870911) ?_
     refine pU_ 29 58 (bqz 34 1073741823) ?_
     refine pU_ 30 59 (bqz 34 2147483647) ?_
     refine pU_ 31 60 (bqz 34 4294967295) ?_
     refine pU_ 32 61 (bqz 34 8589934591) ?_
     refine pI_ 33 62 (bqz 34 17179869183) ?_
     refine done_ (done_of HT_.out (by kernel_rfl)) ?_
     try go_wp2
     go_ret
     exact ⟨by first | rfl | (simp [errW_none, errW_some] <;> rfl) | (simp [*, errW_none, errW_some] <;> rfl), by repeat (first | (with_reducible first | exact HB.out | apply below_alloc | apply pw_below_drewN | apply below_drew1 | refine below_set ?_ GE270.out | refine below_set ?_ GE274.out) | exact HB.out)⟩
     }
     }
     {
     rw [if_neg c15] at H
     exact absurd H (by simp)
     }
     }
     {
     rw [if_neg c14] at H
     exact absurd H (by simp)
     }
     }
     {
     rw [if_neg c13] at H
     have c13b0 := decide_eq_false c13
     clear c13
     obtain rfl := Option.some.inj H
     simp only [Option.some.injEq, Prod.mk.injEq] at H
     obtain ⟨rfl⟩ := H
     go_wp2
     go_ret
     exact ⟨by first | rfl | (simp [errW_none, errW_some] <;> rfl) | (simp [*, errW_none, errW_some] <;> rfl), by repeat (first | (with_reducible first | exact HB.out | apply below_alloc | apply pw_below_drewN | apply below_drew1 | refine below_set ?_ GE270.out) | exact HB.out)⟩

     }
   }
end Go.Proofs.Yteajnkondkfmgaa.PFnHeld
