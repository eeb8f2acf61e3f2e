-- Made by a program of this session out of the translation. Lean checks it.
import Derived.Test.YteajnkondkfmgaaPFnEachx2
namespace Go.Proofs.Yteajnkondkfmgaa.PFnEach
open Go.RowKit Go.Proofs.YteajnkondkfmgaaW.PrintWords Go.Proofs.YteajnkondkfmgaaW.PrintLast Go.Proofs.YteajnkondkfmgaaW.PrintMore
attribute [local go_sem] max2_int min2_int max_two min_two max_three min_three max_four min_four   -- for this text's walks alone
set_option linter.unusedVariables false
set_option linter.unusedSimpArgs false

/-! ### impl_podOk: function 66 -/
mutual
def impl_podOk.j0 : Nat → Bool → Int → Int → List (S72) → Option (Bool)
 | 0, _, _, _, _ => none
 | k + 1, x20, x124000, x124001, x124002 => if x20 = true then (some false) else (impl_podOk.l0 k x124002 (x124002.length : Int) 0 x124000 x124001 x124002)
def impl_podOk.l0 : Nat → List (S72) → Int → Int → Int → Int → List (S72) → Option (Bool)
 | 0, _, _, _, _, _, _ => none
 | k + 1, x22, x23, x24, x124000, x124001, x124002 => if x24 < x23 then (if 0 ≤ x24 then (if x24 < (x22.length : Int) then ((impl_in.f ((rd_T72 x22 x24).f0) 1 50).bind fun t128 => (if t128 = true then ((impl_in.f ((rd_T72 x22 x24).f1) 1 1000).bind fun t129 => (if t129 = true then ((impl_in.f ((rd_T72 x22 x24).f2) 0 ((rd_T72 x22 x24).f1)).bind fun t130 => (if t130 = true then (if x24 > 0 then (if 0 ≤ (wrap64 (x24 - 1)) then (if (wrap64 (x24 - 1)) < (x124002.length : Int) then (if ((rd_T72 x124002 (wrap64 (x24 - 1))).f0) ≥ ((rd_T72 x22 x24).f0) then (some false) else (impl_podOk.l0 k x22 x23 (wrap64 (x24 + 1)) x124000 x124001 x124002)) else (none)) else (none)) else (impl_podOk.l0 k x22 x23 (wrap64 (x24 + 1)) x124000 x124001 x124002)) else (some false))) else (some false))) else (some false))) else (none)) else (none)) else (some true)
end
def impl_podOk.f (k : Nat) (a0_0 : Int) (a0_1 : Int) (l0_2 : List (S72)) : Option (Bool) := (impl_in.f a0_0 1 999).bind fun t124 => (if t124 = true then ((impl_in.f a0_1 0 99).bind fun t125 => (if t125 = true then (impl_podOk.j0 k (decide ((l0_2.length : Int) > 8)) a0_0 a0_1 l0_2) else (impl_podOk.j0 k true a0_0 a0_1 l0_2))) else (impl_podOk.j0 k true a0_0 a0_1 l0_2))
theorem impl_podOk.mono_l : ∀ k, (∀ y0 y1 y2 y3, LeO (impl_podOk.j0 k y0 y1 y2 y3) (impl_podOk.j0 (k + 1) y0 y1 y2 y3)) ∧ (∀ y0 y1 y2 y3 y4 y5, LeO (impl_podOk.l0 k y0 y1 y2 y3 y4 y5) (impl_podOk.l0 (k + 1) y0 y1 y2 y3 y4 y5))
 | 0 => ⟨fun _ _ _ _ r h => by simp [impl_podOk.j0] at h, fun _ _ _ _ _ _ r h => by simp [impl_podOk.l0] at h⟩
 | k + 1 => by
  obtain ⟨ih0, ih1⟩ := impl_podOk.mono_l k
  refine ⟨?_, ?_⟩
  {
  intro y0 y1 y2 y3
  unfold impl_podOk.j0
  exact qL
  }
  {
  intro y0 y1 y2 y3 y4 y5
  unfold impl_podOk.l0
  exact qL
  }
theorem impl_podOk.mono : ∀ a0 a1 a2 k, LeO (impl_podOk.f k a0 a1 a2) (impl_podOk.f (k + 1) a0 a1 a2) := by
 intro a0 a1 a2 k
 obtain ⟨ih0, ih1⟩ := impl_podOk.mono_l k
 unfold impl_podOk.f
 exact qL
def impl_podOk.T6 : Bool × List (List Nat × List Nat) := (true, [([], []), ([0], [0]), ([1], [1]), ([2], [2]), ([3, 2], [3]), ([4], [4]), ([5, 4], [4, 5]), ([6, 4, 4], [4, 6]), ([7, 4], [4, 7]), ([4, 8], [4, 8]), ([9, 7], [9]), ([10], [10]), ([11, 10], [10, 11]), ([10], [10]), ([13, 10], [10, 13]), ([12, 14, 10, 10], [10, 12, 14]), ([15, 10], [10, 15]), ([10, 16], [10, 16]), ([17, 15], [17]), ([18], [18]), ([19, 18], [18, 19]), ([20, 18, 18], [18, 20]), ([21], [21]), ([22, 21], [21, 22]), ([21], [21]), ([24, 21], [21, 24]), ([23, 25, 21], [21, 23, 25]), ([26, 21], [21, 26]), ([27, 21], [21, 27]), ([21], [21]), ([29, 21], [21, 29]), ([28, 30, 21], [21, 28, 30]), ([21, 31, 18], [18, 21, 31]), ([18, 32], [18, 32])])
def impl_podOk.B6 : List Nat := [0, 1, 3, 7, 15, 31, 63, 127, 255, 511, 1023, 2047, 4095, 2047, 10239, 32767, 65535, 131071, 262143, 524287, 1048575, 2097151, 4194303, 8388607, 4194303, 20971519, 67108863, 134217727, 268435455, 4194303, 541065215, 2147483647, 4294967295, 8589934591]
theorem impl_podOk.tab6 : rtab .any (opsOf Try.f66 6) = impl_podOk.T6 := by kernel_rfl
theorem impl_podOk.bits6 : waitsOk impl_podOk.T6.2 impl_podOk.B6 = true := by kernel_rfl
set_option maxHeartbeats 8000000 in
set_option maxRecDepth 100000 in
theorem impl_podOk.calls (k : Nat) (a0_0 : Int) (a0_1 : Int) (A0_2 : Option Addr) (c0_2 : Nat) (l0_2 : List (S72)) (r : Bool) (w : World) (hr0_2 : Kd.C k72 w A0_2 l0_2.length l0_2) (hc0_2 : l0_2.length ≤ c0_2) (h : impl_podOk.f k a0_0 a0_1 l0_2 = some r) :
  Calls Try.prog 66 #[.agg #[.int .i64 a0_0, .int .i64 a0_1, .slice A0_2 l0_2.length c0_2]] w fun e w' => e = .returned (.bool r) ∧ Below w.heap.size w w' := by
 have hu79 := Try.underlying79
 have hu72 := Try.underlying72
 have HR0_2 := aM hr0_2
 have HC0_2 := aM hc0_2
 clear hr0_2 hc0_2
 have HB := aM (Below.refl w.heap.size w)
 have H : ((impl_in.f a0_0 1 999).bind fun t124 => (if t124 = true then ((impl_in.f a0_1 0 99).bind fun t125 => (if t125 = true then (impl_podOk.j0 k (decide ((l0_2.length : Int) > 8)) a0_0 a0_1 l0_2) else (impl_podOk.j0 k true a0_0 a0_1 l0_2))) else (impl_podOk.j0 k true a0_0 a0_1 l0_2))) = some r := h
 clear h
 have HC2 := aM H
 clear H
 go_enter Try.func66, Try.ntmps66
 go_upto_region 1 with (first | ((with_reducible refine gate_dst (N := 1) rfl ?_); (try (refine gate_guard (by rfl) ?_; dsimp only)); refine bx_ 1 #[.int .i64 a0_0, .int .i64 a0_1, .slice A0_2 l0_2.length c0_2] 79 ?_; intro gb123 hg w3 hbox hb; have BK123 := aM (hbox); have GW123 := aM (bz_ w hg qz1); have GE123 := GW123; replace HB := bS_ hb; clear hb hbox hg))
 (try simp only [Act.put, List.setIfInBounds_toArray, List.set_cons_zero, List.set_cons_succ])
 go_cut [20] (fun v20 wc => ∃ (kq : Nat) (x20_1 : Bool), v20 = .bool x20_1 ∧ Aside0 (impl_podOk.j0 kq x20_1 a0_0 a0_1 l0_2 = some r) ∧ Aside0 (kq ≤ k) ∧ Aside0 (wc.heap[gb123]? = some (.cells #[.int .i64 a0_0, .int .i64 a0_1, (.slice A0_2 l0_2.length c0_2)] 79 (0, 0))) ∧ Aside0 (Below w.heap.size w wc))
 case first =>
  have H := HC2.out
  clear HC2
  replace H := Option.bind_eq_some_iff.mp H
  obtain ⟨t124, A40, H⟩ := H
  replace H : (if t124 = true then ((impl_in.f a0_1 0 99).bind fun t125 => (if t125 = true then (impl_podOk.j0 k (decide ((l0_2.length : Int) > 8)) a0_0 a0_1 l0_2) else (impl_podOk.j0 k true a0_0 a0_1 l0_2))) else (impl_podOk.j0 k true a0_0 a0_1 l0_2)) = some r := H
  have A4 := aM A40
  clear A40
  by_cases c5 : t124 = true
  {
  subst c5
  rw [if_pos rfl] at H
  replace H := Option.bind_eq_some_iff.mp H
  obtain ⟨t125, A60, H⟩ := H
  replace H : (if t125 = true then (impl_podOk.j0 k (decide ((l0_2.length : Int) > 8)) a0_0 a0_1 l0_2) else (impl_podOk.j0 k true a0_0 a0_1 l0_2)) = some r := H
  have A6 := aM A60
  clear A60
  by_cases c7 : t125 = true
  {
  subst c7
  rw [if_pos rfl] at H
  have H' := aM H
  clear H
  obtain ⟨hcz8_0, hcz8_1, hcz8_2, hfz8_0, hfz8_1, hfz8_2⟩ := b6_ BK123.out
  go_wp2_with (first | ((with_reducible refine gate_callee (f := 64) rfl ?_); refine goesL_ (some 7) rfl rfl Try.func64 (by kernel_rfl) rfl #[.int .i64 a0_0, .int .i64 1, .int .i64 999] rfl qz4 ?_; (with_reducible refine (impl_in.calls a0_0 1 999 true _ A4.out).mono ?_); rintro e w' ⟨rfl, ⟨nd, rfl⟩⟩; refine ⟨_, rfl, ?_⟩) | (go_at_call 64; (with_reducible refine (impl_in.calls a0_1 0 99 true _ A6.out).mono ?_); rintro e w' ⟨rfl, ⟨nd, rfl⟩⟩))
  go_meet
  case rel => exact ⟨_, (decide ((l0_2.length : Int) > 8)), qz5, H', ⟨by first | omega | exact Nat.le_refl _⟩, ⟨bk_ BK123.out⟩, ⟨qz1⟩⟩
  }
  {
  replace c7 := Bool.eq_false_iff.mpr c7
  subst c7
  rw [if_neg (show ¬ (false = true) by decide)] at H
  have H' := aM H
  clear H
  obtain ⟨hcz9_0, hcz9_1, hcz9_2, hfz9_0, hfz9_1, hfz9_2⟩ := b6_ BK123.out
  go_wp2_with (first | ((with_reducible refine gate_callee (f := 64) rfl ?_); refine goesL_ (some 7) rfl rfl Try.func64 (by kernel_rfl) rfl #[.int .i64 a0_0, .int .i64 1, .int .i64 999] rfl qz4 ?_; (with_reducible refine (impl_in.calls a0_0 1 999 true _ A4.out).mono ?_); rintro e w' ⟨rfl, ⟨nd, rfl⟩⟩; refine ⟨_, rfl, ?_⟩) | (go_at_call 64; (with_reducible refine (impl_in.calls a0_1 0 99 false _ A6.out).mono ?_); rintro e w' ⟨rfl, ⟨nd, rfl⟩⟩))
  go_meet
  case rel => exact ⟨_, (true), qz5, H', ⟨by first | omega | exact Nat.le_refl _⟩, ⟨bk_ BK123.out⟩, ⟨qz1⟩⟩
  }
  }
  {
  replace c5 := Bool.eq_false_iff.mpr c5
  subst c5
  rw [if_neg (show ¬ (false = true) by decide)] at H
  have H' := aM H
  clear H
  obtain ⟨hcz10_0, hcz10_1, hcz10_2, hfz10_0, hfz10_1, hfz10_2⟩ := b6_ BK123.out
  go_wp2_with (first | ((with_reducible refine gate_callee (f := 64) rfl ?_); refine goesL_ (some 7) rfl rfl Try.func64 (by kernel_rfl) rfl #[.int .i64 a0_0, .int .i64 1, .int .i64 999] rfl qz4 ?_; (with_reducible refine (impl_in.calls a0_0 1 999 false _ A4.out).mono ?_); rintro e w' ⟨rfl, ⟨nd, rfl⟩⟩; refine ⟨_, rfl, ?_⟩))
  go_meet
  case rel => exact ⟨_, (true), qz5, H', ⟨by first | omega | exact Nat.le_refl _⟩, ⟨bk_ BK123.out⟩, ⟨qz1⟩⟩
  }
 case rest =>
  clear HC2
  try clear p2
  try clear c5
  try clear c6
  try clear c7
  try clear hcz10_0 hcz10_1 hcz10_2 hfz10_0 hfz10_1 hfz10_2
  try clear hcz8_0 hcz8_1 hcz8_2 hfz8_0 hfz8_1 hfz8_2
  try clear hcz9_0 hcz9_1 hcz9_2 hfz9_0 hfz9_1 hfz9_2
  obtain ⟨kq, x20_1, rfl, HA, HJ1, BK123, HB⟩ := hcut
  cases kq with
  | zero => exact absurd HA.out (by simp [impl_podOk.j0])
  | succ kj1 =>
   have H := HA.out
   clear HA
   simp only [impl_podOk.j0] at H
   by_cases c11 : x20_1 = true
   {
   subst c11
   rw [if_pos rfl] at H
   obtain rfl := Option.some.inj H
   simp only [Option.some.injEq, Prod.mk.injEq] at H
   obtain ⟨rfl⟩ := H
   go_wp2
   go_ret
   exact ⟨qzw, qz1⟩
   }
   {
   replace c11 := Bool.eq_false_iff.mpr c11
   subst c11
   rw [if_neg (show ¬ (false = true) by decide)] at H
   have H' := aM H
   clear H
   obtain ⟨hcz12_0, hcz12_1, hcz12_2, hfz12_0, hfz12_1, hfz12_2⟩ := b6_ BK123.out
   go_wp2
   go_loopg [24] kj1 (fun kq v24 w' => ∃ (x24_2 : Int), v24 = .int .i64 x24_2 ∧ Aside0 (impl_podOk.l0 kq l0_2 (l0_2.length : Int) x24_2 a0_0 a0_1 l0_2 = some r) ∧ Aside0 (kq ≤ kj1) ∧ Aside0 (w'.heap[gb123]? = some (.cells #[.int .i64 a0_0, .int .i64 a0_1, (.slice A0_2 l0_2.length c0_2)] 79 (0, 0))) ∧ Aside0 (Below w.heap.size w w'))
   case atStart => exact ⟨(0), qz5, H', ⟨Nat.le_refl _⟩, ⟨bk_ BK123.out⟩, ⟨qz1⟩⟩
   case round =>
    clear H'
    try clear c1
    try clear p2
    try clear c5
    try clear c6
    try clear c7
    try clear c11
    try clear hcz10_0 hcz10_1 hcz10_2 hfz10_0 hfz10_1 hfz10_2
    try clear hcz12_0 hcz12_1 hcz12_2 hfz12_0 hfz12_1 hfz12_2
    try clear hcz8_0 hcz8_1 hcz8_2 hfz8_0 hfz8_1 hfz8_2
    try clear hcz9_0 hcz9_1 hcz9_2 hfz9_0 hfz9_1 hfz9_2
    obtain ⟨x24_2, rfl, HA, HK2, BK123, HB⟩ := hrel
    cases gk with
    | zero => exact absurd HA.out (by simp [impl_podOk.l0])
    | succ k2 =>
     have H := HA.out
     clear HA
     simp only [impl_podOk.l0] at H
     by_cases c13 : x24_2 < (l0_2.length : Int)
     {
     rw [if_pos c13] at H
     have c13b0 := decide_eq_true c13
     clear c13
     by_cases c14 : 0 ≤ x24_2
     {
     rw [if_pos c14] at H
     have c14b0 := decide_eq_true c14
     clear c14
     by_cases c15 : x24_2 < (l0_2.length : Int)
     {
     rw [if_pos c15] at H
     have c15b0 := decide_eq_true c15
     clear c15
     replace H := Option.bind_eq_some_iff.mp H
     obtain ⟨t128, A160, H⟩ := H
     replace H : (if t128 = true then ((impl_in.f ((rd_T72 l0_2 x24_2).f1) 1 1000).bind fun t129 => (if t129 = true then ((impl_in.f ((rd_T72 l0_2 x24_2).f2) 0 ((rd_T72 l0_2 x24_2).f1)).bind fun t130 => (if t130 = true then (if x24_2 > 0 then (if 0 ≤ (wrap64 (x24_2 - 1)) then (if (wrap64 (x24_2 - 1)) < (l0_2.length : Int) then (if ((rd_T72 l0_2 (wrap64 (x24_2 - 1))).f0) ≥ ((rd_T72 l0_2 x24_2).f0) then (some false) else (impl_podOk.l0 k2 l0_2 (l0_2.length : Int) (wrap64 (x24_2 + 1)) a0_0 a0_1 l0_2)) else (none)) else (none)) else (impl_podOk.l0 k2 l0_2 (l0_2.length : Int) (wrap64 (x24_2 + 1)) a0_0 a0_1 l0_2)) else (some false))) else (some false))) else (some false)) = some r := H
     have A16 := aM A160
     clear A160
     by_cases c17 : t128 = true
     {
     subst c17
     rw [if_pos rfl] at H
     replace H := Option.bind_eq_some_iff.mp H
     obtain ⟨t129, A180, H⟩ := H
     replace H : (if t129 = true then ((impl_in.f ((rd_T72 l0_2 x24_2).f2) 0 ((rd_T72 l0_2 x24_2).f1)).bind fun t130 => (if t130 = true then (if x24_2 > 0 then (if 0 ≤ (wrap64 (x24_2 - 1)) then (if (wrap64 (x24_2 - 1)) < (l0_2.length : Int) then (if ((rd_T72 l0_2 (wrap64 (x24_2 - 1))).f0) ≥ ((rd_T72 l0_2 x24_2).f0) then (some false) else (impl_podOk.l0 k2 l0_2 (l0_2.length : Int) (wrap64 (x24_2 + 1)) a0_0 a0_1 l0_2)) else (none)) else (none)) else (impl_podOk.l0 k2 l0_2 (l0_2.length : Int) (wrap64 (x24_2 + 1)) a0_0 a0_1 l0_2)) else (some false))) else (some false)) = some r := H
     have A18 := aM A180
     clear A180
     by_cases c19 : t129 = true
     {
     subst c19
     rw [if_pos rfl] at H
     replace H := Option.bind_eq_some_iff.mp H
     obtain ⟨t130, A200, H⟩ := H
     replace H : (if t130 = true then (if x24_2 > 0 then (if 0 ≤ (wrap64 (x24_2 - 1)) then (if (wrap64 (x24_2 - 1)) < (l0_2.length : Int) then (if ((rd_T72 l0_2 (wrap64 (x24_2 - 1))).f0) ≥ ((rd_T72 l0_2 x24_2).f0) then (some false) else (impl_podOk.l0 k2 l0_2 (l0_2.length : Int) (wrap64 (x24_2 + 1)) a0_0 a0_1 l0_2)) else (none)) else (none)) else (impl_podOk.l0 k2 l0_2 (l0_2.length : Int) (wrap64 (x24_2 + 1)) a0_0 a0_1 l0_2)) else (some false)) = some r := H
     have A20 := aM A200
     clear A200
     by_cases c21 : t130 = true
     {
     subst c21
     rw [if_pos rfl] at H
     by_cases c22 : x24_2 > 0
     {
     rw [if_pos c22] at H
     have c22b0 := decide_eq_true c22
     clear c22
     obtain ⟨ji23, hji23⟩ : ∃ j_ : Int, (wrap64 (x24_2 - 1)) = j_ := ⟨_, rfl⟩
     replace H : (if 0 ≤ (ji23) then (if (ji23) < (l0_2.length : Int) then (if ((rd_T72 l0_2 (ji23)).f0) ≥ ((rd_T72 l0_2 x24_2).f0) then (some false) else (impl_podOk.l0 k2 l0_2 (l0_2.length : Int) (wrap64 (x24_2 + 1)) a0_0 a0_1 l0_2)) else (none)) else (none)) = some r := by first | (rw [hji23] at H; exact H) | (simp only [hji23] at H ⊢; exact H)
     (try rw [hji23] at A16)
     (try rw [hji23] at A18)
     (try rw [hji23] at A20)
     have hji23w : (IntKind.i64.wrap (x24_2 - 1)) = ji23 := (i64_w _).trans hji23
     by_cases c24 : 0 ≤ (ji23)
     {
     rw [if_pos c24] at H
     have c24b0 := decide_eq_true c24
     clear c24
     by_cases c25 : (ji23) < (l0_2.length : Int)
     {
     rw [if_pos c25] at H
     have c25b0 := decide_eq_true c25
     clear c25
     by_cases c26 : ((rd_T72 l0_2 (ji23)).f0) ≥ ((rd_T72 l0_2 x24_2).f0)
     {
     rw [if_pos c26] at H
     have c26b0 := decide_eq_true c26
     clear c26
     obtain rfl := Option.some.inj H
     simp only [Option.some.injEq, Prod.mk.injEq] at H
     obtain ⟨rfl⟩ := H
     have p126 : 0 ≤ (x24_2 : Int) := dt_
     have q126 : x24_2 < (l0_2.length : Int) := dt_
     obtain ⟨ad126, e126, hx126_0, hx126_1, hx126_2⟩ := at_T72 HR0_2.out x24_2 p126 q126
     cases e126
     replace hx126_0 := cB_ hx126_0
     replace hx126_1 := cB_ hx126_1
     replace hx126_2 := cB_ hx126_2
     replace p126 := eq_true p126
     replace q126 := eq_true q126
     try go_wp2_with (first | ((with_reducible refine gate_dst (N := 4) rfl ?_); (try (refine gate_guard (by rfl) ?_; dsimp only)); refine bx_ 4 #[.int .i64 0, .int .i64 0, .int .i64 0] 72 ?_; intro gb127 hg w27 hbox hb; have BK127 := aM (hbox); have GW127 := aM (bz_ w hg qz1); have GE127 := GW127; replace HB := bS_ hb; obtain ⟨NB123_127, NB127_123⟩ := nb_ hg (bk_ BK123.out); replace BK123 := bB_ BK123 hb; clear hb hbox hg; have hnb28 := NB127_123.out; have hnc28 := NB123_127.out; obtain ⟨hcz29_0, hcz29_1, hcz29_2, hfz29_0, hfz29_1, hfz29_2⟩ := b6_ BK127.out))
     generalize hq_ : (((w27.setCell ⟨gb127, 0, none⟩ (.int .i64 ((rd_T72 l0_2 x24_2).f0))).setCell ⟨gb127, 1, none⟩ (.int .i64 ((rd_T72 l0_2 x24_2).f1))).setCell ⟨gb127, 2, none⟩ (.int .i64 ((rd_T72 l0_2 x24_2).f2))) = w30
     replace BK123 : Aside0 (w30.heap[gb123]? = some (.cells #[.int .i64 a0_0, .int .i64 a0_1, .slice (some ad126) l0_2.length c0_2] 79 (0, 0))) := ⟨by rw [← hq_]; exact (bk2_ BK123.out)⟩
     replace BK127 : Aside0 (w30.heap[gb127]? = some (.cells #[.int .i64 ((rd_T72 l0_2 x24_2).f0), .int .i64 ((rd_T72 l0_2 x24_2).f1), .int .i64 ((rd_T72 l0_2 x24_2).f2)] 72 (0, 0))) := ⟨by rw [← hq_]; exact (by (with_reducible repeat (first | refine blk_drewN ?_ _ | refine blk_drew ?_ | refine blk_alloc ?_ _)); refine blk_put (cs := #[.int .i64 ((rd_T72 l0_2 x24_2).f0), .int .i64 ((rd_T72 l0_2 x24_2).f1), .int .i64 0]) ?_ 2 _ rfl; (with_reducible repeat (first | refine blk_drewN ?_ _ | refine blk_drew ?_ | refine blk_alloc ?_ _)); refine blk_put (cs := #[.int .i64 ((rd_T72 l0_2 x24_2).f0), .int .i64 0, .int .i64 0]) ?_ 1 _ rfl; (with_reducible repeat (first | refine blk_drewN ?_ _ | refine blk_drew ?_ | refine blk_alloc ?_ _)); refine blk_put (cs := #[.int .i64 0, .int .i64 0, .int .i64 0]) ?_ 0 _ rfl; exact bk_ BK127.out)⟩
     replace HB : Aside0 (Below w.heap.size w w30) := ⟨by rw [← hq_]; exact qz1⟩
     clear hq_
     replace BK123 := aM (blk_drew BK123.out)
     replace BK127 := aM (blk_drew BK127.out)
     replace HB := aM (below_drew1 HB.out)
     have p131 : 0 ≤ ((ji23) : Int) := dt_
     have q131 : (ji23) < (l0_2.length : Int) := dt_
     obtain ⟨ad131, e131, hx131_0, hx131_1, hx131_2⟩ := at_T72 HR0_2.out (ji23) p131 q131
     have hw131_2 := hx131_2
     have hw131_1 := hx131_1
     have hw131_0 := hx131_0
     obtain rfl : ad126 = ad131 := (by injection e131)
     replace hx131_0 := cB_ hx131_0
     replace hx131_1 := cB_ hx131_1
     replace hx131_2 := cB_ hx131_2
     replace p131 := eq_true p131
     replace q131 := eq_true q131
     refine start_ (n := 34) (S := fun w' => w'.cell? ⟨gb127, 0, none⟩ = some (.int .i64 ((rd_T72 l0_2 x24_2).f0)) ∧ w'.cell? ⟨gb127, 1, none⟩ = some (.int .i64 ((rd_T72 l0_2 x24_2).f1)) ∧ w'.cell? ⟨gb127, 2, none⟩ = some (.int .i64 ((rd_T72 l0_2 x24_2).f2)) ∧ w'.cell? ⟨gb123, 0, none⟩ = some (.int .i64 a0_0) ∧ w'.cell? ⟨gb123, 1, none⟩ = some (.int .i64 a0_1) ∧ w'.cell? ⟨gb123, 2, none⟩ = some (.slice (some ad126) l0_2.length c0_2) ∧ w'.cell? (ad126.add (((ji23)).toNat * 3)) = some (.int .i64 ((rd_T72 l0_2 (ji23)).f0)) ∧ w'.cell? ⟨(ad126.add (((ji23)).toNat * 3)).block, (ad126.add (((ji23)).toNat * 3)).off + 1, none⟩ = some (.int .i64 ((rd_T72 l0_2 (ji23)).f1)) ∧ w'.cell? ⟨(ad126.add (((ji23)).toNat * 3)).block, (ad126.add (((ji23)).toNat * 3)).off + 2, none⟩ = some (.int .i64 ((rd_T72 l0_2 (ji23)).f2))) (ds := []) #[false, false, false, false, false, false, false, false, false, false, false, false, false, false, false, false, false, false, false, false, false, false, false, false, false, false, false, false, false, false, false, false, false, false] (by kernel_rfl) rfl rfl ⟨(blk_cell BK127.out 0).trans rfl, (blk_cell BK127.out 1).trans rfl, (blk_cell BK127.out 2).trans rfl, (blk_cell BK123.out 0).trans rfl, (blk_cell BK123.out 1).trans rfl, (blk_cell BK123.out 2).trans rfl, (cB_ hw131_0), (cB_ hw131_1), (cB_ hw131_2)⟩ (fun hHeld => ?_); refine with_tabW impl_podOk.tab6 impl_podOk.bits6 (fun HT_ HW_ => ?_)
     generalize w30.drew = w31 at BK123 BK127 HB hx131_0 hx131_1 hx131_2 hHeld ⊢
     refine pI_ 0 29 (bqz 34 1) ?_
     refine sI9_ 1 30 ?_
     refine one_ (i := 2) (N := some 31) (bqz 34 7) rfl rfl qzc (by decide) (fun K hK => ?_)
     refine goes_ Try.func64 (by kernel_rfl) rfl #[.int .i64 ((rd_T72 l0_2 x24_2).f0), .int .i64 1, .int .i64 50] (by rfl) rfl rfl qz4 ?_
     with_reducible refine (impl_in.calls ((rd_T72 l0_2 x24_2).f0) 1 50 true _ A16.out).mono ?_
     rintro e w' ⟨rfl, ⟨nd, rfl⟩⟩
     refine ⟨_, rfl, ?_⟩
     refine hK.out _ _ ⟨(blk_cell BK127.out 0).trans rfl, (blk_cell BK127.out 1).trans rfl, (blk_cell BK127.out 2).trans rfl, (blk_cell BK123.out 0).trans rfl, (blk_cell BK123.out 1).trans rfl, (blk_cell BK123.out 2).trans rfl, (cB_ hw131_0), (cB_ hw131_1), (cB_ hw131_2)⟩ (fun hHeld => ?_)
     clear hK K
     refine nm_ 31 ?_
     refine jI_ 3 32 ?_
     refine jI_ 4 33 ?_
     refine jI_ 5 34 ?_
     refine sI9_ 6 35 ?_
     refine one_ (i := 7) (N := some 36) (bqz 34 255) rfl rfl qzc (by decide) (fun K hK => ?_)
     refine goes_ Try.func64 (by kernel_rfl) rfl #[.int .i64 ((rd_T72 l0_2 x24_2).f1), .int .i64 1, .int .i64 1000] (by rfl) rfl rfl qz4 ?_
     with_reducible refine (impl_in.calls ((rd_T72 l0_2 x24_2).f1) 1 1000 true _ A18.out).mono ?_
     rintro e w' ⟨rfl, ⟨nd, rfl⟩⟩
     refine ⟨_, rfl, ?_⟩
     refine hK.out _ _ ⟨(blk_cell BK127.out 0).trans rfl, (blk_cell BK127.out 1).trans rfl, (blk_cell BK127.out 2).trans rfl, (blk_cell BK123.out 0).trans rfl, (blk_cell BK123.out 1).trans rfl, (blk_cell BK123.out 2).trans rfl, (cB_ hw131_0), (cB_ hw131_1), (cB_ hw131_2)⟩ (fun hHeld => ?_)
     clear hK K
     refine nm_ 36 ?_
     refine jI_ 8 37 ?_
     refine jI_ 9 38 ?_
     refine jI_ 10 39 ?_
     refine jI_ 11 40 ?_
     refine jI_ 13 42 ?_
     refine sI9_ 12 41 ?_
     refine sI9_ 14 43 ?_
     refine one_ (i := 15) (N := some 44) (bqz 34 65535) rfl rfl qzc (by decide) (fun K hK => ?_)
     refine goes_ Try.func64 (by kernel_rfl) rfl #[.int .i64 ((rd_T72 l0_2 x24_2).f2), .int .i64 0, .int .i64 ((rd_T72 l0_2 x24_2).f1)] (by rfl) rfl rfl qz4 ?_
     with_reducible refine (impl_in.calls ((rd_T72 l0_2 x24_2).f2) 0 ((rd_T72 l0_2 x24_2).f1) true _ A20.out).mono ?_
     rintro e w' ⟨rfl, ⟨nd, rfl⟩⟩
     refine ⟨_, rfl, ?_⟩
     refine hK.out _ _ ⟨(blk_cell BK127.out 0).trans rfl, (blk_cell BK127.out 1).trans rfl, (blk_cell BK127.out 2).trans rfl, (blk_cell BK123.out 0).trans rfl, (blk_cell BK123.out 1).trans rfl, (blk_cell BK123.out 2).trans rfl, (cB_ hw131_0), (cB_ hw131_1), (cB_ hw131_2)⟩ (fun hHeld => ?_)
     clear hK K
     refine nm_ 44 ?_
     refine jI_ 16 45 ?_
     refine jI_ 17 46 ?_
     refine jI_ 18 47 ?_
     refine jI_ 19 48 ?_
     refine jI_ 20 49 ?_
     refine jI_ 21 50 ?_
     refine jI_ 22 51 ?_
     refine jI_ 24 53 ?_
     refine jI_ 25 54 ?_
     refine jI_ 29 58 ?_
     refine sI9_ 23 52 ?_
     refine jI_ 26 55 ?_
     refine jI_ 27 56 ?_
     refine sI9_ 28 57 ?_
     refine sI9_ 30 59 ?_
     refine jI_ 31 60 ?_
     refine jI_ 32 61 ?_
     refine jI_ 33 62 ?_
     refine done_ (done_of HT_.out (by kernel_rfl)) ?_
     try go_wp2
     go_ret
     exact ⟨by first | rfl | (simp [errW_none, errW_some] <;> rfl) | (simp only [← hji23]; first | rfl | (simp [errW_none, errW_some] <;> rfl)) | (simp [*, errW_none, errW_some] <;> rfl), qz1⟩
     }
     {
     rw [if_neg c26] at H
     have c26b0 := decide_eq_false c26
     clear c26
     have H' := aM H
     clear H
     have p126 : 0 ≤ (x24_2 : Int) := dt_
     have q126 : x24_2 < (l0_2.length : Int) := dt_
     obtain ⟨ad126, e126, hx126_0, hx126_1, hx126_2⟩ := at_T72 HR0_2.out x24_2 p126 q126
     cases e126
     replace hx126_0 := cB_ hx126_0
     replace hx126_1 := cB_ hx126_1
     replace hx126_2 := cB_ hx126_2
     replace p126 := eq_true p126
     replace q126 := eq_true q126
     try go_wp2_with (first | ((with_reducible refine gate_dst (N := 4) rfl ?_); (try (refine gate_guard (by rfl) ?_; dsimp only)); refine bx_ 4 #[.int .i64 0, .int .i64 0, .int .i64 0] 72 ?_; intro gb127 hg w32 hbox hb; have BK127 := aM (hbox); have GW127 := aM (bz_ w hg qz1); have GE127 := GW127; replace HB := bS_ hb; obtain ⟨NB123_127, NB127_123⟩ := nb_ hg (bk_ BK123.out); replace BK123 := bB_ BK123 hb; clear hb hbox hg; have hnb33 := NB127_123.out; have hnc33 := NB123_127.out; obtain ⟨hcz34_0, hcz34_1, hcz34_2, hfz34_0, hfz34_1, hfz34_2⟩ := b6_ BK127.out))
     generalize hq_ : (((w32.setCell ⟨gb127, 0, none⟩ (.int .i64 ((rd_T72 l0_2 x24_2).f0))).setCell ⟨gb127, 1, none⟩ (.int .i64 ((rd_T72 l0_2 x24_2).f1))).setCell ⟨gb127, 2, none⟩ (.int .i64 ((rd_T72 l0_2 x24_2).f2))) = w35
     replace BK123 : Aside0 (w35.heap[gb123]? = some (.cells #[.int .i64 a0_0, .int .i64 a0_1, .slice (some ad126) l0_2.length c0_2] 79 (0, 0))) := ⟨by rw [← hq_]; exact (bk2_ BK123.out)⟩
     replace BK127 : Aside0 (w35.heap[gb127]? = some (.cells #[.int .i64 ((rd_T72 l0_2 x24_2).f0), .int .i64 ((rd_T72 l0_2 x24_2).f1), .int .i64 ((rd_T72 l0_2 x24_2).f2)] 72 (0, 0))) := ⟨by rw [← hq_]; exact (by (with_reducible repeat (first | refine blk_drewN ?_ _ | refine blk_drew ?_ | refine blk_alloc ?_ _)); refine blk_put (cs := #[.int .i64 ((rd_T72 l0_2 x24_2).f0), .int .i64 ((rd_T72 l0_2 x24_2).f1), .int .i64 0]) ?_ 2 _ rfl; (with_reducible repeat (first | refine blk_drewN ?_ _ | refine blk_drew ?_ | refine blk_alloc ?_ _)); refine blk_put (cs := #[.int .i64 ((rd_T72 l0_2 x24_2).f0), .int .i64 0, .int .i64 0]) ?_ 1 _ rfl; (with_reducible repeat (first | refine blk_drewN ?_ _ | refine blk_drew ?_ | refine blk_alloc ?_ _)); refine blk_put (cs := #[.int .i64 0, .int .i64 0, .int .i64 0]) ?_ 0 _ rfl; exact bk_ BK127.out)⟩
     replace HB : Aside0 (Below w.heap.size w w35) := ⟨by rw [← hq_]; exact qz1⟩
     clear hq_
     replace BK123 := aM (blk_drew BK123.out)
     replace BK127 := aM (blk_drew BK127.out)
     replace HB := aM (below_drew1 HB.out)
     have p131 : 0 ≤ ((ji23) : Int) := dt_
     have q131 : (ji23) < (l0_2.length : Int) := dt_
     obtain ⟨ad131, e131, hx131_0, hx131_1, hx131_2⟩ := at_T72 HR0_2.out (ji23) p131 q131
     have hw131_2 := hx131_2
     have hw131_1 := hx131_1
     have hw131_0 := hx131_0
     obtain rfl : ad126 = ad131 := (by injection e131)
     replace hx131_0 := cB_ hx131_0
     replace hx131_1 := cB_ hx131_1
     replace hx131_2 := cB_ hx131_2
     replace p131 := eq_true p131
     replace q131 := eq_true q131
     refine start_ (n := 34) (S := fun w' => w'.cell? ⟨gb127, 0, none⟩ = some (.int .i64 ((rd_T72 l0_2 x24_2).f0)) ∧ w'.cell? ⟨gb127, 1, none⟩ = some (.int .i64 ((rd_T72 l0_2 x24_2).f1)) ∧ w'.cell? ⟨gb127, 2, none⟩ = some (.int .i64 ((rd_T72 l0_2 x24_2).f2)) ∧ w'.cell? ⟨gb123, 0, none⟩ = some (.int .i64 a0_0) ∧ w'.cell? ⟨gb123, 1, none⟩ = some (.int .i64 a0_1) ∧ w'.cell? ⟨gb123, 2, none⟩ = some (.slice (some ad126) l0_2.length c0_2) ∧ w'.cell? (ad126.add (((ji23)).toNat * 3)) = some (.int .i64 ((rd_T72 l0_2 (ji23)).f0)) ∧ w'.cell? ⟨(ad126.add (((ji23)).toNat * 3)).block, (ad126.add (((ji23)).toNat * 3)).off + 1, none⟩ = some (.int .i64 ((rd_T72 l0_2 (ji23)).f1)) ∧ w'.cell? ⟨(ad126.add (((ji23)).toNat * 3)).block, (ad126.add (((ji23)).toNat * 3)).off + 2, none⟩ = some (.int .i64 ((rd_T72 l0_2 (ji23)).f2))) (ds := []) #[false, false, false, false, false, false, false, false, false, false, false, false, false, false, false, false, false, false, false, false, false, false, false, false, false, false, false, false, false, false, false, false, false, false] (by kernel_rfl) rfl rfl ⟨(blk_cell BK127.out 0).trans rfl, (blk_cell BK127.out 1).trans rfl, (blk_cell BK127.out 2).trans rfl, (blk_cell BK123.out 0).trans rfl, (blk_cell BK123.out 1).trans rfl, (blk_cell BK123.out 2).trans rfl, (cB_ hw131_0), (cB_ hw131_1), (cB_ hw131_2)⟩ (fun hHeld => ?_); refine with_tabW impl_podOk.tab6 impl_podOk.bits6 (fun HT_ HW_ => ?_)
     generalize w35.drew = w36 at BK123 BK127 HB hx131_0 hx131_1 hx131_2 hHeld ⊢
     refine pI_ 0 29 (bqz 34 1) ?_
     refine sI9_ 1 30 ?_
     refine one_ (i := 2) (N := some 31) (bqz 34 7) rfl rfl qzc (by decide) (fun K hK => ?_)
     refine goes_ Try.func64 (by kernel_rfl) rfl #[.int .i64 ((rd_T72 l0_2 x24_2).f0), .int .i64 1, .int .i64 50] (by rfl) rfl rfl qz4 ?_
     with_reducible refine (impl_in.calls ((rd_T72 l0_2 x24_2).f0) 1 50 true _ A16.out).mono ?_
     rintro e w' ⟨rfl, ⟨nd, rfl⟩⟩
     refine ⟨_, rfl, ?_⟩
     refine hK.out _ _ ⟨(blk_cell BK127.out 0).trans rfl, (blk_cell BK127.out 1).trans rfl, (blk_cell BK127.out 2).trans rfl, (blk_cell BK123.out 0).trans rfl, (blk_cell BK123.out 1).trans rfl, (blk_cell BK123.out 2).trans rfl, (cB_ hw131_0), (cB_ hw131_1), (cB_ hw131_2)⟩ (fun hHeld => ?_)
     clear hK K
     refine nm_ 31 ?_
     refine jI_ 3 32 ?_
     refine jI_ 4 33 ?_
     refine jI_ 5 34 ?_
     refine sI9_ 6 35 ?_
     refine one_ (i := 7) (N := some 36) (bqz 34 255) rfl rfl qzc (by decide) (fun K hK => ?_)
     refine goes_ Try.func64 (by kernel_rfl) rfl #[.int .i64 ((rd_T72 l0_2 x24_2).f1), .int .i64 1, .int .i64 1000] (by rfl) rfl rfl qz4 ?_
     with_reducible refine (impl_in.calls ((rd_T72 l0_2 x24_2).f1) 1 1000 true _ A18.out).mono ?_
     rintro e w' ⟨rfl, ⟨nd, rfl⟩⟩
     refine ⟨_, rfl, ?_⟩
     refine hK.out _ _ ⟨(blk_cell BK127.out 0).trans rfl, (blk_cell BK127.out 1).trans rfl, (blk_cell BK127.out 2).trans rfl, (blk_cell BK123.out 0).trans rfl, (blk_cell BK123.out 1).trans rfl, (blk_cell BK123.out 2).trans rfl, (cB_ hw131_0), (cB_ hw131_1), (cB_ hw131_2)⟩ (fun hHeld => ?_)
     clear hK K
     refine nm_ 36 ?_
     refine jI_ 8 37 ?_
     refine jI_ 9 38 ?_
     refine jI_ 10 39 ?_
     refine jI_ 11 40 ?_
     refine jI_ 13 42 ?_
     refine sI9_ 12 41 ?_
     refine sI9_ 14 43 ?_
     refine one_ (i := 15) (N := some 44) (bqz 34 65535) rfl rfl qzc (by decide) (fun K hK => ?_)
     refine goes_ Try.func64 (by kernel_rfl) rfl #[.int .i64 ((rd_T72 l0_2 x24_2).f2), .int .i64 0, .int .i64 ((rd_T72 l0_2 x24_2).f1)] (by rfl) rfl rfl qz4 ?_
     with_reducible refine (impl_in.calls ((rd_T72 l0_2 x24_2).f2) 0 ((rd_T72 l0_2 x24_2).f1) true _ A20.out).mono ?_
     rintro e w' ⟨rfl, ⟨nd, rfl⟩⟩
     refine ⟨_, rfl, ?_⟩
     refine hK.out _ _ ⟨(blk_cell BK127.out 0).trans rfl, (blk_cell BK127.out 1).trans rfl, (blk_cell BK127.out 2).trans rfl, (blk_cell BK123.out 0).trans rfl, (blk_cell BK123.out 1).trans rfl, (blk_cell BK123.out 2).trans rfl, (cB_ hw131_0), (cB_ hw131_1), (cB_ hw131_2)⟩ (fun hHeld => ?_)
     clear hK K
     refine nm_ 44 ?_
     refine jI_ 16 45 ?_
     refine jI_ 17 46 ?_
     refine jI_ 18 47 ?_
     refine jI_ 19 48 ?_
     refine jI_ 20 49 ?_
     refine jI_ 21 50 ?_
     refine jI_ 22 51 ?_
     refine jI_ 24 53 ?_
     refine jI_ 25 54 ?_
     refine jI_ 29 58 ?_
     refine sI9_ 23 52 ?_
     refine jI_ 26 55 ?_
     refine jI_ 27 56 ?_
     refine sI9_ 28 57 ?_
     refine sI9_ 30 59 ?_
     refine jI_ 31 60 ?_
     refine jI_ 32 61 ?_
     refine jI_ 33 62 ?_
     refine done_ (done_of HT_.out (by kernel_rfl)) ?_
     try go_wp2
     go_roundg k2
     case measure => have := HJ1.out; have := HK2.out; omega
     case rel => exact ⟨(wrap64 (x24_2 + 1)), qz5, H', ⟨by have := HJ1.out; have := HK2.out; omega⟩, ⟨bk_ BK123.out⟩, ⟨qz1⟩⟩
     }
     }
     {
     exact an_ c25 H
     }
     }
     {
     exact an_ c24 H
     }
     }
     {
     rw [if_neg c22] at H
     have c22b0 := decide_eq_false c22
     clear c22
     have H' := aM H
     clear H
     have p126 : 0 ≤ (x24_2 : Int) := dt_
     have q126 : x24_2 < (l0_2.length : Int) := dt_
     obtain ⟨ad126, e126, hx126_0, hx126_1, hx126_2⟩ := at_T72 HR0_2.out x24_2 p126 q126
     cases e126
     replace hx126_0 := cB_ hx126_0
     replace hx126_1 := cB_ hx126_1
     replace hx126_2 := cB_ hx126_2
     replace p126 := eq_true p126
     replace q126 := eq_true q126
     try go_wp2_with (first | ((with_reducible refine gate_dst (N := 4) rfl ?_); (try (refine gate_guard (by rfl) ?_; dsimp only)); refine bx_ 4 #[.int .i64 0, .int .i64 0, .int .i64 0] 72 ?_; intro gb127 hg w37 hbox hb; have BK127 := aM (hbox); have GW127 := aM (bz_ w hg qz1); have GE127 := GW127; replace HB := bS_ hb; obtain ⟨NB123_127, NB127_123⟩ := nb_ hg (bk_ BK123.out); replace BK123 := bB_ BK123 hb; clear hb hbox hg; have hnb38 := NB127_123.out; have hnc38 := NB123_127.out; obtain ⟨hcz39_0, hcz39_1, hcz39_2, hfz39_0, hfz39_1, hfz39_2⟩ := b6_ BK127.out))
     generalize hq_ : (((w37.setCell ⟨gb127, 0, none⟩ (.int .i64 ((rd_T72 l0_2 x24_2).f0))).setCell ⟨gb127, 1, none⟩ (.int .i64 ((rd_T72 l0_2 x24_2).f1))).setCell ⟨gb127, 2, none⟩ (.int .i64 ((rd_T72 l0_2 x24_2).f2))) = w40
     replace BK123 : Aside0 (w40.heap[gb123]? = some (.cells #[.int .i64 a0_0, .int .i64 a0_1, .slice (some ad126) l0_2.length c0_2] 79 (0, 0))) := ⟨by rw [← hq_]; exact (bk2_ BK123.out)⟩
     replace BK127 : Aside0 (w40.heap[gb127]? = some (.cells #[.int .i64 ((rd_T72 l0_2 x24_2).f0), .int .i64 ((rd_T72 l0_2 x24_2).f1), .int .i64 ((rd_T72 l0_2 x24_2).f2)] 72 (0, 0))) := ⟨by rw [← hq_]; exact (by (with_reducible repeat (first | refine blk_drewN ?_ _ | refine blk_drew ?_ | refine blk_alloc ?_ _)); refine blk_put (cs := #[.int .i64 ((rd_T72 l0_2 x24_2).f0), .int .i64 ((rd_T72 l0_2 x24_2).f1), .int .i64 0]) ?_ 2 _ rfl; (with_reducible repeat (first | refine blk_drewN ?_ _ | refine blk_drew ?_ | refine blk_alloc ?_ _)); refine blk_put (cs := #[.int .i64 ((rd_T72 l0_2 x24_2).f0), .int .i64 0, .int .i64 0]) ?_ 1 _ rfl; (with_reducible repeat (first | refine blk_drewN ?_ _ | refine blk_drew ?_ | refine blk_alloc ?_ _)); refine blk_put (cs := #[.int .i64 0, .int .i64 0, .int .i64 0]) ?_ 0 _ rfl; exact bk_ BK127.out)⟩
     replace HB : Aside0 (Below w.heap.size w w40) := ⟨by rw [← hq_]; exact qz1⟩
     clear hq_
     replace BK123 := aM (blk_drew BK123.out)
     replace BK127 := aM (blk_drew BK127.out)
     replace HB := aM (below_drew1 HB.out)
     refine start_ (n := 34) (S := fun w' => w'.cell? ⟨gb127, 0, none⟩ = some (.int .i64 ((rd_T72 l0_2 x24_2).f0)) ∧ w'.cell? ⟨gb127, 1, none⟩ = some (.int .i64 ((rd_T72 l0_2 x24_2).f1)) ∧ w'.cell? ⟨gb127, 2, none⟩ = some (.int .i64 ((rd_T72 l0_2 x24_2).f2))) (ds := []) #[false, false, false, false, false, false, false, false, false, false, false, false, false, false, false, false, false, false, false, false, false, false, false, false, false, false, false, false, false, false, false, false, false, false] (by kernel_rfl) rfl rfl ⟨(blk_cell BK127.out 0).trans rfl, (blk_cell BK127.out 1).trans rfl, (blk_cell BK127.out 2).trans rfl⟩ (fun hHeld => ?_); refine with_tabW impl_podOk.tab6 impl_podOk.bits6 (fun HT_ HW_ => ?_)
     generalize w40.drew = w41 at BK123 BK127 HB hHeld ⊢
     refine pI_ 0 29 (bqz 34 1) ?_
     refine sI3_ 1 30 ?_
     refine one_ (i := 2) (N := some 31) (bqz 34 7) rfl rfl qzc (by decide) (fun K hK => ?_)
     refine goes_ Try.func64 (by kernel_rfl) rfl #[.int .i64 ((rd_T72 l0_2 x24_2).f0), .int .i64 1, .int .i64 50] (by rfl) rfl rfl qz4 ?_
     with_reducible refine (impl_in.calls ((rd_T72 l0_2 x24_2).f0) 1 50 true _ A16.out).mono ?_
     rintro e w' ⟨rfl, ⟨nd, rfl⟩⟩
     refine ⟨_, rfl, ?_⟩
     refine hK.out _ _ ⟨(blk_cell BK127.out 0).trans rfl, (blk_cell BK127.out 1).trans rfl, (blk_cell BK127.out 2).trans rfl⟩ (fun hHeld => ?_)
     clear hK K
     refine nm_ 31 ?_
     refine jI_ 3 32 ?_
     refine jI_ 4 33 ?_
     refine jI_ 5 34 ?_
     refine sI3_ 6 35 ?_
     refine one_ (i := 7) (N := some 36) (bqz 34 255) rfl rfl qzc (by decide) (fun K hK => ?_)
     refine goes_ Try.func64 (by kernel_rfl) rfl #[.int .i64 ((rd_T72 l0_2 x24_2).f1), .int .i64 1, .int .i64 1000] (by rfl) rfl rfl qz4 ?_
     with_reducible refine (impl_in.calls ((rd_T72 l0_2 x24_2).f1) 1 1000 true _ A18.out).mono ?_
     rintro e w' ⟨rfl, ⟨nd, rfl⟩⟩
     refine ⟨_, rfl, ?_⟩
     refine hK.out _ _ ⟨(blk_cell BK127.out 0).trans rfl, (blk_cell BK127.out 1).trans rfl, (blk_cell BK127.out 2).trans rfl⟩ (fun hHeld => ?_)
     clear hK K
     refine nm_ 36 ?_
     refine jI_ 8 37 ?_
     refine jI_ 9 38 ?_
     refine jI_ 10 39 ?_
     refine jI_ 11 40 ?_
     refine jI_ 13 42 ?_
     refine sI3_ 12 41 ?_
     refine sI3_ 14 43 ?_
     refine one_ (i := 15) (N := some 44) (bqz 34 65535) rfl rfl qzc (by decide) (fun K hK => ?_)
     refine goes_ Try.func64 (by kernel_rfl) rfl #[.int .i64 ((rd_T72 l0_2 x24_2).f2), .int .i64 0, .int .i64 ((rd_T72 l0_2 x24_2).f1)] (by rfl) rfl rfl qz4 ?_
     with_reducible refine (impl_in.calls ((rd_T72 l0_2 x24_2).f2) 0 ((rd_T72 l0_2 x24_2).f1) true _ A20.out).mono ?_
     rintro e w' ⟨rfl, ⟨nd, rfl⟩⟩
     refine ⟨_, rfl, ?_⟩
     refine hK.out _ _ ⟨(blk_cell BK127.out 0).trans rfl, (blk_cell BK127.out 1).trans rfl, (blk_cell BK127.out 2).trans rfl⟩ (fun hHeld => ?_)
     clear hK K
     refine nm_ 44 ?_
     refine jI_ 16 45 ?_
     refine jI_ 17 46 ?_
     refine jI_ 18 47 ?_
     refine jI_ 19 48 ?_
     refine jI_ 20 49 ?_
     refine jI_ 21 50 ?_
     refine jU_ 22 51 ?_
     refine jU_ 23 52 ?_
     refine jU_ 24 53 ?_
     refine jU_ 25 54 ?_
     refine jU_ 26 55 ?_
     refine jU_ 27 56 ?_
     refine jU_ 28 57 ?_
     refine jU_ 29 58 ?_
     refine jU_ 30 59 ?_
     refine jU_ 31 60 ?_
     refine jI_ 32 61 ?_
     refine jI_ 33 62 ?_
     refine done_ (done_of HT_.out (by kernel_rfl)) ?_
     try go_wp2
     go_roundg k2
     case measure => have := HJ1.out; have := HK2.out; omega
     case rel => exact ⟨(wrap64 (x24_2 + 1)), qz5, H', ⟨by have := HJ1.out; have := HK2.out; omega⟩, ⟨bk_ BK123.out⟩, ⟨qz1⟩⟩
     }
     }
     {
     replace c21 := Bool.eq_false_iff.mpr c21
     subst c21
     rw [if_neg (show ¬ (false = true) by decide)] at H
     obtain rfl := Option.some.inj H
     simp only [Option.some.injEq, Prod.mk.injEq] at H
     obtain ⟨rfl⟩ := H
     have p126 : 0 ≤ (x24_2 : Int) := dt_
     have q126 : x24_2 < (l0_2.length : Int) := dt_
     obtain ⟨ad126, e126, hx126_0, hx126_1, hx126_2⟩ := at_T72 HR0_2.out x24_2 p126 q126
     cases e126
     replace hx126_0 := cB_ hx126_0
     replace hx126_1 := cB_ hx126_1
     replace hx126_2 := cB_ hx126_2
     replace p126 := eq_true p126
     replace q126 := eq_true q126
     try go_wp2_with (first | ((with_reducible refine gate_dst (N := 4) rfl ?_); (try (refine gate_guard (by rfl) ?_; dsimp only)); refine bx_ 4 #[.int .i64 0, .int .i64 0, .int .i64 0] 72 ?_; intro gb127 hg w42 hbox hb; have BK127 := aM (hbox); have GW127 := aM (bz_ w hg qz1); have GE127 := GW127; replace HB := bS_ hb; obtain ⟨NB123_127, NB127_123⟩ := nb_ hg (bk_ BK123.out); replace BK123 := bB_ BK123 hb; clear hb hbox hg; have hnb43 := NB127_123.out; have hnc43 := NB123_127.out; obtain ⟨hcz44_0, hcz44_1, hcz44_2, hfz44_0, hfz44_1, hfz44_2⟩ := b6_ BK127.out))
     generalize hq_ : (((w42.setCell ⟨gb127, 0, none⟩ (.int .i64 ((rd_T72 l0_2 x24_2).f0))).setCell ⟨gb127, 1, none⟩ (.int .i64 ((rd_T72 l0_2 x24_2).f1))).setCell ⟨gb127, 2, none⟩ (.int .i64 ((rd_T72 l0_2 x24_2).f2))) = w45
     replace BK123 : Aside0 (w45.heap[gb123]? = some (.cells #[.int .i64 a0_0, .int .i64 a0_1, .slice (some ad126) l0_2.length c0_2] 79 (0, 0))) := ⟨by rw [← hq_]; exact (bk2_ BK123.out)⟩
     replace BK127 : Aside0 (w45.heap[gb127]? = some (.cells #[.int .i64 ((rd_T72 l0_2 x24_2).f0), .int .i64 ((rd_T72 l0_2 x24_2).f1), .int .i64 ((rd_T72 l0_2 x24_2).f2)] 72 (0, 0))) := ⟨by rw [← hq_]; exact (by (with_reducible repeat (first | refine blk_drewN ?_ _ | refine blk_drew ?_ | refine blk_alloc ?_ _)); refine blk_put (cs := #[.int .i64 ((rd_T72 l0_2 x24_2).f0), .int .i64 ((rd_T72 l0_2 x24_2).f1), .int .i64 0]) ?_ 2 _ rfl; (with_reducible repeat (first | refine blk_drewN ?_ _ | refine blk_drew ?_ | refine blk_alloc ?_ _)); refine blk_put (cs := #[.int .i64 ((rd_T72 l0_2 x24_2).f0), .int .i64 0, .int .i64 0]) ?_ 1 _ rfl; (with_reducible repeat (first | refine blk_drewN ?_ _ | refine blk_drew ?_ | refine blk_alloc ?_ _)); refine blk_put (cs := #[.int .i64 0, .int .i64 0, .int .i64 0]) ?_ 0 _ rfl; exact bk_ BK127.out)⟩
     replace HB : Aside0 (Below w.heap.size w w45) := ⟨by rw [← hq_]; exact qz1⟩
     clear hq_
     replace BK123 := aM (blk_drew BK123.out)
     replace BK127 := aM (blk_drew BK127.out)
     replace HB := aM (below_drew1 HB.out)
     refine start_ (n := 34) (S := fun w' => w'.cell? ⟨gb127, 0, none⟩ = some (.int .i64 ((rd_T72 l0_2 x24_2).f0)) ∧ w'.cell? ⟨gb127, 1, none⟩ = some (.int .i64 ((rd_T72 l0_2 x24_2).f1)) ∧ w'.cell? ⟨gb127, 2, none⟩ = some (.int .i64 ((rd_T72 l0_2 x24_2).f2))) (ds := []) #[false, false, false, false, false, false, false, false, false, false, false, false, false, false, false, false, false, false, false, false, false, false, false, false, false, false, false, false, false, false, false, false, false, false] (by kernel_rfl) rfl rfl ⟨(blk_cell BK127.out 0).trans rfl, (blk_cell BK127.out 1).trans rfl, (blk_cell BK127.out 2).trans rfl⟩ (fun hHeld => ?_); refine with_tabW impl_podOk.tab6 impl_podOk.bits6 (fun HT_ HW_ => ?_)
     generalize w45.drew = w46 at BK123 BK127 HB hHeld ⊢
     refine pI_ 0 29 (bqz 34 1) ?_
     refine sI3_ 1 30 ?_
     refine one_ (i := 2) (N := some 31) (bqz 34 7) rfl rfl qzc (by decide) (fun K hK => ?_)
     refine goes_ Try.func64 (by kernel_rfl) rfl #[.int .i64 ((rd_T72 l0_2 x24_2).f0), .int .i64 1, .int .i64 50] (by rfl) rfl rfl qz4 ?_
     with_reducible refine (impl_in.calls ((rd_T72 l0_2 x24_2).f0) 1 50 true _ A16.out).mono ?_
     rintro e w' ⟨rfl, ⟨nd, rfl⟩⟩
     refine ⟨_, rfl, ?_⟩
     refine hK.out _ _ ⟨(blk_cell BK127.out 0).trans rfl, (blk_cell BK127.out 1).trans rfl, (blk_cell BK127.out 2).trans rfl⟩ (fun hHeld => ?_)
     clear hK K
     refine nm_ 31 ?_
     refine jI_ 3 32 ?_
     refine jI_ 4 33 ?_
     refine jI_ 5 34 ?_
     refine sI3_ 6 35 ?_
     refine one_ (i := 7) (N := some 36) (bqz 34 255) rfl rfl qzc (by decide) (fun K hK => ?_)
     refine goes_ Try.func64 (by kernel_rfl) rfl #[.int .i64 ((rd_T72 l0_2 x24_2).f1), .int .i64 1, .int .i64 1000] (by rfl) rfl rfl qz4 ?_
     with_reducible refine (impl_in.calls ((rd_T72 l0_2 x24_2).f1) 1 1000 true _ A18.out).mono ?_
     rintro e w' ⟨rfl, ⟨nd, rfl⟩⟩
     refine ⟨_, rfl, ?_⟩
     refine hK.out _ _ ⟨(blk_cell BK127.out 0).trans rfl, (blk_cell BK127.out 1).trans rfl, (blk_cell BK127.out 2).trans rfl⟩ (fun hHeld => ?_)
     clear hK K
     refine nm_ 36 ?_
     refine jI_ 8 37 ?_
     refine jI_ 9 38 ?_
     refine jI_ 10 39 ?_
     refine jI_ 11 40 ?_
     refine jI_ 13 42 ?_
     refine sI3_ 12 41 ?_
     refine sI3_ 14 43 ?_
     refine one_ (i := 15) (N := some 44) (bqz 34 65535) rfl rfl qzc (by decide) (fun K hK => ?_)
     refine goes_ Try.func64 (by kernel_rfl) rfl #[.int .i64 ((rd_T72 l0_2 x24_2).f2), .int .i64 0, .int .i64 ((rd_T72 l0_2 x24_2).f1)] (by rfl) rfl rfl qz4 ?_
     with_reducible refine (impl_in.calls ((rd_T72 l0_2 x24_2).f2) 0 ((rd_T72 l0_2 x24_2).f1) false _ A20.out).mono ?_
     rintro e w' ⟨rfl, ⟨nd, rfl⟩⟩
     refine ⟨_, rfl, ?_⟩
     refine hK.out _ _ ⟨(blk_cell BK127.out 0).trans rfl, (blk_cell BK127.out 1).trans rfl, (blk_cell BK127.out 2).trans rfl⟩ (fun hHeld => ?_)
     clear hK K
     refine nm_ 44 ?_
     refine jI_ 16 45 ?_
     refine jI_ 17 46 ?_
     refine jI_ 18 47 ?_
     refine jU_ 19 48 ?_
     refine jU_ 20 49 ?_
     refine jU_ 21 50 ?_
     refine jU_ 22 51 ?_
     refine jU_ 23 52 ?_
     refine jU_ 24 53 ?_
     refine jU_ 25 54 ?_
     refine jU_ 26 55 ?_
     refine jU_ 27 56 ?_
     refine jU_ 28 57 ?_
     refine jU_ 29 58 ?_
     refine jU_ 30 59 ?_
     refine jU_ 31 60 ?_
     refine jU_ 32 61 ?_
     refine jI_ 33 62 ?_
     refine done_ (done_of HT_.out (by kernel_rfl)) ?_
     try go_wp2
     go_ret
     exact ⟨qzw, qz1⟩
     }
     }
     {
     replace c19 := Bool.eq_false_iff.mpr c19
     subst c19
     rw [if_neg (show ¬ (false = true) by decide)] at H
     obtain rfl := Option.some.inj H
     simp only [Option.some.injEq, Prod.mk.injEq] at H
     obtain ⟨rfl⟩ := H
     have p126 : 0 ≤ (x24_2 : Int) := dt_
     have q126 : x24_2 < (l0_2.length : Int) := dt_
     obtain ⟨ad126, e126, hx126_0, hx126_1, hx126_2⟩ := at_T72 HR0_2.out x24_2 p126 q126
     cases e126
     replace hx126_0 := cB_ hx126_0
     replace hx126_1 := cB_ hx126_1
     replace hx126_2 := cB_ hx126_2
     replace p126 := eq_true p126
     replace q126 := eq_true q126
     try go_wp2_with (first | ((with_reducible refine gate_dst (N := 4) rfl ?_); (try (refine gate_guard (by rfl) ?_; dsimp only)); refine bx_ 4 #[.int .i64 0, .int .i64 0, .int .i64 0] 72 ?_; intro gb127 hg w47 hbox hb; have BK127 := aM (hbox); have GW127 := aM (bz_ w hg qz1); have GE127 := GW127; replace HB := bS_ hb; obtain ⟨NB123_127, NB127_123⟩ := nb_ hg (bk_ BK123.out); replace BK123 := bB_ BK123 hb; clear hb hbox hg; have hnb48 := NB127_123.out; have hnc48 := NB123_127.out; obtain ⟨hcz49_0, hcz49_1, hcz49_2, hfz49_0, hfz49_1, hfz49_2⟩ := b6_ BK127.out))
     generalize hq_ : (((w47.setCell ⟨gb127, 0, none⟩ (.int .i64 ((rd_T72 l0_2 x24_2).f0))).setCell ⟨gb127, 1, none⟩ (.int .i64 ((rd_T72 l0_2 x24_2).f1))).setCell ⟨gb127, 2, none⟩ (.int .i64 ((rd_T72 l0_2 x24_2).f2))) = w50
     replace BK123 : Aside0 (w50.heap[gb123]? = some (.cells #[.int .i64 a0_0, .int .i64 a0_1, .slice (some ad126) l0_2.length c0_2] 79 (0, 0))) := ⟨by rw [← hq_]; exact (bk2_ BK123.out)⟩
     replace BK127 : Aside0 (w50.heap[gb127]? = some (.cells #[.int .i64 ((rd_T72 l0_2 x24_2).f0), .int .i64 ((rd_T72 l0_2 x24_2).f1), .int .i64 ((rd_T72 l0_2 x24_2).f2)] 72 (0, 0))) := ⟨by rw [← hq_]; exact (by (with_reducible repeat (first | refine blk_drewN ?_ _ | refine blk_drew ?_ | refine blk_alloc ?_ _)); refine blk_put (cs := #[.int .i64 ((rd_T72 l0_2 x24_2).f0), .int .i64 ((rd_T72 l0_2 x24_2).f1), .int .i64 0]) ?_ 2 _ rfl; (with_reducible repeat (first | refine blk_drewN ?_ _ | refine blk_drew ?_ | refine blk_alloc ?_ _)); refine blk_put (cs := #[.int .i64 ((rd_T72 l0_2 x24_2).f0), .int .i64 0, .int .i64 0]) ?_ 1 _ rfl; (with_reducible repeat (first | refine blk_drewN ?_ _ | refine blk_drew ?_ | refine blk_alloc ?_ _)); refine blk_put (cs := #[.int .i64 0, .int .i64 0, .int .i64 0]) ?_ 0 _ rfl; exact bk_ BK127.out)⟩
     replace HB : Aside0 (Below w.heap.size w w50) := ⟨by rw [← hq_]; exact qz1⟩
     clear hq_
     replace BK123 := aM (blk_drew BK123.out)
     replace BK127 := aM (blk_drew BK127.out)
     replace HB := aM (below_drew1 HB.out)
     refine start_ (n := 34) (S := fun w' => w'.cell? ⟨gb127, 0, none⟩ = some (.int .i64 ((rd_T72 l0_2 x24_2).f0)) ∧ w'.cell? ⟨gb127, 1, none⟩ = some (.int .i64 ((rd_T72 l0_2 x24_2).f1)) ∧ w'.cell? ⟨gb127, 2, none⟩ = some (.int .i64 ((rd_T72 l0_2 x24_2).f2))) (ds := []) #[false, false, false, false, false, false, false, false, false, false, false, false, false, false, false, false, false, false, false, false, false, false, false, false, false, false, false, false, false, false, false, false, false, false] (by kernel_rfl) rfl rfl ⟨(blk_cell BK127.out 0).trans rfl, (blk_cell BK127.out 1).trans rfl, (blk_cell BK127.out 2).trans rfl⟩ (fun hHeld => ?_); refine with_tabW impl_podOk.tab6 impl_podOk.bits6 (fun HT_ HW_ => ?_)
     generalize w50.drew = w51 at BK123 BK127 HB hHeld ⊢
     refine pI_ 0 29 (bqz 34 1) ?_
     refine sI3_ 1 30 ?_
     refine one_ (i := 2) (N := some 31) (bqz 34 7) rfl rfl qzc (by decide) (fun K hK => ?_)
     refine goes_ Try.func64 (by kernel_rfl) rfl #[.int .i64 ((rd_T72 l0_2 x24_2).f0), .int .i64 1, .int .i64 50] (by rfl) rfl rfl qz4 ?_
     with_reducible refine (impl_in.calls ((rd_T72 l0_2 x24_2).f0) 1 50 true _ A16.out).mono ?_
     rintro e w' ⟨rfl, ⟨nd, rfl⟩⟩
     refine ⟨_, rfl, ?_⟩
     refine hK.out _ _ ⟨(blk_cell BK127.out 0).trans rfl, (blk_cell BK127.out 1).trans rfl, (blk_cell BK127.out 2).trans rfl⟩ (fun hHeld => ?_)
     clear hK K
     refine nm_ 31 ?_
     refine jI_ 3 32 ?_
     refine jI_ 4 33 ?_
     refine jI_ 5 34 ?_
     refine sI3_ 6 35 ?_
     refine one_ (i := 7) (N := some 36) (bqz 34 255) rfl rfl qzc (by decide) (fun K hK => ?_)
     refine goes_ Try.func64 (by kernel_rfl) rfl #[.int .i64 ((rd_T72 l0_2 x24_2).f1), .int .i64 1, .int .i64 1000] (by rfl) rfl rfl qz4 ?_
     with_reducible refine (impl_in.calls ((rd_T72 l0_2 x24_2).f1) 1 1000 false _ A18.out).mono ?_
     rintro e w' ⟨rfl, ⟨nd, rfl⟩⟩
     refine ⟨_, rfl, ?_⟩
     refine hK.out _ _ ⟨(blk_cell BK127.out 0).trans rfl, (blk_cell BK127.out 1).trans rfl, (blk_cell BK127.out 2).trans rfl⟩ (fun hHeld => ?_)
     clear hK K
     refine nm_ 36 ?_
     refine jI_ 8 37 ?_
     refine jI_ 9 38 ?_
     refine jI_ 10 39 ?_
     refine jU_ 11 40 ?_
     refine jU_ 12 41 ?_
     refine jU_ 13 42 ?_
     refine jU_ 14 43 ?_
     refine jU_ 15 44 ?_
     refine jU_ 16 45 ?_
     refine jI_ 17 46 ?_
     refine jI_ 18 47 ?_
     refine jU_ 19 48 ?_
     refine jU_ 20 49 ?_
     refine jU_ 21 50 ?_
     refine jU_ 22 51 ?_
     refine jU_ 23 52 ?_
     refine jU_ 24 53 ?_
     refine jU_ 25 54 ?_
     refine jU_ 26 55 ?_
     refine jU_ 27 56 ?_
     refine jU_ 28 57 ?_
     refine jU_ 29 58 ?_
     refine jU_ 30 59 ?_
     refine jU_ 31 60 ?_
     refine jU_ 32 61 ?_
     refine jI_ 33 62 ?_
     refine done_ (done_of HT_.out (by kernel_rfl)) ?_
     try go_wp2
     go_ret
     exact ⟨qzw, qz1⟩
     }
     }
     {
     replace c17 := Bool.eq_false_iff.mpr c17
     subst c17
     rw [if_neg (show ¬ (false = true) by decide)] at H
     obtain rfl := Option.some.inj H
     simp only [Option.some.injEq, Prod.mk.injEq] at H
     obtain ⟨rfl⟩ := H
     have p126 : 0 ≤ (x24_2 : Int) := dt_
     have q126 : x24_2 < (l0_2.length : Int) := dt_
     obtain ⟨ad126, e126, hx126_0, hx126_1, hx126_2⟩ := at_T72 HR0_2.out x24_2 p126 q126
     cases e126
     replace hx126_0 := cB_ hx126_0
     replace hx126_1 := cB_ hx126_1
     replace hx126_2 := cB_ hx126_2
     replace p126 := eq_true p126
     replace q126 := eq_true q126
     try go_wp2_with (first | ((with_reducible refine gate_dst (N := 4) rfl ?_); (try (refine gate_guard (by rfl) ?_; dsimp only)); refine bx_ 4 #[.int .i64 0, .int .i64 0, .int .i64 0] 72 ?_; intro gb127 hg w52 hbox hb; have BK127 := aM (hbox); have GW127 := aM (bz_ w hg qz1); have GE127 := GW127; replace HB := bS_ hb; obtain ⟨NB123_127, NB127_123⟩ := nb_ hg (bk_ BK123.out); replace BK123 := bB_ BK123 hb; clear hb hbox hg; have hnb53 := NB127_123.out; have hnc53 := NB123_127.out; obtain ⟨hcz54_0, hcz54_1, hcz54_2, hfz54_0, hfz54_1, hfz54_2⟩ := b6_ BK127.out))
     generalize hq_ : (((w52.setCell ⟨gb127, 0, none⟩ (.int .i64 ((rd_T72 l0_2 x24_2).f0))).setCell ⟨gb127, 1, none⟩ (.int .i64 ((rd_T72 l0_2 x24_2).f1))).setCell ⟨gb127, 2, none⟩ (.int .i64 ((rd_T72 l0_2 x24_2).f2))) = w55
     replace BK123 : Aside0 (w55.heap[gb123]? = some (.cells #[.int .i64 a0_0, .int .i64 a0_1, .slice (some ad126) l0_2.length c0_2] 79 (0, 0))) := ⟨by rw [← hq_]; exact (bk2_ BK123.out)⟩
     replace BK127 : Aside0 (w55.heap[gb127]? = some (.cells #[.int .i64 ((rd_T72 l0_2 x24_2).f0), .int .i64 ((rd_T72 l0_2 x24_2).f1), .int .i64 ((rd_T72 l0_2 x24_2).f2)] 72 (0, 0))) := ⟨by rw [← hq_]; exact (by (with_reducible repeat (first | refine blk_drewN ?_ _ | refine blk_drew ?_ | refine blk_alloc ?_ _)); refine blk_put (cs := #[.int .i64 ((rd_T72 l0_2 x24_2).f0), .int .i64 ((rd_T72 l0_2 x24_2).f1), .int .i64 0]) ?_ 2 _ rfl; (with_reducible repeat (first | refine blk_drewN ?_ _ | refine blk_drew ?_ | refine blk_alloc ?_ _)); refine blk_put (cs := #[.int .i64 ((rd_T72 l0_2 x24_2).f0), .int .i64 0, .int .i64 0]) ?_ 1 _ rfl; (with_reducible repeat (first | refine blk_drewN ?_ _ | refine blk_drew ?_ | refine blk_alloc ?_ _)); refine blk_put (cs := #[.int .i64 0, .int .i64 0, .int .i64 0]) ?_ 0 _ rfl; exact bk_ BK127.out)⟩
     replace HB : Aside0 (Below w.heap.size w w55) := ⟨by rw [← hq_]; exact qz1⟩
     clear hq_
     replace BK123 := aM (blk_drew BK123.out)
     replace BK127 := aM (blk_drew BK127.out)
     replace HB := aM (below_drew1 HB.out)
     refine start_ (n := 34) (S := fun w' => w'.cell? ⟨gb127, 0, none⟩ = some (.int .i64 ((rd_T72 l0_2 x24_2).f0)) ∧ w'.cell? ⟨gb127, 1, none⟩ = some (.int .i64 ((rd_T72 l0_2 x24_2).f1)) ∧ w'.cell? ⟨gb127, 2, none⟩ = some (.int .i64 ((rd_T72 l0_2 x24_2).f2))) (ds := []) #[false, false, false, false, false, false, false, false, false, false, false, false, false, false, false, false, false, false, false, false, false, false, false, false, false, false, false, false, false, false, false, false, false, false] (by kernel_rfl) rfl rfl ⟨(blk_cell BK127.out 0).trans rfl, (blk_cell BK127.out 1).trans rfl, (blk_cell BK127.out 2).trans rfl⟩ (fun hHeld => ?_); refine with_tabW impl_podOk.tab6 impl_podOk.bits6 (fun HT_ HW_ => ?_)
     generalize w55.drew = w56 at BK123 BK127 HB hHeld ⊢
     refine pI_ 0 29 (bqz 34 1) ?_
     refine sI3_ 1 30 ?_
     refine one_ (i := 2) (N := some 31) (bqz 34 7) rfl rfl qzc (by decide) (fun K hK => ?_)
     refine goes_ Try.func64 (by kernel_rfl) rfl #[.int .i64 ((rd_T72 l0_2 x24_2).f0), .int .i64 1, .int .i64 50] (by rfl) rfl rfl qz4 ?_
     with_reducible refine (impl_in.calls ((rd_T72 l0_2 x24_2).f0) 1 50 false _ A16.out).mono ?_
     rintro e w' ⟨rfl, ⟨nd, rfl⟩⟩
     refine ⟨_, rfl, ?_⟩
     refine hK.out _ _ ⟨(blk_cell BK127.out 0).trans rfl, (blk_cell BK127.out 1).trans rfl, (blk_cell BK127.out 2).trans rfl⟩ (fun hHeld => ?_)
     clear hK K
     refine nm_ 31 ?_
     refine jI_ 3 32 ?_
     refine jI_ 4 33 ?_
     refine jU_ 5 34 ?_
     refine jU_ 6 35 ?_
     refine jU_ 7 36 ?_
     refine jU_ 8 37 ?_
     refine jI_ 9 38 ?_
     refine jI_ 10 39 ?_
     refine jU_ 11 40 ?_
     refine jU_ 12 41 ?_
     refine jU_ 13 42 ?_
     refine jU_ 14 43 ?_
     refine jU_ 15 44 ?_
     refine jU_ 16 45 ?_
     refine jI_ 17 46 ?_
     refine jI_ 18 47 ?_
     refine jU_ 19 48 ?_
     refine jU_ 20 49 ?_
     refine jU_ 21 50 ?_
     refine jU_ 22 51 ?_
     refine jU_ 23 52 ?_
     refine jU_ 24 53 ?_
     refine jU_ 25 54 ?_
     refine jU_ 26 55 ?_
     refine jU_ 27 56 ?_
     refine jU_ 28 57 ?_
     refine jU_ 29 58 ?_
     refine jU_ 30 59 ?_
     refine jU_ 31 60 ?_
     refine jU_ 32 61 ?_
     refine jI_ 33 62 ?_
     refine done_ (done_of HT_.out (by kernel_rfl)) ?_
     try go_wp2
     go_ret
     exact ⟨qzw, qz1⟩
     }
     }
     {
     exact an_ c15 H
     }
     }
     {
     exact an_ c14 H
     }
     }
     {
     rw [if_neg c13] at H
     have c13b0 := decide_eq_false c13
     clear c13
     obtain rfl := Option.some.inj H
     simp only [Option.some.injEq, Prod.mk.injEq] at H
     obtain ⟨rfl⟩ := H
     go_wp2
     go_ret
     exact ⟨qzw, qz1⟩

     }
   }
end Go.Proofs.Yteajnkondkfmgaa.PFnEach
