-- Made by a program of this session out of the translation. Lean checks it.
import Derived.Test.YteajnkondkfmgaaPFnEachx8
namespace Go.Proofs.Yteajnkondkfmgaa.PFnEach
open Go.RowKit Go.Proofs.YteajnkondkfmgaaW.PrintWords Go.Proofs.YteajnkondkfmgaaW.PrintLast Go.Proofs.YteajnkondkfmgaaW.PrintMore
attribute [local go_sem] max2_int min2_int max_two min_two max_three min_three max_four min_four   -- for this text's walks alone
set_option linter.unusedVariables false
set_option linter.unusedSimpArgs false

/-! ### spec_StockOk: function 37 -/
mutual
def spec_StockOk.l0 : Nat → Int → List (S79) → Option (Bool)
 | 0, _, _ => none
 | k + 1, x3, x177000 => if x3 < (x177000.length : Int) then (if 0 ≤ x3 then ((spec_l1In.f ((rd_T79 x177000 x3).f0) 1 999).bind fun t179 => (if t179 = true then ((spec_l1In.f ((rd_T79 x177000 x3).f1) 0 99).bind fun t180 => (if t180 = true then ((spec_l5Stacks.f k ((rd_T79 x177000 x3).f2)).bind fun t181 => (if t181 = true then (if x3 > 0 then (if 0 ≤ (wrap64 (x3 - 1)) then (if (wrap64 (x3 - 1)) < (x177000.length : Int) then (spec_StockOk.j1 k x3 (decide (((rd_T79 x177000 (wrap64 (x3 - 1))).f0) ≥ ((rd_T79 x177000 x3).f0))) x177000 ((rd_T79 x177000 x3).f0) ((rd_T79 x177000 x3).f1) ((rd_T79 x177000 x3).f2)) else (none)) else (none)) else (spec_StockOk.j1 k x3 false x177000 ((rd_T79 x177000 x3).f0) ((rd_T79 x177000 x3).f1) ((rd_T79 x177000 x3).f2))) else (spec_StockOk.j1 k x3 true x177000 ((rd_T79 x177000 x3).f0) ((rd_T79 x177000 x3).f1) ((rd_T79 x177000 x3).f2)))) else (spec_StockOk.j1 k x3 true x177000 ((rd_T79 x177000 x3).f0) ((rd_T79 x177000 x3).f1) ((rd_T79 x177000 x3).f2)))) else (spec_StockOk.j1 k x3 true x177000 ((rd_T79 x177000 x3).f0) ((rd_T79 x177000 x3).f1) ((rd_T79 x177000 x3).f2)))) else (none)) else (some true)
def spec_StockOk.j1 : Nat → Int → Bool → List (S79) → Int → Int → List (S72) → Option (Bool)
 | 0, _, _, _, _, _, _ => none
 | k + 1, x3, x53, x177000, x179000, x179001, x179002 => if x53 = true then (some false) else (spec_StockOk.l1 k x3 0 x177000 x179000 x179001 x179002)
def spec_StockOk.l1 : Nat → Int → Int → List (S79) → Int → Int → List (S72) → Option (Bool)
 | 0, _, _, _, _, _, _ => none
 | k + 1, x3, x5, x177000, x179000, x179001, x179002 => if x5 < x3 then (if 0 ≤ x5 then (if x5 < (x177000.length : Int) then (if ((rd_T79 x177000 x5).f1) = x179001 then (some false) else (spec_StockOk.l1 k x3 (wrap64 (x5 + 1)) x177000 x179000 x179001 x179002)) else (none)) else (none)) else (spec_StockOk.l0 k (wrap64 (x3 + 1)) x177000)
end
def spec_StockOk.f (k : Nat) (l0_0 : List (S79)) : Option (Bool) := if (l0_0.length : Int) > 12 then (some false) else (spec_StockOk.l0 k 0 l0_0)
theorem spec_StockOk.mono_l : ∀ k, (∀ y0 y1, LeO (spec_StockOk.l0 k y0 y1) (spec_StockOk.l0 (k + 1) y0 y1)) ∧ (∀ y0 y1 y2 y3 y4 y5, LeO (spec_StockOk.j1 k y0 y1 y2 y3 y4 y5) (spec_StockOk.j1 (k + 1) y0 y1 y2 y3 y4 y5)) ∧ (∀ y0 y1 y2 y3 y4 y5, LeO (spec_StockOk.l1 k y0 y1 y2 y3 y4 y5) (spec_StockOk.l1 (k + 1) y0 y1 y2 y3 y4 y5))
 | 0 => ⟨fun _ _ r h => by simp [spec_StockOk.l0] at h, fun _ _ _ _ _ _ r h => by simp [spec_StockOk.j1] at h, fun _ _ _ _ _ _ r h => by simp [spec_StockOk.l1] at h⟩
 | k + 1 => by
  obtain ⟨ih0, ih1, ih2⟩ := spec_StockOk.mono_l k
  refine ⟨?_, ?_, ?_⟩
  {
  intro y0 y1
  unfold spec_StockOk.l0
  have j0 := @spec_l5Stacks.mono
  exact qL
  }
  {
  intro y0 y1 y2 y3 y4 y5
  unfold spec_StockOk.j1
  have j0 := @spec_l5Stacks.mono
  exact qL
  }
  {
  intro y0 y1 y2 y3 y4 y5
  unfold spec_StockOk.l1
  have j0 := @spec_l5Stacks.mono
  exact qL
  }
theorem spec_StockOk.mono : ∀ a0 k, LeO (spec_StockOk.f k a0) (spec_StockOk.f (k + 1) a0) := by
 intro a0 k
 obtain ⟨ih0, ih1, ih2⟩ := spec_StockOk.mono_l k
 unfold spec_StockOk.f
 have j0 := @spec_l5Stacks.mono
 exact qL
def spec_StockOk.T7 : Bool × List (List Nat × List Nat) := (true, [([], []), ([0], [0]), ([1], [1]), ([2], [2]), ([3, 2], [3]), ([4], [4]), ([5, 4], [4, 5]), ([6, 4, 4], [4, 6]), ([7, 4], [4, 7]), ([4, 8], [4, 8]), ([9, 7], [9]), ([10], [10]), ([11, 10], [10, 11]), ([12, 10, 10], [10, 12]), ([13, 10], [10, 13]), ([10, 14], [10, 14]), ([15, 13], [15]), ([16], [16]), ([17, 16], [16, 17]), ([18, 16, 16], [16, 18]), ([19], [19]), ([20, 19], [19, 20]), ([19], [19]), ([22, 19], [19, 22]), ([21, 23, 19], [19, 21, 23]), ([24, 19], [19, 24]), ([25, 19], [19, 25]), ([19], [19]), ([27, 19], [19, 27]), ([26, 28, 19], [19, 26, 28]), ([19, 29, 16], [16, 19, 29]), ([16, 30], [16, 30])])
def spec_StockOk.B7 : List Nat := [0, 1, 3, 7, 15, 31, 63, 127, 255, 511, 1023, 2047, 4095, 8191, 16383, 32767, 65535, 131071, 262143, 524287, 1048575, 2097151, 1048575, 5242879, 16777215, 33554431, 67108863, 1048575, 135266303, 536870911, 1073741823, 2147483647]
theorem spec_StockOk.tab7 : rtab .any (opsOf Try.f37 7) = spec_StockOk.T7 := by kernel_rfl
theorem spec_StockOk.bits7 : waitsOk spec_StockOk.T7.2 spec_StockOk.B7 = true := by kernel_rfl
def spec_StockOk.T12 : Bool × List (List Nat × List Nat) := (true, [([], []), ([0], [0]), ([], []), ([1, 2], [1, 2]), ([3], [3]), ([4], [4]), ([], []), ([6], [6]), ([5, 7], [5, 7])])
def spec_StockOk.B12 : List Nat := [0, 1, 0, 7, 15, 31, 0, 64, 255]
theorem spec_StockOk.tab12 : rtab .any (opsOf Try.f37 12) = spec_StockOk.T12 := by kernel_rfl
theorem spec_StockOk.bits12 : waitsOk spec_StockOk.T12.2 spec_StockOk.B12 = true := by kernel_rfl
set_option maxHeartbeats 8000000 in
set_option maxRecDepth 100000 in
theorem spec_StockOk.calls (k : Nat) (A0_0 : Option Addr) (c0_0 : Nat) (l0_0 : List (S79)) (r : Bool) (w : World) (hr0_0 : Kd.C k79 w A0_0 l0_0.length l0_0) (hc0_0 : l0_0.length ≤ c0_0) (h : spec_StockOk.f k l0_0 = some r) :
  Calls Try.prog 37 #[.agg #[.slice A0_0 l0_0.length c0_0]] w fun e w' => e = .returned (.bool r) ∧ Below w.heap.size w w' := by
 have hu26 := Try.underlying26
 have hu79 := Try.underlying79
 have HR0_0 := aM hr0_0
 have HC0_0 := aM hc0_0
 clear hr0_0 hc0_0
 have HB := aM (Below.refl w.heap.size w)
 have H : (if (l0_0.length : Int) > 12 then (some false) else (spec_StockOk.l0 k 0 l0_0)) = some r := h
 clear h
 by_cases c2 : (l0_0.length : Int) > 12
 {
 rw [if_pos c2] at H
 have c2b0 := decide_eq_true c2
 have c2b1 : decide (12 < l0_0.length) = true := decide_eq_true (by omega)
 clear c2
 obtain rfl := Option.some.inj H
 simp only [Option.some.injEq, Prod.mk.injEq] at H
 obtain ⟨rfl⟩ := H
 go_enter Try.func37, Try.ntmps37
 go_wp2_with (first | ((with_reducible refine gate_dst (N := 1) rfl ?_); refine bx_ 1 #[.slice A0_0 l0_0.length c0_0] 26 ?_; intro gb176 hg w3 hbox hb; have BK176 := aM (hbox); have GW176 := aM (bz_ w hg qz1); have GE176 := GW176; replace HB := bS_ hb; clear hb hbox hg; obtain ⟨hcz4_0, hfz4_0⟩ := bf_ BK176.out))
 go_ret
 exact ⟨qzw, qz1⟩
 }
 {
 rw [if_neg c2] at H
 have c2b0 := decide_eq_false c2
 have c2b1 : decide (12 < l0_0.length) = false := decide_eq_false (by omega)
 clear c2
 have H' := aM H
 clear H
 go_enter Try.func37, Try.ntmps37
 go_wp2_with (first | ((with_reducible refine gate_dst (N := 1) rfl ?_); refine bx_ 1 #[.slice A0_0 l0_0.length c0_0] 26 ?_; intro gb176 hg w5 hbox hb; have BK176 := aM (hbox); have GW176 := aM (bz_ w hg qz1); have GE176 := GW176; replace HB := bS_ hb; clear hb hbox hg; obtain ⟨hcz6_0, hfz6_0⟩ := bf_ BK176.out))
 go_loopg [3] k (fun kq v3 w' => ∃ (x3_1 : Int), v3 = .int .i64 x3_1 ∧ Aside0 (spec_StockOk.l0 kq x3_1 l0_0 = some r) ∧ Aside0 (kq ≤ k) ∧ Aside0 (w'.heap[gb176]? = some (.cells #[(.slice A0_0 l0_0.length c0_0)] 26 (0, 0))) ∧ Aside0 (Below w.heap.size w w'))
 case atStart => exact ⟨(0), qz5, H', ⟨Nat.le_refl _⟩, ⟨bk_ BK176.out⟩, ⟨qz1⟩⟩
 case round =>
  clear H'
  try clear c2
  try clear c2b0
  try clear c2b1
  try clear p2
  try clear c3
  try clear hcz4_0 hfz4_0
  try clear hcz6_0 hfz6_0
  obtain ⟨x3_1, rfl, HA, HK1, BK176, HB⟩ := hrel
  cases gk with
  | zero => exact absurd HA.out (by simp [spec_StockOk.l0])
  | succ k1 =>
   have H := HA.out
   clear HA
   simp only [spec_StockOk.l0] at H
   by_cases c7 : x3_1 < (l0_0.length : Int)
   {
   rw [if_pos c7] at H
   have c7b0 := decide_eq_true c7
   clear c7
   by_cases c8 : 0 ≤ x3_1
   {
   rw [if_pos c8] at H
   have c8b0 := decide_eq_true c8
   clear c8
   have HC9 := aM H
   clear H
   obtain ⟨hcz10_0, hfz10_0⟩ := bf_ BK176.out
   have p177 : 0 ≤ (x3_1 : Int) := dt_
   have q177 : x3_1 < (l0_0.length : Int) := dt_
   obtain ⟨ad177, A177_2, c177_2, e177, hx177_0, hx177_1, hx177_2, hl177_2, hi177_2⟩ := at_T79 HR0_0.out x3_1 p177 q177
   cases e177
   replace hx177_0 := cB_ hx177_0
   replace hx177_1 := cB_ hx177_1
   replace hx177_2 := cB_ hx177_2
   have HR177_2 := aM hi177_2
   have HC177_2 := aM hl177_2
   clear hi177_2 hl177_2
   replace p177 := eq_true p177
   replace q177 := eq_true q177
   go_upto_region 7 with (first | ((with_reducible refine gate_dst (N := 4) rfl ?_); refine bx_ 4 #[.int .i64 0, .int .i64 0, .slice none 0 0] 79 ?_; intro gb178 hg w11 hbox hb; have BK178 := aM (hbox); have GW178 := aM (bz_ w hg qz1); have GE178 := GW178; replace HB := bS_ hb; obtain ⟨NB176_178, NB178_176⟩ := nb_ hg (bk_ BK176.out); replace BK176 := bB_ BK176 hb; clear hb hbox hg; have hnb12 := NB178_176.out; have hnc12 := NB176_178.out; obtain ⟨hcz13_0, hcz13_1, hcz13_2, hfz13_0, hfz13_1, hfz13_2⟩ := b6_ BK178.out))
   (try simp only [Act.put, List.setIfInBounds_toArray, List.set_cons_zero, List.set_cons_succ])
   go_cut [53] (fun v53 wc => ∃ (kq : Nat) (x53_8 : Bool), v53 = .bool x53_8 ∧ Aside0 (spec_StockOk.j1 kq x3_1 x53_8 l0_0 ((rd_T79 l0_0 x3_1).f0) ((rd_T79 l0_0 x3_1).f1) ((rd_T79 l0_0 x3_1).f2) = some r) ∧ Aside0 (kq ≤ k1) ∧ Aside0 (wc.heap[gb176]? = some (.cells #[(.slice (some ad177) l0_0.length c0_0)] 26 (0, 0))) ∧ Aside0 (wc.heap[gb178]? = some (.cells #[.int .i64 ((rd_T79 l0_0 x3_1).f0), .int .i64 ((rd_T79 l0_0 x3_1).f1), (.slice A177_2 ((rd_T79 l0_0 x3_1).f2).length c177_2)] 79 (0, 0))) ∧ Aside0 (Below w.heap.size w wc))
   case first =>
    have H := HC9.out
    clear HC9
    replace H := Option.bind_eq_some_iff.mp H
    obtain ⟨t179, A140, H⟩ := H
    replace H : (if t179 = true then ((spec_l1In.f ((rd_T79 l0_0 x3_1).f1) 0 99).bind fun t180 => (if t180 = true then ((spec_l5Stacks.f k1 ((rd_T79 l0_0 x3_1).f2)).bind fun t181 => (if t181 = true then (if x3_1 > 0 then (if 0 ≤ (wrap64 (x3_1 - 1)) then (if (wrap64 (x3_1 - 1)) < (l0_0.length : Int) then (spec_StockOk.j1 k1 x3_1 (decide (((rd_T79 l0_0 (wrap64 (x3_1 - 1))).f0) ≥ ((rd_T79 l0_0 x3_1).f0))) l0_0 ((rd_T79 l0_0 x3_1).f0) ((rd_T79 l0_0 x3_1).f1) ((rd_T79 l0_0 x3_1).f2)) else (none)) else (none)) else (spec_StockOk.j1 k1 x3_1 false l0_0 ((rd_T79 l0_0 x3_1).f0) ((rd_T79 l0_0 x3_1).f1) ((rd_T79 l0_0 x3_1).f2))) else (spec_StockOk.j1 k1 x3_1 true l0_0 ((rd_T79 l0_0 x3_1).f0) ((rd_T79 l0_0 x3_1).f1) ((rd_T79 l0_0 x3_1).f2)))) else (spec_StockOk.j1 k1 x3_1 true l0_0 ((rd_T79 l0_0 x3_1).f0) ((rd_T79 l0_0 x3_1).f1) ((rd_T79 l0_0 x3_1).f2)))) else (spec_StockOk.j1 k1 x3_1 true l0_0 ((rd_T79 l0_0 x3_1).f0) ((rd_T79 l0_0 x3_1).f1) ((rd_T79 l0_0 x3_1).f2))) = some r := H
    have A14 := aM A140
    clear A140
    by_cases c15 : t179 = true
    {
    subst c15
    rw [if_pos rfl] at H
    replace H := Option.bind_eq_some_iff.mp H
    obtain ⟨t180, A160, H⟩ := H
    replace H : (if t180 = true then ((spec_l5Stacks.f k1 ((rd_T79 l0_0 x3_1).f2)).bind fun t181 => (if t181 = true then (if x3_1 > 0 then (if 0 ≤ (wrap64 (x3_1 - 1)) then (if (wrap64 (x3_1 - 1)) < (l0_0.length : Int) then (spec_StockOk.j1 k1 x3_1 (decide (((rd_T79 l0_0 (wrap64 (x3_1 - 1))).f0) ≥ ((rd_T79 l0_0 x3_1).f0))) l0_0 ((rd_T79 l0_0 x3_1).f0) ((rd_T79 l0_0 x3_1).f1) ((rd_T79 l0_0 x3_1).f2)) else (none)) else (none)) else (spec_StockOk.j1 k1 x3_1 false l0_0 ((rd_T79 l0_0 x3_1).f0) ((rd_T79 l0_0 x3_1).f1) ((rd_T79 l0_0 x3_1).f2))) else (spec_StockOk.j1 k1 x3_1 true l0_0 ((rd_T79 l0_0 x3_1).f0) ((rd_T79 l0_0 x3_1).f1) ((rd_T79 l0_0 x3_1).f2)))) else (spec_StockOk.j1 k1 x3_1 true l0_0 ((rd_T79 l0_0 x3_1).f0) ((rd_T79 l0_0 x3_1).f1) ((rd_T79 l0_0 x3_1).f2))) = some r := H
    have A16 := aM A160
    clear A160
    by_cases c17 : t180 = true
    {
    subst c17
    rw [if_pos rfl] at H
    replace H := Option.bind_eq_some_iff.mp H
    obtain ⟨t181, A180, H⟩ := H
    replace H : (if t181 = true then (if x3_1 > 0 then (if 0 ≤ (wrap64 (x3_1 - 1)) then (if (wrap64 (x3_1 - 1)) < (l0_0.length : Int) then (spec_StockOk.j1 k1 x3_1 (decide (((rd_T79 l0_0 (wrap64 (x3_1 - 1))).f0) ≥ ((rd_T79 l0_0 x3_1).f0))) l0_0 ((rd_T79 l0_0 x3_1).f0) ((rd_T79 l0_0 x3_1).f1) ((rd_T79 l0_0 x3_1).f2)) else (none)) else (none)) else (spec_StockOk.j1 k1 x3_1 false l0_0 ((rd_T79 l0_0 x3_1).f0) ((rd_T79 l0_0 x3_1).f1) ((rd_T79 l0_0 x3_1).f2))) else (spec_StockOk.j1 k1 x3_1 true l0_0 ((rd_T79 l0_0 x3_1).f0) ((rd_T79 l0_0 x3_1).f1) ((rd_T79 l0_0 x3_1).f2))) = some r := H
    have A18 := aM A180
    clear A180
    by_cases c19 : t181 = true
    {
    subst c19
    rw [if_pos rfl] at H
    by_cases c20 : x3_1 > 0
    {
    rw [if_pos c20] at H
    have c20b0 := decide_eq_true c20
    clear c20
    (first | rw [c20b0] | (simp only [i64_w, i32_w]; rw [c20b0]) | rw [@decide_eq_true _ _ (of_decide_eq_true c20b0)] | rw [@decide_eq_true _ _ (of_decide_eq_true c20b1)] | skip)
    obtain ⟨ji21, hji21⟩ : ∃ j_ : Int, (wrap64 (x3_1 - 1)) = j_ := ⟨_, rfl⟩
    replace H : (if 0 ≤ (ji21) then (if (ji21) < (l0_0.length : Int) then (spec_StockOk.j1 k1 x3_1 (decide (((rd_T79 l0_0 (ji21)).f0) ≥ ((rd_T79 l0_0 x3_1).f0))) l0_0 ((rd_T79 l0_0 x3_1).f0) ((rd_T79 l0_0 x3_1).f1) ((rd_T79 l0_0 x3_1).f2)) else (none)) else (none)) = some r := by first | (rw [hji21] at H; exact H) | (simp only [hji21] at H ⊢; exact H)
    (try rw [hji21] at A14)
    (try rw [hji21] at A16)
    (try rw [hji21] at A18)
    have hji21w : (IntKind.i64.wrap (x3_1 - 1)) = ji21 := (i64_w _).trans hji21
    by_cases c22 : 0 ≤ (ji21)
    {
    rw [if_pos c22] at H
    have c22b0 := decide_eq_true c22
    clear c22
    by_cases c23 : (ji21) < (l0_0.length : Int)
    {
    rw [if_pos c23] at H
    have c23b0 := decide_eq_true c23
    clear c23
    have H' := aM H
    clear H
    try go_wp2
    generalize hq_ : (((w11.setCell ⟨gb178, 0, none⟩ (.int .i64 ((rd_T79 l0_0 x3_1).f0))).setCell ⟨gb178, 1, none⟩ (.int .i64 ((rd_T79 l0_0 x3_1).f1))).setCell ⟨gb178, 2, none⟩ (.slice A177_2 ((rd_T79 l0_0 x3_1).f2).length c177_2)) = w24
    replace BK176 : Aside0 (w24.heap[gb176]? = some (.cells #[.slice (some ad177) l0_0.length c0_0] 26 (0, 0))) := ⟨by rw [← hq_]; exact (bk2_ BK176.out)⟩
    replace BK178 : Aside0 (w24.heap[gb178]? = some (.cells #[.int .i64 ((rd_T79 l0_0 x3_1).f0), .int .i64 ((rd_T79 l0_0 x3_1).f1), .slice A177_2 ((rd_T79 l0_0 x3_1).f2).length c177_2] 79 (0, 0))) := ⟨by rw [← hq_]; exact (by (with_reducible repeat (first | refine blk_drewN ?_ _ | refine blk_drew ?_ | refine blk_alloc ?_ _)); refine blk_put (cs := #[.int .i64 ((rd_T79 l0_0 x3_1).f0), .int .i64 ((rd_T79 l0_0 x3_1).f1), .slice none 0 0]) ?_ 2 _ rfl; (with_reducible repeat (first | refine blk_drewN ?_ _ | refine blk_drew ?_ | refine blk_alloc ?_ _)); refine blk_put (cs := #[.int .i64 ((rd_T79 l0_0 x3_1).f0), .int .i64 0, .slice none 0 0]) ?_ 1 _ rfl; (with_reducible repeat (first | refine blk_drewN ?_ _ | refine blk_drew ?_ | refine blk_alloc ?_ _)); refine blk_put (cs := #[.int .i64 0, .int .i64 0, .slice none 0 0]) ?_ 0 _ rfl; exact bk_ BK178.out)⟩
    replace HB : Aside0 (Below w.heap.size w w24) := ⟨by rw [← hq_]; exact qz1⟩
    clear hq_
    replace BK176 := aM (blk_drew BK176.out)
    replace BK178 := aM (blk_drew BK178.out)
    replace HB := aM (below_drew1 HB.out)
    have p182 : 0 ≤ ((ji21) : Int) := dt_
    have q182 : (ji21) < (l0_0.length : Int) := dt_
    obtain ⟨ad182, A182_2, c182_2, e182, hx182_0, hx182_1, hx182_2, hl182_2, hi182_2⟩ := at_T79 HR0_0.out (ji21) p182 q182
    have hw182_2 := hx182_2
    have hw182_1 := hx182_1
    have hw182_0 := hx182_0
    obtain rfl : ad177 = ad182 := (by injection e182)
    replace hx182_0 := cB_ hx182_0
    replace hx182_1 := cB_ hx182_1
    replace hx182_2 := cB_ hx182_2
    have HR182_2 := aM hi182_2
    have HC182_2 := aM hl182_2
    clear hi182_2 hl182_2
    replace p182 := eq_true p182
    replace q182 := eq_true q182
    refine start_ (n := 32) (S := fun w' => w'.cell? ⟨gb178, 0, none⟩ = some (.int .i64 ((rd_T79 l0_0 x3_1).f0)) ∧ w'.cell? ⟨gb178, 1, none⟩ = some (.int .i64 ((rd_T79 l0_0 x3_1).f1)) ∧ w'.cell? ⟨gb178, 2, none⟩ = some (.slice A177_2 ((rd_T79 l0_0 x3_1).f2).length c177_2) ∧ w'.cell? ⟨gb176, 0, none⟩ = some (.slice (some ad177) l0_0.length c0_0) ∧ w'.cell? (ad177.add (((ji21)).toNat * 3)) = some (.int .i64 ((rd_T79 l0_0 (ji21)).f0)) ∧ w'.cell? ⟨(ad177.add (((ji21)).toNat * 3)).block, (ad177.add (((ji21)).toNat * 3)).off + 1, none⟩ = some (.int .i64 ((rd_T79 l0_0 (ji21)).f1)) ∧ w'.cell? ⟨(ad177.add (((ji21)).toNat * 3)).block, (ad177.add (((ji21)).toNat * 3)).off + 2, none⟩ = some (.slice A182_2 ((rd_T79 l0_0 (ji21)).f2).length c182_2)) (ds := []) #[false, false, false, false, false, false, false, false, false, false, false, false, false, false, false, false, false, false, false, false, false, false, false, false, false, false, false, false, false, false, false, false] (by kernel_rfl) rfl rfl ⟨(blk_cell BK178.out 0).trans rfl, (blk_cell BK178.out 1).trans rfl, (blk_cell BK178.out 2).trans rfl, (blk_cell BK176.out 0).trans rfl, (cB_ hw182_0), (cB_ hw182_1), (cB_ hw182_2)⟩ (fun hHeld => ?_); refine with_tabW spec_StockOk.tab7 spec_StockOk.bits7 (fun HT_ HW_ => ?_)
    generalize w24.drew = w25 at BK176 BK178 HB HR182_2 hx182_0 hx182_1 hx182_2 hHeld ⊢
    refine pI_ 0 22 (bqz 32 1) ?_
    refine sI7_ 1 23 ?_
    refine one_ (i := 2) (N := some 24) (bqz 32 7) rfl rfl qzc (by decide) (fun K hK => ?_)
    refine goes_ Try.func81 (by kernel_rfl) rfl #[.int .i64 ((rd_T79 l0_0 x3_1).f0), .int .i64 1, .int .i64 999] (by rfl) rfl rfl qz4 ?_
    with_reducible refine (spec_l1In.calls ((rd_T79 l0_0 x3_1).f0) 1 999 true _ A14.out).mono ?_
    rintro e w' ⟨rfl, ⟨nd, rfl⟩⟩
    refine ⟨_, rfl, ?_⟩
    refine hK.out _ _ ⟨(blk_cell BK178.out 0).trans rfl, (blk_cell BK178.out 1).trans rfl, (blk_cell BK178.out 2).trans rfl, (blk_cell BK176.out 0).trans rfl, (cB_ hw182_0), (cB_ hw182_1), (cB_ hw182_2)⟩ (fun hHeld => ?_)
    clear hK K
    refine nm_ 24 ?_
    refine jI_ 3 25 ?_
    refine jI_ 4 26 ?_
    refine jI_ 5 27 ?_
    refine sI7_ 6 28 ?_
    refine one_ (i := 7) (N := some 29) (bqz 32 255) rfl rfl qzc (by decide) (fun K hK => ?_)
    refine goes_ Try.func81 (by kernel_rfl) rfl #[.int .i64 ((rd_T79 l0_0 x3_1).f1), .int .i64 0, .int .i64 99] (by rfl) rfl rfl qz4 ?_
    with_reducible refine (spec_l1In.calls ((rd_T79 l0_0 x3_1).f1) 0 99 true _ A16.out).mono ?_
    rintro e w' ⟨rfl, ⟨nd, rfl⟩⟩
    refine ⟨_, rfl, ?_⟩
    refine hK.out _ _ ⟨(blk_cell BK178.out 0).trans rfl, (blk_cell BK178.out 1).trans rfl, (blk_cell BK178.out 2).trans rfl, (blk_cell BK176.out 0).trans rfl, (cB_ hw182_0), (cB_ hw182_1), (cB_ hw182_2)⟩ (fun hHeld => ?_)
    clear hK K
    refine nm_ 29 ?_
    refine jI_ 8 30 ?_
    refine jI_ 9 31 ?_
    refine jI_ 10 32 ?_
    refine jI_ 11 33 ?_
    refine sI7_ 12 34 ?_
    refine one_ (i := 13) (N := some 35) (bqz 32 16383) rfl rfl qzc (by decide) (fun K hK => ?_)
    refine goes_ Try.func82 (by kernel_rfl) rfl #[.slice A177_2 ((rd_T79 l0_0 x3_1).f2).length c177_2] (by rfl) rfl rfl qz4 ?_
    with_reducible refine (spec_l5Stacks.calls k1 _ _ ((rd_T79 l0_0 x3_1).f2) true _ ?side1 ?side2 A18.out).mono ?_
    (case side1 => exact qz45)
    (case side2 => exact HC177_2.out)
    rintro e w26 ⟨rfl, hb⟩
    refine ⟨_, rfl, ?_⟩
    replace BK176 := bB_ BK176 hb
    replace BK178 := bB_ BK178 hb
    replace HB := bS_ hb
    (try clear hb)
    (try clear hb2)
    (try clear hk)
    (try clear hi)
    refine hK.out _ _ ⟨(blk_cell BK178.out 0).trans rfl, (blk_cell BK178.out 1).trans rfl, (blk_cell BK178.out 2).trans rfl, (blk_cell BK176.out 0).trans rfl, (cB_ hw182_0), (cB_ hw182_1), (cB_ hw182_2)⟩ (fun hHeld => ?_)
    clear hK K
    refine nm_ 35 ?_
    refine pI_ 14 36 (bqz 32 32767) ?_
    refine jI_ 15 37 ?_
    refine jI_ 16 38 ?_
    refine jI_ 17 39 ?_
    refine jI_ 18 40 ?_
    refine jI_ 19 41 ?_
    refine jI_ 20 42 ?_
    refine jI_ 22 44 ?_
    refine jI_ 23 45 ?_
    refine jI_ 27 49 ?_
    refine sI7_ 21 43 ?_
    refine jI_ 24 46 ?_
    refine jI_ 25 47 ?_
    refine sI7_ 26 48 ?_
    refine sI7_ 28 50 ?_
    refine jI_ 29 51 ?_
    refine jI_ 30 52 ?_
    refine jI_ 31 53 ?_
    refine done_ (done_of HT_.out (by kernel_rfl)) ?_
    try go_wp2
    go_meet
    case rel => exact ⟨_, (decide (((rd_T79 l0_0 (ji21)).f0) ≥ ((rd_T79 l0_0 x3_1).f0))), (by first | rfl | (simp; done) | (simp only [← hji21] <;> (first | rfl | simp)) | (simp [*]; done)), H', ⟨by have := HK1.out; first | omega | exact Nat.le_refl _⟩, ⟨bk_ BK176.out⟩, ⟨bk_ BK178.out⟩, ⟨qz1⟩⟩
    }
    {
    exact an_ c23 H
    }
    }
    {
    exact an_ c22 H
    }
    }
    {
    rw [if_neg c20] at H
    have c20b0 := decide_eq_false c20
    clear c20
    (first | rw [c20b0] | (simp only [i64_w, i32_w]; rw [c20b0]) | rw [@decide_eq_false _ _ (of_decide_eq_false c20b0)] | rw [@decide_eq_false _ _ (of_decide_eq_false c20b1)] | skip)
    have H' := aM H
    clear H
    try go_wp2
    generalize hq_ : (((w11.setCell ⟨gb178, 0, none⟩ (.int .i64 ((rd_T79 l0_0 x3_1).f0))).setCell ⟨gb178, 1, none⟩ (.int .i64 ((rd_T79 l0_0 x3_1).f1))).setCell ⟨gb178, 2, none⟩ (.slice A177_2 ((rd_T79 l0_0 x3_1).f2).length c177_2)) = w27
    replace BK176 : Aside0 (w27.heap[gb176]? = some (.cells #[.slice (some ad177) l0_0.length c0_0] 26 (0, 0))) := ⟨by rw [← hq_]; exact (bk2_ BK176.out)⟩
    replace BK178 : Aside0 (w27.heap[gb178]? = some (.cells #[.int .i64 ((rd_T79 l0_0 x3_1).f0), .int .i64 ((rd_T79 l0_0 x3_1).f1), .slice A177_2 ((rd_T79 l0_0 x3_1).f2).length c177_2] 79 (0, 0))) := ⟨by rw [← hq_]; exact (by (with_reducible repeat (first | refine blk_drewN ?_ _ | refine blk_drew ?_ | refine blk_alloc ?_ _)); refine blk_put (cs := #[.int .i64 ((rd_T79 l0_0 x3_1).f0), .int .i64 ((rd_T79 l0_0 x3_1).f1), .slice none 0 0]) ?_ 2 _ rfl; (with_reducible repeat (first | refine blk_drewN ?_ _ | refine blk_drew ?_ | refine blk_alloc ?_ _)); refine blk_put (cs := #[.int .i64 ((rd_T79 l0_0 x3_1).f0), .int .i64 0, .slice none 0 0]) ?_ 1 _ rfl; (with_reducible repeat (first | refine blk_drewN ?_ _ | refine blk_drew ?_ | refine blk_alloc ?_ _)); refine blk_put (cs := #[.int .i64 0, .int .i64 0, .slice none 0 0]) ?_ 0 _ rfl; exact bk_ BK178.out)⟩
    replace HB : Aside0 (Below w.heap.size w w27) := ⟨by rw [← hq_]; exact qz1⟩
    clear hq_
    replace BK176 := aM (blk_drew BK176.out)
    replace BK178 := aM (blk_drew BK178.out)
    replace HB := aM (below_drew1 HB.out)
    refine start_ (n := 32) (S := fun w' => w'.cell? ⟨gb178, 0, none⟩ = some (.int .i64 ((rd_T79 l0_0 x3_1).f0)) ∧ w'.cell? ⟨gb178, 1, none⟩ = some (.int .i64 ((rd_T79 l0_0 x3_1).f1)) ∧ w'.cell? ⟨gb178, 2, none⟩ = some (.slice A177_2 ((rd_T79 l0_0 x3_1).f2).length c177_2)) (ds := []) #[false, false, false, false, false, false, false, false, false, false, false, false, false, false, false, false, false, false, false, false, false, false, false, false, false, false, false, false, false, false, false, false] (by kernel_rfl) rfl rfl ⟨(blk_cell BK178.out 0).trans rfl, (blk_cell BK178.out 1).trans rfl, (blk_cell BK178.out 2).trans rfl⟩ (fun hHeld => ?_); refine with_tabW spec_StockOk.tab7 spec_StockOk.bits7 (fun HT_ HW_ => ?_)
    generalize w27.drew = w28 at BK176 BK178 HB hHeld ⊢
    refine pI_ 0 22 (bqz 32 1) ?_
    refine sI3_ 1 23 ?_
    refine one_ (i := 2) (N := some 24) (bqz 32 7) rfl rfl qzc (by decide) (fun K hK => ?_)
    refine goes_ Try.func81 (by kernel_rfl) rfl #[.int .i64 ((rd_T79 l0_0 x3_1).f0), .int .i64 1, .int .i64 999] (by rfl) rfl rfl qz4 ?_
    with_reducible refine (spec_l1In.calls ((rd_T79 l0_0 x3_1).f0) 1 999 true _ A14.out).mono ?_
    rintro e w' ⟨rfl, ⟨nd, rfl⟩⟩
    refine ⟨_, rfl, ?_⟩
    refine hK.out _ _ ⟨(blk_cell BK178.out 0).trans rfl, (blk_cell BK178.out 1).trans rfl, (blk_cell BK178.out 2).trans rfl⟩ (fun hHeld => ?_)
    clear hK K
    refine nm_ 24 ?_
    refine jI_ 3 25 ?_
    refine jI_ 4 26 ?_
    refine jI_ 5 27 ?_
    refine sI3_ 6 28 ?_
    refine one_ (i := 7) (N := some 29) (bqz 32 255) rfl rfl qzc (by decide) (fun K hK => ?_)
    refine goes_ Try.func81 (by kernel_rfl) rfl #[.int .i64 ((rd_T79 l0_0 x3_1).f1), .int .i64 0, .int .i64 99] (by rfl) rfl rfl qz4 ?_
    with_reducible refine (spec_l1In.calls ((rd_T79 l0_0 x3_1).f1) 0 99 true _ A16.out).mono ?_
    rintro e w' ⟨rfl, ⟨nd, rfl⟩⟩
    refine ⟨_, rfl, ?_⟩
    refine hK.out _ _ ⟨(blk_cell BK178.out 0).trans rfl, (blk_cell BK178.out 1).trans rfl, (blk_cell BK178.out 2).trans rfl⟩ (fun hHeld => ?_)
    clear hK K
    refine nm_ 29 ?_
    refine jI_ 8 30 ?_
    refine jI_ 9 31 ?_
    refine jI_ 10 32 ?_
    refine jI_ 11 33 ?_
    refine sI3_ 12 34 ?_
    refine one_ (i := 13) (N := some 35) (bqz 32 16383) rfl rfl qzc (by decide) (fun K hK => ?_)
    refine goes_ Try.func82 (by kernel_rfl) rfl #[.slice A177_2 ((rd_T79 l0_0 x3_1).f2).length c177_2] (by rfl) rfl rfl qz4 ?_
    with_reducible refine (spec_l5Stacks.calls k1 _ _ ((rd_T79 l0_0 x3_1).f2) true _ ?side1 ?side2 A18.out).mono ?_
    (case side1 => exact qz45)
    (case side2 => exact HC177_2.out)
    rintro e w29 ⟨rfl, hb⟩
    refine ⟨_, rfl, ?_⟩
    replace BK176 := bB_ BK176 hb
    replace BK178 := bB_ BK178 hb
    replace HB := bS_ hb
    (try clear hb)
    (try clear hb2)
    (try clear hk)
    (try clear hi)
    refine hK.out _ _ ⟨(blk_cell BK178.out 0).trans rfl, (blk_cell BK178.out 1).trans rfl, (blk_cell BK178.out 2).trans rfl⟩ (fun hHeld => ?_)
    clear hK K
    refine nm_ 35 ?_
    refine pI_ 14 36 (bqz 32 32767) ?_
    refine jI_ 15 37 ?_
    refine jI_ 16 38 ?_
    refine jI_ 17 39 ?_
    refine jI_ 18 40 ?_
    refine jI_ 19 41 ?_
    refine jU_ 20 42 ?_
    refine jU_ 21 43 ?_
    refine jU_ 22 44 ?_
    refine jU_ 23 45 ?_
    refine jU_ 24 46 ?_
    refine jU_ 25 47 ?_
    refine jU_ 26 48 ?_
    refine jU_ 27 49 ?_
    refine jU_ 28 50 ?_
    refine jU_ 29 51 ?_
    refine jI_ 30 52 ?_
    refine jI_ 31 53 ?_
    refine done_ (done_of HT_.out (by kernel_rfl)) ?_
    try go_wp2
    go_meet
    case rel => exact ⟨_, (false), qz5, H', ⟨by have := HK1.out; first | omega | exact Nat.le_refl _⟩, ⟨bk_ BK176.out⟩, ⟨bk_ BK178.out⟩, ⟨qz1⟩⟩
    }
    }
    {
    replace c19 := Bool.eq_false_iff.mpr c19
    subst c19
    rw [if_neg (show ¬ (false = true) by decide)] at H
    have H' := aM H
    clear H
    try go_wp2
    generalize hq_ : (((w11.setCell ⟨gb178, 0, none⟩ (.int .i64 ((rd_T79 l0_0 x3_1).f0))).setCell ⟨gb178, 1, none⟩ (.int .i64 ((rd_T79 l0_0 x3_1).f1))).setCell ⟨gb178, 2, none⟩ (.slice A177_2 ((rd_T79 l0_0 x3_1).f2).length c177_2)) = w30
    replace BK176 : Aside0 (w30.heap[gb176]? = some (.cells #[.slice (some ad177) l0_0.length c0_0] 26 (0, 0))) := ⟨by rw [← hq_]; exact (bk2_ BK176.out)⟩
    replace BK178 : Aside0 (w30.heap[gb178]? = some (.cells #[.int .i64 ((rd_T79 l0_0 x3_1).f0), .int .i64 ((rd_T79 l0_0 x3_1).f1), .slice A177_2 ((rd_T79 l0_0 x3_1).f2).length c177_2] 79 (0, 0))) := ⟨by rw [← hq_]; exact (by (with_reducible repeat (first | refine blk_drewN ?_ _ | refine blk_drew ?_ | refine blk_alloc ?_ _)); refine blk_put (cs := #[.int .i64 ((rd_T79 l0_0 x3_1).f0), .int .i64 ((rd_T79 l0_0 x3_1).f1), .slice none 0 0]) ?_ 2 _ rfl; (with_reducible repeat (first | refine blk_drewN ?_ _ | refine blk_drew ?_ | refine blk_alloc ?_ _)); refine blk_put (cs := #[.int .i64 ((rd_T79 l0_0 x3_1).f0), .int .i64 0, .slice none 0 0]) ?_ 1 _ rfl; (with_reducible repeat (first | refine blk_drewN ?_ _ | refine blk_drew ?_ | refine blk_alloc ?_ _)); refine blk_put (cs := #[.int .i64 0, .int .i64 0, .slice none 0 0]) ?_ 0 _ rfl; exact bk_ BK178.out)⟩
    replace HB : Aside0 (Below w.heap.size w w30) := ⟨by rw [← hq_]; exact qz1⟩
    clear hq_
    replace BK176 := aM (blk_drew BK176.out)
    replace BK178 := aM (blk_drew BK178.out)
    replace HB := aM (below_drew1 HB.out)
    refine start_ (n := 32) (S := fun w' => w'.cell? ⟨gb178, 0, none⟩ = some (.int .i64 ((rd_T79 l0_0 x3_1).f0)) ∧ w'.cell? ⟨gb178, 1, none⟩ = some (.int .i64 ((rd_T79 l0_0 x3_1).f1)) ∧ w'.cell? ⟨gb178, 2, none⟩ = some (.slice A177_2 ((rd_T79 l0_0 x3_1).f2).length c177_2)) (ds := []) #[false, false, false, false, false, false, false, false, false, false, false, false, false, false, false, false, false, false, false, false, false, false, false, false, false, false, false, false, false, false, false, false] (by kernel_rfl) rfl rfl ⟨(blk_cell BK178.out 0).trans rfl, (blk_cell BK178.out 1).trans rfl, (blk_cell BK178.out 2).trans rfl⟩ (fun hHeld => ?_); refine with_tabW spec_StockOk.tab7 spec_StockOk.bits7 (fun HT_ HW_ => ?_)
    generalize w30.drew = w31 at BK176 BK178 HB hHeld ⊢
    refine pI_ 0 22 (bqz 32 1) ?_
    refine sI3_ 1 23 ?_
    refine one_ (i := 2) (N := some 24) (bqz 32 7) rfl rfl qzc (by decide) (fun K hK => ?_)
    refine goes_ Try.func81 (by kernel_rfl) rfl #[.int .i64 ((rd_T79 l0_0 x3_1).f0), .int .i64 1, .int .i64 999] (by rfl) rfl rfl qz4 ?_
    with_reducible refine (spec_l1In.calls ((rd_T79 l0_0 x3_1).f0) 1 999 true _ A14.out).mono ?_
    rintro e w' ⟨rfl, ⟨nd, rfl⟩⟩
    refine ⟨_, rfl, ?_⟩
    refine hK.out _ _ ⟨(blk_cell BK178.out 0).trans rfl, (blk_cell BK178.out 1).trans rfl, (blk_cell BK178.out 2).trans rfl⟩ (fun hHeld => ?_)
    clear hK K
    refine nm_ 24 ?_
    refine jI_ 3 25 ?_
    refine jI_ 4 26 ?_
    refine jI_ 5 27 ?_
    refine sI3_ 6 28 ?_
    refine one_ (i := 7) (N := some 29) (bqz 32 255) rfl rfl qzc (by decide) (fun K hK => ?_)
    refine goes_ Try.func81 (by kernel_rfl) rfl #[.int .i64 ((rd_T79 l0_0 x3_1).f1), .int .i64 0, .int .i64 99] (by rfl) rfl rfl qz4 ?_
    with_reducible refine (spec_l1In.calls ((rd_T79 l0_0 x3_1).f1) 0 99 true _ A16.out).mono ?_
    rintro e w' ⟨rfl, ⟨nd, rfl⟩⟩
    refine ⟨_, rfl, ?_⟩
    refine hK.out _ _ ⟨(blk_cell BK178.out 0).trans rfl, (blk_cell BK178.out 1).trans rfl, (blk_cell BK178.out 2).trans rfl⟩ (fun hHeld => ?_)
    clear hK K
    refine nm_ 29 ?_
    refine jI_ 8 30 ?_
    refine jI_ 9 31 ?_
    refine jI_ 10 32 ?_
    refine jI_ 11 33 ?_
    refine sI3_ 12 34 ?_
    refine one_ (i := 13) (N := some 35) (bqz 32 16383) rfl rfl qzc (by decide) (fun K hK => ?_)
    refine goes_ Try.func82 (by kernel_rfl) rfl #[.slice A177_2 ((rd_T79 l0_0 x3_1).f2).length c177_2] (by rfl) rfl rfl qz4 ?_
    with_reducible refine (spec_l5Stacks.calls k1 _ _ ((rd_T79 l0_0 x3_1).f2) false _ ?side1 ?side2 A18.out).mono ?_
    (case side1 => exact qz45)
    (case side2 => exact HC177_2.out)
    rintro e w32 ⟨rfl, hb⟩
    refine ⟨_, rfl, ?_⟩
    replace BK176 := bB_ BK176 hb
    replace BK178 := bB_ BK178 hb
    replace HB := bS_ hb
    (try clear hb)
    (try clear hb2)
    (try clear hk)
    (try clear hi)
    refine hK.out _ _ ⟨(blk_cell BK178.out 0).trans rfl, (blk_cell BK178.out 1).trans rfl, (blk_cell BK178.out 2).trans rfl⟩ (fun hHeld => ?_)
    clear hK K
    refine nm_ 35 ?_
    refine pI_ 14 36 (bqz 32 32767) ?_
    refine jI_ 15 37 ?_
    refine jI_ 16 38 ?_
    refine jU_ 17 39 ?_
    refine jU_ 18 40 ?_
    refine jU_ 19 41 ?_
    refine jU_ 20 42 ?_
    refine jU_ 21 43 ?_
    refine jU_ 22 44 ?_
    refine jU_ 23 45 ?_
    refine jU_ 24 46 ?_
    refine jU_ 25 47 ?_
    refine jU_ 26 48 ?_
    refine jU_ 27 49 ?_
    refine jU_ 28 50 ?_
    refine jU_ 29 51 ?_
    refine jU_ 30 52 ?_
    refine jI_ 31 53 ?_
    refine done_ (done_of HT_.out (by kernel_rfl)) ?_
    try go_wp2
    go_meet
    case rel => exact ⟨_, (true), qz5, H', ⟨by have := HK1.out; first | omega | exact Nat.le_refl _⟩, ⟨bk_ BK176.out⟩, ⟨bk_ BK178.out⟩, ⟨qz1⟩⟩
    }
    }
    {
    replace c17 := Bool.eq_false_iff.mpr c17
    subst c17
    rw [if_neg (show ¬ (false = true) by decide)] at H
    have H' := aM H
    clear H
    try go_wp2
    generalize hq_ : (((w11.setCell ⟨gb178, 0, none⟩ (.int .i64 ((rd_T79 l0_0 x3_1).f0))).setCell ⟨gb178, 1, none⟩ (.int .i64 ((rd_T79 l0_0 x3_1).f1))).setCell ⟨gb178, 2, none⟩ (.slice A177_2 ((rd_T79 l0_0 x3_1).f2).length c177_2)) = w33
    replace BK176 : Aside0 (w33.heap[gb176]? = some (.cells #[.slice (some ad177) l0_0.length c0_0] 26 (0, 0))) := ⟨by rw [← hq_]; exact (bk2_ BK176.out)⟩
    replace BK178 : Aside0 (w33.heap[gb178]? = some (.cells #[.int .i64 ((rd_T79 l0_0 x3_1).f0), .int .i64 ((rd_T79 l0_0 x3_1).f1), .slice A177_2 ((rd_T79 l0_0 x3_1).f2).length c177_2] 79 (0, 0))) := ⟨by rw [← hq_]; exact (by (with_reducible repeat (first | refine blk_drewN ?_ _ | refine blk_drew ?_ | refine blk_alloc ?_ _)); refine blk_put (cs := #[.int .i64 ((rd_T79 l0_0 x3_1).f0), .int .i64 ((rd_T79 l0_0 x3_1).f1), .slice none 0 0]) ?_ 2 _ rfl; (with_reducible repeat (first | refine blk_drewN ?_ _ | refine blk_drew ?_ | refine blk_alloc ?_ _)); refine blk_put (cs := #[.int .i64 ((rd_T79 l0_0 x3_1).f0), .int .i64 0, .slice none 0 0]) ?_ 1 _ rfl; (with_reducible repeat (first | refine blk_drewN ?_ _ | refine blk_drew ?_ | refine blk_alloc ?_ _)); refine blk_put (cs := #[.int .i64 0, .int .i64 0, .slice none 0 0]) ?_ 0 _ rfl; exact bk_ BK178.out)⟩
    replace HB : Aside0 (Below w.heap.size w w33) := ⟨by rw [← hq_]; exact qz1⟩
    clear hq_
    replace BK176 := aM (blk_drew BK176.out)
    replace BK178 := aM (blk_drew BK178.out)
    replace HB := aM (below_drew1 HB.out)
    refine start_ (n := 32) (S := fun w' => w'.cell? ⟨gb178, 0, none⟩ = some (.int .i64 ((rd_T79 l0_0 x3_1).f0)) ∧ w'.cell? ⟨gb178, 1, none⟩ = some (.int .i64 ((rd_T79 l0_0 x3_1).f1)) ∧ w'.cell? ⟨gb178, 2, none⟩ = some (.slice A177_2 ((rd_T79 l0_0 x3_1).f2).length c177_2)) (ds := []) #[false, false, false, false, false, false, false, false, false, false, false, false, false, false, false, false, false, false, false, false, false, false, false, false, false, false, false, false, false, false, false, false] (by kernel_rfl) rfl rfl ⟨(blk_cell BK178.out 0).trans rfl, (blk_cell BK178.out 1).trans rfl, (blk_cell BK178.out 2).trans rfl⟩ (fun hHeld => ?_); refine with_tabW spec_StockOk.tab7 spec_StockOk.bits7 (fun HT_ HW_ => ?_)
    generalize w33.drew = w34 at BK176 BK178 HB hHeld ⊢
    refine pI_ 0 22 (bqz 32 1) ?_
    refine sI3_ 1 23 ?_
    refine one_ (i := 2) (N := some 24) (bqz 32 7) rfl rfl qzc (by decide) (fun K hK => ?_)
    refine goes_ Try.func81 (by kernel_rfl) rfl #[.int .i64 ((rd_T79 l0_0 x3_1).f0), .int .i64 1, .int .i64 999] (by rfl) rfl rfl qz4 ?_
    with_reducible refine (spec_l1In.calls ((rd_T79 l0_0 x3_1).f0) 1 999 true _ A14.out).mono ?_
    rintro e w' ⟨rfl, ⟨nd, rfl⟩⟩
    refine ⟨_, rfl, ?_⟩
    refine hK.out _ _ ⟨(blk_cell BK178.out 0).trans rfl, (blk_cell BK178.out 1).trans rfl, (blk_cell BK178.out 2).trans rfl⟩ (fun hHeld => ?_)
    clear hK K
    refine nm_ 24 ?_
    refine jI_ 3 25 ?_
    refine jI_ 4 26 ?_
    refine jI_ 5 27 ?_
    refine sI3_ 6 28 ?_
    refine one_ (i := 7) (N := some 29) (bqz 32 255) rfl rfl qzc (by decide) (fun K hK => ?_)
    refine goes_ Try.func81 (by kernel_rfl) rfl #[.int .i64 ((rd_T79 l0_0 x3_1).f1), .int .i64 0, .int .i64 99] (by rfl) rfl rfl qz4 ?_
    with_reducible refine (spec_l1In.calls ((rd_T79 l0_0 x3_1).f1) 0 99 false _ A16.out).mono ?_
    rintro e w' ⟨rfl, ⟨nd, rfl⟩⟩
    refine ⟨_, rfl, ?_⟩
    refine hK.out _ _ ⟨(blk_cell BK178.out 0).trans rfl, (blk_cell BK178.out 1).trans rfl, (blk_cell BK178.out 2).trans rfl⟩ (fun hHeld => ?_)
    clear hK K
    refine nm_ 29 ?_
    refine jI_ 8 30 ?_
    refine jI_ 9 31 ?_
    refine jI_ 10 32 ?_
    refine jU_ 11 33 ?_
    refine jU_ 12 34 ?_
    refine jU_ 13 35 ?_
    refine jU_ 14 36 ?_
    refine jI_ 15 37 ?_
    refine jI_ 16 38 ?_
    refine jU_ 17 39 ?_
    refine jU_ 18 40 ?_
    refine jU_ 19 41 ?_
    refine jU_ 20 42 ?_
    refine jU_ 21 43 ?_
    refine jU_ 22 44 ?_
    refine jU_ 23 45 ?_
    refine jU_ 24 46 ?_
    refine jU_ 25 47 ?_
    refine jU_ 26 48 ?_
    refine jU_ 27 49 ?_
    refine jU_ 28 50 ?_
    refine jU_ 29 51 ?_
    refine jU_ 30 52 ?_
    refine jI_ 31 53 ?_
    refine done_ (done_of HT_.out (by kernel_rfl)) ?_
    try go_wp2
    go_meet
    case rel => exact ⟨_, (true), qz5, H', ⟨by have := HK1.out; first | omega | exact Nat.le_refl _⟩, ⟨bk_ BK176.out⟩, ⟨bk_ BK178.out⟩, ⟨qz1⟩⟩
    }
    }
    {
    replace c15 := Bool.eq_false_iff.mpr c15
    subst c15
    rw [if_neg (show ¬ (false = true) by decide)] at H
    have H' := aM H
    clear H
    try go_wp2
    generalize hq_ : (((w11.setCell ⟨gb178, 0, none⟩ (.int .i64 ((rd_T79 l0_0 x3_1).f0))).setCell ⟨gb178, 1, none⟩ (.int .i64 ((rd_T79 l0_0 x3_1).f1))).setCell ⟨gb178, 2, none⟩ (.slice A177_2 ((rd_T79 l0_0 x3_1).f2).length c177_2)) = w35
    replace BK176 : Aside0 (w35.heap[gb176]? = some (.cells #[.slice (some ad177) l0_0.length c0_0] 26 (0, 0))) := ⟨by rw [← hq_]; exact (bk2_ BK176.out)⟩
    replace BK178 : Aside0 (w35.heap[gb178]? = some (.cells #[.int .i64 ((rd_T79 l0_0 x3_1).f0), .int .i64 ((rd_T79 l0_0 x3_1).f1), .slice A177_2 ((rd_T79 l0_0 x3_1).f2).length c177_2] 79 (0, 0))) := ⟨by rw [← hq_]; exact (by (with_reducible repeat (first | refine blk_drewN ?_ _ | refine blk_drew ?_ | refine blk_alloc ?_ _)); refine blk_put (cs := #[.int .i64 ((rd_T79 l0_0 x3_1).f0), .int .i64 ((rd_T79 l0_0 x3_1).f1), .slice none 0 0]) ?_ 2 _ rfl; (with_reducible repeat (first | refine blk_drewN ?_ _ | refine blk_drew ?_ | refine blk_alloc ?_ _)); refine blk_put (cs := #[.int .i64 ((rd_T79 l0_0 x3_1).f0), .int .i64 0, .slice none 0 0]) ?_ 1 _ rfl; (with_reducible repeat (first | refine blk_drewN ?_ _ | refine blk_drew ?_ | refine blk_alloc ?_ _)); refine blk_put (cs := #[.int .i64 0, .int .i64 0, .slice none 0 0]) ?_ 0 _ rfl; exact bk_ BK178.out)⟩
    replace HB : Aside0 (Below w.heap.size w w35) := ⟨by rw [← hq_]; exact qz1⟩
    clear hq_
    replace BK176 := aM (blk_drew BK176.out)
    replace BK178 := aM (blk_drew BK178.out)
    replace HB := aM (below_drew1 HB.out)
    refine start_ (n := 32) (S := fun w' => w'.cell? ⟨gb178, 0, none⟩ = some (.int .i64 ((rd_T79 l0_0 x3_1).f0)) ∧ w'.cell? ⟨gb178, 1, none⟩ = some (.int .i64 ((rd_T79 l0_0 x3_1).f1)) ∧ w'.cell? ⟨gb178, 2, none⟩ = some (.slice A177_2 ((rd_T79 l0_0 x3_1).f2).length c177_2)) (ds := []) #[false, false, false, false, false, false, false, false, false, false, false, false, false, false, false, false, false, false, false, false, false, false, false, false, false, false, false, false, false, false, false, false] (by kernel_rfl) rfl rfl ⟨(blk_cell BK178.out 0).trans rfl, (blk_cell BK178.out 1).trans rfl, (blk_cell BK178.out 2).trans rfl⟩ (fun hHeld => ?_); refine with_tabW spec_StockOk.tab7 spec_StockOk.bits7 (fun HT_ HW_ => ?_)
    generalize w35.drew = w36 at BK176 BK178 HB hHeld ⊢
    refine pI_ 0 22 (bqz 32 1) ?_
    refine sI3_ 1 23 ?_
    refine one_ (i := 2) (N := some 24) (bqz 32 7) rfl rfl qzc (by decide) (fun K hK => ?_)
    refine goes_ Try.func81 (by kernel_rfl) rfl #[.int .i64 ((rd_T79 l0_0 x3_1).f0), .int .i64 1, .int .i64 999] (by rfl) rfl rfl qz4 ?_
    with_reducible refine (spec_l1In.calls ((rd_T79 l0_0 x3_1).f0) 1 999 false _ A14.out).mono ?_
    rintro e w' ⟨rfl, ⟨nd, rfl⟩⟩
    refine ⟨_, rfl, ?_⟩
    refine hK.out _ _ ⟨(blk_cell BK178.out 0).trans rfl, (blk_cell BK178.out 1).trans rfl, (blk_cell BK178.out 2).trans rfl⟩ (fun hHeld => ?_)
    clear hK K
    refine nm_ 24 ?_
    refine jI_ 3 25 ?_
    refine jI_ 4 26 ?_
    refine jU_ 5 27 ?_
    refine jU_ 6 28 ?_
    refine jU_ 7 29 ?_
    refine jU_ 8 30 ?_
    refine jI_ 9 31 ?_
    refine jI_ 10 32 ?_
    refine jU_ 11 33 ?_
    refine jU_ 12 34 ?_
    refine jU_ 13 35 ?_
    refine jU_ 14 36 ?_
    refine jI_ 15 37 ?_
    refine jI_ 16 38 ?_
    refine jU_ 17 39 ?_
    refine jU_ 18 40 ?_
    refine jU_ 19 41 ?_
    refine jU_ 20 42 ?_
    refine jU_ 21 43 ?_
    refine jU_ 22 44 ?_
    refine jU_ 23 45 ?_
    refine jU_ 24 46 ?_
    refine jU_ 25 47 ?_
    refine jU_ 26 48 ?_
    refine jU_ 27 49 ?_
    refine jU_ 28 50 ?_
    refine jU_ 29 51 ?_
    refine jU_ 30 52 ?_
    refine jI_ 31 53 ?_
    refine done_ (done_of HT_.out (by kernel_rfl)) ?_
    try go_wp2
    go_meet
    case rel => exact ⟨_, (true), qz5, H', ⟨by have := HK1.out; first | omega | exact Nat.le_refl _⟩, ⟨bk_ BK176.out⟩, ⟨bk_ BK178.out⟩, ⟨qz1⟩⟩
    }
   case rest =>
    clear HC9
    try clear c1
    try clear p2
    try clear c8
    try clear c15
    try clear c17
    obtain ⟨kq, x53_8, rfl, HA, HJ8, BK176, BK178, HB⟩ := hcut
    cases kq with
    | zero => exact absurd HA.out (by simp [spec_StockOk.j1])
    | succ kj8 =>
     have H := HA.out
     clear HA
     simp only [spec_StockOk.j1] at H
     by_cases c37 : x53_8 = true
     {
     subst c37
     rw [if_pos rfl] at H
     obtain rfl := Option.some.inj H
     simp only [Option.some.injEq, Prod.mk.injEq] at H
     obtain ⟨rfl⟩ := H
     go_wp2
     go_ret
     exact ⟨qzw, qz1⟩
     }
     {
     replace c37 := Bool.eq_false_iff.mpr c37
     subst c37
     rw [if_neg (show ¬ (false = true) by decide)] at H
     have H' := aM H
     clear H
     go_wp2
     go_loopg [5] kj8 (fun kq v5 w' => ∃ (x5_3 : Int), v5 = .int .i64 x5_3 ∧ Aside0 (spec_StockOk.l1 kq x3_1 x5_3 l0_0 ((rd_T79 l0_0 x3_1).f0) ((rd_T79 l0_0 x3_1).f1) ((rd_T79 l0_0 x3_1).f2) = some r) ∧ Aside0 (kq ≤ kj8) ∧ Aside0 (w'.heap[gb176]? = some (.cells #[(.slice (some ad177) l0_0.length c0_0)] 26 (0, 0))) ∧ Aside0 (w'.heap[gb178]? = some (.cells #[.int .i64 ((rd_T79 l0_0 x3_1).f0), .int .i64 ((rd_T79 l0_0 x3_1).f1), (.slice A177_2 ((rd_T79 l0_0 x3_1).f2).length c177_2)] 79 (0, 0))) ∧ Aside0 (Below w.heap.size w w'))
     case atStart => exact ⟨(0), qz5, H', ⟨Nat.le_refl _⟩, ⟨bk_ BK176.out⟩, ⟨bk_ BK178.out⟩, ⟨qz1⟩⟩
     case round =>
      clear H'
      try clear c1
      try clear p2
      try clear c3
      try clear c8
      try clear c15
      try clear c17
      try clear c37
      obtain ⟨x5_3, rfl, HA, HK3, BK176, BK178, HB⟩ := hrel
      cases gk with
      | zero => exact absurd HA.out (by simp [spec_StockOk.l1])
      | succ k3 =>
       have H := HA.out
       clear HA
       simp only [spec_StockOk.l1] at H
       by_cases c38 : x5_3 < x3_1
       {
       rw [if_pos c38] at H
       have c38b0 := decide_eq_true c38
       clear c38
       by_cases c39 : 0 ≤ x5_3
       {
       rw [if_pos c39] at H
       have c39b0 := decide_eq_true c39
       clear c39
       by_cases c40 : x5_3 < (l0_0.length : Int)
       {
       rw [if_pos c40] at H
       have c40b0 := decide_eq_true c40
       clear c40
       by_cases c41 : ((rd_T79 l0_0 x5_3).f1) = ((rd_T79 l0_0 x3_1).f1)
       {
       rw [if_pos c41] at H
       have c41b0 := beq_iff_eq.mpr c41
       have c41b1 := bne_eq_false_iff_eq.mpr c41
       clear c41
       obtain rfl := Option.some.inj H
       simp only [Option.some.injEq, Prod.mk.injEq] at H
       obtain ⟨rfl⟩ := H
       try go_wp2
       replace BK176 := aM (blk_drew BK176.out)
       replace BK178 := aM (blk_drew BK178.out)
       replace HB := aM (below_drew1 HB.out)
       have p183 : 0 ≤ (x5_3 : Int) := dt_
       have q183 : x5_3 < (l0_0.length : Int) := dt_
       obtain ⟨ad183, A183_2, c183_2, e183, hx183_0, hx183_1, hx183_2, hl183_2, hi183_2⟩ := at_T79 HR0_0.out x5_3 p183 q183
       have hw183_2 := hx183_2
       have hw183_1 := hx183_1
       have hw183_0 := hx183_0
       obtain rfl : ad177 = ad183 := (by injection e183)
       replace hx183_0 := cB_ hx183_0
       replace hx183_1 := cB_ hx183_1
       replace hx183_2 := cB_ hx183_2
       have HR183_2 := aM hi183_2
       have HC183_2 := aM hl183_2
       clear hi183_2 hl183_2
       replace p183 := eq_true p183
       replace q183 := eq_true q183
       refine start_ (n := 9) (S := fun w' => w'.cell? ⟨gb176, 0, none⟩ = some (.slice (some ad177) l0_0.length c0_0) ∧ w'.cell? ⟨gb178, 0, none⟩ = some (.int .i64 ((rd_T79 l0_0 x3_1).f0)) ∧ w'.cell? ⟨gb178, 1, none⟩ = some (.int .i64 ((rd_T79 l0_0 x3_1).f1)) ∧ w'.cell? ⟨gb178, 2, none⟩ = some (.slice A177_2 ((rd_T79 l0_0 x3_1).f2).length c177_2) ∧ w'.cell? (ad177.add ((x5_3).toNat * 3)) = some (.int .i64 ((rd_T79 l0_0 x5_3).f0)) ∧ w'.cell? ⟨(ad177.add ((x5_3).toNat * 3)).block, (ad177.add ((x5_3).toNat * 3)).off + 1, none⟩ = some (.int .i64 ((rd_T79 l0_0 x5_3).f1)) ∧ w'.cell? ⟨(ad177.add ((x5_3).toNat * 3)).block, (ad177.add ((x5_3).toNat * 3)).off + 2, none⟩ = some (.slice A183_2 ((rd_T79 l0_0 x5_3).f2).length c183_2)) (ds := []) #[false, false, false, false, false, false, false, false, false] (by kernel_rfl) rfl rfl ⟨(blk_cell BK176.out 0).trans rfl, (blk_cell BK178.out 0).trans rfl, (blk_cell BK178.out 1).trans rfl, (blk_cell BK178.out 2).trans rfl, (cB_ hw183_0), (cB_ hw183_1), (cB_ hw183_2)⟩ (fun hHeld => ?_); refine with_tabW spec_StockOk.tab12 spec_StockOk.bits12 (fun HT_ HW_ => ?_)
       generalize wr.drew = w42 at BK176 BK178 HB HR183_2 hx183_0 hx183_1 hx183_2 hHeld ⊢
       refine pI_ 0 59 (bqz 9 1) ?_
       refine jI_ 2 61 ?_
       refine jI_ 6 65 ?_
       refine sI7_ 1 60 ?_
       refine jI_ 3 62 ?_
       refine jI_ 4 63 ?_
       refine sI7_ 5 64 ?_
       refine sI7_ 7 66 ?_
       refine jI_ 8 67 ?_
       refine done_ (done_of HT_.out (by kernel_rfl)) ?_
       try go_wp2
       go_ret
       exact ⟨qzw, qz1⟩
       }
       {
       rw [if_neg c41] at H
       have c41b0 := beq_eq_false_iff_ne.mpr c41
       have c41b1 := bne_iff_ne.mpr c41
       have H' := aM H
       clear H
       try go_wp2
       replace BK176 := aM (blk_drew BK176.out)
       replace BK178 := aM (blk_drew BK178.out)
       replace HB := aM (below_drew1 HB.out)
       have p183 : 0 ≤ (x5_3 : Int) := dt_
       have q183 : x5_3 < (l0_0.length : Int) := dt_
       obtain ⟨ad183, A183_2, c183_2, e183, hx183_0, hx183_1, hx183_2, hl183_2, hi183_2⟩ := at_T79 HR0_0.out x5_3 p183 q183
       have hw183_2 := hx183_2
       have hw183_1 := hx183_1
       have hw183_0 := hx183_0
       obtain rfl : ad177 = ad183 := (by injection e183)
       replace hx183_0 := cB_ hx183_0
       replace hx183_1 := cB_ hx183_1
       replace hx183_2 := cB_ hx183_2
       have HR183_2 := aM hi183_2
       have HC183_2 := aM hl183_2
       clear hi183_2 hl183_2
       replace p183 := eq_true p183
       replace q183 := eq_true q183
       refine start_ (n := 9) (S := fun w' => w'.cell? ⟨gb176, 0, none⟩ = some (.slice (some ad177) l0_0.length c0_0) ∧ w'.cell? ⟨gb178, 0, none⟩ = some (.int .i64 ((rd_T79 l0_0 x3_1).f0)) ∧ w'.cell? ⟨gb178, 1, none⟩ = some (.int .i64 ((rd_T79 l0_0 x3_1).f1)) ∧ w'.cell? ⟨gb178, 2, none⟩ = some (.slice A177_2 ((rd_T79 l0_0 x3_1).f2).length c177_2) ∧ w'.cell? (ad177.add ((x5_3).toNat * 3)) = some (.int .i64 ((rd_T79 l0_0 x5_3).f0)) ∧ w'.cell? ⟨(ad177.add ((x5_3).toNat * 3)).block, (ad177.add ((x5_3).toNat * 3)).off + 1, none⟩ = some (.int .i64 ((rd_T79 l0_0 x5_3).f1)) ∧ w'.cell? ⟨(ad177.add ((x5_3).toNat * 3)).block, (ad177.add ((x5_3).toNat * 3)).off + 2, none⟩ = some (.slice A183_2 ((rd_T79 l0_0 x5_3).f2).length c183_2)) (ds := []) #[false, false, false, false, false, false, false, false, false] (by kernel_rfl) rfl rfl ⟨(blk_cell BK176.out 0).trans rfl, (blk_cell BK178.out 0).trans rfl, (blk_cell BK178.out 1).trans rfl, (blk_cell BK178.out 2).trans rfl, (cB_ hw183_0), (cB_ hw183_1), (cB_ hw183_2)⟩ (fun hHeld => ?_); refine with_tabW spec_StockOk.tab12 spec_StockOk.bits12 (fun HT_ HW_ => ?_)
       generalize wr.drew = w43 at BK176 BK178 HB HR183_2 hx183_0 hx183_1 hx183_2 hHeld ⊢
       refine pI_ 0 59 (bqz 9 1) ?_
       refine jI_ 2 61 ?_
       refine jI_ 6 65 ?_
       refine sI7_ 1 60 ?_
       refine jI_ 3 62 ?_
       refine jI_ 4 63 ?_
       refine sI7_ 5 64 ?_
       refine sI7_ 7 66 ?_
       refine jI_ 8 67 ?_
       refine done_ (done_of HT_.out (by kernel_rfl)) ?_
       try go_wp2
       go_roundg k3
       case measure => have := HK1.out; have := HJ8.out; have := HK3.out; omega
       case rel => exact ⟨(wrap64 (x5_3 + 1)), qz5, H', ⟨by have := HK1.out; have := HJ8.out; have := HK3.out; omega⟩, ⟨bk_ BK176.out⟩, ⟨bk_ BK178.out⟩, ⟨qz1⟩⟩
       }
       }
       {
       exact an_ c40 H
       }
       }
       {
       exact an_ c39 H
       }
       }
       {
       rw [if_neg c38] at H
       have c38b0 := decide_eq_false c38
       clear c38
       have H' := aM H
       clear H
       go_wp2
       go_roundg k3
       case measure => have := HK1.out; have := HJ8.out; have := HK3.out; omega
       case rel => exact ⟨(wrap64 (x3_1 + 1)), qz5, H', ⟨by have := HK1.out; have := HJ8.out; have := HK3.out; omega⟩, ⟨bk_ BK176.out⟩, ⟨qz1⟩⟩
       }
     }
   }
   {
   exact an_ c8 H
   }
   }
   {
   rw [if_neg c7] at H
   have c7b0 := decide_eq_false c7
   clear c7
   obtain rfl := Option.some.inj H
   simp only [Option.some.injEq, Prod.mk.injEq] at H
   obtain ⟨rfl⟩ := H
   obtain ⟨hcz44_0, hfz44_0⟩ := bf_ BK176.out
   go_wp2
   go_ret
   exact ⟨qzw, qz1⟩

   }
 }
end Go.Proofs.Yteajnkondkfmgaa.PFnEach
