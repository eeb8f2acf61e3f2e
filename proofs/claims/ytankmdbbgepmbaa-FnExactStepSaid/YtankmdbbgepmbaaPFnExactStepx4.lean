-- Made by a program of this session out of the translation. Lean checks it.
import Derived.Test.YtankmdbbgepmbaaPFnExactStepx3
namespace Go.Proofs.Ytankmdbbgepmbaa.PFnExactStep
open Go.RowKit Go.Proofs.YtankmdbbgepmbaaW.PrintWords Go.Proofs.YtankmdbbgepmbaaW.PrintLast Go.Proofs.YtankmdbbgepmbaaW.PrintMore
attribute [local go_sem] max2_int min2_int max_two min_two max_three min_three max_four min_four   -- for this text's walks alone
set_option linter.unusedVariables false
set_option linter.unusedSimpArgs false

/-! ### spec_CrewOk: function 76 -/
mutual
def spec_CrewOk.j0 : Nat → List (S37) → Bool → Int → Int → List Int → Option (Bool)
 | 0, _, _, _, _, _ => none
 | k + 1, x1, x15, x156000, x156001, x156002 => if x15 = true then (some false) else (spec_CrewOk.l0 k x1 0 x156000 x156001 x156002)
def spec_CrewOk.l0 : Nat → List (S37) → Int → Int → Int → List Int → Option (Bool)
 | 0, _, _, _, _, _ => none
 | k + 1, x1, x5, x156000, x156001, x156002 => if x5 < (x1.length : Int) then (if 0 ≤ x5 then ((spec_l1In.f ((rd_T37 x1 x5).f0) 1 99).bind fun t159 => (if t159 = true then ((spec_l7Free.f x156000 x156001 x156002 ((rd_T37 x1 x5).f1)).bind fun t160 => (if t160 = true then (if ((rd_T37 x1 x5).f2) = (-1) then ((spec_l1In.f ((rd_T37 x1 x5).f4) 0 1000000).bind fun t161 => (if t161 = true then (if x5 > 0 then (if 0 ≤ (wrap64 (x5 - 1)) then (if (wrap64 (x5 - 1)) < (x1.length : Int) then (spec_CrewOk.j2 k x1 x5 (decide (((rd_T37 x1 (wrap64 (x5 - 1))).f0) ≥ ((rd_T37 x1 x5).f0))) x156000 x156001 x156002 ((rd_T37 x1 x5).f0) ((rd_T37 x1 x5).f1) ((rd_T37 x1 x5).f2) ((rd_T37 x1 x5).f3) ((rd_T37 x1 x5).f4)) else (none)) else (none)) else (spec_CrewOk.j2 k x1 x5 false x156000 x156001 x156002 ((rd_T37 x1 x5).f0) ((rd_T37 x1 x5).f1) ((rd_T37 x1 x5).f2) ((rd_T37 x1 x5).f3) ((rd_T37 x1 x5).f4))) else (spec_CrewOk.j2 k x1 x5 true x156000 x156001 x156002 ((rd_T37 x1 x5).f0) ((rd_T37 x1 x5).f1) ((rd_T37 x1 x5).f2) ((rd_T37 x1 x5).f3) ((rd_T37 x1 x5).f4)))) else ((spec_l7Free.f x156000 x156001 x156002 ((rd_T37 x1 x5).f2)).bind fun t163 => (if t163 = true then ((spec_l1In.f ((rd_T37 x1 x5).f4) 0 1000000).bind fun t164 => (if t164 = true then (if x5 > 0 then (if 0 ≤ (wrap64 (x5 - 1)) then (if (wrap64 (x5 - 1)) < (x1.length : Int) then (spec_CrewOk.j2 k x1 x5 (decide (((rd_T37 x1 (wrap64 (x5 - 1))).f0) ≥ ((rd_T37 x1 x5).f0))) x156000 x156001 x156002 ((rd_T37 x1 x5).f0) ((rd_T37 x1 x5).f1) ((rd_T37 x1 x5).f2) ((rd_T37 x1 x5).f3) ((rd_T37 x1 x5).f4)) else (none)) else (none)) else (spec_CrewOk.j2 k x1 x5 false x156000 x156001 x156002 ((rd_T37 x1 x5).f0) ((rd_T37 x1 x5).f1) ((rd_T37 x1 x5).f2) ((rd_T37 x1 x5).f3) ((rd_T37 x1 x5).f4))) else (spec_CrewOk.j2 k x1 x5 true x156000 x156001 x156002 ((rd_T37 x1 x5).f0) ((rd_T37 x1 x5).f1) ((rd_T37 x1 x5).f2) ((rd_T37 x1 x5).f3) ((rd_T37 x1 x5).f4)))) else (spec_CrewOk.j2 k x1 x5 true x156000 x156001 x156002 ((rd_T37 x1 x5).f0) ((rd_T37 x1 x5).f1) ((rd_T37 x1 x5).f2) ((rd_T37 x1 x5).f3) ((rd_T37 x1 x5).f4))))) else (spec_CrewOk.j2 k x1 x5 true x156000 x156001 x156002 ((rd_T37 x1 x5).f0) ((rd_T37 x1 x5).f1) ((rd_T37 x1 x5).f2) ((rd_T37 x1 x5).f3) ((rd_T37 x1 x5).f4)))) else (spec_CrewOk.j2 k x1 x5 true x156000 x156001 x156002 ((rd_T37 x1 x5).f0) ((rd_T37 x1 x5).f1) ((rd_T37 x1 x5).f2) ((rd_T37 x1 x5).f3) ((rd_T37 x1 x5).f4)))) else (none)) else (some true)
def spec_CrewOk.j2 : Nat → List (S37) → Int → Bool → Int → Int → List Int → Int → Int → Int → Bool → Int → Option (Bool)
 | 0, _, _, _, _, _, _, _, _, _, _, _ => none
 | k + 1, x1, x5, x69, x156000, x156001, x156002, x159000, x159001, x159002, x159003, x159004 => if x69 = true then (some false) else (spec_CrewOk.l1 k x1 x5 0 x156000 x156001 x156002 x159000 x159001 x159002 x159003 x159004)
def spec_CrewOk.l1 : Nat → List (S37) → Int → Int → Int → Int → List Int → Int → Int → Int → Bool → Int → Option (Bool)
 | 0, _, _, _, _, _, _, _, _, _, _, _ => none
 | k + 1, x1, x5, x7, x156000, x156001, x156002, x159000, x159001, x159002, x159003, x159004 => if x7 < x5 then (if 0 ≤ x7 then (if x7 < (x1.length : Int) then (if ((rd_T37 x1 x7).f1) = x159001 then (some false) else (spec_CrewOk.l1 k x1 x5 (wrap64 (x7 + 1)) x156000 x156001 x156002 x159000 x159001 x159002 x159003 x159004)) else (none)) else (none)) else (spec_CrewOk.l0 k x1 (wrap64 (x5 + 1)) x156000 x156001 x156002)
end
def spec_CrewOk.f (k : Nat) (a0_0 : Int) (a0_1 : Int) (l0_2 : List Int) (l1 : List (S37)) : Option (Bool) := (spec_FloorOk.f k a0_0 a0_1 l0_2).bind fun t156 => (if t156 = true then (spec_CrewOk.j0 k l1 (decide ((l1.length : Int) > 20)) a0_0 a0_1 l0_2) else (spec_CrewOk.j0 k l1 true a0_0 a0_1 l0_2))
theorem spec_CrewOk.mono_l : ∀ k, (∀ y0 y1 y2 y3 y4, LeO (spec_CrewOk.j0 k y0 y1 y2 y3 y4) (spec_CrewOk.j0 (k + 1) y0 y1 y2 y3 y4)) ∧ (∀ y0 y1 y2 y3 y4, LeO (spec_CrewOk.l0 k y0 y1 y2 y3 y4) (spec_CrewOk.l0 (k + 1) y0 y1 y2 y3 y4)) ∧ (∀ y0 y1 y2 y3 y4 y5 y6 y7 y8 y9 y10, LeO (spec_CrewOk.j2 k y0 y1 y2 y3 y4 y5 y6 y7 y8 y9 y10) (spec_CrewOk.j2 (k + 1) y0 y1 y2 y3 y4 y5 y6 y7 y8 y9 y10)) ∧ (∀ y0 y1 y2 y3 y4 y5 y6 y7 y8 y9 y10, LeO (spec_CrewOk.l1 k y0 y1 y2 y3 y4 y5 y6 y7 y8 y9 y10) (spec_CrewOk.l1 (k + 1) y0 y1 y2 y3 y4 y5 y6 y7 y8 y9 y10))
 | 0 => ⟨fun _ _ _ _ _ r h => by simp [spec_CrewOk.j0] at h, fun _ _ _ _ _ r h => by simp [spec_CrewOk.l0] at h, fun _ _ _ _ _ _ _ _ _ _ _ r h => by simp [spec_CrewOk.j2] at h, fun _ _ _ _ _ _ _ _ _ _ _ r h => by simp [spec_CrewOk.l1] at h⟩
 | k + 1 => by
  obtain ⟨ih0, ih1, ih2, ih3⟩ := spec_CrewOk.mono_l k
  refine ⟨?_, ?_, ?_, ?_⟩
  {
  intro y0 y1 y2 y3 y4
  unfold spec_CrewOk.j0
  have j0 := @spec_FloorOk.mono
  exact qL
  }
  {
  intro y0 y1 y2 y3 y4
  unfold spec_CrewOk.l0
  have j0 := @spec_FloorOk.mono
  exact qL
  }
  {
  intro y0 y1 y2 y3 y4 y5 y6 y7 y8 y9 y10
  unfold spec_CrewOk.j2
  have j0 := @spec_FloorOk.mono
  exact qL
  }
  {
  intro y0 y1 y2 y3 y4 y5 y6 y7 y8 y9 y10
  unfold spec_CrewOk.l1
  have j0 := @spec_FloorOk.mono
  exact qL
  }
theorem spec_CrewOk.mono : ∀ a0 a1 a2 a3 k, LeO (spec_CrewOk.f k a0 a1 a2 a3) (spec_CrewOk.f (k + 1) a0 a1 a2 a3) := by
 intro a0 a1 a2 a3 k
 obtain ⟨ih0, ih1, ih2, ih3⟩ := spec_CrewOk.mono_l k
 unfold spec_CrewOk.f
 have j0 := @spec_FloorOk.mono
 exact qL
def spec_CrewOk.T7 : Bool × List (List Nat × List Nat) := (true, [([], []), ([0], [0]), ([1], [1]), ([2], [2]), ([3, 2], [3]), ([4], [4]), ([4], [4]), ([6, 4], [4, 6]), ([5, 7, 4, 4], [4, 5, 7]), ([8, 4], [4, 8]), ([4, 9], [4, 9]), ([10, 8], [10]), ([11], [11]), ([12, 11], [11, 12]), ([13, 11], [11, 13]), ([14, 11, 11], [11, 14]), ([15], [15]), ([15], [15]), ([17, 15], [15, 17]), ([16, 18, 15, 15], [15, 16, 18]), ([19, 15], [15, 19]), ([15, 20, 11], [11, 15, 20]), ([11, 21], [11, 21]), ([22, 19], [22]), ([23], [23]), ([24, 23], [23, 24]), ([25, 23, 23], [23, 25]), ([26, 23], [23, 26]), ([23, 27], [23, 27]), ([28, 26], [28]), ([29], [29]), ([30, 29], [29, 30]), ([31, 29, 29], [29, 31]), ([32], [32]), ([32], [32]), ([34, 32], [32, 34]), ([33, 35, 32], [32, 33, 35]), ([36, 32], [32, 36]), ([37, 32], [32, 37]), ([32], [32]), ([39, 32], [32, 39]), ([38, 40, 32], [32, 38, 40]), ([32, 41, 29], [29, 32, 41]), ([29, 42], [29, 42])])
def spec_CrewOk.B7 : List Nat := [0, 1, 3, 7, 15, 31, 31, 95, 255, 511, 1023, 2047, 4095, 8191, 16383, 32767, 65535, 65535, 196607, 524287, 1048575, 2097151, 4194303, 8388607, 16777215, 33554431, 67108863, 134217727, 268435455, 536870911, 1073741823, 2147483647, 4294967295, 8589934591, 8589934591, 25769803775, 68719476735, 137438953471, 274877906943, 8589934591, 558345748479, 2199023255551, 4398046511103, 8796093022207]
theorem spec_CrewOk.tab7 : rtab .any (opsOf Try.f76 7) = spec_CrewOk.T7 := by kernel_rfl
theorem spec_CrewOk.bits7 : waitsOk spec_CrewOk.T7.2 spec_CrewOk.B7 = true := by kernel_rfl
def spec_CrewOk.T12 : Bool × List (List Nat × List Nat) := (true, [([], []), ([], []), ([0, 1], [0, 1]), ([2], [2]), ([3], [3]), ([], []), ([5], [5]), ([4, 6], [4, 6])])
def spec_CrewOk.B12 : List Nat := [0, 0, 3, 7, 15, 0, 32, 127]
theorem spec_CrewOk.tab12 : rtab .any (opsOf Try.f76 12) = spec_CrewOk.T12 := by kernel_rfl
theorem spec_CrewOk.bits12 : waitsOk spec_CrewOk.T12.2 spec_CrewOk.B12 = true := by kernel_rfl
set_option maxHeartbeats 8000000 in
set_option maxRecDepth 100000 in
theorem spec_CrewOk.calls (k : Nat) (a0_0 : Int) (a0_1 : Int) (A0_2 : Option Addr) (c0_2 : Nat) (l0_2 : List Int) (A1 : Option Addr) (c1 : Nat) (l1 : List (S37)) (r : Bool) (w : World) (hr0_2 : Kd.C (Kd.int .i64) w A0_2 l0_2.length l0_2) (hc0_2 : l0_2.length ≤ c0_2) (hr1 : Kd.C k37 w A1 l1.length l1) (hc1 : l1.length ≤ c1) (h : spec_CrewOk.f k a0_0 a0_1 l0_2 l1 = some r) :
  Calls Try.prog 76 #[.agg #[.int .i64 a0_0, .int .i64 a0_1, .slice A0_2 l0_2.length c0_2], .slice A1 l1.length c1] w fun e w' => e = .returned (.bool r) ∧ Below w.heap.size w w' := by
 have hu43 := Try.underlying43
 have hu37 := Try.underlying37
 have HR0_2 := aM hr0_2
 have HC0_2 := aM hc0_2
 clear hr0_2 hc0_2
 have HR1 := aM hr1
 have HC1 := aM hc1
 clear hr1 hc1
 have HB := aM (Below.refl w.heap.size w)
 have H : ((spec_FloorOk.f k a0_0 a0_1 l0_2).bind fun t156 => (if t156 = true then (spec_CrewOk.j0 k l1 (decide ((l1.length : Int) > 20)) a0_0 a0_1 l0_2) else (spec_CrewOk.j0 k l1 true a0_0 a0_1 l0_2))) = some r := h
 clear h
 have HC3 := aM H
 clear H
 go_enter Try.func76, Try.ntmps76
 go_upto_region 1 with (first | ((with_reducible refine gate_dst (N := 2) rfl ?_); (try (refine gate_guard (by rfl) ?_; dsimp only)); refine bx_ 2 #[.int .i64 a0_0, .int .i64 a0_1, .slice A0_2 l0_2.length c0_2] 43 ?_; intro gb155 hg w4 hbox hb; have BK155 := aM (hbox); have GW155 := aM (bz_ w hg qz1); have GE155 := GW155; replace HB := bS_ hb; clear hb hbox hg))
 (try simp only [Act.put, List.setIfInBounds_toArray, List.set_cons_zero, List.set_cons_succ])
 go_cut [15] (fun v15 wc => ∃ (kq : Nat) (x15_2 : Bool), v15 = .bool x15_2 ∧ Aside0 (spec_CrewOk.j0 kq l1 x15_2 a0_0 a0_1 l0_2 = some r) ∧ Aside0 (kq ≤ k) ∧ Aside0 (wc.heap[gb155]? = some (.cells #[.int .i64 a0_0, .int .i64 a0_1, (.slice A0_2 l0_2.length c0_2)] 43 (0, 0))) ∧ Aside0 (Below w.heap.size w wc))
 case first =>
  have H := HC3.out
  clear HC3
  replace H := Option.bind_eq_some_iff.mp H
  obtain ⟨t156, A50, H⟩ := H
  replace H : (if t156 = true then (spec_CrewOk.j0 k l1 (decide ((l1.length : Int) > 20)) a0_0 a0_1 l0_2) else (spec_CrewOk.j0 k l1 true a0_0 a0_1 l0_2)) = some r := H
  have A5 := aM A50
  clear A50
  by_cases c6 : t156 = true
  {
  subst c6
  rw [if_pos rfl] at H
  have H' := aM H
  clear H
  obtain ⟨hcz7_0, hcz7_1, hcz7_2, hfz7_0, hfz7_1, hfz7_2⟩ := b6_ BK155.out
  go_wp2_with (first | ((with_reducible refine gate_callee (f := 60) rfl ?_); refine goesL_ (some 9) rfl rfl Try.func60 (by kernel_rfl) rfl #[.agg #[.int .i64 a0_0, .int .i64 a0_1, .slice A0_2 l0_2.length c0_2]] rfl qz2 ?_; (with_reducible refine (spec_FloorOk.calls k a0_0 a0_1 _ _ l0_2 true _ ?side1 ?side2 A5.out).mono ?_); (case side1 => exact qz3); (case side2 => exact qz15); rintro e w8 ⟨rfl, hb⟩; refine ⟨_, rfl, ?_⟩; replace BK155 := bB_ BK155 hb; replace HB := bS_ hb; (try clear hb)))
  go_meet
  case rel => exact ⟨_, (decide ((l1.length : Int) > 20)), qz4, H', ⟨by first | omega | exact Nat.le_refl _⟩, ⟨bk_ BK155.out⟩, ⟨qz1⟩⟩
  }
  {
  replace c6 := Bool.eq_false_iff.mpr c6
  subst c6
  rw [if_neg (show ¬ (false = true) by decide)] at H
  have H' := aM H
  clear H
  obtain ⟨hcz9_0, hcz9_1, hcz9_2, hfz9_0, hfz9_1, hfz9_2⟩ := b6_ BK155.out
  go_wp2_with (first | ((with_reducible refine gate_callee (f := 60) rfl ?_); refine goesL_ (some 9) rfl rfl Try.func60 (by kernel_rfl) rfl #[.agg #[.int .i64 a0_0, .int .i64 a0_1, .slice A0_2 l0_2.length c0_2]] rfl qz2 ?_; (with_reducible refine (spec_FloorOk.calls k a0_0 a0_1 _ _ l0_2 false _ ?side1 ?side2 A5.out).mono ?_); (case side1 => exact qz3); (case side2 => exact qz15); rintro e w10 ⟨rfl, hb⟩; refine ⟨_, rfl, ?_⟩; replace BK155 := bB_ BK155 hb; replace HB := bS_ hb; (try clear hb)))
  go_meet
  case rel => exact ⟨_, (true), qz4, H', ⟨by first | omega | exact Nat.le_refl _⟩, ⟨bk_ BK155.out⟩, ⟨qz1⟩⟩
  }
 case rest =>
  clear HC3
  try clear c1
  try clear p2
  try clear c6
  try clear c7
  try clear hcz7_0 hcz7_1 hcz7_2 hfz7_0 hfz7_1 hfz7_2
  try clear hcz9_0 hcz9_1 hcz9_2 hfz9_0 hfz9_1 hfz9_2
  obtain ⟨kq, x15_2, rfl, HA, HJ2, BK155, HB⟩ := hcut
  cases kq with
  | zero => exact absurd HA.out (by simp [spec_CrewOk.j0])
  | succ kj2 =>
   have H := HA.out
   clear HA
   simp only [spec_CrewOk.j0] at H
   by_cases c11 : x15_2 = true
   {
   subst c11
   rw [if_pos rfl] at H
   obtain rfl := Option.some.inj H
   simp only [Option.some.injEq, Prod.mk.injEq] at H
   obtain ⟨rfl⟩ := H
   go_wp2
   go_ret
   exact ⟨qzw, qz1⟩
   }
   {
   replace c11 := Bool.eq_false_iff.mpr c11
   subst c11
   rw [if_neg (show ¬ (false = true) by decide)] at H
   have H' := aM H
   clear H
   go_wp2
   go_loopg [5] kj2 (fun kq v5 w' => ∃ (x5_2 : Int), v5 = .int .i64 x5_2 ∧ Aside0 (spec_CrewOk.l0 kq l1 x5_2 a0_0 a0_1 l0_2 = some r) ∧ Aside0 (kq ≤ kj2) ∧ Aside0 (w'.heap[gb155]? = some (.cells #[.int .i64 a0_0, .int .i64 a0_1, (.slice A0_2 l0_2.length c0_2)] 43 (0, 0))) ∧ Aside0 (Below w.heap.size w w'))
   case atStart => exact ⟨(0), qz4, H', ⟨Nat.le_refl _⟩, ⟨bk_ BK155.out⟩, ⟨qz1⟩⟩
   case round =>
    clear H'
    try clear c1
    try clear p2
    try clear c6
    try clear c7
    try clear c11
    try clear hcz7_0 hcz7_1 hcz7_2 hfz7_0 hfz7_1 hfz7_2
    try clear hcz9_0 hcz9_1 hcz9_2 hfz9_0 hfz9_1 hfz9_2
    obtain ⟨x5_2, rfl, HA, HK2, BK155, HB⟩ := hrel
    cases gk with
    | zero => exact absurd HA.out (by simp [spec_CrewOk.l0])
    | succ k2 =>
     have H := HA.out
     clear HA
     simp only [spec_CrewOk.l0] at H
     by_cases c12 : x5_2 < (l1.length : Int)
     {
     rw [if_pos c12] at H
     have c12b0 := decide_eq_true c12
     clear c12
     by_cases c13 : 0 ≤ x5_2
     {
     rw [if_pos c13] at H
     have c13b0 := decide_eq_true c13
     clear c13
     have HC14 := aM H
     clear H
     have p157 : 0 ≤ (x5_2 : Int) := dt_
     have q157 : x5_2 < (l1.length : Int) := dt_
     obtain ⟨ad157, e157, hx157_0, hx157_1, hx157_2, hx157_3, hx157_4⟩ := at_T37 HR1.out x5_2 p157 q157
     cases e157
     replace hx157_0 := cB_ hx157_0
     replace hx157_1 := cB_ hx157_1
     replace hx157_2 := cB_ hx157_2
     replace hx157_3 := cB_ hx157_3
     replace hx157_4 := cB_ hx157_4
     replace p157 := eq_true p157
     replace q157 := eq_true q157
     go_upto_region 7 with (first | ((with_reducible refine gate_dst (N := 6) rfl ?_); (try (refine gate_guard (by rfl) ?_; dsimp only)); refine bx_ 6 #[.int .i64 0, .int .i64 0, .int .i64 0, .bool false, .int .i64 0] 37 ?_; intro gb158 hg w15 hbox hb; have BK158 := aM (hbox); have GW158 := aM (bz_ w hg qz1); have GE158 := GW158; replace HB := bS_ hb; obtain ⟨NB155_158, NB158_155⟩ := nb_ hg (bk_ BK155.out); replace BK155 := bB_ BK155 hb; clear hb hbox hg; have hnb16 := NB158_155.out; have hnc16 := NB155_158.out; have hcz17_0 := bc0_ BK158.out; have hcz17_1 := bc1_ BK158.out; have hcz17_2 := bc2_ BK158.out; have hcz17_3 := bc3_ BK158.out; have hcz17_4 := bc4_ BK158.out; have hfz17_0 := blk_frozen BK158.out 0; have hfz17_1 := blk_frozen BK158.out 1; have hfz17_2 := blk_frozen BK158.out 2; have hfz17_3 := blk_frozen BK158.out 3; have hfz17_4 := blk_frozen BK158.out 4))
     (try simp only [Act.put, List.setIfInBounds_toArray, List.set_cons_zero, List.set_cons_succ])
     go_cut [69] (fun v69 wc => ∃ (kq : Nat) (x69_13 : Bool), v69 = .bool x69_13 ∧ Aside0 (spec_CrewOk.j2 kq l1 x5_2 x69_13 a0_0 a0_1 l0_2 ((rd_T37 l1 x5_2).f0) ((rd_T37 l1 x5_2).f1) ((rd_T37 l1 x5_2).f2) ((rd_T37 l1 x5_2).f3) ((rd_T37 l1 x5_2).f4) = some r) ∧ Aside0 (kq ≤ k2) ∧ Aside0 (wc.heap[gb155]? = some (.cells #[.int .i64 a0_0, .int .i64 a0_1, (.slice A0_2 l0_2.length c0_2)] 43 (0, 0))) ∧ Aside0 (wc.heap[gb158]? = some (.cells #[.int .i64 ((rd_T37 l1 x5_2).f0), .int .i64 ((rd_T37 l1 x5_2).f1), .int .i64 ((rd_T37 l1 x5_2).f2), .bool ((rd_T37 l1 x5_2).f3), .int .i64 ((rd_T37 l1 x5_2).f4)] 37 (0, 0))) ∧ Aside0 (Below w.heap.size w wc))
     case first =>
      have H := HC14.out
      clear HC14
      replace H := Option.bind_eq_some_iff.mp H
      obtain ⟨t159, A180, H⟩ := H
      replace H : (if t159 = true then ((spec_l7Free.f a0_0 a0_1 l0_2 ((rd_T37 l1 x5_2).f1)).bind fun t160 => (if t160 = true then (if ((rd_T37 l1 x5_2).f2) = (-1) then ((spec_l1In.f ((rd_T37 l1 x5_2).f4) 0 1000000).bind fun t161 => (if t161 = true then (if x5_2 > 0 then (if 0 ≤ (wrap64 (x5_2 - 1)) then (if (wrap64 (x5_2 - 1)) < (l1.length : Int) then (spec_CrewOk.j2 k2 l1 x5_2 (decide (((rd_T37 l1 (wrap64 (x5_2 - 1))).f0) ≥ ((rd_T37 l1 x5_2).f0))) a0_0 a0_1 l0_2 ((rd_T37 l1 x5_2).f0) ((rd_T37 l1 x5_2).f1) ((rd_T37 l1 x5_2).f2) ((rd_T37 l1 x5_2).f3) ((rd_T37 l1 x5_2).f4)) else (none)) else (none)) else (spec_CrewOk.j2 k2 l1 x5_2 false a0_0 a0_1 l0_2 ((rd_T37 l1 x5_2).f0) ((rd_T37 l1 x5_2).f1) ((rd_T37 l1 x5_2).f2) ((rd_T37 l1 x5_2).f3) ((rd_T37 l1 x5_2).f4))) else (spec_CrewOk.j2 k2 l1 x5_2 true a0_0 a0_1 l0_2 ((rd_T37 l1 x5_2).f0) ((rd_T37 l1 x5_2).f1) ((rd_T37 l1 x5_2).f2) ((rd_T37 l1 x5_2).f3) ((rd_T37 l1 x5_2).f4)))) else ((spec_l7Free.f a0_0 a0_1 l0_2 ((rd_T37 l1 x5_2).f2)).bind fun t163 => (if t163 = true then ((spec_l1In.f ((rd_T37 l1 x5_2).f4) 0 1000000).bind fun t164 => (if t164 = true then (if x5_2 > 0 then (if 0 ≤ (wrap64 (x5_2 - 1)) then (if (wrap64 (x5_2 - 1)) < (l1.length : Int) then (spec_CrewOk.j2 k2 l1 x5_2 (decide (((rd_T37 l1 (wrap64 (x5_2 - 1))).f0) ≥ ((rd_T37 l1 x5_2).f0))) a0_0 a0_1 l0_2 ((rd_T37 l1 x5_2).f0) ((rd_T37 l1 x5_2).f1) ((rd_T37 l1 x5_2).f2) ((rd_T37 l1 x5_2).f3) ((rd_T37 l1 x5_2).f4)) else (none)) else (none)) else (spec_CrewOk.j2 k2 l1 x5_2 false a0_0 a0_1 l0_2 ((rd_T37 l1 x5_2).f0) ((rd_T37 l1 x5_2).f1) ((rd_T37 l1 x5_2).f2) ((rd_T37 l1 x5_2).f3) ((rd_T37 l1 x5_2).f4))) else (spec_CrewOk.j2 k2 l1 x5_2 true a0_0 a0_1 l0_2 ((rd_T37 l1 x5_2).f0) ((rd_T37 l1 x5_2).f1) ((rd_T37 l1 x5_2).f2) ((rd_T37 l1 x5_2).f3) ((rd_T37 l1 x5_2).f4)))) else (spec_CrewOk.j2 k2 l1 x5_2 true a0_0 a0_1 l0_2 ((rd_T37 l1 x5_2).f0) ((rd_T37 l1 x5_2).f1) ((rd_T37 l1 x5_2).f2) ((rd_T37 l1 x5_2).f3) ((rd_T37 l1 x5_2).f4))))) else (spec_CrewOk.j2 k2 l1 x5_2 true a0_0 a0_1 l0_2 ((rd_T37 l1 x5_2).f0) ((rd_T37 l1 x5_2).f1) ((rd_T37 l1 x5_2).f2) ((rd_T37 l1 x5_2).f3) ((rd_T37 l1 x5_2).f4)))) else (spec_CrewOk.j2 k2 l1 x5_2 true a0_0 a0_1 l0_2 ((rd_T37 l1 x5_2).f0) ((rd_T37 l1 x5_2).f1) ((rd_T37 l1 x5_2).f2) ((rd_T37 l1 x5_2).f3) ((rd_T37 l1 x5_2).f4))) = some r := H
      have A18 := aM A180
      clear A180
      by_cases c19 : t159 = true
      {
      subst c19
      rw [if_pos rfl] at H
      replace H := Option.bind_eq_some_iff.mp H
      obtain ⟨t160, A200, H⟩ := H
      replace H : (if t160 = true then (if ((rd_T37 l1 x5_2).f2) = (-1) then ((spec_l1In.f ((rd_T37 l1 x5_2).f4) 0 1000000).bind fun t161 => (if t161 = true then (if x5_2 > 0 then (if 0 ≤ (wrap64 (x5_2 - 1)) then (if (wrap64 (x5_2 - 1)) < (l1.length : Int) then (spec_CrewOk.j2 k2 l1 x5_2 (decide (((rd_T37 l1 (wrap64 (x5_2 - 1))).f0) ≥ ((rd_T37 l1 x5_2).f0))) a0_0 a0_1 l0_2 ((rd_T37 l1 x5_2).f0) ((rd_T37 l1 x5_2).f1) ((rd_T37 l1 x5_2).f2) ((rd_T37 l1 x5_2).f3) ((rd_T37 l1 x5_2).f4)) else (none)) else (none)) else (spec_CrewOk.j2 k2 l1 x5_2 false a0_0 a0_1 l0_2 ((rd_T37 l1 x5_2).f0) ((rd_T37 l1 x5_2).f1) ((rd_T37 l1 x5_2).f2) ((rd_T37 l1 x5_2).f3) ((rd_T37 l1 x5_2).f4))) else (spec_CrewOk.j2 k2 l1 x5_2 true a0_0 a0_1 l0_2 ((rd_T37 l1 x5_2).f0) ((rd_T37 l1 x5_2).f1) ((rd_T37 l1 x5_2).f2) ((rd_T37 l1 x5_2).f3) ((rd_T37 l1 x5_2).f4)))) else ((spec_l7Free.f a0_0 a0_1 l0_2 ((rd_T37 l1 x5_2).f2)).bind fun t163 => (if t163 = true then ((spec_l1In.f ((rd_T37 l1 x5_2).f4) 0 1000000).bind fun t164 => (if t164 = true then (if x5_2 > 0 then (if 0 ≤ (wrap64 (x5_2 - 1)) then (if (wrap64 (x5_2 - 1)) < (l1.length : Int) then (spec_CrewOk.j2 k2 l1 x5_2 (decide (((rd_T37 l1 (wrap64 (x5_2 - 1))).f0) ≥ ((rd_T37 l1 x5_2).f0))) a0_0 a0_1 l0_2 ((rd_T37 l1 x5_2).f0) ((rd_T37 l1 x5_2).f1) ((rd_T37 l1 x5_2).f2) ((rd_T37 l1 x5_2).f3) ((rd_T37 l1 x5_2).f4)) else (none)) else (none)) else (spec_CrewOk.j2 k2 l1 x5_2 false a0_0 a0_1 l0_2 ((rd_T37 l1 x5_2).f0) ((rd_T37 l1 x5_2).f1) ((rd_T37 l1 x5_2).f2) ((rd_T37 l1 x5_2).f3) ((rd_T37 l1 x5_2).f4))) else (spec_CrewOk.j2 k2 l1 x5_2 true a0_0 a0_1 l0_2 ((rd_T37 l1 x5_2).f0) ((rd_T37 l1 x5_2).f1) ((rd_T37 l1 x5_2).f2) ((rd_T37 l1 x5_2).f3) ((rd_T37 l1 x5_2).f4)))) else (spec_CrewOk.j2 k2 l1 x5_2 true a0_0 a0_1 l0_2 ((rd_T37 l1 x5_2).f0) ((rd_T37 l1 x5_2).f1) ((rd_T37 l1 x5_2).f2) ((rd_T37 l1 x5_2).f3) ((rd_T37 l1 x5_2).f4))))) else (spec_CrewOk.j2 k2 l1 x5_2 true a0_0 a0_1 l0_2 ((rd_T37 l1 x5_2).f0) ((rd_T37 l1 x5_2).f1) ((rd_T37 l1 x5_2).f2) ((rd_T37 l1 x5_2).f3) ((rd_T37 l1 x5_2).f4))) = some r := H
      have A20 := aM A200
      clear A200
      by_cases c21 : t160 = true
      {
      subst c21
      rw [if_pos rfl] at H
      by_cases c22 : ((rd_T37 l1 x5_2).f2) = (-1)
      {
      rw [if_pos c22] at H
      have c22b0 := beq_iff_eq.mpr c22
      have c22b1 := bne_eq_false_iff_eq.mpr c22
      clear c22
      (first | rw [c22b0] | (simp only [i64_w, i32_w]; rw [c22b0]) | rw [@decide_eq_true _ _ (of_decide_eq_true c22b0)] | rw [@decide_eq_true _ _ (of_decide_eq_true c22b1)] | skip)
      replace H := Option.bind_eq_some_iff.mp H
      obtain ⟨t161, A230, H⟩ := H
      replace H : (if t161 = true then (if x5_2 > 0 then (if 0 ≤ (wrap64 (x5_2 - 1)) then (if (wrap64 (x5_2 - 1)) < (l1.length : Int) then (spec_CrewOk.j2 k2 l1 x5_2 (decide (((rd_T37 l1 (wrap64 (x5_2 - 1))).f0) ≥ ((rd_T37 l1 x5_2).f0))) a0_0 a0_1 l0_2 ((rd_T37 l1 x5_2).f0) ((rd_T37 l1 x5_2).f1) ((rd_T37 l1 x5_2).f2) ((rd_T37 l1 x5_2).f3) ((rd_T37 l1 x5_2).f4)) else (none)) else (none)) else (spec_CrewOk.j2 k2 l1 x5_2 false a0_0 a0_1 l0_2 ((rd_T37 l1 x5_2).f0) ((rd_T37 l1 x5_2).f1) ((rd_T37 l1 x5_2).f2) ((rd_T37 l1 x5_2).f3) ((rd_T37 l1 x5_2).f4))) else (spec_CrewOk.j2 k2 l1 x5_2 true a0_0 a0_1 l0_2 ((rd_T37 l1 x5_2).f0) ((rd_T37 l1 x5_2).f1) ((rd_T37 l1 x5_2).f2) ((rd_T37 l1 x5_2).f3) ((rd_T37 l1 x5_2).f4))) = some r := H
      have A23 := aM A230
      clear A230
      by_cases c24 : t161 = true
      {
      subst c24
      rw [if_pos rfl] at H
      by_cases c25 : x5_2 > 0
      {
      rw [if_pos c25] at H
      have c25b0 := decide_eq_true c25
      clear c25
      obtain ⟨ji26, hji26⟩ : ∃ j_ : Int, (wrap64 (x5_2 - 1)) = j_ := ⟨_, rfl⟩
      replace H : (if 0 ≤ (ji26) then (if (ji26) < (l1.length : Int) then (spec_CrewOk.j2 k2 l1 x5_2 (decide (((rd_T37 l1 (ji26)).f0) ≥ ((rd_T37 l1 x5_2).f0))) a0_0 a0_1 l0_2 ((rd_T37 l1 x5_2).f0) ((rd_T37 l1 x5_2).f1) ((rd_T37 l1 x5_2).f2) ((rd_T37 l1 x5_2).f3) ((rd_T37 l1 x5_2).f4)) else (none)) else (none)) = some r := by first | (rw [hji26] at H; exact H) | (simp only [hji26] at H ⊢; exact H)
      (try rw [hji26] at A18)
      (try rw [hji26] at A20)
      (try rw [hji26] at A23)
      have hji26w : (IntKind.i64.wrap (x5_2 - 1)) = ji26 := (i64_w _).trans hji26
      by_cases c27 : 0 ≤ (ji26)
      {
      rw [if_pos c27] at H
      have c27b0 := decide_eq_true c27
      clear c27
      by_cases c28 : (ji26) < (l1.length : Int)
      {
      rw [if_pos c28] at H
      have c28b0 := decide_eq_true c28
      clear c28
      have H' := aM H
      clear H
      try go_wp2
      generalize hq_ : (((((w15.setCell ⟨gb158, 0, none⟩ (.int .i64 ((rd_T37 l1 x5_2).f0))).setCell ⟨gb158, 1, none⟩ (.int .i64 ((rd_T37 l1 x5_2).f1))).setCell ⟨gb158, 2, none⟩ (.int .i64 ((rd_T37 l1 x5_2).f2))).setCell ⟨gb158, 3, none⟩ (.bool ((rd_T37 l1 x5_2).f3))).setCell ⟨gb158, 4, none⟩ (.int .i64 ((rd_T37 l1 x5_2).f4))) = w29
      replace BK155 : Aside0 (w29.heap[gb155]? = some (.cells #[.int .i64 a0_0, .int .i64 a0_1, .slice A0_2 l0_2.length c0_2] 43 (0, 0))) := ⟨by rw [← hq_]; exact (bk2_ BK155.out)⟩
      replace BK158 : Aside0 (w29.heap[gb158]? = some (.cells #[.int .i64 ((rd_T37 l1 x5_2).f0), .int .i64 ((rd_T37 l1 x5_2).f1), .int .i64 ((rd_T37 l1 x5_2).f2), .bool ((rd_T37 l1 x5_2).f3), .int .i64 ((rd_T37 l1 x5_2).f4)] 37 (0, 0))) := ⟨by rw [← hq_]; exact (by (with_reducible repeat (first | refine blk_drewN ?_ _ | refine blk_drew ?_ | refine blk_alloc ?_ _)); refine blk_put (cs := #[.int .i64 ((rd_T37 l1 x5_2).f0), .int .i64 ((rd_T37 l1 x5_2).f1), .int .i64 ((rd_T37 l1 x5_2).f2), .bool ((rd_T37 l1 x5_2).f3), .int .i64 0]) ?_ 4 _ rfl; (with_reducible repeat (first | refine blk_drewN ?_ _ | refine blk_drew ?_ | refine blk_alloc ?_ _)); refine blk_put (cs := #[.int .i64 ((rd_T37 l1 x5_2).f0), .int .i64 ((rd_T37 l1 x5_2).f1), .int .i64 ((rd_T37 l1 x5_2).f2), .bool false, .int .i64 0]) ?_ 3 _ rfl; (with_reducible repeat (first | refine blk_drewN ?_ _ | refine blk_drew ?_ | refine blk_alloc ?_ _)); refine blk_put (cs := #[.int .i64 ((rd_T37 l1 x5_2).f0), .int .i64 ((rd_T37 l1 x5_2).f1), .int .i64 0, .bool false, .int .i64 0]) ?_ 2 _ rfl; (with_reducible repeat (first | refine blk_drewN ?_ _ | refine blk_drew ?_ | refine blk_alloc ?_ _)); refine blk_put (cs := #[.int .i64 ((rd_T37 l1 x5_2).f0), .int .i64 0, .int .i64 0, .bool false, .int .i64 0]) ?_ 1 _ rfl; (with_reducible repeat (first | refine blk_drewN ?_ _ | refine blk_drew ?_ | refine blk_alloc ?_ _)); refine blk_put (cs := #[.int .i64 0, .int .i64 0, .int .i64 0, .bool false, .int .i64 0]) ?_ 0 _ rfl; exact bk_ BK158.out)⟩
      replace HB : Aside0 (Below w.heap.size w w29) := ⟨by rw [← hq_]; exact qz1⟩
      clear hq_
      replace BK155 := aM (blk_drew BK155.out)
      replace BK158 := aM (blk_drew BK158.out)
      replace HB := aM (below_drew1 HB.out)
      have p162 : 0 ≤ ((ji26) : Int) := dt_
      have q162 : (ji26) < (l1.length : Int) := dt_
      obtain ⟨ad162, e162, hx162_0, hx162_1, hx162_2, hx162_3, hx162_4⟩ := at_T37 HR1.out (ji26) p162 q162
      have hw162_4 := hx162_4
      have hw162_3 := hx162_3
      have hw162_2 := hx162_2
      have hw162_1 := hx162_1
      have hw162_0 := hx162_0
      obtain rfl : ad157 = ad162 := (by injection e162)
      replace hx162_0 := cB_ hx162_0
      replace hx162_1 := cB_ hx162_1
      replace hx162_2 := cB_ hx162_2
      replace hx162_3 := cB_ hx162_3
      replace hx162_4 := cB_ hx162_4
      replace p162 := eq_true p162
      replace q162 := eq_true q162
      refine start_ (n := 44) (S := fun w' => w'.cell? ⟨gb158, 0, none⟩ = some (.int .i64 ((rd_T37 l1 x5_2).f0)) ∧ w'.cell? ⟨gb158, 1, none⟩ = some (.int .i64 ((rd_T37 l1 x5_2).f1)) ∧ w'.cell? ⟨gb158, 2, none⟩ = some (.int .i64 ((rd_T37 l1 x5_2).f2)) ∧ w'.cell? ⟨gb158, 3, none⟩ = some (.bool ((rd_T37 l1 x5_2).f3)) ∧ w'.cell? ⟨gb158, 4, none⟩ = some (.int .i64 ((rd_T37 l1 x5_2).f4)) ∧ w'.cell? ⟨gb155, 0, none⟩ = some (.int .i64 a0_0) ∧ w'.cell? ⟨gb155, 1, none⟩ = some (.int .i64 a0_1) ∧ w'.cell? ⟨gb155, 2, none⟩ = some (.slice A0_2 l0_2.length c0_2) ∧ w'.cell? (ad157.add (((ji26)).toNat * 5)) = some (.int .i64 ((rd_T37 l1 (ji26)).f0)) ∧ w'.cell? ⟨(ad157.add (((ji26)).toNat * 5)).block, (ad157.add (((ji26)).toNat * 5)).off + 1, none⟩ = some (.int .i64 ((rd_T37 l1 (ji26)).f1)) ∧ w'.cell? ⟨(ad157.add (((ji26)).toNat * 5)).block, (ad157.add (((ji26)).toNat * 5)).off + 2, none⟩ = some (.int .i64 ((rd_T37 l1 (ji26)).f2)) ∧ w'.cell? ⟨(ad157.add (((ji26)).toNat * 5)).block, (ad157.add (((ji26)).toNat * 5)).off + 3, none⟩ = some (.bool ((rd_T37 l1 (ji26)).f3)) ∧ w'.cell? ⟨(ad157.add (((ji26)).toNat * 5)).block, (ad157.add (((ji26)).toNat * 5)).off + 4, none⟩ = some (.int .i64 ((rd_T37 l1 (ji26)).f4))) (ds := []) #[false, false, false, false, false, false, false, false, false, false, false, false, false, false, false, false, false, false, false, false, false, false, false, false, false, false, false, false, false, false, false, false, false, false, false, false, false, false, false, false, false, false, false, false] (by kernel_rfl) rfl rfl ⟨(blk_cell BK158.out 0).trans rfl, (blk_cell BK158.out 1).trans rfl, (blk_cell BK158.out 2).trans rfl, (blk_cell BK158.out 3).trans rfl, (blk_cell BK158.out 4).trans rfl, (blk_cell BK155.out 0).trans rfl, (blk_cell BK155.out 1).trans rfl, (blk_cell BK155.out 2).trans rfl, (cB_ hw162_0), (cB_ hw162_1), (cB_ hw162_2), (cB_ hw162_3), (cB_ hw162_4)⟩ (fun hHeld => ?_); refine with_tabW spec_CrewOk.tab7 spec_CrewOk.bits7 (fun HT_ HW_ => ?_)
      generalize w29.drew = w30 at BK155 BK158 HB hx162_0 hx162_1 hx162_2 hx162_3 hx162_4 hHeld ⊢
      refine pI_ 0 26 (bqz 44 1) ?_
      refine sI13_ 1 27 ?_
      refine one_ (i := 2) (N := some 28) (bqz 44 7) rfl rfl qzc (by decide) (fun K hK => ?_)
      refine goes_ Try.func98 (by kernel_rfl) rfl #[.int .i64 ((rd_T37 l1 x5_2).f0), .int .i64 1, .int .i64 99] (by rfl) rfl rfl qz2 ?_
      with_reducible refine (spec_l1In.calls ((rd_T37 l1 x5_2).f0) 1 99 true _ A18.out).mono ?_
      rintro e w' ⟨rfl, ⟨nd, rfl⟩⟩
      refine ⟨_, rfl, ?_⟩
      refine hK.out _ _ ⟨(blk_cell BK158.out 0).trans rfl, (blk_cell BK158.out 1).trans rfl, (blk_cell BK158.out 2).trans rfl, (blk_cell BK158.out 3).trans rfl, (blk_cell BK158.out 4).trans rfl, (blk_cell BK155.out 0).trans rfl, (blk_cell BK155.out 1).trans rfl, (blk_cell BK155.out 2).trans rfl, (cB_ hw162_0), (cB_ hw162_1), (cB_ hw162_2), (cB_ hw162_3), (cB_ hw162_4)⟩ (fun hHeld => ?_)
      clear hK K
      refine nm_ 28 ?_
      refine jI_ 3 29 ?_
      refine jI_ 4 30 ?_
      refine jI_ 6 32 ?_
      refine sI13_ 5 31 ?_
      refine sI13_ 7 33 ?_
      refine one_ (i := 8) (N := some 34) (bqz 44 511) rfl rfl qzc (by decide) (fun K hK => ?_)
      refine goes_ Try.func61 (by kernel_rfl) rfl #[.agg #[.int .i64 a0_0, .int .i64 a0_1, .slice A0_2 l0_2.length c0_2], .int .i64 ((rd_T37 l1 x5_2).f1)] (by rfl) rfl rfl qz2 ?_
      with_reducible refine (spec_l7Free.calls a0_0 a0_1 _ _ l0_2 ((rd_T37 l1 x5_2).f1) true _ ?side1 ?side2 A20.out).mono ?_
      (case side1 => exact qz17)
      (case side2 => exact qz15)
      rintro e w31 ⟨rfl, hb⟩
      refine ⟨_, rfl, ?_⟩
      replace BK155 := bB_ BK155 hb
      replace BK158 := bB_ BK158 hb
      replace HB := bS_ hb
      (try clear hb)
      (try clear hb2)
      (try clear hk)
      (try clear hi)
      refine hK.out _ _ ⟨(blk_cell BK158.out 0).trans rfl, (blk_cell BK158.out 1).trans rfl, (blk_cell BK158.out 2).trans rfl, (blk_cell BK158.out 3).trans rfl, (blk_cell BK158.out 4).trans rfl, (blk_cell BK155.out 0).trans rfl, (blk_cell BK155.out 1).trans rfl, (blk_cell BK155.out 2).trans rfl, (cB_ hw162_0), (cB_ hw162_1), (cB_ hw162_2), (cB_ hw162_3), (cB_ hw162_4)⟩ (fun hHeld => ?_)
      clear hK K
      refine nm_ 34 ?_
      refine pI_ 9 35 (bqz 44 1023) ?_
      refine jI_ 10 36 ?_
      refine jI_ 11 37 ?_
      refine jI_ 12 38 ?_
      refine sI13_ 13 39 ?_
      refine jI_ 14 40 ?_
      refine jI_ 15 41 ?_
      refine jU_ 16 42 ?_
      refine jU_ 17 43 ?_
      refine jU_ 18 44 ?_
      refine jU_ 19 45 ?_
      refine jU_ 20 46 ?_
      refine jI_ 21 47 ?_
      refine jI_ 22 48 ?_
      refine jI_ 23 49 ?_
      refine jI_ 24 50 ?_
      refine sI13_ 25 51 ?_
      refine one_ (i := 26) (N := some 52) (bqz 44 134217727) rfl rfl qzc (by decide) (fun K hK => ?_)
      refine goes_ Try.func98 (by kernel_rfl) rfl #[.int .i64 ((rd_T37 l1 x5_2).f4), .int .i64 0, .int .i64 1000000] (by rfl) rfl rfl qz2 ?_
      with_reducible refine (spec_l1In.calls ((rd_T37 l1 x5_2).f4) 0 1000000 true _ A23.out).mono ?_
      rintro e w' ⟨rfl, ⟨nd, rfl⟩⟩
      refine ⟨_, rfl, ?_⟩
      refine hK.out _ _ ⟨(blk_cell BK158.out 0).trans rfl, (blk_cell BK158.out 1).trans rfl, (blk_cell BK158.out 2).trans rfl, (blk_cell BK158.out 3).trans rfl, (blk_cell BK158.out 4).trans rfl, (blk_cell BK155.out 0).trans rfl, (blk_cell BK155.out 1).trans rfl, (blk_cell BK155.out 2).trans rfl, (cB_ hw162_0), (cB_ hw162_1), (cB_ hw162_2), (cB_ hw162_3), (cB_ hw162_4)⟩ (fun hHeld => ?_)
      clear hK K
      refine nm_ 52 ?_
      refine jI_ 27 53 ?_
      refine jI_ 28 54 ?_
      refine jI_ 29 55 ?_
      refine jI_ 30 56 ?_
      refine jI_ 31 57 ?_
      refine jI_ 32 58 ?_
      refine jI_ 33 59 ?_
      refine jI_ 34 60 ?_
      refine jI_ 35 61 ?_
      refine jI_ 36 62 ?_
      refine jI_ 37 63 ?_
      refine jI_ 39 65 ?_
      refine sI13_ 38 64 ?_
      refine sI13_ 40 66 ?_
      refine jI_ 41 67 ?_
      refine jI_ 42 68 ?_
      refine jI_ 43 69 ?_
      refine done_ (done_of HT_.out (by kernel_rfl)) ?_
      try go_wp2
      go_meet
      case rel => exact ⟨_, (decide (((rd_T37 l1 (ji26)).f0) ≥ ((rd_T37 l1 x5_2).f0))), (by first | rfl | (simp; done) | (simp only [← hji26] <;> (first | rfl | simp)) | (simp [*]; done)), H', ⟨by have := HJ2.out; have := HK2.out; first | omega | exact Nat.le_refl _⟩, ⟨bk_ BK155.out⟩, ⟨bk_ BK158.out⟩, ⟨qz1⟩⟩
      }
      {
      exact an_ c28 H
      }
      }
      {
      exact an_ c27 H
      }
      }
      {
      rw [if_neg c25] at H
      have c25b0 := decide_eq_false c25
      clear c25
      have H' := aM H
      clear H
      try go_wp2
      generalize hq_ : (((((w15.setCell ⟨gb158, 0, none⟩ (.int .i64 ((rd_T37 l1 x5_2).f0))).setCell ⟨gb158, 1, none⟩ (.int .i64 ((rd_T37 l1 x5_2).f1))).setCell ⟨gb158, 2, none⟩ (.int .i64 ((rd_T37 l1 x5_2).f2))).setCell ⟨gb158, 3, none⟩ (.bool ((rd_T37 l1 x5_2).f3))).setCell ⟨gb158, 4, none⟩ (.int .i64 ((rd_T37 l1 x5_2).f4))) = w32
      replace BK155 : Aside0 (w32.heap[gb155]? = some (.cells #[.int .i64 a0_0, .int .i64 a0_1, .slice A0_2 l0_2.length c0_2] 43 (0, 0))) := ⟨by rw [← hq_]; exact (bk2_ BK155.out)⟩
      replace BK158 : Aside0 (w32.heap[gb158]? = some (.cells #[.int .i64 ((rd_T37 l1 x5_2).f0), .int .i64 ((rd_T37 l1 x5_2).f1), .int .i64 ((rd_T37 l1 x5_2).f2), .bool ((rd_T37 l1 x5_2).f3), .int .i64 ((rd_T37 l1 x5_2).f4)] 37 (0, 0))) := ⟨by rw [← hq_]; exact (by (with_reducible repeat (first | refine blk_drewN ?_ _ | refine blk_drew ?_ | refine blk_alloc ?_ _)); refine blk_put (cs := #[.int .i64 ((rd_T37 l1 x5_2).f0), .int .i64 ((rd_T37 l1 x5_2).f1), .int .i64 ((rd_T37 l1 x5_2).f2), .bool ((rd_T37 l1 x5_2).f3), .int .i64 0]) ?_ 4 _ rfl; (with_reducible repeat (first | refine blk_drewN ?_ _ | refine blk_drew ?_ | refine blk_alloc ?_ _)); refine blk_put (cs := #[.int .i64 ((rd_T37 l1 x5_2).f0), .int .i64 ((rd_T37 l1 x5_2).f1), .int .i64 ((rd_T37 l1 x5_2).f2), .bool false, .int .i64 0]) ?_ 3 _ rfl; (with_reducible repeat (first | refine blk_drewN ?_ _ | refine blk_drew ?_ | refine blk_alloc ?_ _)); refine blk_put (cs := #[.int .i64 ((rd_T37 l1 x5_2).f0), .int .i64 ((rd_T37 l1 x5_2).f1), .int .i64 0, .bool false, .int .i64 0]) ?_ 2 _ rfl; (with_reducible repeat (first | refine blk_drewN ?_ _ | refine blk_drew ?_ | refine blk_alloc ?_ _)); refine blk_put (cs := #[.int .i64 ((rd_T37 l1 x5_2).f0), .int .i64 0, .int .i64 0, .bool false, .int .i64 0]) ?_ 1 _ rfl; (with_reducible repeat (first | refine blk_drewN ?_ _ | refine blk_drew ?_ | refine blk_alloc ?_ _)); refine blk_put (cs := #[.int .i64 0, .int .i64 0, .int .i64 0, .bool false, .int .i64 0]) ?_ 0 _ rfl; exact bk_ BK158.out)⟩
      replace HB : Aside0 (Below w.heap.size w w32) := ⟨by rw [← hq_]; exact qz1⟩
      clear hq_
      replace BK155 := aM (blk_drew BK155.out)
      replace BK158 := aM (blk_drew BK158.out)
      replace HB := aM (below_drew1 HB.out)
      refine start_ (n := 44) (S := fun w' => w'.cell? ⟨gb158, 0, none⟩ = some (.int .i64 ((rd_T37 l1 x5_2).f0)) ∧ w'.cell? ⟨gb158, 1, none⟩ = some (.int .i64 ((rd_T37 l1 x5_2).f1)) ∧ w'.cell? ⟨gb158, 2, none⟩ = some (.int .i64 ((rd_T37 l1 x5_2).f2)) ∧ w'.cell? ⟨gb158, 3, none⟩ = some (.bool ((rd_T37 l1 x5_2).f3)) ∧ w'.cell? ⟨gb158, 4, none⟩ = some (.int .i64 ((rd_T37 l1 x5_2).f4)) ∧ w'.cell? ⟨gb155, 0, none⟩ = some (.int .i64 a0_0) ∧ w'.cell? ⟨gb155, 1, none⟩ = some (.int .i64 a0_1) ∧ w'.cell? ⟨gb155, 2, none⟩ = some (.slice A0_2 l0_2.length c0_2)) (ds := []) #[false, false, false, false, false, false, false, false, false, false, false, false, false, false, false, false, false, false, false, false, false, false, false, false, false, false, false, false, false, false, false, false, false, false, false, false, false, false, false, false, false, false, false, false] (by kernel_rfl) rfl rfl ⟨(blk_cell BK158.out 0).trans rfl, (blk_cell BK158.out 1).trans rfl, (blk_cell BK158.out 2).trans rfl, (blk_cell BK158.out 3).trans rfl, (blk_cell BK158.out 4).trans rfl, (blk_cell BK155.out 0).trans rfl, (blk_cell BK155.out 1).trans rfl, (blk_cell BK155.out 2).trans rfl⟩ (fun hHeld => ?_); refine with_tabW spec_CrewOk.tab7 spec_CrewOk.bits7 (fun HT_ HW_ => ?_)
      generalize w32.drew = w33 at BK155 BK158 HB hHeld ⊢
      refine pI_ 0 26 (bqz 44 1) ?_
      refine sI8_ 1 27 ?_
      refine one_ (i := 2) (N := some 28) (bqz 44 7) rfl rfl qzc (by decide) (fun K hK => ?_)
      refine goes_ Try.func98 (by kernel_rfl) rfl #[.int .i64 ((rd_T37 l1 x5_2).f0), .int .i64 1, .int .i64 99] (by rfl) rfl rfl qz2 ?_
      with_reducible refine (spec_l1In.calls ((rd_T37 l1 x5_2).f0) 1 99 true _ A18.out).mono ?_
      rintro e w' ⟨rfl, ⟨nd, rfl⟩⟩
      refine ⟨_, rfl, ?_⟩
      refine hK.out _ _ ⟨(blk_cell BK158.out 0).trans rfl, (blk_cell BK158.out 1).trans rfl, (blk_cell BK158.out 2).trans rfl, (blk_cell BK158.out 3).trans rfl, (blk_cell BK158.out 4).trans rfl, (blk_cell BK155.out 0).trans rfl, (blk_cell BK155.out 1).trans rfl, (blk_cell BK155.out 2).trans rfl⟩ (fun hHeld => ?_)
      clear hK K
      refine nm_ 28 ?_
      refine jI_ 3 29 ?_
      refine jI_ 4 30 ?_
      refine jI_ 6 32 ?_
      refine sI8_ 5 31 ?_
      refine sI8_ 7 33 ?_
      refine one_ (i := 8) (N := some 34) (bqz 44 511) rfl rfl qzc (by decide) (fun K hK => ?_)
      refine goes_ Try.func61 (by kernel_rfl) rfl #[.agg #[.int .i64 a0_0, .int .i64 a0_1, .slice A0_2 l0_2.length c0_2], .int .i64 ((rd_T37 l1 x5_2).f1)] (by rfl) rfl rfl qz2 ?_
      with_reducible refine (spec_l7Free.calls a0_0 a0_1 _ _ l0_2 ((rd_T37 l1 x5_2).f1) true _ ?side1 ?side2 A20.out).mono ?_
      (case side1 => exact qz17)
      (case side2 => exact qz15)
      rintro e w34 ⟨rfl, hb⟩
      refine ⟨_, rfl, ?_⟩
      replace BK155 := bB_ BK155 hb
      replace BK158 := bB_ BK158 hb
      replace HB := bS_ hb
      (try clear hb)
      (try clear hb2)
      (try clear hk)
      (try clear hi)
      refine hK.out _ _ ⟨(blk_cell BK158.out 0).trans rfl, (blk_cell BK158.out 1).trans rfl, (blk_cell BK158.out 2).trans rfl, (blk_cell BK158.out 3).trans rfl, (blk_cell BK158.out 4).trans rfl, (blk_cell BK155.out 0).trans rfl, (blk_cell BK155.out 1).trans rfl, (blk_cell BK155.out 2).trans rfl⟩ (fun hHeld => ?_)
      clear hK K
      refine nm_ 34 ?_
      refine pI_ 9 35 (bqz 44 1023) ?_
      refine jI_ 10 36 ?_
      refine jI_ 11 37 ?_
      refine jI_ 12 38 ?_
      refine sI8_ 13 39 ?_
      refine jI_ 14 40 ?_
      refine jI_ 15 41 ?_
      refine jU_ 16 42 ?_
      refine jU_ 17 43 ?_
      refine jU_ 18 44 ?_
      refine jU_ 19 45 ?_
      refine jU_ 20 46 ?_
      refine jI_ 21 47 ?_
      refine jI_ 22 48 ?_
      refine jI_ 23 49 ?_
      refine jI_ 24 50 ?_
      refine sI8_ 25 51 ?_
      refine one_ (i := 26) (N := some 52) (bqz 44 134217727) rfl rfl qzc (by decide) (fun K hK => ?_)
      refine goes_ Try.func98 (by kernel_rfl) rfl #[.int .i64 ((rd_T37 l1 x5_2).f4), .int .i64 0, .int .i64 1000000] (by rfl) rfl rfl qz2 ?_
      with_reducible refine (spec_l1In.calls ((rd_T37 l1 x5_2).f4) 0 1000000 true _ A23.out).mono ?_
      rintro e w' ⟨rfl, ⟨nd, rfl⟩⟩
      refine ⟨_, rfl, ?_⟩
      refine hK.out _ _ ⟨(blk_cell BK158.out 0).trans rfl, (blk_cell BK158.out 1).trans rfl, (blk_cell BK158.out 2).trans rfl, (blk_cell BK158.out 3).trans rfl, (blk_cell BK158.out 4).trans rfl, (blk_cell BK155.out 0).trans rfl, (blk_cell BK155.out 1).trans rfl, (blk_cell BK155.out 2).trans rfl⟩ (fun hHeld => ?_)
      clear hK K
      refine nm_ 52 ?_
      refine jI_ 27 53 ?_
      refine jI_ 28 54 ?_
      refine jI_ 29 55 ?_
      refine jI_ 30 56 ?_
      refine jI_ 31 57 ?_
      refine jI_ 32 58 ?_
      refine jU_ 33 59 ?_
      refine jU_ 34 60 ?_
      refine jU_ 35 61 ?_
      refine jU_ 36 62 ?_
      refine jU_ 37 63 ?_
      refine jU_ 38 64 ?_
      refine jU_ 39 65 ?_
      refine jU_ 40 66 ?_
      refine jU_ 41 67 ?_
      refine jI_ 42 68 ?_
      refine jI_ 43 69 ?_
      refine done_ (done_of HT_.out (by kernel_rfl)) ?_
      try go_wp2
      go_meet
      case rel => exact ⟨_, (false), qz4, H', ⟨by have := HJ2.out; have := HK2.out; first | omega | exact Nat.le_refl _⟩, ⟨bk_ BK155.out⟩, ⟨bk_ BK158.out⟩, ⟨qz1⟩⟩
      }
      }
      {
      replace c24 := Bool.eq_false_iff.mpr c24
      subst c24
      rw [if_neg (show ¬ (false = true) by decide)] at H
      have H' := aM H
      clear H
      try go_wp2
      generalize hq_ : (((((w15.setCell ⟨gb158, 0, none⟩ (.int .i64 ((rd_T37 l1 x5_2).f0))).setCell ⟨gb158, 1, none⟩ (.int .i64 ((rd_T37 l1 x5_2).f1))).setCell ⟨gb158, 2, none⟩ (.int .i64 ((rd_T37 l1 x5_2).f2))).setCell ⟨gb158, 3, none⟩ (.bool ((rd_T37 l1 x5_2).f3))).setCell ⟨gb158, 4, none⟩ (.int .i64 ((rd_T37 l1 x5_2).f4))) = w35
      replace BK155 : Aside0 (w35.heap[gb155]? = some (.cells #[.int .i64 a0_0, .int .i64 a0_1, .slice A0_2 l0_2.length c0_2] 43 (0, 0))) := ⟨by rw [← hq_]; exact (bk2_ BK155.out)⟩
      replace BK158 : Aside0 (w35.heap[gb158]? = some (.cells #[.int .i64 ((rd_T37 l1 x5_2).f0), .int .i64 ((rd_T37 l1 x5_2).f1), .int .i64 ((rd_T37 l1 x5_2).f2), .bool ((rd_T37 l1 x5_2).f3), .int .i64 ((rd_T37 l1 x5_2).f4)] 37 (0, 0))) := ⟨by rw [← hq_]; exact (by (with_reducible repeat (first | refine blk_drewN ?_ _ | refine blk_drew ?_ | refine blk_alloc ?_ _)); refine blk_put (cs := #[.int .i64 ((rd_T37 l1 x5_2).f0), .int .i64 ((rd_T37 l1 x5_2).f1), .int .i64 ((rd_T37 l1 x5_2).f2), .bool ((rd_T37 l1 x5_2).f3), .int .i64 0]) ?_ 4 _ rfl; (with_reducible repeat (first | refine blk_drewN ?_ _ | refine blk_drew ?_ | refine blk_alloc ?_ _)); refine blk_put (cs := #[.int .i64 ((rd_T37 l1 x5_2).f0), .int .i64 ((rd_T37 l1 x5_2).f1), .int .i64 ((rd_T37 l1 x5_2).f2), .bool false, .int .i64 0]) ?_ 3 _ rfl; (with_reducible repeat (first | refine blk_drewN ?_ _ | refine blk_drew ?_ | refine blk_alloc ?_ _)); refine blk_put (cs := #[.int .i64 ((rd_T37 l1 x5_2).f0), .int .i64 ((rd_T37 l1 x5_2).f1), .int .i64 0, .bool false, .int .i64 0]) ?_ 2 _ rfl; (with_reducible repeat (first | refine blk_drewN ?_ _ | refine blk_drew ?_ | refine blk_alloc ?_ _)); refine blk_put (cs := #[.int .i64 ((rd_T37 l1 x5_2).f0), .int .i64 0, .int .i64 0, .bool false, .int .i64 0]) ?_ 1 _ rfl; (with_reducible repeat (first | refine blk_drewN ?_ _ | refine blk_drew ?_ | refine blk_alloc ?_ _)); refine blk_put (cs := #[.int .i64 0, .int .i64 0, .int .i64 0, .bool false, .int .i64 0]) ?_ 0 _ rfl; exact bk_ BK158.out)⟩
      replace HB : Aside0 (Below w.heap.size w w35) := ⟨by rw [← hq_]; exact qz1⟩
      clear hq_
      replace BK155 := aM (blk_drew BK155.out)
      replace BK158 := aM (blk_drew BK158.out)
      replace HB := aM (below_drew1 HB.out)
      refine start_ (n := 44) (S := fun w' => w'.cell? ⟨gb158, 0, none⟩ = some (.int .i64 ((rd_T37 l1 x5_2).f0)) ∧ w'.cell? ⟨gb158, 1, none⟩ = some (.int .i64 ((rd_T37 l1 x5_2).f1)) ∧ w'.cell? ⟨gb158, 2, none⟩ = some (.int .i64 ((rd_T37 l1 x5_2).f2)) ∧ w'.cell? ⟨gb158, 3, none⟩ = some (.bool ((rd_T37 l1 x5_2).f3)) ∧ w'.cell? ⟨gb158, 4, none⟩ = some (.int .i64 ((rd_T37 l1 x5_2).f4)) ∧ w'.cell? ⟨gb155, 0, none⟩ = some (.int .i64 a0_0) ∧ w'.cell? ⟨gb155, 1, none⟩ = some (.int .i64 a0_1) ∧ w'.cell? ⟨gb155, 2, none⟩ = some (.slice A0_2 l0_2.length c0_2)) (ds := []) #[false, false, false, false, false, false, false, false, false, false, false, false, false, false, false, false, false, false, false, false, false, false, false, false, false, false, false, false, false, false, false, false, false, false, false, false, false, false, false, false, false, false, false, false] (by kernel_rfl) rfl rfl ⟨(blk_cell BK158.out 0).trans rfl, (blk_cell BK158.out 1).trans rfl, (blk_cell BK158.out 2).trans rfl, (blk_cell BK158.out 3).trans rfl, (blk_cell BK158.out 4).trans rfl, (blk_cell BK155.out 0).trans rfl, (blk_cell BK155.out 1).trans rfl, (blk_cell BK155.out 2).trans rfl⟩ (fun hHeld => ?_); refine with_tabW spec_CrewOk.tab7 spec_CrewOk.bits7 (fun HT_ HW_ => ?_)
      generalize w35.drew = w36 at BK155 BK158 HB hHeld ⊢
      refine pI_ 0 26 (bqz 44 1) ?_
      refine sI8_ 1 27 ?_
      refine one_ (i := 2) (N := some 28) (bqz 44 7) rfl rfl qzc (by decide) (fun K hK => ?_)
      refine goes_ Try.func98 (by kernel_rfl) rfl #[.int .i64 ((rd_T37 l1 x5_2).f0), .int .i64 1, .int .i64 99] (by rfl) rfl rfl qz2 ?_
      with_reducible refine (spec_l1In.calls ((rd_T37 l1 x5_2).f0) 1 99 true _ A18.out).mono ?_
      rintro e w' ⟨rfl, ⟨nd, rfl⟩⟩
      refine ⟨_, rfl, ?_⟩
      refine hK.out _ _ ⟨(blk_cell BK158.out 0).trans rfl, (blk_cell BK158.out 1).trans rfl, (blk_cell BK158.out 2).trans rfl, (blk_cell BK158.out 3).trans rfl, (blk_cell BK158.out 4).trans rfl, (blk_cell BK155.out 0).trans rfl, (blk_cell BK155.out 1).trans rfl, (blk_cell BK155.out 2).trans rfl⟩ (fun hHeld => ?_)
      clear hK K
      refine nm_ 28 ?_
      refine jI_ 3 29 ?_
      refine jI_ 4 30 ?_
      refine jI_ 6 32 ?_
      refine sI8_ 5 31 ?_
      refine sI8_ 7 33 ?_
      refine one_ (i := 8) (N := some 34) (bqz 44 511) rfl rfl qzc (by decide) (fun K hK => ?_)
      refine goes_ Try.func61 (by kernel_rfl) rfl #[.agg #[.int .i64 a0_0, .int .i64 a0_1, .slice A0_2 l0_2.length c0_2], .int .i64 ((rd_T37 l1 x5_2).f1)] (by rfl) rfl rfl qz2 ?_
      with_reducible refine (spec_l7Free.calls a0_0 a0_1 _ _ l0_2 ((rd_T37 l1 x5_2).f1) true _ ?side1 ?side2 A20.out).mono ?_
      (case side1 => exact qz17)
      (case side2 => exact qz15)
      rintro e w37 ⟨rfl, hb⟩
      refine ⟨_, rfl, ?_⟩
      replace BK155 := bB_ BK155 hb
      replace BK158 := bB_ BK158 hb
      replace HB := bS_ hb
      (try clear hb)
      (try clear hb2)
      (try clear hk)
      (try clear hi)
      refine hK.out _ _ ⟨(blk_cell BK158.out 0).trans rfl, (blk_cell BK158.out 1).trans rfl, (blk_cell BK158.out 2).trans rfl, (blk_cell BK158.out 3).trans rfl, (blk_cell BK158.out 4).trans rfl, (blk_cell BK155.out 0).trans rfl, (blk_cell BK155.out 1).trans rfl, (blk_cell BK155.out 2).trans rfl⟩ (fun hHeld => ?_)
      clear hK K
      refine nm_ 34 ?_
      refine pI_ 9 35 (bqz 44 1023) ?_
      refine jI_ 10 36 ?_
      refine jI_ 11 37 ?_
      refine jI_ 12 38 ?_
      refine sI8_ 13 39 ?_
      refine jI_ 14 40 ?_
      refine jI_ 15 41 ?_
      refine jU_ 16 42 ?_
      refine jU_ 17 43 ?_
      refine jU_ 18 44 ?_
      refine jU_ 19 45 ?_
      refine jU_ 20 46 ?_
      refine jI_ 21 47 ?_
      refine jI_ 22 48 ?_
      refine jI_ 23 49 ?_
      refine jI_ 24 50 ?_
      refine sI8_ 25 51 ?_
      refine one_ (i := 26) (N := some 52) (bqz 44 134217727) rfl rfl qzc (by decide) (fun K hK => ?_)
      refine goes_ Try.func98 (by kernel_rfl) rfl #[.int .i64 ((rd_T37 l1 x5_2).f4), .int .i64 0, .int .i64 1000000] (by rfl) rfl rfl qz2 ?_
      with_reducible refine (spec_l1In.calls ((rd_T37 l1 x5_2).f4) 0 1000000 false _ A23.out).mono ?_
      rintro e w' ⟨rfl, ⟨nd, rfl⟩⟩
      refine ⟨_, rfl, ?_⟩
      refine hK.out _ _ ⟨(blk_cell BK158.out 0).trans rfl, (blk_cell BK158.out 1).trans rfl, (blk_cell BK158.out 2).trans rfl, (blk_cell BK158.out 3).trans rfl, (blk_cell BK158.out 4).trans rfl, (blk_cell BK155.out 0).trans rfl, (blk_cell BK155.out 1).trans rfl, (blk_cell BK155.out 2).trans rfl⟩ (fun hHeld => ?_)
      clear hK K
      refine nm_ 52 ?_
      refine jI_ 27 53 ?_
      refine jI_ 28 54 ?_
      refine jI_ 29 55 ?_
      refine jU_ 30 56 ?_
      refine jU_ 31 57 ?_
      refine jU_ 32 58 ?_
      refine jU_ 33 59 ?_
      refine jU_ 34 60 ?_
      refine jU_ 35 61 ?_
      refine jU_ 36 62 ?_
      refine jU_ 37 63 ?_
      refine jU_ 38 64 ?_
      refine jU_ 39 65 ?_
      refine jU_ 40 66 ?_
      refine jU_ 41 67 ?_
      refine jU_ 42 68 ?_
      refine jI_ 43 69 ?_
      refine done_ (done_of HT_.out (by kernel_rfl)) ?_
      try go_wp2
      go_meet
      case rel => exact ⟨_, (true), qz4, H', ⟨by have := HJ2.out; have := HK2.out; first | omega | exact Nat.le_refl _⟩, ⟨bk_ BK155.out⟩, ⟨bk_ BK158.out⟩, ⟨qz1⟩⟩
      }
      }
      {
      rw [if_neg c22] at H
      have c22b0 := beq_eq_false_iff_ne.mpr c22
      have c22b1 := bne_iff_ne.mpr c22
      (first | rw [c22b0] | (simp only [i64_w, i32_w]; rw [c22b0]) | rw [@decide_eq_false _ _ (of_decide_eq_false c22b0)] | rw [@decide_eq_false _ _ (of_decide_eq_false c22b1)] | skip)
      replace H := Option.bind_eq_some_iff.mp H
      obtain ⟨t163, A380, H⟩ := H
      replace H : (if t163 = true then ((spec_l1In.f ((rd_T37 l1 x5_2).f4) 0 1000000).bind fun t164 => (if t164 = true then (if x5_2 > 0 then (if 0 ≤ (wrap64 (x5_2 - 1)) then (if (wrap64 (x5_2 - 1)) < (l1.length : Int) then (spec_CrewOk.j2 k2 l1 x5_2 (decide (((rd_T37 l1 (wrap64 (x5_2 - 1))).f0) ≥ ((rd_T37 l1 x5_2).f0))) a0_0 a0_1 l0_2 ((rd_T37 l1 x5_2).f0) ((rd_T37 l1 x5_2).f1) ((rd_T37 l1 x5_2).f2) ((rd_T37 l1 x5_2).f3) ((rd_T37 l1 x5_2).f4)) else (none)) else (none)) else (spec_CrewOk.j2 k2 l1 x5_2 false a0_0 a0_1 l0_2 ((rd_T37 l1 x5_2).f0) ((rd_T37 l1 x5_2).f1) ((rd_T37 l1 x5_2).f2) ((rd_T37 l1 x5_2).f3) ((rd_T37 l1 x5_2).f4))) else (spec_CrewOk.j2 k2 l1 x5_2 true a0_0 a0_1 l0_2 ((rd_T37 l1 x5_2).f0) ((rd_T37 l1 x5_2).f1) ((rd_T37 l1 x5_2).f2) ((rd_T37 l1 x5_2).f3) ((rd_T37 l1 x5_2).f4)))) else (spec_CrewOk.j2 k2 l1 x5_2 true a0_0 a0_1 l0_2 ((rd_T37 l1 x5_2).f0) ((rd_T37 l1 x5_2).f1) ((rd_T37 l1 x5_2).f2) ((rd_T37 l1 x5_2).f3) ((rd_T37 l1 x5_2).f4))) = some r := H
      have A38 := aM A380
      clear A380
      by_cases c39 : t163 = true
      {
      subst c39
      rw [if_pos rfl] at H
      replace H := Option.bind_eq_some_iff.mp H
      obtain ⟨t164, A400, H⟩ := H
      replace H : (if t164 = true then (if x5_2 > 0 then (if 0 ≤ (wrap64 (x5_2 - 1)) then (if (wrap64 (x5_2 - 1)) < (l1.length : Int) then (spec_CrewOk.j2 k2 l1 x5_2 (decide (((rd_T37 l1 (wrap64 (x5_2 - 1))).f0) ≥ ((rd_T37 l1 x5_2).f0))) a0_0 a0_1 l0_2 ((rd_T37 l1 x5_2).f0) ((rd_T37 l1 x5_2).f1) ((rd_T37 l1 x5_2).f2) ((rd_T37 l1 x5_2).f3) ((rd_T37 l1 x5_2).f4)) else (none)) else (none)) else (spec_CrewOk.j2 k2 l1 x5_2 false a0_0 a0_1 l0_2 ((rd_T37 l1 x5_2).f0) ((rd_T37 l1 x5_2).f1) ((rd_T37 l1 x5_2).f2) ((rd_T37 l1 x5_2).f3) ((rd_T37 l1 x5_2).f4))) else (spec_CrewOk.j2 k2 l1 x5_2 true a0_0 a0_1 l0_2 ((rd_T37 l1 x5_2).f0) ((rd_T37 l1 x5_2).f1) ((rd_T37 l1 x5_2).f2) ((rd_T37 l1 x5_2).f3) ((rd_T37 l1 x5_2).f4))) = some r := H
      have A40 := aM A400
      clear A400
      by_cases c41 : t164 = true
      {
      subst c41
      rw [if_pos rfl] at H
      by_cases c42 : x5_2 > 0
      {
      rw [if_pos c42] at H
      have c42b0 := decide_eq_true c42
      clear c42
      obtain ⟨ji43, hji43⟩ : ∃ j_ : Int, (wrap64 (x5_2 - 1)) = j_ := ⟨_, rfl⟩
      replace H : (if 0 ≤ (ji43) then (if (ji43) < (l1.length : Int) then (spec_CrewOk.j2 k2 l1 x5_2 (decide (((rd_T37 l1 (ji43)).f0) ≥ ((rd_T37 l1 x5_2).f0))) a0_0 a0_1 l0_2 ((rd_T37 l1 x5_2).f0) ((rd_T37 l1 x5_2).f1) ((rd_T37 l1 x5_2).f2) ((rd_T37 l1 x5_2).f3) ((rd_T37 l1 x5_2).f4)) else (none)) else (none)) = some r := by first | (rw [hji43] at H; exact H) | (simp only [hji43] at H ⊢; exact H)
      (try rw [hji43] at A18)
      (try rw [hji43] at A20)
      (try rw [hji43] at A38)
      (try rw [hji43] at A40)
      have hji43w : (IntKind.i64.wrap (x5_2 - 1)) = ji43 := (i64_w _).trans hji43
      by_cases c44 : 0 ≤ (ji43)
      {
      rw [if_pos c44] at H
      have c44b0 := decide_eq_true c44
      clear c44
      by_cases c45 : (ji43) < (l1.length : Int)
      {
      rw [if_pos c45] at H
      have c45b0 := decide_eq_true c45
      clear c45
      have H' := aM H
      clear H
      try go_wp2
      generalize hq_ : (((((w15.setCell ⟨gb158, 0, none⟩ (.int .i64 ((rd_T37 l1 x5_2).f0))).setCell ⟨gb158, 1, none⟩ (.int .i64 ((rd_T37 l1 x5_2).f1))).setCell ⟨gb158, 2, none⟩ (.int .i64 ((rd_T37 l1 x5_2).f2))).setCell ⟨gb158, 3, none⟩ (.bool ((rd_T37 l1 x5_2).f3))).setCell ⟨gb158, 4, none⟩ (.int .i64 ((rd_T37 l1 x5_2).f4))) = w46
      replace BK155 : Aside0 (w46.heap[gb155]? = some (.cells #[.int .i64 a0_0, .int .i64 a0_1, .slice A0_2 l0_2.length c0_2] 43 (0, 0))) := ⟨by rw [← hq_]; exact (bk2_ BK155.out)⟩
      replace BK158 : Aside0 (w46.heap[gb158]? = some (.cells #[.int .i64 ((rd_T37 l1 x5_2).f0), .int .i64 ((rd_T37 l1 x5_2).f1), .int .i64 ((rd_T37 l1 x5_2).f2), .bool ((rd_T37 l1 x5_2).f3), .int .i64 ((rd_T37 l1 x5_2).f4)] 37 (0, 0))) := ⟨by rw [← hq_]; exact (by (with_reducible repeat (first | refine blk_drewN ?_ _ | refine blk_drew ?_ | refine blk_alloc ?_ _)); refine blk_put (cs := #[.int .i64 ((rd_T37 l1 x5_2).f0), .int .i64 ((rd_T37 l1 x5_2).f1), .int .i64 ((rd_T37 l1 x5_2).f2), .bool ((rd_T37 l1 x5_2).f3), .int .i64 0]) ?_ 4 _ rfl; (with_reducible repeat (first | refine blk_drewN ?_ _ | refine blk_drew ?_ | refine blk_alloc ?_ _)); refine blk_put (cs := #[.int .i64 ((rd_T37 l1 x5_2).f0), .int .i64 ((rd_T37 l1 x5_2).f1), .int .i64 ((rd_T37 l1 x5_2).f2), .bool false, .int .i64 0]) ?_ 3 _ rfl; (with_reducible repeat (first | refine blk_drewN ?_ _ | refine blk_drew ?_ | refine blk_alloc ?_ _)); refine blk_put (cs := #[.int .i64 ((rd_T37 l1 x5_2).f0), .int .i64 ((rd_T37 l1 x5_2).f1), .int .i64 0, .bool false, .int .i64 0]) ?_ 2 _ rfl; (with_reducible repeat (first | refine blk_drewN ?_ _ | refine blk_drew ?_ | refine blk_alloc ?_ _)); refine blk_put (cs := #[.int .i64 ((rd_T37 l1 x5_2).f0), .int .i64 0, .int .i64 0, .bool false, .int .i64 0]) ?_ 1 _ rfl; (with_reducible repeat (first | refine blk_drewN ?_ _ | refine blk_drew ?_ | refine blk_alloc ?_ _)); refine blk_put (cs := #[.int .i64 0, .int .i64 0, .int .i64 0, .bool false, .int .i64 0]) ?_ 0 _ rfl; exact bk_ BK158.out)⟩
      replace HB : Aside0 (Below w.heap.size w w46) := ⟨by rw [← hq_]; exact qz1⟩
      clear hq_
      replace BK155 := aM (blk_drew BK155.out)
      replace BK158 := aM (blk_drew BK158.out)
      replace HB := aM (below_drew1 HB.out)
      have p165 : 0 ≤ ((ji43) : Int) := dt_
      have q165 : (ji43) < (l1.length : Int) := dt_
      obtain ⟨ad165, e165, hx165_0, hx165_1, hx165_2, hx165_3, hx165_4⟩ := at_T37 HR1.out (ji43) p165 q165
      have hw165_4 := hx165_4
      have hw165_3 := hx165_3
      have hw165_2 := hx165_2
      have hw165_1 := hx165_1
      have hw165_0 := hx165_0
      obtain rfl : ad157 = ad165 := (by injection e165)
      replace hx165_0 := cB_ hx165_0
      replace hx165_1 := cB_ hx165_1
      replace hx165_2 := cB_ hx165_2
      replace hx165_3 := cB_ hx165_3
      replace hx165_4 := cB_ hx165_4
      replace p165 := eq_true p165
      replace q165 := eq_true q165
      refine start_ (n := 44) (S := fun w' => w'.cell? ⟨gb158, 0, none⟩ = some (.int .i64 ((rd_T37 l1 x5_2).f0)) ∧ w'.cell? ⟨gb158, 1, none⟩ = some (.int .i64 ((rd_T37 l1 x5_2).f1)) ∧ w'.cell? ⟨gb158, 2, none⟩ = some (.int .i64 ((rd_T37 l1 x5_2).f2)) ∧ w'.cell? ⟨gb158, 3, none⟩ = some (.bool ((rd_T37 l1 x5_2).f3)) ∧ w'.cell? ⟨gb158, 4, none⟩ = some (.int .i64 ((rd_T37 l1 x5_2).f4)) ∧ w'.cell? ⟨gb155, 0, none⟩ = some (.int .i64 a0_0) ∧ w'.cell? ⟨gb155, 1, none⟩ = some (.int .i64 a0_1) ∧ w'.cell? ⟨gb155, 2, none⟩ = some (.slice A0_2 l0_2.length c0_2) ∧ w'.cell? (ad157.add (((ji43)).toNat * 5)) = some (.int .i64 ((rd_T37 l1 (ji43)).f0)) ∧ w'.cell? ⟨(ad157.add (((ji43)).toNat * 5)).block, (ad157.add (((ji43)).toNat * 5)).off + 1, none⟩ = some (.int .i64 ((rd_T37 l1 (ji43)).f1)) ∧ w'.cell? ⟨(ad157.add (((ji43)).toNat * 5)).block, (ad157.add (((ji43)).toNat * 5)).off + 2, none⟩ = some (.int .i64 ((rd_T37 l1 (ji43)).f2)) ∧ w'.cell? ⟨(ad157.add (((ji43)).toNat * 5)).block, (ad157.add (((ji43)).toNat * 5)).off + 3, none⟩ = some (.bool ((rd_T37 l1 (ji43)).f3)) ∧ w'.cell? ⟨(ad157.add (((ji43)).toNat * 5)).block, (ad157.add (((ji43)).toNat * 5)).off + 4, none⟩ = some (.int .i64 ((rd_T37 l1 (ji43)).f4))) (ds := []) #[false, false, false, false, false, false, false, false, false, false, false, false, false, false, false, false, false, false, false, false, false, false, false, false, false, false, false, false, false, false, false, false, false, false, false, false, false, false, false, false, false, false, false, false] (by kernel_rfl) rfl rfl ⟨(blk_cell BK158.out 0).trans rfl, (blk_cell BK158.out 1).trans rfl, (blk_cell BK158.out 2).trans rfl, (blk_cell BK158.out 3).trans rfl, (blk_cell BK158.out 4).trans rfl, (blk_cell BK155.out 0).trans rfl, (blk_cell BK155.out 1).trans rfl, (blk_cell BK155.out 2).trans rfl, (cB_ hw165_0), (cB_ hw165_1), (cB_ hw165_2), (cB_ hw165_3), (cB_ hw165_4)⟩ (fun hHeld => ?_); refine with_tabW spec_CrewOk.tab7 spec_CrewOk.bits7 (fun HT_ HW_ => ?_)
      generalize w46.drew = w47 at BK155 BK158 HB hx165_0 hx165_1 hx165_2 hx165_3 hx165_4 hHeld ⊢
      refine pI_ 0 26 (bqz 44 1) ?_
      refine sI13_ 1 27 ?_
      refine one_ (i := 2) (N := some 28) (bqz 44 7) rfl rfl qzc (by decide) (fun K hK => ?_)
      refine goes_ Try.func98 (by kernel_rfl) rfl #[.int .i64 ((rd_T37 l1 x5_2).f0), .int .i64 1, .int .i64 99] (by rfl) rfl rfl qz2 ?_
      with_reducible refine (spec_l1In.calls ((rd_T37 l1 x5_2).f0) 1 99 true _ A18.out).mono ?_
      rintro e w' ⟨rfl, ⟨nd, rfl⟩⟩
      refine ⟨_, rfl, ?_⟩
      refine hK.out _ _ ⟨(blk_cell BK158.out 0).trans rfl, (blk_cell BK158.out 1).trans rfl, (blk_cell BK158.out 2).trans rfl, (blk_cell BK158.out 3).trans rfl, (blk_cell BK158.out 4).trans rfl, (blk_cell BK155.out 0).trans rfl, (blk_cell BK155.out 1).trans rfl, (blk_cell BK155.out 2).trans rfl, (cB_ hw165_0), (cB_ hw165_1), (cB_ hw165_2), (cB_ hw165_3), (cB_ hw165_4)⟩ (fun hHeld => ?_)
      clear hK K
      refine nm_ 28 ?_
      refine jI_ 3 29 ?_
      refine jI_ 4 30 ?_
      refine jI_ 6 32 ?_
      refine sI13_ 5 31 ?_
      refine sI13_ 7 33 ?_
      refine one_ (i := 8) (N := some 34) (bqz 44 511) rfl rfl qzc (by decide) (fun K hK => ?_)
      refine goes_ Try.func61 (by kernel_rfl) rfl #[.agg #[.int .i64 a0_0, .int .i64 a0_1, .slice A0_2 l0_2.length c0_2], .int .i64 ((rd_T37 l1 x5_2).f1)] (by rfl) rfl rfl qz2 ?_
      with_reducible refine (spec_l7Free.calls a0_0 a0_1 _ _ l0_2 ((rd_T37 l1 x5_2).f1) true _ ?side1 ?side2 A20.out).mono ?_
      (case side1 => exact qz17)
      (case side2 => exact qz15)
      rintro e w48 ⟨rfl, hb⟩
      refine ⟨_, rfl, ?_⟩
      replace BK155 := bB_ BK155 hb
      replace BK158 := bB_ BK158 hb
      replace HB := bS_ hb
      (try clear hb)
      (try clear hb2)
      (try clear hk)
      (try clear hi)
      refine hK.out _ _ ⟨(blk_cell BK158.out 0).trans rfl, (blk_cell BK158.out 1).trans rfl, (blk_cell BK158.out 2).trans rfl, (blk_cell BK158.out 3).trans rfl, (blk_cell BK158.out 4).trans rfl, (blk_cell BK155.out 0).trans rfl, (blk_cell BK155.out 1).trans rfl, (blk_cell BK155.out 2).trans rfl, (cB_ hw165_0), (cB_ hw165_1), (cB_ hw165_2), (cB_ hw165_3), (cB_ hw165_4)⟩ (fun hHeld => ?_)
      clear hK K
      refine nm_ 34 ?_
      refine pI_ 9 35 (bqz 44 1023) ?_
      refine jI_ 10 36 ?_
      refine jI_ 11 37 ?_
      refine jI_ 12 38 ?_
      refine sI13_ 13 39 ?_
      refine jI_ 14 40 ?_
      refine jI_ 15 41 ?_
      refine jI_ 17 43 ?_
      refine sI13_ 16 42 ?_
      refine sI13_ 18 44 ?_
      refine one_ (i := 19) (N := some 45) (bqz 44 1048575) rfl rfl qzc (by decide) (fun K hK => ?_)
      refine goes_ Try.func61 (by kernel_rfl) rfl #[.agg #[.int .i64 a0_0, .int .i64 a0_1, .slice A0_2 l0_2.length c0_2], .int .i64 ((rd_T37 l1 x5_2).f2)] (by rfl) rfl rfl qz2 ?_
      with_reducible refine (spec_l7Free.calls a0_0 a0_1 _ _ l0_2 ((rd_T37 l1 x5_2).f2) true _ ?side1 ?side2 A38.out).mono ?_
      (case side1 => exact qz3)
      (case side2 => exact qz15)
      rintro e w49 ⟨rfl, hb⟩
      refine ⟨_, rfl, ?_⟩
      replace BK155 := bB_ BK155 hb
      replace BK158 := bB_ BK158 hb
      replace HB := bS_ hb
      (try clear hb)
      (try clear hb2)
      (try clear hk)
      (try clear hi)
      refine hK.out _ _ ⟨(blk_cell BK158.out 0).trans rfl, (blk_cell BK158.out 1).trans rfl, (blk_cell BK158.out 2).trans rfl, (blk_cell BK158.out 3).trans rfl, (blk_cell BK158.out 4).trans rfl, (blk_cell BK155.out 0).trans rfl, (blk_cell BK155.out 1).trans rfl, (blk_cell BK155.out 2).trans rfl, (cB_ hw165_0), (cB_ hw165_1), (cB_ hw165_2), (cB_ hw165_3), (cB_ hw165_4)⟩ (fun hHeld => ?_)
      clear hK K
      refine nm_ 45 ?_
      refine pI_ 20 46 (bqz 44 2097151) ?_
      refine jI_ 21 47 ?_
      refine jI_ 22 48 ?_
      refine jI_ 23 49 ?_
      refine jI_ 24 50 ?_
      refine sI13_ 25 51 ?_
      refine one_ (i := 26) (N := some 52) (bqz 44 134217727) rfl rfl qzc (by decide) (fun K hK => ?_)
      refine goes_ Try.func98 (by kernel_rfl) rfl #[.int .i64 ((rd_T37 l1 x5_2).f4), .int .i64 0, .int .i64 1000000] (by rfl) rfl rfl qz2 ?_
      with_reducible refine (spec_l1In.calls ((rd_T37 l1 x5_2).f4) 0 1000000 true _ A40.out).mono ?_
      rintro e w' ⟨rfl, ⟨nd, rfl⟩⟩
      refine ⟨_, rfl, ?_⟩
      refine hK.out _ _ ⟨(blk_cell BK158.out 0).trans rfl, (blk_cell BK158.out 1).trans rfl, (blk_cell BK158.out 2).trans rfl, (blk_cell BK158.out 3).trans rfl, (blk_cell BK158.out 4).trans rfl, (blk_cell BK155.out 0).trans rfl, (blk_cell BK155.out 1).trans rfl, (blk_cell BK155.out 2).trans rfl, (cB_ hw165_0), (cB_ hw165_1), (cB_ hw165_2), (cB_ hw165_3), (cB_ hw165_4)⟩ (fun hHeld => ?_)
      clear hK K
      refine nm_ 52 ?_
      refine jI_ 27 53 ?_
      refine jI_ 28 54 ?_
      refine jI_ 29 55 ?_
      refine jI_ 30 56 ?_
      refine jI_ 31 57 ?_
      refine jI_ 32 58 ?_
      refine jI_ 33 59 ?_
      refine jI_ 34 60 ?_
      refine jI_ 35 61 ?_
      refine jI_ 36 62 ?_
      refine jI_ 37 63 ?_
      refine jI_ 39 65 ?_
      refine sI13_ 38 64 ?_
      refine sI13_ 40 66 ?_
      refine jI_ 41 67 ?_
      refine jI_ 42 68 ?_
      refine jI_ 43 69 ?_
      refine done_ (done_of HT_.out (by kernel_rfl)) ?_
      try go_wp2
      go_meet
      case rel => exact ⟨_, (decide (((rd_T37 l1 (ji43)).f0) ≥ ((rd_T37 l1 x5_2).f0))), (by first | rfl | (simp; done) | (simp only [← hji43] <;> (first | rfl | simp)) | (simp [*]; done)), H', ⟨by have := HJ2.out; have := HK2.out; first | omega | exact Nat.le_refl _⟩, ⟨bk_ BK155.out⟩, ⟨bk_ BK158.out⟩, ⟨qz1⟩⟩
      }
      {
      exact an_ c45 H
      }
      }
      {
      exact an_ c44 H
      }
      }
      {
      rw [if_neg c42] at H
      have c42b0 := decide_eq_false c42
      clear c42
      have H' := aM H
      clear H
      try go_wp2
      generalize hq_ : (((((w15.setCell ⟨gb158, 0, none⟩ (.int .i64 ((rd_T37 l1 x5_2).f0))).setCell ⟨gb158, 1, none⟩ (.int .i64 ((rd_T37 l1 x5_2).f1))).setCell ⟨gb158, 2, none⟩ (.int .i64 ((rd_T37 l1 x5_2).f2))).setCell ⟨gb158, 3, none⟩ (.bool ((rd_T37 l1 x5_2).f3))).setCell ⟨gb158, 4, none⟩ (.int .i64 ((rd_T37 l1 x5_2).f4))) = w50
      replace BK155 : Aside0 (w50.heap[gb155]? = some (.cells #[.int .i64 a0_0, .int .i64 a0_1, .slice A0_2 l0_2.length c0_2] 43 (0, 0))) := ⟨by rw [← hq_]; exact (bk2_ BK155.out)⟩
      replace BK158 : Aside0 (w50.heap[gb158]? = some (.cells #[.int .i64 ((rd_T37 l1 x5_2).f0), .int .i64 ((rd_T37 l1 x5_2).f1), .int .i64 ((rd_T37 l1 x5_2).f2), .bool ((rd_T37 l1 x5_2).f3), .int .i64 ((rd_T37 l1 x5_2).f4)] 37 (0, 0))) := ⟨by rw [← hq_]; exact (by (with_reducible repeat (first | refine blk_drewN ?_ _ | refine blk_drew ?_ | refine blk_alloc ?_ _)); refine blk_put (cs := #[.int .i64 ((rd_T37 l1 x5_2).f0), .int .i64 ((rd_T37 l1 x5_2).f1), .int .i64 ((rd_T37 l1 x5_2).f2), .bool ((rd_T37 l1 x5_2).f3), .int .i64 0]) ?_ 4 _ rfl; (with_reducible repeat (first | refine blk_drewN ?_ _ | refine blk_drew ?_ | refine blk_alloc ?_ _)); refine blk_put (cs := #[.int .i64 ((rd_T37 l1 x5_2).f0), .int .i64 ((rd_T37 l1 x5_2).f1), .int .i64 ((rd_T37 l1 x5_2).f2), .bool false, .int .i64 0]) ?_ 3 _ rfl; (with_reducible repeat (first | refine blk_drewN ?_ _ | refine blk_drew ?_ | refine blk_alloc ?_ _)); refine blk_put (cs := #[.int .i64 ((rd_T37 l1 x5_2).f0), .int .i64 ((rd_T37 l1 x5_2).f1), .int .i64 0, .bool false, .int .i64 0]) ?_ 2 _ rfl; (with_reducible repeat (first | refine blk_drewN ?_ _ | refine blk_drew ?_ | refine blk_alloc ?_ _)); refine blk_put (cs := #[.int .i64 ((rd_T37 l1 x5_2).f0), .int .i64 0, .int .i64 0, .bool false, .int .i64 0]) ?_ 1 _ rfl; (with_reducible repeat (first | refine blk_drewN ?_ _ | refine blk_drew ?_ | refine blk_alloc ?_ _)); refine blk_put (cs := #[.int .i64 0, .int .i64 0, .int .i64 0, .bool false, .int .i64 0]) ?_ 0 _ rfl; exact bk_ BK158.out)⟩
      replace HB : Aside0 (Below w.heap.size w w50) := ⟨by rw [← hq_]; exact qz1⟩
      clear hq_
      replace BK155 := aM (blk_drew BK155.out)
      replace BK158 := aM (blk_drew BK158.out)
      replace HB := aM (below_drew1 HB.out)
      refine start_ (n := 44) (S := fun w' => w'.cell? ⟨gb158, 0, none⟩ = some (.int .i64 ((rd_T37 l1 x5_2).f0)) ∧ w'.cell? ⟨gb158, 1, none⟩ = some (.int .i64 ((rd_T37 l1 x5_2).f1)) ∧ w'.cell? ⟨gb158, 2, none⟩ = some (.int .i64 ((rd_T37 l1 x5_2).f2)) ∧ w'.cell? ⟨gb158, 3, none⟩ = some (.bool ((rd_T37 l1 x5_2).f3)) ∧ w'.cell? ⟨gb158, 4, none⟩ = some (.int .i64 ((rd_T37 l1 x5_2).f4)) ∧ w'.cell? ⟨gb155, 0, none⟩ = some (.int .i64 a0_0) ∧ w'.cell? ⟨gb155, 1, none⟩ = some (.int .i64 a0_1) ∧ w'.cell? ⟨gb155, 2, none⟩ = some (.slice A0_2 l0_2.length c0_2)) (ds := []) #[false, false, false, false, false, false, false, false, false, false, false, false, false, false, false, false, false, false, false, false, false, false, false, false, false, false, false, false, false, false, false, false, false, false, false, false, false, false, false, false, false, false, false, false] (by kernel_rfl) rfl rfl ⟨(blk_cell BK158.out 0).trans rfl, (blk_cell BK158.out 1).trans rfl, (blk_cell BK158.out 2).trans rfl, (blk_cell BK158.out 3).trans rfl, (blk_cell BK158.out 4).trans rfl, (blk_cell BK155.out 0).trans rfl, (blk_cell BK155.out 1).trans rfl, (blk_cell BK155.out 2).trans rfl⟩ (fun hHeld => ?_); refine with_tabW spec_CrewOk.tab7 spec_CrewOk.bits7 (fun HT_ HW_ => ?_)
      generalize w50.drew = w51 at BK155 BK158 HB hHeld ⊢
      refine pI_ 0 26 (bqz 44 1) ?_
      refine sI8_ 1 27 ?_
      refine one_ (i := 2) (N := some 28) (bqz 44 7) rfl rfl qzc (by decide) (fun K hK => ?_)
      refine goes_ Try.func98 (by kernel_rfl) rfl #[.int .i64 ((rd_T37 l1 x5_2).f0), .int .i64 1, .int .i64 99] (by rfl) rfl rfl qz2 ?_
      with_reducible refine (spec_l1In.calls ((rd_T37 l1 x5_2).f0) 1 99 true _ A18.out).mono ?_
      rintro e w' ⟨rfl, ⟨nd, rfl⟩⟩
      refine ⟨_, rfl, ?_⟩
      refine hK.out _ _ ⟨(blk_cell BK158.out 0).trans rfl, (blk_cell BK158.out 1).trans rfl, (blk_cell BK158.out 2).trans rfl, (blk_cell BK158.out 3).trans rfl, (blk_cell BK158.out 4).trans rfl, (blk_cell BK155.out 0).trans rfl, (blk_cell BK155.out 1).trans rfl, (blk_cell BK155.out 2).trans rfl⟩ (fun hHeld => ?_)
      clear hK K
      refine nm_ 28 ?_
      refine jI_ 3 29 ?_
      refine jI_ 4 30 ?_
      refine jI_ 6 32 ?_
      refine sI8_ 5 31 ?_
      refine sI8_ 7 33 ?_
      refine one_ (i := 8) (N := some 34) (bqz 44 511) rfl rfl qzc (by decide) (fun K hK => ?_)
      refine goes_ Try.func61 (by kernel_rfl) rfl #[.agg #[.int .i64 a0_0, .int .i64 a0_1, .slice A0_2 l0_2.length c0_2], .int .i64 ((rd_T37 l1 x5_2).f1)] (by rfl) rfl rfl qz2 ?_
      with_reducible refine (spec_l7Free.calls a0_0 a0_1 _ _ l0_2 ((rd_T37 l1 x5_2).f1) true _ ?side1 ?side2 A20.out).mono ?_
      (case side1 => exact qz17)
      (case side2 => exact qz15)
      rintro e w52 ⟨rfl, hb⟩
      refine ⟨_, rfl, ?_⟩
      replace BK155 := bB_ BK155 hb
      replace BK158 := bB_ BK158 hb
      replace HB := bS_ hb
      (try clear hb)
      (try clear hb2)
      (try clear hk)
      (try clear hi)
      refine hK.out _ _ ⟨(blk_cell BK158.out 0).trans rfl, (blk_cell BK158.out 1).trans rfl, (blk_cell BK158.out 2).trans rfl, (blk_cell BK158.out 3).trans rfl, (blk_cell BK158.out 4).trans rfl, (blk_cell BK155.out 0).trans rfl, (blk_cell BK155.out 1).trans rfl, (blk_cell BK155.out 2).trans rfl⟩ (fun hHeld => ?_)
      clear hK K
      refine nm_ 34 ?_
      refine pI_ 9 35 (bqz 44 1023) ?_
      refine jI_ 10 36 ?_
      refine jI_ 11 37 ?_
      refine jI_ 12 38 ?_
      refine sI8_ 13 39 ?_
      refine jI_ 14 40 ?_
      refine jI_ 15 41 ?_
      refine jI_ 17 43 ?_
      refine sI8_ 16 42 ?_
      refine sI8_ 18 44 ?_
      refine one_ (i := 19) (N := some 45) (bqz 44 1048575) rfl rfl qzc (by decide) (fun K hK => ?_)
      refine goes_ Try.func61 (by kernel_rfl) rfl #[.agg #[.int .i64 a0_0, .int .i64 a0_1, .slice A0_2 l0_2.length c0_2], .int .i64 ((rd_T37 l1 x5_2).f2)] (by rfl) rfl rfl qz2 ?_
      with_reducible refine (spec_l7Free.calls a0_0 a0_1 _ _ l0_2 ((rd_T37 l1 x5_2).f2) true _ ?side1 ?side2 A38.out).mono ?_
      (case side1 => exact qz3)
      (case side2 => exact qz15)
      rintro e w53 ⟨rfl, hb⟩
      refine ⟨_, rfl, ?_⟩
      replace BK155 := bB_ BK155 hb
      replace BK158 := bB_ BK158 hb
      replace HB := bS_ hb
      (try clear hb)
      (try clear hb2)
      (try clear hk)
      (try clear hi)
      refine hK.out _ _ ⟨(blk_cell BK158.out 0).trans rfl, (blk_cell BK158.out 1).trans rfl, (blk_cell BK158.out 2).trans rfl, (blk_cell BK158.out 3).trans rfl, (blk_cell BK158.out 4).trans rfl, (blk_cell BK155.out 0).trans rfl, (blk_cell BK155.out 1).trans rfl, (blk_cell BK155.out 2).trans rfl⟩ (fun hHeld => ?_)
      clear hK K
      refine nm_ 45 ?_
      refine pI_ 20 46 (bqz 44 2097151) ?_
      refine jI_ 21 47 ?_
      refine jI_ 22 48 ?_
      refine jI_ 23 49 ?_
      refine jI_ 24 50 ?_
      refine sI8_ 25 51 ?_
      refine one_ (i := 26) (N := some 52) (bqz 44 134217727) rfl rfl qzc (by decide) (fun K hK => ?_)
      refine goes_ Try.func98 (by kernel_rfl) rfl #[.int .i64 ((rd_T37 l1 x5_2).f4), .int .i64 0, .int .i64 1000000] (by rfl) rfl rfl qz2 ?_
      with_reducible refine (spec_l1In.calls ((rd_T37 l1 x5_2).f4) 0 1000000 true _ A40.out).mono ?_
      rintro e w' ⟨rfl, ⟨nd, rfl⟩⟩
      refine ⟨_, rfl, ?_⟩
      refine hK.out _ _ ⟨(blk_cell BK158.out 0).trans rfl, (blk_cell BK158.out 1).trans rfl, (blk_cell BK158.out 2).trans rfl, (blk_cell BK158.out 3).trans rfl, (blk_cell BK158.out 4).trans rfl, (blk_cell BK155.out 0).trans rfl, (blk_cell BK155.out 1).trans rfl, (blk_cell BK155.out 2).trans rfl⟩ (fun hHeld => ?_)
      clear hK K
      refine nm_ 52 ?_
      refine jI_ 27 53 ?_
      refine jI_ 28 54 ?_
      refine jI_ 29 55 ?_
      refine jI_ 30 56 ?_
      refine jI_ 31 57 ?_
      refine jI_ 32 58 ?_
      refine jU_ 33 59 ?_
      refine jU_ 34 60 ?_
      refine jU_ 35 61 ?_
      refine jU_ 36 62 ?_
      refine jU_ 37 63 ?_
      refine jU_ 38 64 ?_
      refine jU_ 39 65 ?_
      refine jU_ 40 66 ?_
      refine jU_ 41 67 ?_
      refine jI_ 42 68 ?_
      refine jI_ 43 69 ?_
      refine done_ (done_of HT_.out (by kernel_rfl)) ?_
      try go_wp2
      go_meet
      case rel => exact ⟨_, (false), qz4, H', ⟨by have := HJ2.out; have := HK2.out; first | omega | exact Nat.le_refl _⟩, ⟨bk_ BK155.out⟩, ⟨bk_ BK158.out⟩, ⟨qz1⟩⟩
      }
      }
      {
      replace c41 := Bool.eq_false_iff.mpr c41
      subst c41
      rw [if_neg (show ¬ (false = true) by decide)] at H
      have H' := aM H
      clear H
      try go_wp2
      generalize hq_ : (((((w15.setCell ⟨gb158, 0, none⟩ (.int .i64 ((rd_T37 l1 x5_2).f0))).setCell ⟨gb158, 1, none⟩ (.int .i64 ((rd_T37 l1 x5_2).f1))).setCell ⟨gb158, 2, none⟩ (.int .i64 ((rd_T37 l1 x5_2).f2))).setCell ⟨gb158, 3, none⟩ (.bool ((rd_T37 l1 x5_2).f3))).setCell ⟨gb158, 4, none⟩ (.int .i64 ((rd_T37 l1 x5_2).f4))) = w54
      replace BK155 : Aside0 (w54.heap[gb155]? = some (.cells #[.int .i64 a0_0, .int .i64 a0_1, .slice A0_2 l0_2.length c0_2] 43 (0, 0))) := ⟨by rw [← hq_]; exact (bk2_ BK155.out)⟩
      replace BK158 : Aside0 (w54.heap[gb158]? = some (.cells #[.int .i64 ((rd_T37 l1 x5_2).f0), .int .i64 ((rd_T37 l1 x5_2).f1), .int .i64 ((rd_T37 l1 x5_2).f2), .bool ((rd_T37 l1 x5_2).f3), .int .i64 ((rd_T37 l1 x5_2).f4)] 37 (0, 0))) := ⟨by rw [← hq_]; exact (by (with_reducible repeat (first | refine blk_drewN ?_ _ | refine blk_drew ?_ | refine blk_alloc ?_ _)); refine blk_put (cs := #[.int .i64 ((rd_T37 l1 x5_2).f0), .int .i64 ((rd_T37 l1 x5_2).f1), .int .i64 ((rd_T37 l1 x5_2).f2), .bool ((rd_T37 l1 x5_2).f3), .int .i64 0]) ?_ 4 _ rfl; (with_reducible repeat (first | refine blk_drewN ?_ _ | refine blk_drew ?_ | refine blk_alloc ?_ _)); refine blk_put (cs := #[.int .i64 ((rd_T37 l1 x5_2).f0), .int .i64 ((rd_T37 l1 x5_2).f1), .int .i64 ((rd_T37 l1 x5_2).f2), .bool false, .int .i64 0]) ?_ 3 _ rfl; (with_reducible repeat (first | refine blk_drewN ?_ _ | refine blk_drew ?_ | refine blk_alloc ?_ _)); refine blk_put (cs := #[.int .i64 ((rd_T37 l1 x5_2).f0), .int .i64 ((rd_T37 l1 x5_2).f1), .int .i64 0, .bool false, .int .i64 0]) ?_ 2 _ rfl; (with_reducible repeat (first | refine blk_drewN ?_ _ | refine blk_drew ?_ | refine blk_alloc ?_ _)); refine blk_put (cs := #[.int .i64 ((rd_T37 l1 x5_2).f0), .int .i64 0, .int .i64 0, .bool false, .int .i64 0]) ?_ 1 _ rfl; (with_reducible repeat (first | refine blk_drewN ?_ _ | refine blk_drew ?_ | refine blk_alloc ?_ _)); refine blk_put (cs := #[.int .i64 0, .int .i64 0, .int .i64 0, .bool false, .int .i64 0]) ?_ 0 _ rfl; exact bk_ BK158.out)⟩
      replace HB : Aside0 (Below w.heap.size w w54) := ⟨by rw [← hq_]; exact qz1⟩
      clear hq_
      replace BK155 := aM (blk_drew BK155.out)
      replace BK158 := aM (blk_drew BK158.out)
      replace HB := aM (below_drew1 HB.out)
      refine start_ (n := 44) (S := fun w' => w'.cell? ⟨gb158, 0, none⟩ = some (.int .i64 ((rd_T37 l1 x5_2).f0)) ∧ w'.cell? ⟨gb158, 1, none⟩ = some (.int .i64 ((rd_T37 l1 x5_2).f1)) ∧ w'.cell? ⟨gb158, 2, none⟩ = some (.int .i64 ((rd_T37 l1 x5_2).f2)) ∧ w'.cell? ⟨gb158, 3, none⟩ = some (.bool ((rd_T37 l1 x5_2).f3)) ∧ w'.cell? ⟨gb158, 4, none⟩ = some (.int .i64 ((rd_T37 l1 x5_2).f4)) ∧ w'.cell? ⟨gb155, 0, none⟩ = some (.int .i64 a0_0) ∧ w'.cell? ⟨gb155, 1, none⟩ = some (.int .i64 a0_1) ∧ w'.cell? ⟨gb155, 2, none⟩ = some (.slice A0_2 l0_2.length c0_2)) (ds := []) #[false, false, false, false, false, false, false, false, false, false, false, false, false, false, false, false, false, false, false, false, false, false, false, false, false, false, false, false, false, false, false, false, false, false, false, false, false, false, false, false, false, false, false, false] (by kernel_rfl) rfl rfl ⟨(blk_cell BK158.out 0).trans rfl, (blk_cell BK158.out 1).trans rfl, (blk_cell BK158.out 2).trans rfl, (blk_cell BK158.out 3).trans rfl, (blk_cell BK158.out 4).trans rfl, (blk_cell BK155.out 0).trans rfl, (blk_cell BK155.out 1).trans rfl, (blk_cell BK155.out 2).trans rfl⟩ (fun hHeld => ?_); refine with_tabW spec_CrewOk.tab7 spec_CrewOk.bits7 (fun HT_ HW_ => ?_)
      generalize w54.drew = w55 at BK155 BK158 HB hHeld ⊢
      refine pI_ 0 26 (bqz 44 1) ?_
      refine sI8_ 1 27 ?_
      refine one_ (i := 2) (N := some 28) (bqz 44 7) rfl rfl qzc (by decide) (fun K hK => ?_)
      refine goes_ Try.func98 (by kernel_rfl) rfl #[.int .i64 ((rd_T37 l1 x5_2).f0), .int .i64 1, .int .i64 99] (by rfl) rfl rfl qz2 ?_
      with_reducible refine (spec_l1In.calls ((rd_T37 l1 x5_2).f0) 1 99 true _ A18.out).mono ?_
      rintro e w' ⟨rfl, ⟨nd, rfl⟩⟩
      refine ⟨_, rfl, ?_⟩
      refine hK.out _ _ ⟨(blk_cell BK158.out 0).trans rfl, (blk_cell BK158.out 1).trans rfl, (blk_cell BK158.out 2).trans rfl, (blk_cell BK158.out 3).trans rfl, (blk_cell BK158.out 4).trans rfl, (blk_cell BK155.out 0).trans rfl, (blk_cell BK155.out 1).trans rfl, (blk_cell BK155.out 2).trans rfl⟩ (fun hHeld => ?_)
      clear hK K
      refine nm_ 28 ?_
      refine jI_ 3 29 ?_
      refine jI_ 4 30 ?_
      refine jI_ 6 32 ?_
      refine sI8_ 5 31 ?_
      refine sI8_ 7 33 ?_
      refine one_ (i := 8) (N := some 34) (bqz 44 511) rfl rfl qzc (by decide) (fun K hK => ?_)
      refine goes_ Try.func61 (by kernel_rfl) rfl #[.agg #[.int .i64 a0_0, .int .i64 a0_1, .slice A0_2 l0_2.length c0_2], .int .i64 ((rd_T37 l1 x5_2).f1)] (by rfl) rfl rfl qz2 ?_
      with_reducible refine (spec_l7Free.calls a0_0 a0_1 _ _ l0_2 ((rd_T37 l1 x5_2).f1) true _ ?side1 ?side2 A20.out).mono ?_
      (case side1 => exact qz17)
      (case side2 => exact qz15)
      rintro e w56 ⟨rfl, hb⟩
      refine ⟨_, rfl, ?_⟩
      replace BK155 := bB_ BK155 hb
      replace BK158 := bB_ BK158 hb
      replace HB := bS_ hb
      (try clear hb)
      (try clear hb2)
      (try clear hk)
      (try clear hi)
      refine hK.out _ _ ⟨(blk_cell BK158.out 0).trans rfl, (blk_cell BK158.out 1).trans rfl, (blk_cell BK158.out 2).trans rfl, (blk_cell BK158.out 3).trans rfl, (blk_cell BK158.out 4).trans rfl, (blk_cell BK155.out 0).trans rfl, (blk_cell BK155.out 1).trans rfl, (blk_cell BK155.out 2).trans rfl⟩ (fun hHeld => ?_)
      clear hK K
      refine nm_ 34 ?_
      refine pI_ 9 35 (bqz 44 1023) ?_
      refine jI_ 10 36 ?_
      refine jI_ 11 37 ?_
      refine jI_ 12 38 ?_
      refine sI8_ 13 39 ?_
      refine jI_ 14 40 ?_
      refine jI_ 15 41 ?_
      refine jI_ 17 43 ?_
      refine sI8_ 16 42 ?_
      refine sI8_ 18 44 ?_
      refine one_ (i := 19) (N := some 45) (bqz 44 1048575) rfl rfl qzc (by decide) (fun K hK => ?_)
      refine goes_ Try.func61 (by kernel_rfl) rfl #[.agg #[.int .i64 a0_0, .int .i64 a0_1, .slice A0_2 l0_2.length c0_2], .int .i64 ((rd_T37 l1 x5_2).f2)] (by rfl) rfl rfl qz2 ?_
      with_reducible refine (spec_l7Free.calls a0_0 a0_1 _ _ l0_2 ((rd_T37 l1 x5_2).f2) true _ ?side1 ?side2 A38.out).mono ?_
      (case side1 => exact qz3)
      (case side2 => exact qz15)
      rintro e w57 ⟨rfl, hb⟩
      refine ⟨_, rfl, ?_⟩
      replace BK155 := bB_ BK155 hb
      replace BK158 := bB_ BK158 hb
      replace HB := bS_ hb
      (try clear hb)
      (try clear hb2)
      (try clear hk)
      (try clear hi)
      refine hK.out _ _ ⟨(blk_cell BK158.out 0).trans rfl, (blk_cell BK158.out 1).trans rfl, (blk_cell BK158.out 2).trans rfl, (blk_cell BK158.out 3).trans rfl, (blk_cell BK158.out 4).trans rfl, (blk_cell BK155.out 0).trans rfl, (blk_cell BK155.out 1).trans rfl, (blk_cell BK155.out 2).trans rfl⟩ (fun hHeld => ?_)
      clear hK K
      refine nm_ 45 ?_
      refine pI_ 20 46 (bqz 44 2097151) ?_
      refine jI_ 21 47 ?_
      refine jI_ 22 48 ?_
      refine jI_ 23 49 ?_
      refine jI_ 24 50 ?_
      refine sI8_ 25 51 ?_
      refine one_ (i := 26) (N := some 52) (bqz 44 134217727) rfl rfl qzc (by decide) (fun K hK => ?_)
      refine goes_ Try.func98 (by kernel_rfl) rfl #[.int .i64 ((rd_T37 l1 x5_2).f4), .int .i64 0, .int .i64 1000000] (by rfl) rfl rfl qz2 ?_
      with_reducible refine (spec_l1In.calls ((rd_T37 l1 x5_2).f4) 0 1000000 false _ A40.out).mono ?_
      rintro e w' ⟨rfl, ⟨nd, rfl⟩⟩
      refine ⟨_, rfl, ?_⟩
      refine hK.out _ _ ⟨(blk_cell BK158.out 0).trans rfl, (blk_cell BK158.out 1).trans rfl, (blk_cell BK158.out 2).trans rfl, (blk_cell BK158.out 3).trans rfl, (blk_cell BK158.out 4).trans rfl, (blk_cell BK155.out 0).trans rfl, (blk_cell BK155.out 1).trans rfl, (blk_cell BK155.out 2).trans rfl⟩ (fun hHeld => ?_)
      clear hK K
      refine nm_ 52 ?_
      refine jI_ 27 53 ?_
      refine jI_ 28 54 ?_
      refine jI_ 29 55 ?_
      refine jU_ 30 56 ?_
      refine jU_ 31 57 ?_
      refine jU_ 32 58 ?_
      refine jU_ 33 59 ?_
      refine jU_ 34 60 ?_
      refine jU_ 35 61 ?_
      refine jU_ 36 62 ?_
      refine jU_ 37 63 ?_
      refine jU_ 38 64 ?_
      refine jU_ 39 65 ?_
      refine jU_ 40 66 ?_
      refine jU_ 41 67 ?_
      refine jU_ 42 68 ?_
      refine jI_ 43 69 ?_
      refine done_ (done_of HT_.out (by kernel_rfl)) ?_
      try go_wp2
      go_meet
      case rel => exact ⟨_, (true), qz4, H', ⟨by have := HJ2.out; have := HK2.out; first | omega | exact Nat.le_refl _⟩, ⟨bk_ BK155.out⟩, ⟨bk_ BK158.out⟩, ⟨qz1⟩⟩
      }
      }
      {
      replace c39 := Bool.eq_false_iff.mpr c39
      subst c39
      rw [if_neg (show ¬ (false = true) by decide)] at H
      have H' := aM H
      clear H
      try go_wp2
      generalize hq_ : (((((w15.setCell ⟨gb158, 0, none⟩ (.int .i64 ((rd_T37 l1 x5_2).f0))).setCell ⟨gb158, 1, none⟩ (.int .i64 ((rd_T37 l1 x5_2).f1))).setCell ⟨gb158, 2, none⟩ (.int .i64 ((rd_T37 l1 x5_2).f2))).setCell ⟨gb158, 3, none⟩ (.bool ((rd_T37 l1 x5_2).f3))).setCell ⟨gb158, 4, none⟩ (.int .i64 ((rd_T37 l1 x5_2).f4))) = w58
      replace BK155 : Aside0 (w58.heap[gb155]? = some (.cells #[.int .i64 a0_0, .int .i64 a0_1, .slice A0_2 l0_2.length c0_2] 43 (0, 0))) := ⟨by rw [← hq_]; exact (bk2_ BK155.out)⟩
      replace BK158 : Aside0 (w58.heap[gb158]? = some (.cells #[.int .i64 ((rd_T37 l1 x5_2).f0), .int .i64 ((rd_T37 l1 x5_2).f1), .int .i64 ((rd_T37 l1 x5_2).f2), .bool ((rd_T37 l1 x5_2).f3), .int .i64 ((rd_T37 l1 x5_2).f4)] 37 (0, 0))) := ⟨by rw [← hq_]; exact (by (with_reducible repeat (first | refine blk_drewN ?_ _ | refine blk_drew ?_ | refine blk_alloc ?_ _)); refine blk_put (cs := #[.int .i64 ((rd_T37 l1 x5_2).f0), .int .i64 ((rd_T37 l1 x5_2).f1), .int .i64 ((rd_T37 l1 x5_2).f2), .bool ((rd_T37 l1 x5_2).f3), .int .i64 0]) ?_ 4 _ rfl; (with_reducible repeat (first | refine blk_drewN ?_ _ | refine blk_drew ?_ | refine blk_alloc ?_ _)); refine blk_put (cs := #[.int .i64 ((rd_T37 l1 x5_2).f0), .int .i64 ((rd_T37 l1 x5_2).f1), .int .i64 ((rd_T37 l1 x5_2).f2), .bool false, .int .i64 0]) ?_ 3 _ rfl; (with_reducible repeat (first | refine blk_drewN ?_ _ | refine blk_drew ?_ | refine blk_alloc ?_ _)); refine blk_put (cs := #[.int .i64 ((rd_T37 l1 x5_2).f0), .int .i64 ((rd_T37 l1 x5_2).f1), .int .i64 0, .bool false, .int .i64 0]) ?_ 2 _ rfl; (with_reducible repeat (first | refine blk_drewN ?_ _ | refine blk_drew ?_ | refine blk_alloc ?_ _)); refine blk_put (cs := #[.int .i64 ((rd_T37 l1 x5_2).f0), .int .i64 0, .int .i64 0, .bool false, .int .i64 0]) ?_ 1 _ rfl; (with_reducible repeat (first | refine blk_drewN ?_ _ | refine blk_drew ?_ | refine blk_alloc ?_ _)); refine blk_put (cs := #[.int .i64 0, .int .i64 0, .int .i64 0, .bool false, .int .i64 0]) ?_ 0 _ rfl; exact bk_ BK158.out)⟩
      replace HB : Aside0 (Below w.heap.size w w58) := ⟨by rw [← hq_]; exact qz1⟩
      clear hq_
      replace BK155 := aM (blk_drew BK155.out)
      replace BK158 := aM (blk_drew BK158.out)
      replace HB := aM (below_drew1 HB.out)
      refine start_ (n := 44) (S := fun w' => w'.cell? ⟨gb158, 0, none⟩ = some (.int .i64 ((rd_T37 l1 x5_2).f0)) ∧ w'.cell? ⟨gb158, 1, none⟩ = some (.int .i64 ((rd_T37 l1 x5_2).f1)) ∧ w'.cell? ⟨gb158, 2, none⟩ = some (.int .i64 ((rd_T37 l1 x5_2).f2)) ∧ w'.cell? ⟨gb158, 3, none⟩ = some (.bool ((rd_T37 l1 x5_2).f3)) ∧ w'.cell? ⟨gb158, 4, none⟩ = some (.int .i64 ((rd_T37 l1 x5_2).f4)) ∧ w'.cell? ⟨gb155, 0, none⟩ = some (.int .i64 a0_0) ∧ w'.cell? ⟨gb155, 1, none⟩ = some (.int .i64 a0_1) ∧ w'.cell? ⟨gb155, 2, none⟩ = some (.slice A0_2 l0_2.length c0_2)) (ds := []) #[false, false, false, false, false, false, false, false, false, false, false, false, false, false, false, false, false, false, false, false, false, false, false, false, false, false, false, false, false, false, false, false, false, false, false, false, false, false, false, false, false, false, false, false] (by kernel_rfl) rfl rfl ⟨(blk_cell BK158.out 0).trans rfl, (blk_cell BK158.out 1).trans rfl, (blk_cell BK158.out 2).trans rfl, (blk_cell BK158.out 3).trans rfl, (blk_cell BK158.out 4).trans rfl, (blk_cell BK155.out 0).trans rfl, (blk_cell BK155.out 1).trans rfl, (blk_cell BK155.out 2).trans rfl⟩ (fun hHeld => ?_); refine with_tabW spec_CrewOk.tab7 spec_CrewOk.bits7 (fun HT_ HW_ => ?_)
      generalize w58.drew = w59 at BK155 BK158 HB hHeld ⊢
      refine pI_ 0 26 (bqz 44 1) ?_
      refine sI8_ 1 27 ?_
      refine one_ (i := 2) (N := some 28) (bqz 44 7) rfl rfl qzc (by decide) (fun K hK => ?_)
      refine goes_ Try.func98 (by kernel_rfl) rfl #[.int .i64 ((rd_T37 l1 x5_2).f0), .int .i64 1, .int .i64 99] (by rfl) rfl rfl qz2 ?_
      with_reducible refine (spec_l1In.calls ((rd_T37 l1 x5_2).f0) 1 99 true _ A18.out).mono ?_
      rintro e w' ⟨rfl, ⟨nd, rfl⟩⟩
      refine ⟨_, rfl, ?_⟩
      refine hK.out _ _ ⟨(blk_cell BK158.out 0).trans rfl, (blk_cell BK158.out 1).trans rfl, (blk_cell BK158.out 2).trans rfl, (blk_cell BK158.out 3).trans rfl, (blk_cell BK158.out 4).trans rfl, (blk_cell BK155.out 0).trans rfl, (blk_cell BK155.out 1).trans rfl, (blk_cell BK155.out 2).trans rfl⟩ (fun hHeld => ?_)
      clear hK K
      refine nm_ 28 ?_
      refine jI_ 3 29 ?_
      refine jI_ 4 30 ?_
      refine jI_ 6 32 ?_
      refine sI8_ 5 31 ?_
      refine sI8_ 7 33 ?_
      refine one_ (i := 8) (N := some 34) (bqz 44 511) rfl rfl qzc (by decide) (fun K hK => ?_)
      refine goes_ Try.func61 (by kernel_rfl) rfl #[.agg #[.int .i64 a0_0, .int .i64 a0_1, .slice A0_2 l0_2.length c0_2], .int .i64 ((rd_T37 l1 x5_2).f1)] (by rfl) rfl rfl qz2 ?_
      with_reducible refine (spec_l7Free.calls a0_0 a0_1 _ _ l0_2 ((rd_T37 l1 x5_2).f1) true _ ?side1 ?side2 A20.out).mono ?_
      (case side1 => exact qz17)
      (case side2 => exact qz15)
      rintro e w60 ⟨rfl, hb⟩
      refine ⟨_, rfl, ?_⟩
      replace BK155 := bB_ BK155 hb
      replace BK158 := bB_ BK158 hb
      replace HB := bS_ hb
      (try clear hb)
      (try clear hb2)
      (try clear hk)
      (try clear hi)
      refine hK.out _ _ ⟨(blk_cell BK158.out 0).trans rfl, (blk_cell BK158.out 1).trans rfl, (blk_cell BK158.out 2).trans rfl, (blk_cell BK158.out 3).trans rfl, (blk_cell BK158.out 4).trans rfl, (blk_cell BK155.out 0).trans rfl, (blk_cell BK155.out 1).trans rfl, (blk_cell BK155.out 2).trans rfl⟩ (fun hHeld => ?_)
      clear hK K
      refine nm_ 34 ?_
      refine pI_ 9 35 (bqz 44 1023) ?_
      refine jI_ 10 36 ?_
      refine jI_ 11 37 ?_
      refine jI_ 12 38 ?_
      refine sI8_ 13 39 ?_
      refine jI_ 14 40 ?_
      refine jI_ 15 41 ?_
      refine jI_ 17 43 ?_
      refine sI8_ 16 42 ?_
      refine sI8_ 18 44 ?_
      refine one_ (i := 19) (N := some 45) (bqz 44 1048575) rfl rfl qzc (by decide) (fun K hK => ?_)
      refine goes_ Try.func61 (by kernel_rfl) rfl #[.agg #[.int .i64 a0_0, .int .i64 a0_1, .slice A0_2 l0_2.length c0_2], .int .i64 ((rd_T37 l1 x5_2).f2)] (by rfl) rfl rfl qz2 ?_
      with_reducible refine (spec_l7Free.calls a0_0 a0_1 _ _ l0_2 ((rd_T37 l1 x5_2).f2) false _ ?side1 ?side2 A38.out).mono ?_
      (case side1 => exact qz3)
      (case side2 => exact qz15)
      rintro e w61 ⟨rfl, hb⟩
      refine ⟨_, rfl, ?_⟩
      replace BK155 := bB_ BK155 hb
      replace BK158 := bB_ BK158 hb
      replace HB := bS_ hb
      (try clear hb)
      (try clear hb2)
      (try clear hk)
      (try clear hi)
      refine hK.out _ _ ⟨(blk_cell BK158.out 0).trans rfl, (blk_cell BK158.out 1).trans rfl, (blk_cell BK158.out 2).trans rfl, (blk_cell BK158.out 3).trans rfl, (blk_cell BK158.out 4).trans rfl, (blk_cell BK155.out 0).trans rfl, (blk_cell BK155.out 1).trans rfl, (blk_cell BK155.out 2).trans rfl⟩ (fun hHeld => ?_)
      clear hK K
      refine nm_ 45 ?_
      refine pI_ 20 46 (bqz 44 2097151) ?_
      refine jI_ 21 47 ?_
      refine jI_ 22 48 ?_
      refine jI_ 23 49 ?_
      refine jU_ 24 50 ?_
      refine jU_ 25 51 ?_
      refine jU_ 26 52 ?_
      refine jU_ 27 53 ?_
      refine jI_ 28 54 ?_
      refine jI_ 29 55 ?_
      refine jU_ 30 56 ?_
      refine jU_ 31 57 ?_
      refine jU_ 32 58 ?_
      refine jU_ 33 59 ?_
      refine jU_ 34 60 ?_
      refine jU_ 35 61 ?_
      refine jU_ 36 62 ?_
      refine jU_ 37 63 ?_
      refine jU_ 38 64 ?_
      refine jU_ 39 65 ?_
      refine jU_ 40 66 ?_
      refine jU_ 41 67 ?_
      refine jU_ 42 68 ?_
      refine jI_ 43 69 ?_
      refine done_ (done_of HT_.out (by kernel_rfl)) ?_
      try go_wp2
      go_meet
      case rel => exact ⟨_, (true), qz4, H', ⟨by have := HJ2.out; have := HK2.out; first | omega | exact Nat.le_refl _⟩, ⟨bk_ BK155.out⟩, ⟨bk_ BK158.out⟩, ⟨qz1⟩⟩
      }
      }
      }
      {
      replace c21 := Bool.eq_false_iff.mpr c21
      subst c21
      rw [if_neg (show ¬ (false = true) by decide)] at H
      have H' := aM H
      clear H
      try go_wp2
      generalize hq_ : (((((w15.setCell ⟨gb158, 0, none⟩ (.int .i64 ((rd_T37 l1 x5_2).f0))).setCell ⟨gb158, 1, none⟩ (.int .i64 ((rd_T37 l1 x5_2).f1))).setCell ⟨gb158, 2, none⟩ (.int .i64 ((rd_T37 l1 x5_2).f2))).setCell ⟨gb158, 3, none⟩ (.bool ((rd_T37 l1 x5_2).f3))).setCell ⟨gb158, 4, none⟩ (.int .i64 ((rd_T37 l1 x5_2).f4))) = w62
      replace BK155 : Aside0 (w62.heap[gb155]? = some (.cells #[.int .i64 a0_0, .int .i64 a0_1, .slice A0_2 l0_2.length c0_2] 43 (0, 0))) := ⟨by rw [← hq_]; exact (bk2_ BK155.out)⟩
      replace BK158 : Aside0 (w62.heap[gb158]? = some (.cells #[.int .i64 ((rd_T37 l1 x5_2).f0), .int .i64 ((rd_T37 l1 x5_2).f1), .int .i64 ((rd_T37 l1 x5_2).f2), .bool ((rd_T37 l1 x5_2).f3), .int .i64 ((rd_T37 l1 x5_2).f4)] 37 (0, 0))) := ⟨by rw [← hq_]; exact (by (with_reducible repeat (first | refine blk_drewN ?_ _ | refine blk_drew ?_ | refine blk_alloc ?_ _)); refine blk_put (cs := #[.int .i64 ((rd_T37 l1 x5_2).f0), .int .i64 ((rd_T37 l1 x5_2).f1), .int .i64 ((rd_T37 l1 x5_2).f2), .bool ((rd_T37 l1 x5_2).f3), .int .i64 0]) ?_ 4 _ rfl; (with_reducible repeat (first | refine blk_drewN ?_ _ | refine blk_drew ?_ | refine blk_alloc ?_ _)); refine blk_put (cs := #[.int .i64 ((rd_T37 l1 x5_2).f0), .int .i64 ((rd_T37 l1 x5_2).f1), .int .i64 ((rd_T37 l1 x5_2).f2), .bool false, .int .i64 0]) ?_ 3 _ rfl; (with_reducible repeat (first | refine blk_drewN ?_ _ | refine blk_drew ?_ | refine blk_alloc ?_ _)); refine blk_put (cs := #[.int .i64 ((rd_T37 l1 x5_2).f0), .int .i64 ((rd_T37 l1 x5_2).f1), .int .i64 0, .bool false, .int .i64 0]) ?_ 2 _ rfl; (with_reducible repeat (first | refine blk_drewN ?_ _ | refine blk_drew ?_ | refine blk_alloc ?_ _)); refine blk_put (cs := #[.int .i64 ((rd_T37 l1 x5_2).f0), .int .i64 0, .int .i64 0, .bool false, .int .i64 0]) ?_ 1 _ rfl; (with_reducible repeat (first | refine blk_drewN ?_ _ | refine blk_drew ?_ | refine blk_alloc ?_ _)); refine blk_put (cs := #[.int .i64 0, .int .i64 0, .int .i64 0, .bool false, .int .i64 0]) ?_ 0 _ rfl; exact bk_ BK158.out)⟩
      replace HB : Aside0 (Below w.heap.size w w62) := ⟨by rw [← hq_]; exact qz1⟩
      clear hq_
      replace BK155 := aM (blk_drew BK155.out)
      replace BK158 := aM (blk_drew BK158.out)
      replace HB := aM (below_drew1 HB.out)
      refine start_ (n := 44) (S := fun w' => w'.cell? ⟨gb158, 0, none⟩ = some (.int .i64 ((rd_T37 l1 x5_2).f0)) ∧ w'.cell? ⟨gb158, 1, none⟩ = some (.int .i64 ((rd_T37 l1 x5_2).f1)) ∧ w'.cell? ⟨gb158, 2, none⟩ = some (.int .i64 ((rd_T37 l1 x5_2).f2)) ∧ w'.cell? ⟨gb158, 3, none⟩ = some (.bool ((rd_T37 l1 x5_2).f3)) ∧ w'.cell? ⟨gb158, 4, none⟩ = some (.int .i64 ((rd_T37 l1 x5_2).f4)) ∧ w'.cell? ⟨gb155, 0, none⟩ = some (.int .i64 a0_0) ∧ w'.cell? ⟨gb155, 1, none⟩ = some (.int .i64 a0_1) ∧ w'.cell? ⟨gb155, 2, none⟩ = some (.slice A0_2 l0_2.length c0_2)) (ds := []) #[false, false, false, false, false, false, false, false, false, false, false, false, false, false, false, false, false, false, false, false, false, false, false, false, false, false, false, false, false, false, false, false, false, false, false, false, false, false, false, false, false, false, false, false] (by kernel_rfl) rfl rfl ⟨(blk_cell BK158.out 0).trans rfl, (blk_cell BK158.out 1).trans rfl, (blk_cell BK158.out 2).trans rfl, (blk_cell BK158.out 3).trans rfl, (blk_cell BK158.out 4).trans rfl, (blk_cell BK155.out 0).trans rfl, (blk_cell BK155.out 1).trans rfl, (blk_cell BK155.out 2).trans rfl⟩ (fun hHeld => ?_); refine with_tabW spec_CrewOk.tab7 spec_CrewOk.bits7 (fun HT_ HW_ => ?_)
      generalize w62.drew = w63 at BK155 BK158 HB hHeld ⊢
      refine pI_ 0 26 (bqz 44 1) ?_
      refine sI8_ 1 27 ?_
      refine one_ (i := 2) (N := some 28) (bqz 44 7) rfl rfl qzc (by decide) (fun K hK => ?_)
      refine goes_ Try.func98 (by kernel_rfl) rfl #[.int .i64 ((rd_T37 l1 x5_2).f0), .int .i64 1, .int .i64 99] (by rfl) rfl rfl qz2 ?_
      with_reducible refine (spec_l1In.calls ((rd_T37 l1 x5_2).f0) 1 99 true _ A18.out).mono ?_
      rintro e w' ⟨rfl, ⟨nd, rfl⟩⟩
      refine ⟨_, rfl, ?_⟩
      refine hK.out _ _ ⟨(blk_cell BK158.out 0).trans rfl, (blk_cell BK158.out 1).trans rfl, (blk_cell BK158.out 2).trans rfl, (blk_cell BK158.out 3).trans rfl, (blk_cell BK158.out 4).trans rfl, (blk_cell BK155.out 0).trans rfl, (blk_cell BK155.out 1).trans rfl, (blk_cell BK155.out 2).trans rfl⟩ (fun hHeld => ?_)
      clear hK K
      refine nm_ 28 ?_
      refine jI_ 3 29 ?_
      refine jI_ 4 30 ?_
      refine jI_ 6 32 ?_
      refine sI8_ 5 31 ?_
      refine sI8_ 7 33 ?_
      refine one_ (i := 8) (N := some 34) (bqz 44 511) rfl rfl qzc (by decide) (fun K hK => ?_)
      refine goes_ Try.func61 (by kernel_rfl) rfl #[.agg #[.int .i64 a0_0, .int .i64 a0_1, .slice A0_2 l0_2.length c0_2], .int .i64 ((rd_T37 l1 x5_2).f1)] (by rfl) rfl rfl qz2 ?_
      with_reducible refine (spec_l7Free.calls a0_0 a0_1 _ _ l0_2 ((rd_T37 l1 x5_2).f1) false _ ?side1 ?side2 A20.out).mono ?_
      (case side1 => exact qz17)
      (case side2 => exact qz15)
      rintro e w64 ⟨rfl, hb⟩
      refine ⟨_, rfl, ?_⟩
      replace BK155 := bB_ BK155 hb
      replace BK158 := bB_ BK158 hb
      replace HB := bS_ hb
      (try clear hb)
      (try clear hb2)
      (try clear hk)
      (try clear hi)
      refine hK.out _ _ ⟨(blk_cell BK158.out 0).trans rfl, (blk_cell BK158.out 1).trans rfl, (blk_cell BK158.out 2).trans rfl, (blk_cell BK158.out 3).trans rfl, (blk_cell BK158.out 4).trans rfl, (blk_cell BK155.out 0).trans rfl, (blk_cell BK155.out 1).trans rfl, (blk_cell BK155.out 2).trans rfl⟩ (fun hHeld => ?_)
      clear hK K
      refine nm_ 34 ?_
      refine pI_ 9 35 (bqz 44 1023) ?_
      refine jI_ 10 36 ?_
      refine jI_ 11 37 ?_
      refine jU_ 12 38 ?_
      refine jU_ 13 39 ?_
      refine jU_ 14 40 ?_
      refine jU_ 15 41 ?_
      refine jU_ 16 42 ?_
      refine jU_ 17 43 ?_
      refine jU_ 18 44 ?_
      refine jU_ 19 45 ?_
      refine jU_ 20 46 ?_
      refine jU_ 21 47 ?_
      refine jI_ 22 48 ?_
      refine jI_ 23 49 ?_
      refine jU_ 24 50 ?_
      refine jU_ 25 51 ?_
      refine jU_ 26 52 ?_
      refine jU_ 27 53 ?_
      refine jI_ 28 54 ?_
      refine jI_ 29 55 ?_
      refine jU_ 30 56 ?_
      refine jU_ 31 57 ?_
      refine jU_ 32 58 ?_
      refine jU_ 33 59 ?_
      refine jU_ 34 60 ?_
      refine jU_ 35 61 ?_
      refine jU_ 36 62 ?_
      refine jU_ 37 63 ?_
      refine jU_ 38 64 ?_
      refine jU_ 39 65 ?_
      refine jU_ 40 66 ?_
      refine jU_ 41 67 ?_
      refine jU_ 42 68 ?_
      refine jI_ 43 69 ?_
      refine done_ (done_of HT_.out (by kernel_rfl)) ?_
      try go_wp2
      go_meet
      case rel => exact ⟨_, (true), qz4, H', ⟨by have := HJ2.out; have := HK2.out; first | omega | exact Nat.le_refl _⟩, ⟨bk_ BK155.out⟩, ⟨bk_ BK158.out⟩, ⟨qz1⟩⟩
      }
      }
      {
      replace c19 := Bool.eq_false_iff.mpr c19
      subst c19
      rw [if_neg (show ¬ (false = true) by decide)] at H
      have H' := aM H
      clear H
      try go_wp2
      generalize hq_ : (((((w15.setCell ⟨gb158, 0, none⟩ (.int .i64 ((rd_T37 l1 x5_2).f0))).setCell ⟨gb158, 1, none⟩ (.int .i64 ((rd_T37 l1 x5_2).f1))).setCell ⟨gb158, 2, none⟩ (.int .i64 ((rd_T37 l1 x5_2).f2))).setCell ⟨gb158, 3, none⟩ (.bool ((rd_T37 l1 x5_2).f3))).setCell ⟨gb158, 4, none⟩ (.int .i64 ((rd_T37 l1 x5_2).f4))) = w65
      replace BK155 : Aside0 (w65.heap[gb155]? = some (.cells #[.int .i64 a0_0, .int .i64 a0_1, .slice A0_2 l0_2.length c0_2] 43 (0, 0))) := ⟨by rw [← hq_]; exact (bk2_ BK155.out)⟩
      replace BK158 : Aside0 (w65.heap[gb158]? = some (.cells #[.int .i64 ((rd_T37 l1 x5_2).f0), .int .i64 ((rd_T37 l1 x5_2).f1), .int .i64 ((rd_T37 l1 x5_2).f2), .bool ((rd_T37 l1 x5_2).f3), .int .i64 ((rd_T37 l1 x5_2).f4)] 37 (0, 0))) := ⟨by rw [← hq_]; exact (by (with_reducible repeat (first | refine blk_drewN ?_ _ | refine blk_drew ?_ | refine blk_alloc ?_ _)); refine blk_put (cs := #[.int .i64 ((rd_T37 l1 x5_2).f0), .int .i64 ((rd_T37 l1 x5_2).f1), .int .i64 ((rd_T37 l1 x5_2).f2), .bool ((rd_T37 l1 x5_2).f3), .int .i64 0]) ?_ 4 _ rfl; (with_reducible repeat (first | refine blk_drewN ?_ _ | refine blk_drew ?_ | refine blk_alloc ?_ _)); refine blk_put (cs := #[.int .i64 ((rd_T37 l1 x5_2).f0), .int .i64 ((rd_T37 l1 x5_2).f1), .int .i64 ((rd_T37 l1 x5_2).f2), .bool false, .int .i64 0]) ?_ 3 _ rfl; (with_reducible repeat (first | refine blk_drewN ?_ _ | refine blk_drew ?_ | refine blk_alloc ?_ _)); refine blk_put (cs := #[.int .i64 ((rd_T37 l1 x5_2).f0), .int .i64 ((rd_T37 l1 x5_2).f1), .int .i64 0, .bool false, .int .i64 0]) ?_ 2 _ rfl; (with_reducible repeat (first | refine blk_drewN ?_ _ | refine blk_drew ?_ | refine blk_alloc ?_ _)); refine blk_put (cs := #[.int .i64 ((rd_T37 l1 x5_2).f0), .int .i64 0, .int .i64 0, .bool false, .int .i64 0]) ?_ 1 _ rfl; (with_reducible repeat (first | refine blk_drewN ?_ _ | refine blk_drew ?_ | refine blk_alloc ?_ _)); refine blk_put (cs := #[.int .i64 0, .int .i64 0, .int .i64 0, .bool false, .int .i64 0]) ?_ 0 _ rfl; exact bk_ BK158.out)⟩
      replace HB : Aside0 (Below w.heap.size w w65) := ⟨by rw [← hq_]; exact qz1⟩
      clear hq_
      replace BK155 := aM (blk_drew BK155.out)
      replace BK158 := aM (blk_drew BK158.out)
      replace HB := aM (below_drew1 HB.out)
      refine start_ (n := 44) (S := fun w' => w'.cell? ⟨gb158, 0, none⟩ = some (.int .i64 ((rd_T37 l1 x5_2).f0)) ∧ w'.cell? ⟨gb158, 1, none⟩ = some (.int .i64 ((rd_T37 l1 x5_2).f1)) ∧ w'.cell? ⟨gb158, 2, none⟩ = some (.int .i64 ((rd_T37 l1 x5_2).f2)) ∧ w'.cell? ⟨gb158, 3, none⟩ = some (.bool ((rd_T37 l1 x5_2).f3)) ∧ w'.cell? ⟨gb158, 4, none⟩ = some (.int .i64 ((rd_T37 l1 x5_2).f4))) (ds := []) #[false, false, false, false, false, false, false, false, false, false, false, false, false, false, false, false, false, false, false, false, false, false, false, false, false, false, false, false, false, false, false, false, false, false, false, false, false, false, false, false, false, false, false, false] (by kernel_rfl) rfl rfl ⟨(blk_cell BK158.out 0).trans rfl, (blk_cell BK158.out 1).trans rfl, (blk_cell BK158.out 2).trans rfl, (blk_cell BK158.out 3).trans rfl, (blk_cell BK158.out 4).trans rfl⟩ (fun hHeld => ?_); refine with_tabW spec_CrewOk.tab7 spec_CrewOk.bits7 (fun HT_ HW_ => ?_)
      generalize w65.drew = w66 at BK155 BK158 HB hHeld ⊢
      refine pI_ 0 26 (bqz 44 1) ?_
      refine sI5_ 1 27 ?_
      refine one_ (i := 2) (N := some 28) (bqz 44 7) rfl rfl qzc (by decide) (fun K hK => ?_)
      refine goes_ Try.func98 (by kernel_rfl) rfl #[.int .i64 ((rd_T37 l1 x5_2).f0), .int .i64 1, .int .i64 99] (by rfl) rfl rfl qz2 ?_
      with_reducible refine (spec_l1In.calls ((rd_T37 l1 x5_2).f0) 1 99 false _ A18.out).mono ?_
      rintro e w' ⟨rfl, ⟨nd, rfl⟩⟩
      refine ⟨_, rfl, ?_⟩
      refine hK.out _ _ ⟨(blk_cell BK158.out 0).trans rfl, (blk_cell BK158.out 1).trans rfl, (blk_cell BK158.out 2).trans rfl, (blk_cell BK158.out 3).trans rfl, (blk_cell BK158.out 4).trans rfl⟩ (fun hHeld => ?_)
      clear hK K
      refine nm_ 28 ?_
      refine jI_ 3 29 ?_
      refine jI_ 4 30 ?_
      refine jU_ 5 31 ?_
      refine jU_ 6 32 ?_
      refine jU_ 7 33 ?_
      refine jU_ 8 34 ?_
      refine jU_ 9 35 ?_
      refine jI_ 10 36 ?_
      refine jI_ 11 37 ?_
      refine jU_ 12 38 ?_
      refine jU_ 13 39 ?_
      refine jU_ 14 40 ?_
      refine jU_ 15 41 ?_
      refine jU_ 16 42 ?_
      refine jU_ 17 43 ?_
      refine jU_ 18 44 ?_
      refine jU_ 19 45 ?_
      refine jU_ 20 46 ?_
      refine jU_ 21 47 ?_
      refine jI_ 22 48 ?_
      refine jI_ 23 49 ?_
      refine jU_ 24 50 ?_
      refine jU_ 25 51 ?_
      refine jU_ 26 52 ?_
      refine jU_ 27 53 ?_
      refine jI_ 28 54 ?_
      refine jI_ 29 55 ?_
      refine jU_ 30 56 ?_
      refine jU_ 31 57 ?_
      refine jU_ 32 58 ?_
      refine jU_ 33 59 ?_
      refine jU_ 34 60 ?_
      refine jU_ 35 61 ?_
      refine jU_ 36 62 ?_
      refine jU_ 37 63 ?_
      refine jU_ 38 64 ?_
      refine jU_ 39 65 ?_
      refine jU_ 40 66 ?_
      refine jU_ 41 67 ?_
      refine jU_ 42 68 ?_
      refine jI_ 43 69 ?_
      refine done_ (done_of HT_.out (by kernel_rfl)) ?_
      try go_wp2
      go_meet
      case rel => exact ⟨_, (true), qz4, H', ⟨by have := HJ2.out; have := HK2.out; first | omega | exact Nat.le_refl _⟩, ⟨bk_ BK155.out⟩, ⟨bk_ BK158.out⟩, ⟨qz1⟩⟩
      }
     case rest =>
      clear HC14
      try clear c1
      try clear c2
      try clear p2
      try clear c6
      try clear c9
      try clear c19
      try clear c21
      try clear c61
      obtain ⟨kq, x69_13, rfl, HA, HJ13, BK155, BK158, HB⟩ := hcut
      cases kq with
      | zero => exact absurd HA.out (by simp [spec_CrewOk.j2])
      | succ kj13 =>
       have H := HA.out
       clear HA
       simp only [spec_CrewOk.j2] at H
       by_cases c67 : x69_13 = true
       {
       subst c67
       rw [if_pos rfl] at H
       obtain rfl := Option.some.inj H
       simp only [Option.some.injEq, Prod.mk.injEq] at H
       obtain ⟨rfl⟩ := H
       go_wp2
       go_ret
       exact ⟨qzw, qz1⟩
       }
       {
       replace c67 := Bool.eq_false_iff.mpr c67
       subst c67
       rw [if_neg (show ¬ (false = true) by decide)] at H
       have H' := aM H
       clear H
       go_wp2
       go_loopg [7] kj13 (fun kq v7 w' => ∃ (x7_4 : Int), v7 = .int .i64 x7_4 ∧ Aside0 (spec_CrewOk.l1 kq l1 x5_2 x7_4 a0_0 a0_1 l0_2 ((rd_T37 l1 x5_2).f0) ((rd_T37 l1 x5_2).f1) ((rd_T37 l1 x5_2).f2) ((rd_T37 l1 x5_2).f3) ((rd_T37 l1 x5_2).f4) = some r) ∧ Aside0 (kq ≤ kj13) ∧ Aside0 (w'.heap[gb155]? = some (.cells #[.int .i64 a0_0, .int .i64 a0_1, (.slice A0_2 l0_2.length c0_2)] 43 (0, 0))) ∧ Aside0 (w'.heap[gb158]? = some (.cells #[.int .i64 ((rd_T37 l1 x5_2).f0), .int .i64 ((rd_T37 l1 x5_2).f1), .int .i64 ((rd_T37 l1 x5_2).f2), .bool ((rd_T37 l1 x5_2).f3), .int .i64 ((rd_T37 l1 x5_2).f4)] 37 (0, 0))) ∧ Aside0 (Below w.heap.size w w'))
       case atStart => exact ⟨(0), qz4, H', ⟨Nat.le_refl _⟩, ⟨bk_ BK155.out⟩, ⟨bk_ BK158.out⟩, ⟨qz1⟩⟩
       case round =>
        clear H'
        try clear c1
        try clear c2
        try clear p2
        try clear c6
        try clear c9
        try clear c19
        try clear c21
        try clear c61
        try clear c67
        obtain ⟨x7_4, rfl, HA, HK4, BK155, BK158, HB⟩ := hrel
        cases gk with
        | zero => exact absurd HA.out (by simp [spec_CrewOk.l1])
        | succ k4 =>
         have H := HA.out
         clear HA
         simp only [spec_CrewOk.l1] at H
         by_cases c68 : x7_4 < x5_2
         {
         rw [if_pos c68] at H
         have c68b0 := decide_eq_true c68
         clear c68
         by_cases c69 : 0 ≤ x7_4
         {
         rw [if_pos c69] at H
         have c69b0 := decide_eq_true c69
         clear c69
         by_cases c70 : x7_4 < (l1.length : Int)
         {
         rw [if_pos c70] at H
         have c70b0 := decide_eq_true c70
         clear c70
         by_cases c71 : ((rd_T37 l1 x7_4).f1) = ((rd_T37 l1 x5_2).f1)
         {
         rw [if_pos c71] at H
         have c71b0 := beq_iff_eq.mpr c71
         have c71b1 := bne_eq_false_iff_eq.mpr c71
         clear c71
         obtain rfl := Option.some.inj H
         simp only [Option.some.injEq, Prod.mk.injEq] at H
         obtain ⟨rfl⟩ := H
         try go_wp2
         replace BK155 := aM (blk_drew BK155.out)
         replace BK158 := aM (blk_drew BK158.out)
         replace HB := aM (below_drew1 HB.out)
         have p166 : 0 ≤ (x7_4 : Int) := dt_
         have q166 : x7_4 < (l1.length : Int) := dt_
         obtain ⟨ad166, e166, hx166_0, hx166_1, hx166_2, hx166_3, hx166_4⟩ := at_T37 HR1.out x7_4 p166 q166
         have hw166_4 := hx166_4
         have hw166_3 := hx166_3
         have hw166_2 := hx166_2
         have hw166_1 := hx166_1
         have hw166_0 := hx166_0
         obtain rfl : ad157 = ad166 := (by injection e166)
         replace hx166_0 := cB_ hx166_0
         replace hx166_1 := cB_ hx166_1
         replace hx166_2 := cB_ hx166_2
         replace hx166_3 := cB_ hx166_3
         replace hx166_4 := cB_ hx166_4
         replace p166 := eq_true p166
         replace q166 := eq_true q166
         refine start_ (n := 8) (S := fun w' => w'.cell? ⟨gb158, 0, none⟩ = some (.int .i64 ((rd_T37 l1 x5_2).f0)) ∧ w'.cell? ⟨gb158, 1, none⟩ = some (.int .i64 ((rd_T37 l1 x5_2).f1)) ∧ w'.cell? ⟨gb158, 2, none⟩ = some (.int .i64 ((rd_T37 l1 x5_2).f2)) ∧ w'.cell? ⟨gb158, 3, none⟩ = some (.bool ((rd_T37 l1 x5_2).f3)) ∧ w'.cell? ⟨gb158, 4, none⟩ = some (.int .i64 ((rd_T37 l1 x5_2).f4)) ∧ w'.cell? (ad157.add ((x7_4).toNat * 5)) = some (.int .i64 ((rd_T37 l1 x7_4).f0)) ∧ w'.cell? ⟨(ad157.add ((x7_4).toNat * 5)).block, (ad157.add ((x7_4).toNat * 5)).off + 1, none⟩ = some (.int .i64 ((rd_T37 l1 x7_4).f1)) ∧ w'.cell? ⟨(ad157.add ((x7_4).toNat * 5)).block, (ad157.add ((x7_4).toNat * 5)).off + 2, none⟩ = some (.int .i64 ((rd_T37 l1 x7_4).f2)) ∧ w'.cell? ⟨(ad157.add ((x7_4).toNat * 5)).block, (ad157.add ((x7_4).toNat * 5)).off + 3, none⟩ = some (.bool ((rd_T37 l1 x7_4).f3)) ∧ w'.cell? ⟨(ad157.add ((x7_4).toNat * 5)).block, (ad157.add ((x7_4).toNat * 5)).off + 4, none⟩ = some (.int .i64 ((rd_T37 l1 x7_4).f4))) (ds := []) #[false, false, false, false, false, false, false, false] (by kernel_rfl) rfl rfl ⟨(blk_cell BK158.out 0).trans rfl, (blk_cell BK158.out 1).trans rfl, (blk_cell BK158.out 2).trans rfl, (blk_cell BK158.out 3).trans rfl, (blk_cell BK158.out 4).trans rfl, (cB_ hw166_0), (cB_ hw166_1), (cB_ hw166_2), (cB_ hw166_3), (cB_ hw166_4)⟩ (fun hHeld => ?_); refine with_tabW spec_CrewOk.tab12 spec_CrewOk.bits12 (fun HT_ HW_ => ?_)
         generalize wr.drew = w72 at BK155 BK158 HB hx166_0 hx166_1 hx166_2 hx166_3 hx166_4 hHeld ⊢
         refine pI_ 0 75 (bqz 8 1) ?_
         refine jI_ 1 76 ?_
         refine jI_ 2 77 ?_
         refine jI_ 3 78 ?_
         refine jI_ 5 80 ?_
         refine sI10_ 4 79 ?_
         refine sI10_ 6 81 ?_
         refine jI_ 7 82 ?_
         refine done_ (done_of HT_.out (by kernel_rfl)) ?_
         try go_wp2
         go_ret
         exact ⟨qzw, qz1⟩
         }
         {
         rw [if_neg c71] at H
         have c71b0 := beq_eq_false_iff_ne.mpr c71
         have c71b1 := bne_iff_ne.mpr c71
         have H' := aM H
         clear H
         try go_wp2
         replace BK155 := aM (blk_drew BK155.out)
         replace BK158 := aM (blk_drew BK158.out)
         replace HB := aM (below_drew1 HB.out)
         have p166 : 0 ≤ (x7_4 : Int) := dt_
         have q166 : x7_4 < (l1.length : Int) := dt_
         obtain ⟨ad166, e166, hx166_0, hx166_1, hx166_2, hx166_3, hx166_4⟩ := at_T37 HR1.out x7_4 p166 q166
         have hw166_4 := hx166_4
         have hw166_3 := hx166_3
         have hw166_2 := hx166_2
         have hw166_1 := hx166_1
         have hw166_0 := hx166_0
         obtain rfl : ad157 = ad166 := (by injection e166)
         replace hx166_0 := cB_ hx166_0
         replace hx166_1 := cB_ hx166_1
         replace hx166_2 := cB_ hx166_2
         replace hx166_3 := cB_ hx166_3
         replace hx166_4 := cB_ hx166_4
         replace p166 := eq_true p166
         replace q166 := eq_true q166
         refine start_ (n := 8) (S := fun w' => w'.cell? ⟨gb158, 0, none⟩ = some (.int .i64 ((rd_T37 l1 x5_2).f0)) ∧ w'.cell? ⟨gb158, 1, none⟩ = some (.int .i64 ((rd_T37 l1 x5_2).f1)) ∧ w'.cell? ⟨gb158, 2, none⟩ = some (.int .i64 ((rd_T37 l1 x5_2).f2)) ∧ w'.cell? ⟨gb158, 3, none⟩ = some (.bool ((rd_T37 l1 x5_2).f3)) ∧ w'.cell? ⟨gb158, 4, none⟩ = some (.int .i64 ((rd_T37 l1 x5_2).f4)) ∧ w'.cell? (ad157.add ((x7_4).toNat * 5)) = some (.int .i64 ((rd_T37 l1 x7_4).f0)) ∧ w'.cell? ⟨(ad157.add ((x7_4).toNat * 5)).block, (ad157.add ((x7_4).toNat * 5)).off + 1, none⟩ = some (.int .i64 ((rd_T37 l1 x7_4).f1)) ∧ w'.cell? ⟨(ad157.add ((x7_4).toNat * 5)).block, (ad157.add ((x7_4).toNat * 5)).off + 2, none⟩ = some (.int .i64 ((rd_T37 l1 x7_4).f2)) ∧ w'.cell? ⟨(ad157.add ((x7_4).toNat * 5)).block, (ad157.add ((x7_4).toNat * 5)).off + 3, none⟩ = some (.bool ((rd_T37 l1 x7_4).f3)) ∧ w'.cell? ⟨(ad157.add ((x7_4).toNat * 5)).block, (ad157.add ((x7_4).toNat * 5)).off + 4, none⟩ = some (.int .i64 ((rd_T37 l1 x7_4).f4))) (ds := []) #[false, false, false, false, false, false, false, false] (by kernel_rfl) rfl rfl ⟨(blk_cell BK158.out 0).trans rfl, (blk_cell BK158.out 1).trans rfl, (blk_cell BK158.out 2).trans rfl, (blk_cell BK158.out 3).trans rfl, (blk_cell BK158.out 4).trans rfl, (cB_ hw166_0), (cB_ hw166_1), (cB_ hw166_2), (cB_ hw166_3), (cB_ hw166_4)⟩ (fun hHeld => ?_); refine with_tabW spec_CrewOk.tab12 spec_CrewOk.bits12 (fun HT_ HW_ => ?_)
         generalize wr.drew = w73 at BK155 BK158 HB hx166_0 hx166_1 hx166_2 hx166_3 hx166_4 hHeld ⊢
         refine pI_ 0 75 (bqz 8 1) ?_
         refine jI_ 1 76 ?_
         refine jI_ 2 77 ?_
         refine jI_ 3 78 ?_
         refine jI_ 5 80 ?_
         refine sI10_ 4 79 ?_
         refine sI10_ 6 81 ?_
         refine jI_ 7 82 ?_
         refine done_ (done_of HT_.out (by kernel_rfl)) ?_
         try go_wp2
         go_roundg k4
         case measure => have := HJ2.out; have := HK2.out; have := HJ13.out; have := HK4.out; omega
         case rel => exact ⟨(wrap64 (x7_4 + 1)), qz4, H', ⟨by have := HJ2.out; have := HK2.out; have := HJ13.out; have := HK4.out; omega⟩, ⟨bk_ BK155.out⟩, ⟨bk_ BK158.out⟩, ⟨qz1⟩⟩
         }
         }
         {
         exact an_ c70 H
         }
         }
         {
         exact an_ c69 H
         }
         }
         {
         rw [if_neg c68] at H
         have c68b0 := decide_eq_false c68
         clear c68
         have H' := aM H
         clear H
         go_wp2
         go_roundg k4
         case measure => have := HJ2.out; have := HK2.out; have := HJ13.out; have := HK4.out; omega
         case rel => exact ⟨(wrap64 (x5_2 + 1)), qz4, H', ⟨by have := HJ2.out; have := HK2.out; have := HJ13.out; have := HK4.out; omega⟩, ⟨bk_ BK155.out⟩, ⟨qz1⟩⟩
         }
       }
     }
     {
     exact an_ c13 H
     }
     }
     {
     rw [if_neg c12] at H
     have c12b0 := decide_eq_false c12
     clear c12
     obtain rfl := Option.some.inj H
     simp only [Option.some.injEq, Prod.mk.injEq] at H
     obtain ⟨rfl⟩ := H
     go_wp2
     go_ret
     exact ⟨qzw, qz1⟩

     }
   }
end Go.Proofs.Ytankmdbbgepmbaa.PFnExactStep
