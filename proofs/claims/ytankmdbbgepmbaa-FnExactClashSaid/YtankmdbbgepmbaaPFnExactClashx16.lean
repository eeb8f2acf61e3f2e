-- Made by a program of this session out of the translation. Lean checks it.
import Derived.Test.YtankmdbbgepmbaaPFnExactClashx13
import Derived.Test.YtankmdbbgepmbaaPFnExactClashx14
import Derived.Test.YtankmdbbgepmbaaPFnExactClashx15
namespace Go.Proofs.Ytankmdbbgepmbaa.PFnExactClash
open Go.RowKit Go.Proofs.YtankmdbbgepmbaaW.PrintWords Go.Proofs.YtankmdbbgepmbaaW.PrintLast Go.Proofs.YtankmdbbgepmbaaW.PrintMore
attribute [local go_sem] max2_int min2_int max_two min_two max_three min_three max_four min_four   -- for this text's walks alone
set_option linter.unusedVariables false
set_option linter.unusedSimpArgs false

/-! ### impl_Clash: function 39 -/
mutual
def impl_Clash.j0 : Nat → List (S37) → List Int → Bool → Int → Int → List Int → Option (Int)
 | 0, _, _, _, _, _, _ => none
 | k + 1, x1, x2, x19, x401000, x401001, x401002 => if x19 = true then (some 1) else (impl_Clash.l0 k x1 x2 x1 (x1.length : Int) 0 x401000 x401001 x401002)
def impl_Clash.l0 : Nat → List (S37) → List Int → List (S37) → Int → Int → Int → Int → List Int → Option (Int)
 | 0, _, _, _, _, _, _, _, _ => none
 | k + 1, x1, x2, x20, x21, x22, x401000, x401001, x401002 => if x22 < x21 then (if 0 ≤ x22 then (if x22 < (x20.length : Int) then ((impl_Choices.f k x401000 x401001 x401002 ((rd_T37 x20 x22).f0) ((rd_T37 x20 x22).f1) ((rd_T37 x20 x22).f2) ((rd_T37 x20 x22).f3) ((rd_T37 x20 x22).f4)).bind fun t404 => (if x22 < (x2.length : Int) then ((impl_hasInt.f k t404 (rd x2 x22)).bind fun t408 => (if t408 = true then (impl_Clash.l0 k x1 x2 x20 x21 (wrap64 (x22 + 1)) x401000 x401001 x401002) else (some 4))) else (none))) else (none)) else (none)) else ((impl_same.f k x2).bind fun t409 => (if t409 = true then (some 2) else ((impl_swaps.f k x1 x2).bind fun t410 => (if t410 = true then (some 3) else (some 0)))))
end
def impl_Clash.f (k : Nat) (a0_0 : Int) (a0_1 : Int) (l0_2 : List Int) (l1 : List (S37)) (l2 : List Int) : Option (Int) := (impl_CrewOk.f k a0_0 a0_1 l0_2 l1).bind fun t401 => (if t401 = true then (impl_Clash.j0 k l1 l2 ((l2.length : Int) != (l1.length : Int)) a0_0 a0_1 l0_2) else (impl_Clash.j0 k l1 l2 true a0_0 a0_1 l0_2))
theorem impl_Clash.mono_l : ∀ k, (∀ y0 y1 y2 y3 y4 y5, LeO (impl_Clash.j0 k y0 y1 y2 y3 y4 y5) (impl_Clash.j0 (k + 1) y0 y1 y2 y3 y4 y5)) ∧ (∀ y0 y1 y2 y3 y4 y5 y6 y7, LeO (impl_Clash.l0 k y0 y1 y2 y3 y4 y5 y6 y7) (impl_Clash.l0 (k + 1) y0 y1 y2 y3 y4 y5 y6 y7))
 | 0 => ⟨fun _ _ _ _ _ _ r h => by simp [impl_Clash.j0] at h, fun _ _ _ _ _ _ _ _ r h => by simp [impl_Clash.l0] at h⟩
 | k + 1 => by
  obtain ⟨ih0, ih1⟩ := impl_Clash.mono_l k
  refine ⟨?_, ?_⟩
  {
  intro y0 y1 y2 y3 y4 y5
  unfold impl_Clash.j0
  have j0 := @impl_Choices.mono
  have j1 := @impl_CrewOk.mono
  have j2 := @impl_hasInt.mono
  have j3 := @impl_same.mono
  have j4 := @impl_swaps.mono
  exact qL
  }
  {
  intro y0 y1 y2 y3 y4 y5 y6 y7
  unfold impl_Clash.l0
  have j0 := @impl_Choices.mono
  have j1 := @impl_CrewOk.mono
  have j2 := @impl_hasInt.mono
  have j3 := @impl_same.mono
  have j4 := @impl_swaps.mono
  exact qL
  }
theorem impl_Clash.mono : ∀ a0 a1 a2 a3 a4 k, LeO (impl_Clash.f k a0 a1 a2 a3 a4) (impl_Clash.f (k + 1) a0 a1 a2 a3 a4) := by
 intro a0 a1 a2 a3 a4 k
 obtain ⟨ih0, ih1⟩ := impl_Clash.mono_l k
 unfold impl_Clash.f
 have j0 := @impl_Choices.mono
 have j1 := @impl_CrewOk.mono
 have j2 := @impl_hasInt.mono
 have j3 := @impl_same.mono
 have j4 := @impl_swaps.mono
 exact qL
def impl_Clash.T6 : Bool × List (List Nat × List Nat) := (true, [([], []), ([], []), ([0, 1], [0, 1]), ([], []), ([], []), ([3, 4], [3, 4]), ([5], [5]), ([2, 6, 2], [2, 6]), ([7], [7])])
def impl_Clash.B6 : List Nat := [0, 0, 3, 0, 0, 24, 56, 127, 255]
theorem impl_Clash.tab6 : rtab .any (opsOf Try.f39 6) = impl_Clash.T6 := by kernel_rfl
theorem impl_Clash.bits6 : waitsOk impl_Clash.T6.2 impl_Clash.B6 = true := by kernel_rfl
set_option maxHeartbeats 8000000 in
set_option maxRecDepth 100000 in
theorem impl_Clash.calls (k : Nat) (a0_0 : Int) (a0_1 : Int) (A0_2 : Option Addr) (c0_2 : Nat) (l0_2 : List Int) (A1 : Option Addr) (c1 : Nat) (l1 : List (S37)) (A2 : Option Addr) (c2 : Nat) (l2 : List Int) (r : Int) (w : World) (hr0_2 : Kd.C (Kd.int .i64) w A0_2 l0_2.length l0_2) (hc0_2 : l0_2.length ≤ c0_2) (hr1 : Kd.C k37 w A1 l1.length l1) (hc1 : l1.length ≤ c1) (hr2 : Kd.C (Kd.int .i64) w A2 l2.length l2) (hc2 : l2.length ≤ c2) (h : impl_Clash.f k a0_0 a0_1 l0_2 l1 l2 = some r) :
  Calls Try.prog 39 #[.agg #[.int .i64 a0_0, .int .i64 a0_1, .slice A0_2 l0_2.length c0_2], .slice A1 l1.length c1, .slice A2 l2.length c2] w fun e w' => e = .returned (.int .i64 r) ∧ Below w.heap.size w w' := by
 have hu43 := Try.underlying43
 have hu37 := Try.underlying37
 have HR0_2 := aM hr0_2
 have HC0_2 := aM hc0_2
 clear hr0_2 hc0_2
 have HR1 := aM hr1
 have HC1 := aM hc1
 clear hr1 hc1
 have HR2 := aM hr2
 have HC2 := aM hc2
 clear hr2 hc2
 have HB := aM (Below.refl w.heap.size w)
 have H : ((impl_CrewOk.f k a0_0 a0_1 l0_2 l1).bind fun t401 => (if t401 = true then (impl_Clash.j0 k l1 l2 ((l2.length : Int) != (l1.length : Int)) a0_0 a0_1 l0_2) else (impl_Clash.j0 k l1 l2 true a0_0 a0_1 l0_2))) = some r := h
 clear h
 have HC4 := aM H
 clear H
 go_enter Try.func39, Try.ntmps39
 go_upto_region 1 with (first | ((with_reducible refine gate_dst (N := 3) rfl ?_); (try (refine gate_guard (by rfl) ?_; dsimp only)); refine bx_ 3 #[.int .i64 a0_0, .int .i64 a0_1, .slice A0_2 l0_2.length c0_2] 43 ?_; intro gb400 hg w5 hbox hb; have BK400 := aM (hbox); have GW400 := aM (bz_ w hg qz1); have GE400 := GW400; replace HB := bS_ hb; clear hb hbox hg))
 (try simp only [Act.put, List.setIfInBounds_toArray, List.set_cons_zero, List.set_cons_succ])
 go_cut [19] (fun v19 wc => ∃ (kq : Nat) (x19_3 : Bool), v19 = .bool x19_3 ∧ Aside0 (impl_Clash.j0 kq l1 l2 x19_3 a0_0 a0_1 l0_2 = some r) ∧ Aside0 (kq ≤ k) ∧ Aside0 (wc.heap[gb400]? = some (.cells #[.int .i64 a0_0, .int .i64 a0_1, (.slice A0_2 l0_2.length c0_2)] 43 (0, 0))) ∧ Aside0 (Below w.heap.size w wc))
 case first =>
  have H := HC4.out
  clear HC4
  replace H := Option.bind_eq_some_iff.mp H
  obtain ⟨t401, A60, H⟩ := H
  replace H : (if t401 = true then (impl_Clash.j0 k l1 l2 ((l2.length : Int) != (l1.length : Int)) a0_0 a0_1 l0_2) else (impl_Clash.j0 k l1 l2 true a0_0 a0_1 l0_2)) = some r := H
  have A6 := aM A60
  clear A60
  by_cases c7 : t401 = true
  {
  subst c7
  rw [if_pos rfl] at H
  have H' := aM H
  clear H
  obtain ⟨hcz8_0, hcz8_1, hcz8_2, hfz8_0, hfz8_1, hfz8_2⟩ := b6_ BK400.out
  go_wp2_with (first | ((with_reducible refine gate_callee (f := 45) rfl ?_); refine goesL_ (some 11) rfl rfl Try.func45 (by kernel_rfl) rfl #[.agg #[.int .i64 a0_0, .int .i64 a0_1, .slice A0_2 l0_2.length c0_2], .slice A1 l1.length c1] rfl qz2 ?_; (with_reducible refine (impl_CrewOk.calls k a0_0 a0_1 _ _ l0_2 _ _ l1 true _ ?side1 ?side2 ?side3 ?side4 A6.out).mono ?_); (case side1 => exact qz3); (case side2 => exact qz23); (case side3 => exact qz5); (case side4 => exact HC1.out); rintro e w9 ⟨rfl, hb⟩; refine ⟨_, rfl, ?_⟩; replace BK400 := bB_ BK400 hb; replace HB := bS_ hb; (try clear hb)))
  go_meet
  case rel => exact ⟨_, (((l2.length : Int) != (l1.length : Int))), qz4, H', ⟨by first | omega | exact Nat.le_refl _⟩, ⟨bk_ BK400.out⟩, ⟨qz1⟩⟩
  }
  {
  replace c7 := Bool.eq_false_iff.mpr c7
  subst c7
  rw [if_neg (show ¬ (false = true) by decide)] at H
  have H' := aM H
  clear H
  obtain ⟨hcz10_0, hcz10_1, hcz10_2, hfz10_0, hfz10_1, hfz10_2⟩ := b6_ BK400.out
  go_wp2_with (first | ((with_reducible refine gate_callee (f := 45) rfl ?_); refine goesL_ (some 11) rfl rfl Try.func45 (by kernel_rfl) rfl #[.agg #[.int .i64 a0_0, .int .i64 a0_1, .slice A0_2 l0_2.length c0_2], .slice A1 l1.length c1] rfl qz2 ?_; (with_reducible refine (impl_CrewOk.calls k a0_0 a0_1 _ _ l0_2 _ _ l1 false _ ?side1 ?side2 ?side3 ?side4 A6.out).mono ?_); (case side1 => exact qz3); (case side2 => exact qz23); (case side3 => exact qz5); (case side4 => exact HC1.out); rintro e w11 ⟨rfl, hb⟩; refine ⟨_, rfl, ?_⟩; replace BK400 := bB_ BK400 hb; replace HB := bS_ hb; (try clear hb)))
  go_meet
  case rel => exact ⟨_, (true), qz4, H', ⟨by first | omega | exact Nat.le_refl _⟩, ⟨bk_ BK400.out⟩, ⟨qz1⟩⟩
  }
 case rest =>
  clear HC4
  try clear c1
  try clear c2
  try clear p2
  try clear c3
  try clear c4
  try clear c7
  try clear hcz10_0 hcz10_1 hcz10_2 hfz10_0 hfz10_1 hfz10_2
  try clear hcz8_0 hcz8_1 hcz8_2 hfz8_0 hfz8_1 hfz8_2
  obtain ⟨kq, x19_3, rfl, HA, HJ3, BK400, HB⟩ := hcut
  cases kq with
  | zero => exact absurd HA.out (by simp [impl_Clash.j0])
  | succ kj3 =>
   have H := HA.out
   clear HA
   simp only [impl_Clash.j0] at H
   by_cases c12 : x19_3 = true
   {
   subst c12
   rw [if_pos rfl] at H
   obtain rfl := Option.some.inj H
   simp only [Option.some.injEq, Prod.mk.injEq] at H
   obtain ⟨rfl⟩ := H
   go_wp2
   go_ret
   exact ⟨qzw, qz1⟩
   }
   {
   replace c12 := Bool.eq_false_iff.mpr c12
   subst c12
   rw [if_neg (show ¬ (false = true) by decide)] at H
   have H' := aM H
   clear H
   go_wp2
   go_loopg [22] kj3 (fun kq v22 w' => ∃ (x22_2 : Int), v22 = .int .i64 x22_2 ∧ Aside0 (impl_Clash.l0 kq l1 l2 l1 (l1.length : Int) x22_2 a0_0 a0_1 l0_2 = some r) ∧ Aside0 (kq ≤ kj3) ∧ Aside0 (w'.heap[gb400]? = some (.cells #[.int .i64 a0_0, .int .i64 a0_1, (.slice A0_2 l0_2.length c0_2)] 43 (0, 0))) ∧ Aside0 (Below w.heap.size w w'))
   case atStart => exact ⟨(0), qz4, H', ⟨Nat.le_refl _⟩, ⟨bk_ BK400.out⟩, ⟨qz1⟩⟩
   case round =>
    clear H'
    try clear c1
    try clear c2
    try clear p2
    try clear c3
    try clear c4
    try clear c7
    try clear c12
    try clear hcz10_0 hcz10_1 hcz10_2 hfz10_0 hfz10_1 hfz10_2
    try clear hcz8_0 hcz8_1 hcz8_2 hfz8_0 hfz8_1 hfz8_2
    obtain ⟨x22_2, rfl, HA, HK2, BK400, HB⟩ := hrel
    cases gk with
    | zero => exact absurd HA.out (by simp [impl_Clash.l0])
    | succ k2 =>
     have H := HA.out
     clear HA
     simp only [impl_Clash.l0] at H
     by_cases c13 : x22_2 < (l1.length : Int)
     {
     rw [if_pos c13] at H
     have c13b0 := decide_eq_true c13
     clear c13
     by_cases c14 : 0 ≤ x22_2
     {
     rw [if_pos c14] at H
     have c14b0 := decide_eq_true c14
     clear c14
     by_cases c15 : x22_2 < (l1.length : Int)
     {
     rw [if_pos c15] at H
     have c15b0 := decide_eq_true c15
     clear c15
     replace H := Option.bind_eq_some_iff.mp H
     obtain ⟨t404, A160, H⟩ := H
     replace H : (if x22_2 < (l2.length : Int) then ((impl_hasInt.f k2 t404 (rd l2 x22_2)).bind fun t408 => (if t408 = true then (impl_Clash.l0 k2 l1 l2 l1 (l1.length : Int) (wrap64 (x22_2 + 1)) a0_0 a0_1 l0_2) else (some 4))) else (none)) = some r := H
     have A16 := aM A160
     clear A160
     by_cases c17 : x22_2 < (l2.length : Int)
     {
     rw [if_pos c17] at H
     have c17b0 := decide_eq_true c17
     clear c17
     replace H := Option.bind_eq_some_iff.mp H
     obtain ⟨t408, A180, H⟩ := H
     replace H : (if t408 = true then (impl_Clash.l0 k2 l1 l2 l1 (l1.length : Int) (wrap64 (x22_2 + 1)) a0_0 a0_1 l0_2) else (some 4)) = some r := H
     have A18 := aM A180
     clear A180
     by_cases c19 : t408 = true
     {
     subst c19
     rw [if_pos rfl] at H
     have H' := aM H
     clear H
     have p402 : 0 ≤ (x22_2 : Int) := dt_
     have q402 : x22_2 < (l1.length : Int) := dt_
     obtain ⟨ad402, e402, hx402_0, hx402_1, hx402_2, hx402_3, hx402_4⟩ := at_T37 HR1.out x22_2 p402 q402
     cases e402
     replace hx402_0 := cB_ hx402_0
     replace hx402_1 := cB_ hx402_1
     replace hx402_2 := cB_ hx402_2
     replace hx402_3 := cB_ hx402_3
     replace hx402_4 := cB_ hx402_4
     replace p402 := eq_true p402
     replace q402 := eq_true q402
     try go_wp2_with (first | ((with_reducible refine gate_dst (N := 8) rfl ?_); (try (refine gate_guard (by rfl) ?_; dsimp only)); refine bx_ 8 #[.int .i64 0, .int .i64 0, .int .i64 0, .bool false, .int .i64 0] 37 ?_; intro gb403 hg w20 hbox hb; have BK403 := aM (hbox); have GW403 := aM (bz_ w hg qz1); have GE403 := GW403; replace HB := bS_ hb; obtain ⟨NB400_403, NB403_400⟩ := nb_ hg (bk_ BK400.out); replace BK400 := bB_ BK400 hb; clear hb hbox hg; have hnb21 := NB403_400.out; have hnc21 := NB400_403.out; have hcz22_0 := bc0_ BK403.out; have hcz22_1 := bc1_ BK403.out; have hcz22_2 := bc2_ BK403.out; have hcz22_3 := bc3_ BK403.out; have hcz22_4 := bc4_ BK403.out; have hfz22_0 := blk_frozen BK403.out 0; have hfz22_1 := blk_frozen BK403.out 1; have hfz22_2 := blk_frozen BK403.out 2; have hfz22_3 := blk_frozen BK403.out 3; have hfz22_4 := blk_frozen BK403.out 4))
     generalize hq_ : (((((w20.setCell ⟨gb403, 0, none⟩ (.int .i64 ((rd_T37 l1 x22_2).f0))).setCell ⟨gb403, 1, none⟩ (.int .i64 ((rd_T37 l1 x22_2).f1))).setCell ⟨gb403, 2, none⟩ (.int .i64 ((rd_T37 l1 x22_2).f2))).setCell ⟨gb403, 3, none⟩ (.bool ((rd_T37 l1 x22_2).f3))).setCell ⟨gb403, 4, none⟩ (.int .i64 ((rd_T37 l1 x22_2).f4))) = w23
     replace BK400 : Aside0 (w23.heap[gb400]? = some (.cells #[.int .i64 a0_0, .int .i64 a0_1, .slice A0_2 l0_2.length c0_2] 43 (0, 0))) := ⟨by rw [← hq_]; exact (bk2_ BK400.out)⟩
     replace BK403 : Aside0 (w23.heap[gb403]? = some (.cells #[.int .i64 ((rd_T37 l1 x22_2).f0), .int .i64 ((rd_T37 l1 x22_2).f1), .int .i64 ((rd_T37 l1 x22_2).f2), .bool ((rd_T37 l1 x22_2).f3), .int .i64 ((rd_T37 l1 x22_2).f4)] 37 (0, 0))) := ⟨by rw [← hq_]; exact (by (with_reducible repeat (first | refine blk_drewN ?_ _ | refine blk_drew ?_ | refine blk_alloc ?_ _)); refine blk_put (cs := #[.int .i64 ((rd_T37 l1 x22_2).f0), .int .i64 ((rd_T37 l1 x22_2).f1), .int .i64 ((rd_T37 l1 x22_2).f2), .bool ((rd_T37 l1 x22_2).f3), .int .i64 0]) ?_ 4 _ rfl; (with_reducible repeat (first | refine blk_drewN ?_ _ | refine blk_drew ?_ | refine blk_alloc ?_ _)); refine blk_put (cs := #[.int .i64 ((rd_T37 l1 x22_2).f0), .int .i64 ((rd_T37 l1 x22_2).f1), .int .i64 ((rd_T37 l1 x22_2).f2), .bool false, .int .i64 0]) ?_ 3 _ rfl; (with_reducible repeat (first | refine blk_drewN ?_ _ | refine blk_drew ?_ | refine blk_alloc ?_ _)); refine blk_put (cs := #[.int .i64 ((rd_T37 l1 x22_2).f0), .int .i64 ((rd_T37 l1 x22_2).f1), .int .i64 0, .bool false, .int .i64 0]) ?_ 2 _ rfl; (with_reducible repeat (first | refine blk_drewN ?_ _ | refine blk_drew ?_ | refine blk_alloc ?_ _)); refine blk_put (cs := #[.int .i64 ((rd_T37 l1 x22_2).f0), .int .i64 0, .int .i64 0, .bool false, .int .i64 0]) ?_ 1 _ rfl; (with_reducible repeat (first | refine blk_drewN ?_ _ | refine blk_drew ?_ | refine blk_alloc ?_ _)); refine blk_put (cs := #[.int .i64 0, .int .i64 0, .int .i64 0, .bool false, .int .i64 0]) ?_ 0 _ rfl; exact bk_ BK403.out)⟩
     replace HB : Aside0 (Below w.heap.size w w23) := ⟨by rw [← hq_]; exact qz1⟩
     clear hq_
     replace BK400 := aM (blk_drew BK400.out)
     replace BK403 := aM (blk_drew BK403.out)
     replace HB := aM (below_drew1 HB.out)
     have p407 : 0 ≤ (x22_2 : Int) := dt_
     have q407 : x22_2 < (l2.length : Int) := dt_
     obtain ⟨ad407, e407, hx407_0⟩ := Kd.at_int HR2.out x22_2 p407 q407
     have hw407_0 := hx407_0
     cases e407
     replace hx407_0 := cB_ hx407_0
     replace p407 := eq_true p407
     replace q407 := eq_true q407
     refine start_ (n := 9) (S := fun w' => w'.cell? ⟨gb400, 0, none⟩ = some (.int .i64 a0_0) ∧ w'.cell? ⟨gb400, 1, none⟩ = some (.int .i64 a0_1) ∧ w'.cell? ⟨gb400, 2, none⟩ = some (.slice A0_2 l0_2.length c0_2) ∧ w'.cell? ⟨gb403, 0, none⟩ = some (.int .i64 ((rd_T37 l1 x22_2).f0)) ∧ w'.cell? ⟨gb403, 1, none⟩ = some (.int .i64 ((rd_T37 l1 x22_2).f1)) ∧ w'.cell? ⟨gb403, 2, none⟩ = some (.int .i64 ((rd_T37 l1 x22_2).f2)) ∧ w'.cell? ⟨gb403, 3, none⟩ = some (.bool ((rd_T37 l1 x22_2).f3)) ∧ w'.cell? ⟨gb403, 4, none⟩ = some (.int .i64 ((rd_T37 l1 x22_2).f4)) ∧ w'.cell? (ad407.add (x22_2).toNat) = some (.int .i64 (rd l2 x22_2))) (ds := []) #[false, false, false, false, false, false, false, false, false] (by kernel_rfl) rfl rfl ⟨(blk_cell BK400.out 0).trans rfl, (blk_cell BK400.out 1).trans rfl, (blk_cell BK400.out 2).trans rfl, (blk_cell BK403.out 0).trans rfl, (blk_cell BK403.out 1).trans rfl, (blk_cell BK403.out 2).trans rfl, (blk_cell BK403.out 3).trans rfl, (blk_cell BK403.out 4).trans rfl, (cB_ hw407_0)⟩ (fun hHeld => ?_); refine with_tabW impl_Clash.tab6 impl_Clash.bits6 (fun HT_ HW_ => ?_)
     generalize w23.drew = w24 at BK400 BK403 HB hx407_0 hHeld ⊢
     refine pI_ 3 30 (bqz 9 8) ?_
     refine jI_ 4 31 ?_
     refine jI_ 5 32 ?_
     refine sI9_ 0 27 ?_
     refine sI9_ 1 28 ?_
     refine sI9_ 6 33 ?_
     refine one_ (i := 2) (N := some 29) (bqz 9 127) rfl rfl qzc (by decide) (fun K hK => ?_)
     refine goes_ Try.func29 (by kernel_rfl) rfl #[.agg #[.int .i64 a0_0, .int .i64 a0_1, .slice A0_2 l0_2.length c0_2], .agg #[.int .i64 ((rd_T37 l1 x22_2).f0), .int .i64 ((rd_T37 l1 x22_2).f1), .int .i64 ((rd_T37 l1 x22_2).f2), .bool ((rd_T37 l1 x22_2).f3), .int .i64 ((rd_T37 l1 x22_2).f4)]] (by rfl) rfl rfl qz2 ?_
     with_reducible refine (impl_Choices.calls k2 a0_0 a0_1 _ _ l0_2 ((rd_T37 l1 x22_2).f0) ((rd_T37 l1 x22_2).f1) ((rd_T37 l1 x22_2).f2) ((rd_T37 l1 x22_2).f3) ((rd_T37 l1 x22_2).f4) t404 _ ?side1 ?side2 A16.out).mono ?_
     (case side1 => exact qz3)
     (case side2 => exact qz23)
     rintro e w25 ⟨v405, rfl, ho0, hb⟩
     refine ⟨_, rfl, ?_⟩
     have HO406 := aM (Kd.R_lower ho0 (below_size qz1))
     replace BK400 := bB_ BK400 hb
     replace BK403 := bB_ BK403 hb
     replace HB := bS_ hb
     (try clear hb)
     (try clear hb2)
     (try clear hk)
     (try clear hi)
     (try clear ho0)
     obtain ⟨Ao26, co26, eo26⟩ := Kd.R_slice HO406.out
     (first | subst eo26 | (injection eo26 with f1_ f2_ f3_; have f4_ := f1_.symm; have f5_ := f3_.symm; clear f1_ f2_ f3_; subst f4_; subst f5_))
     refine hK.out _ _ ⟨(blk_cell BK400.out 0).trans rfl, (blk_cell BK400.out 1).trans rfl, (blk_cell BK400.out 2).trans rfl, (blk_cell BK403.out 0).trans rfl, (blk_cell BK403.out 1).trans rfl, (blk_cell BK403.out 2).trans rfl, (blk_cell BK403.out 3).trans rfl, (blk_cell BK403.out 4).trans rfl, (cB_ hw407_0)⟩ (fun hHeld => ?_)
     clear hK K
     refine nm_ 29 ?_
     refine one_ (i := 7) (N := some 34) (bqz 9 255) rfl rfl qzc (by decide) (fun K hK => ?_)
     refine goes_ Try.func67 (by kernel_rfl) rfl #[.slice Ao26 t404.length co26, .int .i64 (rd l2 x22_2)] (by rfl) rfl rfl qz2 ?_
     with_reducible refine (impl_hasInt.calls k2 _ _ t404 (rd l2 x22_2) true _ ?side1 ?side2 A18.out).mono ?_
     (case side1 => repeat (first | exact (Kd.R_reads' HO406.out).2.2 | (with_reducible refine Kd.C_alloc ?_ _) | (with_reducible refine Kd.C_drewN ?_ _) | (with_reducible refine Kd.C_drew ?_)))
     (case side2 => exact (Kd.R_reads' HO406.out).2.1)
     rintro e w' ⟨rfl, ⟨nd, rfl⟩⟩
     refine ⟨_, rfl, ?_⟩
     refine hK.out _ _ ⟨(blk_cell BK400.out 0).trans rfl, (blk_cell BK400.out 1).trans rfl, (blk_cell BK400.out 2).trans rfl, (blk_cell BK403.out 0).trans rfl, (blk_cell BK403.out 1).trans rfl, (blk_cell BK403.out 2).trans rfl, (blk_cell BK403.out 3).trans rfl, (blk_cell BK403.out 4).trans rfl, (cB_ hw407_0)⟩ (fun hHeld => ?_)
     clear hK K
     refine nm_ 34 ?_
     refine pI_ 8 35 (bqz 9 511) ?_
     refine done_ (done_of HT_.out (by kernel_rfl)) ?_
     try go_wp2
     go_roundg k2
     case measure => have := HJ3.out; have := HK2.out; omega
     case rel => exact ⟨(wrap64 (x22_2 + 1)), qz4, H', ⟨by have := HJ3.out; have := HK2.out; omega⟩, ⟨bk_ BK400.out⟩, ⟨qz1⟩⟩
     }
     {
     replace c19 := Bool.eq_false_iff.mpr c19
     subst c19
     rw [if_neg (show ¬ (false = true) by decide)] at H
     obtain rfl := Option.some.inj H
     simp only [Option.some.injEq, Prod.mk.injEq] at H
     obtain ⟨rfl⟩ := H
     have p402 : 0 ≤ (x22_2 : Int) := dt_
     have q402 : x22_2 < (l1.length : Int) := dt_
     obtain ⟨ad402, e402, hx402_0, hx402_1, hx402_2, hx402_3, hx402_4⟩ := at_T37 HR1.out x22_2 p402 q402
     cases e402
     replace hx402_0 := cB_ hx402_0
     replace hx402_1 := cB_ hx402_1
     replace hx402_2 := cB_ hx402_2
     replace hx402_3 := cB_ hx402_3
     replace hx402_4 := cB_ hx402_4
     replace p402 := eq_true p402
     replace q402 := eq_true q402
     try go_wp2_with (first | ((with_reducible refine gate_dst (N := 8) rfl ?_); (try (refine gate_guard (by rfl) ?_; dsimp only)); refine bx_ 8 #[.int .i64 0, .int .i64 0, .int .i64 0, .bool false, .int .i64 0] 37 ?_; intro gb403 hg w27 hbox hb; have BK403 := aM (hbox); have GW403 := aM (bz_ w hg qz1); have GE403 := GW403; replace HB := bS_ hb; obtain ⟨NB400_403, NB403_400⟩ := nb_ hg (bk_ BK400.out); replace BK400 := bB_ BK400 hb; clear hb hbox hg; have hnb28 := NB403_400.out; have hnc28 := NB400_403.out; have hcz29_0 := bc0_ BK403.out; have hcz29_1 := bc1_ BK403.out; have hcz29_2 := bc2_ BK403.out; have hcz29_3 := bc3_ BK403.out; have hcz29_4 := bc4_ BK403.out; have hfz29_0 := blk_frozen BK403.out 0; have hfz29_1 := blk_frozen BK403.out 1; have hfz29_2 := blk_frozen BK403.out 2; have hfz29_3 := blk_frozen BK403.out 3; have hfz29_4 := blk_frozen BK403.out 4))
     generalize hq_ : (((((w27.setCell ⟨gb403, 0, none⟩ (.int .i64 ((rd_T37 l1 x22_2).f0))).setCell ⟨gb403, 1, none⟩ (.int .i64 ((rd_T37 l1 x22_2).f1))).setCell ⟨gb403, 2, none⟩ (.int .i64 ((rd_T37 l1 x22_2).f2))).setCell ⟨gb403, 3, none⟩ (.bool ((rd_T37 l1 x22_2).f3))).setCell ⟨gb403, 4, none⟩ (.int .i64 ((rd_T37 l1 x22_2).f4))) = w30
     replace BK400 : Aside0 (w30.heap[gb400]? = some (.cells #[.int .i64 a0_0, .int .i64 a0_1, .slice A0_2 l0_2.length c0_2] 43 (0, 0))) := ⟨by rw [← hq_]; exact (bk2_ BK400.out)⟩
     replace BK403 : Aside0 (w30.heap[gb403]? = some (.cells #[.int .i64 ((rd_T37 l1 x22_2).f0), .int .i64 ((rd_T37 l1 x22_2).f1), .int .i64 ((rd_T37 l1 x22_2).f2), .bool ((rd_T37 l1 x22_2).f3), .int .i64 ((rd_T37 l1 x22_2).f4)] 37 (0, 0))) := ⟨by rw [← hq_]; exact (by (with_reducible repeat (first | refine blk_drewN ?_ _ | refine blk_drew ?_ | refine blk_alloc ?_ _)); refine blk_put (cs := #[.int .i64 ((rd_T37 l1 x22_2).f0), .int .i64 ((rd_T37 l1 x22_2).f1), .int .i64 ((rd_T37 l1 x22_2).f2), .bool ((rd_T37 l1 x22_2).f3), .int .i64 0]) ?_ 4 _ rfl; (with_reducible repeat (first | refine blk_drewN ?_ _ | refine blk_drew ?_ | refine blk_alloc ?_ _)); refine blk_put (cs := #[.int .i64 ((rd_T37 l1 x22_2).f0), .int .i64 ((rd_T37 l1 x22_2).f1), .int .i64 ((rd_T37 l1 x22_2).f2), .bool false, .int .i64 0]) ?_ 3 _ rfl; (with_reducible repeat (first | refine blk_drewN ?_ _ | refine blk_drew ?_ | refine blk_alloc ?_ _)); refine blk_put (cs := #[.int .i64 ((rd_T37 l1 x22_2).f0), .int .i64 ((rd_T37 l1 x22_2).f1), .int .i64 0, .bool false, .int .i64 0]) ?_ 2 _ rfl; (with_reducible repeat (first | refine blk_drewN ?_ _ | refine blk_drew ?_ | refine blk_alloc ?_ _)); refine blk_put (cs := #[.int .i64 ((rd_T37 l1 x22_2).f0), .int .i64 0, .int .i64 0, .bool false, .int .i64 0]) ?_ 1 _ rfl; (with_reducible repeat (first | refine blk_drewN ?_ _ | refine blk_drew ?_ | refine blk_alloc ?_ _)); refine blk_put (cs := #[.int .i64 0, .int .i64 0, .int .i64 0, .bool false, .int .i64 0]) ?_ 0 _ rfl; exact bk_ BK403.out)⟩
     replace HB : Aside0 (Below w.heap.size w w30) := ⟨by rw [← hq_]; exact qz1⟩
     clear hq_
     replace BK400 := aM (blk_drew BK400.out)
     replace BK403 := aM (blk_drew BK403.out)
     replace HB := aM (below_drew1 HB.out)
     have p407 : 0 ≤ (x22_2 : Int) := dt_
     have q407 : x22_2 < (l2.length : Int) := dt_
     obtain ⟨ad407, e407, hx407_0⟩ := Kd.at_int HR2.out x22_2 p407 q407
     have hw407_0 := hx407_0
     cases e407
     replace hx407_0 := cB_ hx407_0
     replace p407 := eq_true p407
     replace q407 := eq_true q407
     refine start_ (n := 9) (S := fun w' => w'.cell? ⟨gb400, 0, none⟩ = some (.int .i64 a0_0) ∧ w'.cell? ⟨gb400, 1, none⟩ = some (.int .i64 a0_1) ∧ w'.cell? ⟨gb400, 2, none⟩ = some (.slice A0_2 l0_2.length c0_2) ∧ w'.cell? ⟨gb403, 0, none⟩ = some (.int .i64 ((rd_T37 l1 x22_2).f0)) ∧ w'.cell? ⟨gb403, 1, none⟩ = some (.int .i64 ((rd_T37 l1 x22_2).f1)) ∧ w'.cell? ⟨gb403, 2, none⟩ = some (.int .i64 ((rd_T37 l1 x22_2).f2)) ∧ w'.cell? ⟨gb403, 3, none⟩ = some (.bool ((rd_T37 l1 x22_2).f3)) ∧ w'.cell? ⟨gb403, 4, none⟩ = some (.int .i64 ((rd_T37 l1 x22_2).f4)) ∧ w'.cell? (ad407.add (x22_2).toNat) = some (.int .i64 (rd l2 x22_2))) (ds := []) #[false, false, false, false, false, false, false, false, false] (by kernel_rfl) rfl rfl ⟨(blk_cell BK400.out 0).trans rfl, (blk_cell BK400.out 1).trans rfl, (blk_cell BK400.out 2).trans rfl, (blk_cell BK403.out 0).trans rfl, (blk_cell BK403.out 1).trans rfl, (blk_cell BK403.out 2).trans rfl, (blk_cell BK403.out 3).trans rfl, (blk_cell BK403.out 4).trans rfl, (cB_ hw407_0)⟩ (fun hHeld => ?_); refine with_tabW impl_Clash.tab6 impl_Clash.bits6 (fun HT_ HW_ => ?_)
     generalize w30.drew = w31 at BK400 BK403 HB hx407_0 hHeld ⊢
     refine pI_ 3 30 (bqz 9 8) ?_
     refine jI_ 4 31 ?_
     refine jI_ 5 32 ?_
     refine sI9_ 0 27 ?_
     refine sI9_ 1 28 ?_
     refine sI9_ 6 33 ?_
     refine one_ (i := 2) (N := some 29) (bqz 9 127) rfl rfl qzc (by decide) (fun K hK => ?_)
     refine goes_ Try.func29 (by kernel_rfl) rfl #[.agg #[.int .i64 a0_0, .int .i64 a0_1, .slice A0_2 l0_2.length c0_2], .agg #[.int .i64 ((rd_T37 l1 x22_2).f0), .int .i64 ((rd_T37 l1 x22_2).f1), .int .i64 ((rd_T37 l1 x22_2).f2), .bool ((rd_T37 l1 x22_2).f3), .int .i64 ((rd_T37 l1 x22_2).f4)]] (by rfl) rfl rfl qz2 ?_
     with_reducible refine (impl_Choices.calls k2 a0_0 a0_1 _ _ l0_2 ((rd_T37 l1 x22_2).f0) ((rd_T37 l1 x22_2).f1) ((rd_T37 l1 x22_2).f2) ((rd_T37 l1 x22_2).f3) ((rd_T37 l1 x22_2).f4) t404 _ ?side1 ?side2 A16.out).mono ?_
     (case side1 => exact qz3)
     (case side2 => exact qz23)
     rintro e w32 ⟨v405, rfl, ho0, hb⟩
     refine ⟨_, rfl, ?_⟩
     have HO406 := aM (Kd.R_lower ho0 (below_size qz1))
     replace BK400 := bB_ BK400 hb
     replace BK403 := bB_ BK403 hb
     replace HB := bS_ hb
     (try clear hb)
     (try clear hb2)
     (try clear hk)
     (try clear hi)
     (try clear ho0)
     obtain ⟨Ao33, co33, eo33⟩ := Kd.R_slice HO406.out
     (first | subst eo33 | (injection eo33 with f1_ f2_ f3_; have f4_ := f1_.symm; have f5_ := f3_.symm; clear f1_ f2_ f3_; subst f4_; subst f5_))
     refine hK.out _ _ ⟨(blk_cell BK400.out 0).trans rfl, (blk_cell BK400.out 1).trans rfl, (blk_cell BK400.out 2).trans rfl, (blk_cell BK403.out 0).trans rfl, (blk_cell BK403.out 1).trans rfl, (blk_cell BK403.out 2).trans rfl, (blk_cell BK403.out 3).trans rfl, (blk_cell BK403.out 4).trans rfl, (cB_ hw407_0)⟩ (fun hHeld => ?_)
     clear hK K
     refine nm_ 29 ?_
     refine one_ (i := 7) (N := some 34) (bqz 9 255) rfl rfl qzc (by decide) (fun K hK => ?_)
     refine goes_ Try.func67 (by kernel_rfl) rfl #[.slice Ao33 t404.length co33, .int .i64 (rd l2 x22_2)] (by rfl) rfl rfl qz2 ?_
     with_reducible refine (impl_hasInt.calls k2 _ _ t404 (rd l2 x22_2) false _ ?side1 ?side2 A18.out).mono ?_
     (case side1 => repeat (first | exact (Kd.R_reads' HO406.out).2.2 | (with_reducible refine Kd.C_alloc ?_ _) | (with_reducible refine Kd.C_drewN ?_ _) | (with_reducible refine Kd.C_drew ?_)))
     (case side2 => exact (Kd.R_reads' HO406.out).2.1)
     rintro e w' ⟨rfl, ⟨nd, rfl⟩⟩
     refine ⟨_, rfl, ?_⟩
     refine hK.out _ _ ⟨(blk_cell BK400.out 0).trans rfl, (blk_cell BK400.out 1).trans rfl, (blk_cell BK400.out 2).trans rfl, (blk_cell BK403.out 0).trans rfl, (blk_cell BK403.out 1).trans rfl, (blk_cell BK403.out 2).trans rfl, (blk_cell BK403.out 3).trans rfl, (blk_cell BK403.out 4).trans rfl, (cB_ hw407_0)⟩ (fun hHeld => ?_)
     clear hK K
     refine nm_ 34 ?_
     refine pI_ 8 35 (bqz 9 511) ?_
     refine done_ (done_of HT_.out (by kernel_rfl)) ?_
     try go_wp2
     go_ret
     exact ⟨qzw, qz1⟩
     }
     }
     {
     exact an_ c17 H
     }
     }
     {
     exact an_ c15 H
     }
     }
     {
     exact an_ c14 H
     }
     }
     {
     rw [if_neg c13] at H
     have c13b0 := decide_eq_false c13
     clear c13
     replace H := Option.bind_eq_some_iff.mp H
     obtain ⟨t409, A340, H⟩ := H
     replace H : (if t409 = true then (some 2) else ((impl_swaps.f k2 l1 l2).bind fun t410 => (if t410 = true then (some 3) else (some 0)))) = some r := H
     have A34 := aM A340
     clear A340
     by_cases c35 : t409 = true
     {
     subst c35
     rw [if_pos rfl] at H
     obtain rfl := Option.some.inj H
     simp only [Option.some.injEq, Prod.mk.injEq] at H
     obtain ⟨rfl⟩ := H
     go_wp2_with (first | ((with_reducible refine gate_callee (f := 78) rfl ?_); refine goesL_ (some 39) rfl rfl Try.func78 (by kernel_rfl) rfl #[.slice A2 l2.length c2] rfl qz2 ?_; (with_reducible refine (impl_same.calls k2 _ _ l2 true _ ?side1 ?side2 A34.out).mono ?_); (case side1 => exact qz8); (case side2 => exact HC2.out); rintro e w' ⟨rfl, ⟨nd, rfl⟩⟩; refine ⟨_, rfl, ?_⟩))
     go_ret
     exact ⟨qzw, qz1⟩
     }
     {
     replace c35 := Bool.eq_false_iff.mpr c35
     subst c35
     rw [if_neg (show ¬ (false = true) by decide)] at H
     replace H := Option.bind_eq_some_iff.mp H
     obtain ⟨t410, A360, H⟩ := H
     replace H : (if t410 = true then (some 3) else (some 0)) = some r := H
     have A36 := aM A360
     clear A360
     by_cases c37 : t410 = true
     {
     subst c37
     rw [if_pos rfl] at H
     obtain rfl := Option.some.inj H
     simp only [Option.some.injEq, Prod.mk.injEq] at H
     obtain ⟨rfl⟩ := H
     go_wp2_with (first | ((with_reducible refine gate_callee (f := 78) rfl ?_); refine goesL_ (some 39) rfl rfl Try.func78 (by kernel_rfl) rfl #[.slice A2 l2.length c2] rfl qz2 ?_; (with_reducible refine (impl_same.calls k2 _ _ l2 false _ ?side1 ?side2 A34.out).mono ?_); (case side1 => exact qz8); (case side2 => exact HC2.out); rintro e w' ⟨rfl, ⟨nd, rfl⟩⟩; refine ⟨_, rfl, ?_⟩) | ((with_reducible refine gate_callee (f := 79) rfl ?_); refine goesL_ (some 43) rfl rfl Try.func79 (by kernel_rfl) rfl #[.slice A1 l1.length c1, .slice A2 l2.length c2] rfl qz2 ?_; (with_reducible refine (impl_swaps.calls k2 _ _ l1 _ _ l2 true _ ?side1 ?side2 ?side3 ?side4 A36.out).mono ?_); (case side1 => repeat (first | exact (Kd.C_below HR1.out qz1) | (with_reducible refine Kd.C_alloc ?_ _) | (with_reducible refine Kd.C_drewN ?_ _) | (with_reducible refine Kd.C_drew ?_))); (case side2 => exact HC1.out); (case side3 => repeat (first | exact (Kd.C_below HR2.out qz1) | (with_reducible refine Kd.C_alloc ?_ _) | (with_reducible refine Kd.C_drewN ?_ _) | (with_reducible refine Kd.C_drew ?_))); (case side4 => exact HC2.out); rintro e w38 ⟨rfl, hb⟩; refine ⟨_, rfl, ?_⟩; replace BK400 := bB_ BK400 hb; replace HB := bS_ hb; (try clear hb)))
     go_ret
     exact ⟨qzw, qz1⟩
     }
     {
     replace c37 := Bool.eq_false_iff.mpr c37
     subst c37
     rw [if_neg (show ¬ (false = true) by decide)] at H
     obtain rfl := Option.some.inj H
     simp only [Option.some.injEq, Prod.mk.injEq] at H
     obtain ⟨rfl⟩ := H
     go_wp2_with (first | ((with_reducible refine gate_callee (f := 78) rfl ?_); refine goesL_ (some 39) rfl rfl Try.func78 (by kernel_rfl) rfl #[.slice A2 l2.length c2] rfl qz2 ?_; (with_reducible refine (impl_same.calls k2 _ _ l2 false _ ?side1 ?side2 A34.out).mono ?_); (case side1 => exact qz8); (case side2 => exact HC2.out); rintro e w' ⟨rfl, ⟨nd, rfl⟩⟩; refine ⟨_, rfl, ?_⟩) | ((with_reducible refine gate_callee (f := 79) rfl ?_); refine goesL_ (some 43) rfl rfl Try.func79 (by kernel_rfl) rfl #[.slice A1 l1.length c1, .slice A2 l2.length c2] rfl qz2 ?_; (with_reducible refine (impl_swaps.calls k2 _ _ l1 _ _ l2 false _ ?side1 ?side2 ?side3 ?side4 A36.out).mono ?_); (case side1 => repeat (first | exact (Kd.C_below HR1.out qz1) | (with_reducible refine Kd.C_alloc ?_ _) | (with_reducible refine Kd.C_drewN ?_ _) | (with_reducible refine Kd.C_drew ?_))); (case side2 => exact HC1.out); (case side3 => repeat (first | exact (Kd.C_below HR2.out qz1) | (with_reducible refine Kd.C_alloc ?_ _) | (with_reducible refine Kd.C_drewN ?_ _) | (with_reducible refine Kd.C_drew ?_))); (case side4 => exact HC2.out); rintro e w39 ⟨rfl, hb⟩; refine ⟨_, rfl, ?_⟩; replace BK400 := bB_ BK400 hb; replace HB := bS_ hb; (try clear hb)))
     go_ret
     exact ⟨qzw, qz1⟩

     }
     }
     }
   }
end Go.Proofs.Ytankmdbbgepmbaa.PFnExactClash
