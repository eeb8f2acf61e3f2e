-- Made by a program of this session out of the translation. Lean checks it.
import Derived.Test.YteajnkondkfmgaaPFnEachx4
namespace Go.Proofs.Yteajnkondkfmgaa.PFnEach
open Go.RowKit Go.Proofs.YteajnkondkfmgaaW.PrintWords Go.Proofs.YteajnkondkfmgaaW.PrintLast Go.Proofs.YteajnkondkfmgaaW.PrintMore
attribute [local go_sem] max2_int min2_int max_two min_two max_three min_three max_four min_four   -- for this text's walks alone
set_option linter.unusedVariables false
set_option linter.unusedSimpArgs false

/-! ### impl_StockOk: function 21 -/
mutual
def impl_StockOk.l0 : Nat → List (S79) → Int → Int → List (S79) → Option (Bool)
 | 0, _, _, _, _ => none
 | k + 1, x8, x9, x10, x133000 => if x10 < x9 then (if 0 ≤ x10 then (if x10 < (x8.length : Int) then ((impl_podOk.f k ((rd_T79 x8 x10).f0) ((rd_T79 x8 x10).f1) ((rd_T79 x8 x10).f2)).bind fun t135 => (if t135 = true then (if x10 > 0 then (if 0 ≤ (wrap64 (x10 - 1)) then (if (wrap64 (x10 - 1)) < (x133000.length : Int) then (impl_StockOk.j1 k x10 x8 x9 x10 (decide (((rd_T79 x133000 (wrap64 (x10 - 1))).f0) ≥ ((rd_T79 x8 x10).f0))) x133000 ((rd_T79 x8 x10).f0) ((rd_T79 x8 x10).f1) ((rd_T79 x8 x10).f2)) else (none)) else (none)) else (impl_StockOk.j1 k x10 x8 x9 x10 false x133000 ((rd_T79 x8 x10).f0) ((rd_T79 x8 x10).f1) ((rd_T79 x8 x10).f2))) else (impl_StockOk.j1 k x10 x8 x9 x10 true x133000 ((rd_T79 x8 x10).f0) ((rd_T79 x8 x10).f1) ((rd_T79 x8 x10).f2)))) else (none)) else (none)) else (some (decide ((x133000.length : Int) ≤ 12)))
def impl_StockOk.j1 : Nat → Int → List (S79) → Int → Int → Bool → List (S79) → Int → Int → List (S72) → Option (Bool)
 | 0, _, _, _, _, _, _, _, _, _ => none
 | k + 1, x3, x8, x9, x10, x33, x133000, x135000, x135001, x135002 => if x33 = true then (some false) else (if 0 ≤ x3 then (if x3 ≤ (x133000.length : Int) then ((some (x133000.take (x3 : Int).toNat : List (S79))).bind fun y137 => (impl_StockOk.l1 k x8 x9 x10 y137 (y137.length : Int) 0 x133000 x135000 x135001 x135002)) else (none)) else (none))
def impl_StockOk.l1 : Nat → List (S79) → Int → Int → List (S79) → Int → Int → List (S79) → Int → Int → List (S72) → Option (Bool)
 | 0, _, _, _, _, _, _, _, _, _, _ => none
 | k + 1, x8, x9, x10, x37, x38, x39, x133000, x135000, x135001, x135002 => if x39 < x38 then (if 0 ≤ x39 then (if x39 < (x37.length : Int) then (if ((rd_T79 x37 x39).f1) = x135001 then (some false) else (impl_StockOk.l1 k x8 x9 x10 x37 x38 (wrap64 (x39 + 1)) x133000 x135000 x135001 x135002)) else (none)) else (none)) else (impl_StockOk.l0 k x8 x9 (wrap64 (x10 + 1)) x133000)
end
def impl_StockOk.f (k : Nat) (l0_0 : List (S79)) : Option (Bool) := impl_StockOk.l0 k l0_0 (l0_0.length : Int) 0 l0_0
theorem impl_StockOk.mono_l : ∀ k, (∀ y0 y1 y2 y3, LeO (impl_StockOk.l0 k y0 y1 y2 y3) (impl_StockOk.l0 (k + 1) y0 y1 y2 y3)) ∧ (∀ y0 y1 y2 y3 y4 y5 y6 y7 y8, LeO (impl_StockOk.j1 k y0 y1 y2 y3 y4 y5 y6 y7 y8) (impl_StockOk.j1 (k + 1) y0 y1 y2 y3 y4 y5 y6 y7 y8)) ∧ (∀ y0 y1 y2 y3 y4 y5 y6 y7 y8 y9, LeO (impl_StockOk.l1 k y0 y1 y2 y3 y4 y5 y6 y7 y8 y9) (impl_StockOk.l1 (k + 1) y0 y1 y2 y3 y4 y5 y6 y7 y8 y9))
 | 0 => ⟨fun _ _ _ _ r h => by simp [impl_StockOk.l0] at h, fun _ _ _ _ _ _ _ _ _ r h => by simp [impl_StockOk.j1] at h, fun _ _ _ _ _ _ _ _ _ _ r h => by simp [impl_StockOk.l1] at h⟩
 | k + 1 => by
  obtain ⟨ih0, ih1, ih2⟩ := impl_StockOk.mono_l k
  refine ⟨?_, ?_, ?_⟩
  {
  intro y0 y1 y2 y3
  unfold impl_StockOk.l0
  have j0 := @impl_podOk.mono
  exact qL
  }
  {
  intro y0 y1 y2 y3 y4 y5 y6 y7 y8
  unfold impl_StockOk.j1
  have j0 := @impl_podOk.mono
  exact qL
  }
  {
  intro y0 y1 y2 y3 y4 y5 y6 y7 y8 y9
  unfold impl_StockOk.l1
  have j0 := @impl_podOk.mono
  exact qL
  }
theorem impl_StockOk.mono : ∀ a0 k, LeO (impl_StockOk.f k a0) (impl_StockOk.f (k + 1) a0) := by
 intro a0 k
 obtain ⟨ih0, ih1, ih2⟩ := impl_StockOk.mono_l k
 unfold impl_StockOk.f
 have j0 := @impl_podOk.mono
 exact qL
def impl_StockOk.T4 : Bool × List (List Nat × List Nat) := (true, [([], []), ([0], [0]), ([1], [1]), ([2, 1], [2]), ([3], [3]), ([4, 3], [3, 4]), ([5, 3, 3], [3, 5]), ([6], [6]), ([7, 6], [6, 7]), ([6], [6]), ([9, 6], [6, 9]), ([8, 10, 6], [6, 8, 10]), ([11, 6], [6, 11]), ([12, 6], [6, 12]), ([6], [6]), ([14, 6], [6, 14]), ([13, 15, 6], [6, 13, 15]), ([6, 16, 3], [3, 6, 16]), ([3, 17], [3, 17])])
def impl_StockOk.B4 : List Nat := [0, 1, 3, 7, 15, 31, 63, 127, 255, 127, 639, 2047, 4095, 8191, 127, 16511, 65535, 131071, 262143]
theorem impl_StockOk.tab4 : rtab .any (opsOf Try.f21 4) = impl_StockOk.T4 := by kernel_rfl
theorem impl_StockOk.bits4 : waitsOk impl_StockOk.T4.2 impl_StockOk.B4 = true := by kernel_rfl
set_option maxHeartbeats 8000000 in
set_option maxRecDepth 100000 in
theorem impl_StockOk.calls (k : Nat) (A0_0 : Option Addr) (c0_0 : Nat) (l0_0 : List (S79)) (r : Bool) (w : World) (hr0_0 : Kd.C k79 w A0_0 l0_0.length l0_0) (hc0_0 : l0_0.length ≤ c0_0) (h : impl_StockOk.f k l0_0 = some r) :
  Calls Try.prog 21 #[.agg #[.slice A0_0 l0_0.length c0_0]] w fun e w' => e = .returned (.bool r) ∧ Below w.heap.size w w' := by
 have hu26 := Try.underlying26
 have hu79 := Try.underlying79
 have HR0_0 := aM hr0_0
 have HC0_0 := aM hc0_0
 clear hr0_0 hc0_0
 have HB := aM (Below.refl w.heap.size w)
 have H : (impl_StockOk.l0 k l0_0 (l0_0.length : Int) 0 l0_0) = some r := h
 clear h
 have H' := aM H
 clear H
 go_enter Try.func21, Try.ntmps21
 go_wp2_with (first | ((with_reducible refine gate_dst (N := 1) rfl ?_); refine bx_ 1 #[.slice A0_0 l0_0.length c0_0] 26 ?_; intro gb132 hg w2 hbox hb; have BK132 := aM (hbox); have GW132 := aM (bz_ w hg qz1); have GE132 := GW132; replace HB := bS_ hb; clear hb hbox hg; obtain ⟨hcz3_0, hfz3_0⟩ := bf_ BK132.out))
 go_loopg [10] k (fun kq v10 w' => ∃ (x10_1 : Int), v10 = .int .i64 x10_1 ∧ Aside0 (impl_StockOk.l0 kq l0_0 (l0_0.length : Int) x10_1 l0_0 = some r) ∧ Aside0 (kq ≤ k) ∧ Aside0 (w'.heap[gb132]? = some (.cells #[(.slice A0_0 l0_0.length c0_0)] 26 (0, 0))) ∧ Aside0 (Below w.heap.size w w'))
 case atStart => exact ⟨(0), qz5, H', ⟨Nat.le_refl _⟩, ⟨bk_ BK132.out⟩, ⟨qz1⟩⟩
 case round =>
  clear H'
  try clear c2
  try clear p2
  try clear hcz3_0 hfz3_0
  obtain ⟨x10_1, rfl, HA, HK1, BK132, HB⟩ := hrel
  cases gk with
  | zero => exact absurd HA.out (by simp [impl_StockOk.l0])
  | succ k1 =>
   have H := HA.out
   clear HA
   simp only [impl_StockOk.l0] at H
   by_cases c4 : x10_1 < (l0_0.length : Int)
   {
   rw [if_pos c4] at H
   have c4b0 := decide_eq_true c4
   clear c4
   by_cases c5 : 0 ≤ x10_1
   {
   rw [if_pos c5] at H
   have c5b0 := decide_eq_true c5
   clear c5
   by_cases c6 : x10_1 < (l0_0.length : Int)
   {
   rw [if_pos c6] at H
   have c6b0 := decide_eq_true c6
   clear c6
   have HC7 := aM H
   clear H
   have p133 : 0 ≤ (x10_1 : Int) := dt_
   have q133 : x10_1 < (l0_0.length : Int) := dt_
   obtain ⟨ad133, A133_2, c133_2, e133, hx133_0, hx133_1, hx133_2, hl133_2, hi133_2⟩ := at_T79 HR0_0.out x10_1 p133 q133
   cases e133
   replace hx133_0 := cB_ hx133_0
   replace hx133_1 := cB_ hx133_1
   replace hx133_2 := cB_ hx133_2
   have HR133_2 := aM hi133_2
   have HC133_2 := aM hl133_2
   clear hi133_2 hl133_2
   replace p133 := eq_true p133
   replace q133 := eq_true q133
   go_upto_region 4 with (first | ((with_reducible refine gate_dst (N := 4) rfl ?_); refine bx_ 4 #[.int .i64 0, .int .i64 0, .slice none 0 0] 79 ?_; intro gb134 hg w8 hbox hb; have BK134 := aM (hbox); have GW134 := aM (bz_ w hg qz1); have GE134 := GW134; replace HB := bS_ hb; obtain ⟨NB132_134, NB134_132⟩ := nb_ hg (bk_ BK132.out); replace BK132 := bB_ BK132 hb; clear hb hbox hg; have hnb9 := NB134_132.out; have hnc9 := NB132_134.out; obtain ⟨hcz10_0, hcz10_1, hcz10_2, hfz10_0, hfz10_1, hfz10_2⟩ := b6_ BK134.out))
   (try simp only [Act.put, List.setIfInBounds_toArray, List.set_cons_zero, List.set_cons_succ])
   go_cut [33] (fun v33 wc => ∃ (kq : Nat) (x33_6 : Bool), v33 = .bool x33_6 ∧ Aside0 (impl_StockOk.j1 kq x10_1 l0_0 (l0_0.length : Int) x10_1 x33_6 l0_0 ((rd_T79 l0_0 x10_1).f0) ((rd_T79 l0_0 x10_1).f1) ((rd_T79 l0_0 x10_1).f2) = some r) ∧ Aside0 (kq ≤ k1) ∧ Aside0 (wc.heap[gb132]? = some (.cells #[(.slice (some ad133) l0_0.length c0_0)] 26 (0, 0))) ∧ Aside0 (wc.heap[gb134]? = some (.cells #[.int .i64 ((rd_T79 l0_0 x10_1).f0), .int .i64 ((rd_T79 l0_0 x10_1).f1), (.slice A133_2 ((rd_T79 l0_0 x10_1).f2).length c133_2)] 79 (0, 0))) ∧ Aside0 (Below w.heap.size w wc))
   case first =>
    have H := HC7.out
    clear HC7
    replace H := Option.bind_eq_some_iff.mp H
    obtain ⟨t135, A110, H⟩ := H
    replace H : (if t135 = true then (if x10_1 > 0 then (if 0 ≤ (wrap64 (x10_1 - 1)) then (if (wrap64 (x10_1 - 1)) < (l0_0.length : Int) then (impl_StockOk.j1 k1 x10_1 l0_0 (l0_0.length : Int) x10_1 (decide (((rd_T79 l0_0 (wrap64 (x10_1 - 1))).f0) ≥ ((rd_T79 l0_0 x10_1).f0))) l0_0 ((rd_T79 l0_0 x10_1).f0) ((rd_T79 l0_0 x10_1).f1) ((rd_T79 l0_0 x10_1).f2)) else (none)) else (none)) else (impl_StockOk.j1 k1 x10_1 l0_0 (l0_0.length : Int) x10_1 false l0_0 ((rd_T79 l0_0 x10_1).f0) ((rd_T79 l0_0 x10_1).f1) ((rd_T79 l0_0 x10_1).f2))) else (impl_StockOk.j1 k1 x10_1 l0_0 (l0_0.length : Int) x10_1 true l0_0 ((rd_T79 l0_0 x10_1).f0) ((rd_T79 l0_0 x10_1).f1) ((rd_T79 l0_0 x10_1).f2))) = some r := H
    have A11 := aM A110
    clear A110
    by_cases c12 : t135 = true
    {
    subst c12
    rw [if_pos rfl] at H
    by_cases c13 : x10_1 > 0
    {
    rw [if_pos c13] at H
    have c13b0 := decide_eq_true c13
    clear c13
    (first | rw [c13b0] | (simp only [i64_w, i32_w]; rw [c13b0]) | rw [@decide_eq_true _ _ (of_decide_eq_true c13b0)] | rw [@decide_eq_true _ _ (of_decide_eq_true c13b1)] | skip)
    obtain ⟨ji14, hji14⟩ : ∃ j_ : Int, (wrap64 (x10_1 - 1)) = j_ := ⟨_, rfl⟩
    replace H : (if 0 ≤ (ji14) then (if (ji14) < (l0_0.length : Int) then (impl_StockOk.j1 k1 x10_1 l0_0 (l0_0.length : Int) x10_1 (decide (((rd_T79 l0_0 (ji14)).f0) ≥ ((rd_T79 l0_0 x10_1).f0))) l0_0 ((rd_T79 l0_0 x10_1).f0) ((rd_T79 l0_0 x10_1).f1) ((rd_T79 l0_0 x10_1).f2)) else (none)) else (none)) = some r := by first | (rw [hji14] at H; exact H) | (simp only [hji14] at H ⊢; exact H)
    (try rw [hji14] at A11)
    have hji14w : (IntKind.i64.wrap (x10_1 - 1)) = ji14 := (i64_w _).trans hji14
    by_cases c15 : 0 ≤ (ji14)
    {
    rw [if_pos c15] at H
    have c15b0 := decide_eq_true c15
    clear c15
    by_cases c16 : (ji14) < (l0_0.length : Int)
    {
    rw [if_pos c16] at H
    have c16b0 := decide_eq_true c16
    clear c16
    have H' := aM H
    clear H
    try go_wp2
    generalize hq_ : (((w8.setCell ⟨gb134, 0, none⟩ (.int .i64 ((rd_T79 l0_0 x10_1).f0))).setCell ⟨gb134, 1, none⟩ (.int .i64 ((rd_T79 l0_0 x10_1).f1))).setCell ⟨gb134, 2, none⟩ (.slice A133_2 ((rd_T79 l0_0 x10_1).f2).length c133_2)) = w17
    replace BK132 : Aside0 (w17.heap[gb132]? = some (.cells #[.slice (some ad133) l0_0.length c0_0] 26 (0, 0))) := ⟨by rw [← hq_]; exact (bk2_ BK132.out)⟩
    replace BK134 : Aside0 (w17.heap[gb134]? = some (.cells #[.int .i64 ((rd_T79 l0_0 x10_1).f0), .int .i64 ((rd_T79 l0_0 x10_1).f1), .slice A133_2 ((rd_T79 l0_0 x10_1).f2).length c133_2] 79 (0, 0))) := ⟨by rw [← hq_]; exact (by (with_reducible repeat (first | refine blk_drewN ?_ _ | refine blk_drew ?_ | refine blk_alloc ?_ _)); refine blk_put (cs := #[.int .i64 ((rd_T79 l0_0 x10_1).f0), .int .i64 ((rd_T79 l0_0 x10_1).f1), .slice none 0 0]) ?_ 2 _ rfl; (with_reducible repeat (first | refine blk_drewN ?_ _ | refine blk_drew ?_ | refine blk_alloc ?_ _)); refine blk_put (cs := #[.int .i64 ((rd_T79 l0_0 x10_1).f0), .int .i64 0, .slice none 0 0]) ?_ 1 _ rfl; (with_reducible repeat (first | refine blk_drewN ?_ _ | refine blk_drew ?_ | refine blk_alloc ?_ _)); refine blk_put (cs := #[.int .i64 0, .int .i64 0, .slice none 0 0]) ?_ 0 _ rfl; exact bk_ BK134.out)⟩
    replace HB : Aside0 (Below w.heap.size w w17) := ⟨by rw [← hq_]; exact qz1⟩
    clear hq_
    replace BK132 := aM (blk_drew BK132.out)
    replace BK134 := aM (blk_drew BK134.out)
    replace HB := aM (below_drew1 HB.out)
    have p136 : 0 ≤ ((ji14) : Int) := dt_
    have q136 : (ji14) < (l0_0.length : Int) := dt_
    obtain ⟨ad136, A136_2, c136_2, e136, hx136_0, hx136_1, hx136_2, hl136_2, hi136_2⟩ := at_T79 HR0_0.out (ji14) p136 q136
    have hw136_2 := hx136_2
    have hw136_1 := hx136_1
    have hw136_0 := hx136_0
    obtain rfl : ad133 = ad136 := (by injection e136)
    replace hx136_0 := cB_ hx136_0
    replace hx136_1 := cB_ hx136_1
    replace hx136_2 := cB_ hx136_2
    have HR136_2 := aM hi136_2
    have HC136_2 := aM hl136_2
    clear hi136_2 hl136_2
    replace p136 := eq_true p136
    replace q136 := eq_true q136
    refine start_ (n := 19) (S := fun w' => w'.cell? ⟨gb134, 0, none⟩ = some (.int .i64 ((rd_T79 l0_0 x10_1).f0)) ∧ w'.cell? ⟨gb134, 1, none⟩ = some (.int .i64 ((rd_T79 l0_0 x10_1).f1)) ∧ w'.cell? ⟨gb134, 2, none⟩ = some (.slice A133_2 ((rd_T79 l0_0 x10_1).f2).length c133_2) ∧ w'.cell? ⟨gb132, 0, none⟩ = some (.slice (some ad133) l0_0.length c0_0) ∧ w'.cell? (ad133.add (((ji14)).toNat * 3)) = some (.int .i64 ((rd_T79 l0_0 (ji14)).f0)) ∧ w'.cell? ⟨(ad133.add (((ji14)).toNat * 3)).block, (ad133.add (((ji14)).toNat * 3)).off + 1, none⟩ = some (.int .i64 ((rd_T79 l0_0 (ji14)).f1)) ∧ w'.cell? ⟨(ad133.add (((ji14)).toNat * 3)).block, (ad133.add (((ji14)).toNat * 3)).off + 2, none⟩ = some (.slice A136_2 ((rd_T79 l0_0 (ji14)).f2).length c136_2)) (ds := []) #[false, false, false, false, false, false, false, false, false, false, false, false, false, false, false, false, false, false, false] (by kernel_rfl) rfl rfl ⟨(blk_cell BK134.out 0).trans rfl, (blk_cell BK134.out 1).trans rfl, (blk_cell BK134.out 2).trans rfl, (blk_cell BK132.out 0).trans rfl, (cB_ hw136_0), (cB_ hw136_1), (cB_ hw136_2)⟩ (fun hHeld => ?_); refine with_tabW impl_StockOk.tab4 impl_StockOk.bits4 (fun HT_ HW_ => ?_)
    generalize w17.drew = w18 at BK132 BK134 HB HR136_2 hx136_0 hx136_1 hx136_2 hHeld ⊢
    refine tI7_ 0 15 (bqz 19 1) ?_
    refine one_ (i := 1) (N := some 16) (bqz 19 3) rfl rfl qzc (by decide) (fun K hK => ?_)
    refine goes_ Try.func66 (by kernel_rfl) rfl #[.agg #[.int .i64 ((rd_T79 l0_0 x10_1).f0), .int .i64 ((rd_T79 l0_0 x10_1).f1), .slice A133_2 ((rd_T79 l0_0 x10_1).f2).length c133_2]] (by rfl) rfl rfl qz4 ?_
    with_reducible refine (impl_podOk.calls k1 ((rd_T79 l0_0 x10_1).f0) ((rd_T79 l0_0 x10_1).f1) _ _ ((rd_T79 l0_0 x10_1).f2) true _ ?side1 ?side2 A11.out).mono ?_
    (case side1 => exact qz39)
    (case side2 => exact HC133_2.out)
    rintro e w19 ⟨rfl, hb⟩
    refine ⟨_, rfl, ?_⟩
    replace BK132 := bB_ BK132 hb
    replace BK134 := bB_ BK134 hb
    replace HB := bS_ hb
    (try clear hb)
    (try clear hb2)
    (try clear hk)
    (try clear hi)
    refine hK.out _ _ ⟨(blk_cell BK134.out 0).trans rfl, (blk_cell BK134.out 1).trans rfl, (blk_cell BK134.out 2).trans rfl, (blk_cell BK132.out 0).trans rfl, (cB_ hw136_0), (cB_ hw136_1), (cB_ hw136_2)⟩ (fun hHeld => ?_)
    clear hK K
    refine nm_ 16 ?_
    refine pI_ 2 17 (bqz 19 7) ?_
    refine jI_ 3 18 ?_
    refine jI_ 4 19 ?_
    refine jI_ 5 20 ?_
    refine jI_ 6 21 ?_
    refine jI_ 7 22 ?_
    refine jI_ 9 24 ?_
    refine jI_ 10 25 ?_
    refine jI_ 14 29 ?_
    refine sI7_ 8 23 ?_
    refine jI_ 11 26 ?_
    refine jI_ 12 27 ?_
    refine sI7_ 13 28 ?_
    refine sI7_ 15 30 ?_
    refine jI_ 16 31 ?_
    refine jI_ 17 32 ?_
    refine jI_ 18 33 ?_
    refine done_ (done_of HT_.out (by kernel_rfl)) ?_
    try go_wp2
    go_meet
    case rel => exact ⟨_, (decide (((rd_T79 l0_0 (ji14)).f0) ≥ ((rd_T79 l0_0 x10_1).f0))), (by first | rfl | (simp; done) | (simp only [← hji14] <;> (first | rfl | simp)) | (simp [*]; done)), H', ⟨by have := HK1.out; first | omega | exact Nat.le_refl _⟩, ⟨bk_ BK132.out⟩, ⟨bk_ BK134.out⟩, ⟨qz1⟩⟩
    }
    {
    exact an_ c16 H
    }
    }
    {
    exact an_ c15 H
    }
    }
    {
    rw [if_neg c13] at H
    have c13b0 := decide_eq_false c13
    clear c13
    (first | rw [c13b0] | (simp only [i64_w, i32_w]; rw [c13b0]) | rw [@decide_eq_false _ _ (of_decide_eq_false c13b0)] | rw [@decide_eq_false _ _ (of_decide_eq_false c13b1)] | skip)
    have H' := aM H
    clear H
    try go_wp2
    generalize hq_ : (((w8.setCell ⟨gb134, 0, none⟩ (.int .i64 ((rd_T79 l0_0 x10_1).f0))).setCell ⟨gb134, 1, none⟩ (.int .i64 ((rd_T79 l0_0 x10_1).f1))).setCell ⟨gb134, 2, none⟩ (.slice A133_2 ((rd_T79 l0_0 x10_1).f2).length c133_2)) = w20
    replace BK132 : Aside0 (w20.heap[gb132]? = some (.cells #[.slice (some ad133) l0_0.length c0_0] 26 (0, 0))) := ⟨by rw [← hq_]; exact (bk2_ BK132.out)⟩
    replace BK134 : Aside0 (w20.heap[gb134]? = some (.cells #[.int .i64 ((rd_T79 l0_0 x10_1).f0), .int .i64 ((rd_T79 l0_0 x10_1).f1), .slice A133_2 ((rd_T79 l0_0 x10_1).f2).length c133_2] 79 (0, 0))) := ⟨by rw [← hq_]; exact (by (with_reducible repeat (first | refine blk_drewN ?_ _ | refine blk_drew ?_ | refine blk_alloc ?_ _)); refine blk_put (cs := #[.int .i64 ((rd_T79 l0_0 x10_1).f0), .int .i64 ((rd_T79 l0_0 x10_1).f1), .slice none 0 0]) ?_ 2 _ rfl; (with_reducible repeat (first | refine blk_drewN ?_ _ | refine blk_drew ?_ | refine blk_alloc ?_ _)); refine blk_put (cs := #[.int .i64 ((rd_T79 l0_0 x10_1).f0), .int .i64 0, .slice none 0 0]) ?_ 1 _ rfl; (with_reducible repeat (first | refine blk_drewN ?_ _ | refine blk_drew ?_ | refine blk_alloc ?_ _)); refine blk_put (cs := #[.int .i64 0, .int .i64 0, .slice none 0 0]) ?_ 0 _ rfl; exact bk_ BK134.out)⟩
    replace HB : Aside0 (Below w.heap.size w w20) := ⟨by rw [← hq_]; exact qz1⟩
    clear hq_
    replace BK132 := aM (blk_drew BK132.out)
    replace BK134 := aM (blk_drew BK134.out)
    replace HB := aM (below_drew1 HB.out)
    refine start_ (n := 19) (S := fun w' => w'.cell? ⟨gb134, 0, none⟩ = some (.int .i64 ((rd_T79 l0_0 x10_1).f0)) ∧ w'.cell? ⟨gb134, 1, none⟩ = some (.int .i64 ((rd_T79 l0_0 x10_1).f1)) ∧ w'.cell? ⟨gb134, 2, none⟩ = some (.slice A133_2 ((rd_T79 l0_0 x10_1).f2).length c133_2)) (ds := []) #[false, false, false, false, false, false, false, false, false, false, false, false, false, false, false, false, false, false, false] (by kernel_rfl) rfl rfl ⟨(blk_cell BK134.out 0).trans rfl, (blk_cell BK134.out 1).trans rfl, (blk_cell BK134.out 2).trans rfl⟩ (fun hHeld => ?_); refine with_tabW impl_StockOk.tab4 impl_StockOk.bits4 (fun HT_ HW_ => ?_)
    generalize w20.drew = w21 at BK132 BK134 HB hHeld ⊢
    refine tI3_ 0 15 (bqz 19 1) ?_
    refine one_ (i := 1) (N := some 16) (bqz 19 3) rfl rfl qzc (by decide) (fun K hK => ?_)
    refine goes_ Try.func66 (by kernel_rfl) rfl #[.agg #[.int .i64 ((rd_T79 l0_0 x10_1).f0), .int .i64 ((rd_T79 l0_0 x10_1).f1), .slice A133_2 ((rd_T79 l0_0 x10_1).f2).length c133_2]] (by rfl) rfl rfl qz4 ?_
    with_reducible refine (impl_podOk.calls k1 ((rd_T79 l0_0 x10_1).f0) ((rd_T79 l0_0 x10_1).f1) _ _ ((rd_T79 l0_0 x10_1).f2) true _ ?side1 ?side2 A11.out).mono ?_
    (case side1 => exact qz39)
    (case side2 => exact HC133_2.out)
    rintro e w22 ⟨rfl, hb⟩
    refine ⟨_, rfl, ?_⟩
    replace BK132 := bB_ BK132 hb
    replace BK134 := bB_ BK134 hb
    replace HB := bS_ hb
    (try clear hb)
    (try clear hb2)
    (try clear hk)
    (try clear hi)
    refine hK.out _ _ ⟨(blk_cell BK134.out 0).trans rfl, (blk_cell BK134.out 1).trans rfl, (blk_cell BK134.out 2).trans rfl⟩ (fun hHeld => ?_)
    clear hK K
    refine nm_ 16 ?_
    refine pI_ 2 17 (bqz 19 7) ?_
    refine jI_ 3 18 ?_
    refine jI_ 4 19 ?_
    refine jI_ 5 20 ?_
    refine jI_ 6 21 ?_
    refine jU_ 7 22 ?_
    refine jU_ 8 23 ?_
    refine jU_ 9 24 ?_
    refine jU_ 10 25 ?_
    refine jU_ 11 26 ?_
    refine jU_ 12 27 ?_
    refine jU_ 13 28 ?_
    refine jU_ 14 29 ?_
    refine jU_ 15 30 ?_
    refine jU_ 16 31 ?_
    refine jI_ 17 32 ?_
    refine jI_ 18 33 ?_
    refine done_ (done_of HT_.out (by kernel_rfl)) ?_
    try go_wp2
    go_meet
    case rel => exact ⟨_, (false), qz5, H', ⟨by have := HK1.out; first | omega | exact Nat.le_refl _⟩, ⟨bk_ BK132.out⟩, ⟨bk_ BK134.out⟩, ⟨qz1⟩⟩
    }
    }
    {
    replace c12 := Bool.eq_false_iff.mpr c12
    subst c12
    rw [if_neg (show ¬ (false = true) by decide)] at H
    have H' := aM H
    clear H
    try go_wp2
    generalize hq_ : (((w8.setCell ⟨gb134, 0, none⟩ (.int .i64 ((rd_T79 l0_0 x10_1).f0))).setCell ⟨gb134, 1, none⟩ (.int .i64 ((rd_T79 l0_0 x10_1).f1))).setCell ⟨gb134, 2, none⟩ (.slice A133_2 ((rd_T79 l0_0 x10_1).f2).length c133_2)) = w23
    replace BK132 : Aside0 (w23.heap[gb132]? = some (.cells #[.slice (some ad133) l0_0.length c0_0] 26 (0, 0))) := ⟨by rw [← hq_]; exact (bk2_ BK132.out)⟩
    replace BK134 : Aside0 (w23.heap[gb134]? = some (.cells #[.int .i64 ((rd_T79 l0_0 x10_1).f0), .int .i64 ((rd_T79 l0_0 x10_1).f1), .slice A133_2 ((rd_T79 l0_0 x10_1).f2).length c133_2] 79 (0, 0))) := ⟨by rw [← hq_]; exact (by (with_reducible repeat (first | refine blk_drewN ?_ _ | refine blk_drew ?_ | refine blk_alloc ?_ _)); refine blk_put (cs := #[.int .i64 ((rd_T79 l0_0 x10_1).f0), .int .i64 ((rd_T79 l0_0 x10_1).f1), .slice none 0 0]) ?_ 2 _ rfl; (with_reducible repeat (first | refine blk_drewN ?_ _ | refine blk_drew ?_ | refine blk_alloc ?_ _)); refine blk_put (cs := #[.int .i64 ((rd_T79 l0_0 x10_1).f0), .int .i64 0, .slice none 0 0]) ?_ 1 _ rfl; (with_reducible repeat (first | refine blk_drewN ?_ _ | refine blk_drew ?_ | refine blk_alloc ?_ _)); refine blk_put (cs := #[.int .i64 0, .int .i64 0, .slice none 0 0]) ?_ 0 _ rfl; exact bk_ BK134.out)⟩
    replace HB : Aside0 (Below w.heap.size w w23) := ⟨by rw [← hq_]; exact qz1⟩
    clear hq_
    replace BK132 := aM (blk_drew BK132.out)
    replace BK134 := aM (blk_drew BK134.out)
    replace HB := aM (below_drew1 HB.out)
    refine start_ (n := 19) (S := fun w' => w'.cell? ⟨gb134, 0, none⟩ = some (.int .i64 ((rd_T79 l0_0 x10_1).f0)) ∧ w'.cell? ⟨gb134, 1, none⟩ = some (.int .i64 ((rd_T79 l0_0 x10_1).f1)) ∧ w'.cell? ⟨gb134, 2, none⟩ = some (.slice A133_2 ((rd_T79 l0_0 x10_1).f2).length c133_2)) (ds := []) #[false, false, false, false, false, false, false, false, false, false, false, false, false, false, false, false, false, false, false] (by kernel_rfl) rfl rfl ⟨(blk_cell BK134.out 0).trans rfl, (blk_cell BK134.out 1).trans rfl, (blk_cell BK134.out 2).trans rfl⟩ (fun hHeld => ?_); refine with_tabW impl_StockOk.tab4 impl_StockOk.bits4 (fun HT_ HW_ => ?_)
    generalize w23.drew = w24 at BK132 BK134 HB hHeld ⊢
    refine tI3_ 0 15 (bqz 19 1) ?_
    refine one_ (i := 1) (N := some 16) (bqz 19 3) rfl rfl qzc (by decide) (fun K hK => ?_)
    refine goes_ Try.func66 (by kernel_rfl) rfl #[.agg #[.int .i64 ((rd_T79 l0_0 x10_1).f0), .int .i64 ((rd_T79 l0_0 x10_1).f1), .slice A133_2 ((rd_T79 l0_0 x10_1).f2).length c133_2]] (by rfl) rfl rfl qz4 ?_
    with_reducible refine (impl_podOk.calls k1 ((rd_T79 l0_0 x10_1).f0) ((rd_T79 l0_0 x10_1).f1) _ _ ((rd_T79 l0_0 x10_1).f2) false _ ?side1 ?side2 A11.out).mono ?_
    (case side1 => exact qz39)
    (case side2 => exact HC133_2.out)
    rintro e w25 ⟨rfl, hb⟩
    refine ⟨_, rfl, ?_⟩
    replace BK132 := bB_ BK132 hb
    replace BK134 := bB_ BK134 hb
    replace HB := bS_ hb
    (try clear hb)
    (try clear hb2)
    (try clear hk)
    (try clear hi)
    refine hK.out _ _ ⟨(blk_cell BK134.out 0).trans rfl, (blk_cell BK134.out 1).trans rfl, (blk_cell BK134.out 2).trans rfl⟩ (fun hHeld => ?_)
    clear hK K
    refine nm_ 16 ?_
    refine pI_ 2 17 (bqz 19 7) ?_
    refine jI_ 3 18 ?_
    refine jU_ 4 19 ?_
    refine jU_ 5 20 ?_
    refine jU_ 6 21 ?_
    refine jU_ 7 22 ?_
    refine jU_ 8 23 ?_
    refine jU_ 9 24 ?_
    refine jU_ 10 25 ?_
    refine jU_ 11 26 ?_
    refine jU_ 12 27 ?_
    refine jU_ 13 28 ?_
    refine jU_ 14 29 ?_
    refine jU_ 15 30 ?_
    refine jU_ 16 31 ?_
    refine jU_ 17 32 ?_
    refine jI_ 18 33 ?_
    refine done_ (done_of HT_.out (by kernel_rfl)) ?_
    try go_wp2
    go_meet
    case rel => exact ⟨_, (true), qz5, H', ⟨by have := HK1.out; first | omega | exact Nat.le_refl _⟩, ⟨bk_ BK132.out⟩, ⟨bk_ BK134.out⟩, ⟨qz1⟩⟩
    }
   case rest =>
    clear HC7
    try clear c1
    try clear p1
    try clear q1
    try clear hx1
    try clear p2
    try clear c5
    try clear c5b0
    try clear c6
    try clear c6b0
    try clear p6
    try clear c9
    try clear c12
    try clear c13
    try clear c13b0
    try clear c13b1
    try clear p13
    try clear q13
    try clear hx13
    try clear c15
    try clear c15b0
    try clear c16
    try clear c16b0
    try clear hcz10_0 hcz10_1 hcz10_2 hfz10_0 hfz10_1 hfz10_2
    try clear hx133_0
    try clear hx133_1
    try clear hx133_2
    try clear hx136_0
    try clear hx136_1
    try clear hx136_2
    try clear p133
    try clear p136
    try clear q133
    try clear q136
    obtain ⟨kq, x33_6, rfl, HA, HJ6, BK132, BK134, HB⟩ := hcut
    cases kq with
    | zero => exact absurd HA.out (by simp [impl_StockOk.j1])
    | succ kj6 =>
     have H := HA.out
     clear HA
     simp only [impl_StockOk.j1] at H
     by_cases c26 : x33_6 = true
     {
     subst c26
     rw [if_pos rfl] at H
     obtain rfl := Option.some.inj H
     simp only [Option.some.injEq, Prod.mk.injEq] at H
     obtain ⟨rfl⟩ := H
     go_wp2
     go_ret
     exact ⟨qzw, qz1⟩
     }
     {
     replace c26 := Bool.eq_false_iff.mpr c26
     subst c26
     rw [if_neg (show ¬ (false = true) by decide)] at H
     by_cases c27 : 0 ≤ x10_1
     {
     rw [if_pos c27] at H
     have c27b0 := eq_true c27
     have c27b1 := decide_eq_true c27
     clear c27
     by_cases c28 : x10_1 ≤ (l0_0.length : Int)
     {
     rw [if_pos c28] at H
     have c28b0 := eq_true c28
     have c28b1 := decide_eq_true c28
     clear c28
     obtain ⟨y137, hy137⟩ : ∃ y_ : List (S79), y_ = (l0_0.take (x10_1 : Int).toNat) := ⟨_, rfl⟩
     replace H : (impl_StockOk.l1 kj6 l0_0 (l0_0.length : Int) x10_1 y137 (y137.length : Int) 0 l0_0 ((rd_T79 l0_0 x10_1).f0) ((rd_T79 l0_0 x10_1).f1) ((rd_T79 l0_0 x10_1).f2)) = some r := by first | (rw [hy137]; with_reducible exact H) | (have H2_ := (Option.bind_some _ _).symm.trans H; rw [hy137]; with_reducible exact H2_) | (have H2_ := (Option.bind_some _ _).symm.trans H; with_reducible exact H2_) | with_reducible exact H | (rw [hy137]; exact H) | exact H
     have Ny137 := aM hy137
     clear hy137
     have H' := aM H
     clear H
     have hnb29 := NB132_134.out
     have hnc29 := NB134_132.out
     obtain ⟨hcz30_0, hfz30_0⟩ := bf_ BK132.out
     have q31 : (x10_1 : Int) ≤ ((l0_0.length : Int) : Int) := dt_
     obtain ⟨i031, hi031, _, hsz31, _⟩ := info_parts info79
     have hroom31 : l0_0.length ≤ c0_0 := HC0_0.out
     have hC31 : Kd.C k79 _ (some ad133) l0_0.length l0_0 := HR0_0.out
     have hcut31 := cut_to (P := Try.prog) 24 79 .i64 Try.underlying24 hi031 (some ad133) l0_0.length c0_0 x10_1 (dt_) q31 hroom31
     have hr31 := Kd.C_take (m := (x10_1 : Int).toNat) hC31 (by omega)
     have hy31 : y137.length = (x10_1 : Int).toNat := (by rw [Ny137.out, List.length_take]; omega)
     rw [← Ny137.out] at hr31
     rw [← hy31] at hcut31
     have HR140 := aM hr31
     have HC140 := aM (show y137.length ≤ c0_0 from by omega)
     clear hr31 hC31 hroom31 hi031 hsz31
     have KY31 := aM hy31
     clear hy31
     replace q31 := eq_true q31
     go_wp2
     go_loopg [39] kj6 (fun kq v39 w' => ∃ (x39_3 : Int), v39 = .int .i64 x39_3 ∧ Aside0 (impl_StockOk.l1 kq l0_0 (l0_0.length : Int) x10_1 y137 (y137.length : Int) x39_3 l0_0 ((rd_T79 l0_0 x10_1).f0) ((rd_T79 l0_0 x10_1).f1) ((rd_T79 l0_0 x10_1).f2) = some r) ∧ Aside0 (kq ≤ kj6) ∧ Aside0 (w'.heap[gb132]? = some (.cells #[(.slice (some ad133) l0_0.length c0_0)] 26 (0, 0))) ∧ Aside0 (w'.heap[gb134]? = some (.cells #[.int .i64 ((rd_T79 l0_0 x10_1).f0), .int .i64 ((rd_T79 l0_0 x10_1).f1), (.slice A133_2 ((rd_T79 l0_0 x10_1).f2).length c133_2)] 79 (0, 0))) ∧ Aside0 (Below w.heap.size w w'))
     case atStart => exact ⟨(0), qz5, H', ⟨Nat.le_refl _⟩, ⟨bk_ BK132.out⟩, ⟨bk_ BK134.out⟩, ⟨qz1⟩⟩
     case round =>
      clear H'
      try clear c1
      try clear p1
      try clear q1
      try clear hx1
      try clear c2
      try clear p2
      try clear q3
      try clear c5
      try clear c5b0
      try clear c6
      try clear c6b0
      try clear p6
      try clear c9
      try clear c12
      try clear c13
      try clear c13b0
      try clear c13b1
      try clear p13
      try clear q13
      try clear hx13
      try clear c15
      try clear c15b0
      try clear c16
      try clear c16b0
      try clear c26
      try clear c27
      try clear c27b0
      try clear c27b1
      try clear c28
      try clear c28b0
      try clear c28b1
      try clear c29
      try clear q31
      try clear hcz10_0 hcz10_1 hcz10_2 hfz10_0 hfz10_1 hfz10_2
      try clear hcz30_0 hfz30_0
      try clear hx133_0
      try clear hx133_1
      try clear hx133_2
      try clear hx136_0
      try clear hx136_1
      try clear hx136_2
      try clear p133
      try clear p136
      try clear q133
      try clear q136
      obtain ⟨x39_3, rfl, HA, HK3, BK132, BK134, HB⟩ := hrel
      cases gk with
      | zero => exact absurd HA.out (by simp [impl_StockOk.l1])
      | succ k3 =>
       have H := HA.out
       clear HA
       simp only [impl_StockOk.l1] at H
       by_cases c32 : x39_3 < (y137.length : Int)
       {
       rw [if_pos c32] at H
       have c32b0 := decide_eq_true c32
       clear c32
       by_cases c33 : 0 ≤ x39_3
       {
       rw [if_pos c33] at H
       have c33b0 := decide_eq_true c33
       clear c33
       by_cases c34 : x39_3 < (y137.length : Int)
       {
       rw [if_pos c34] at H
       have c34b0 := decide_eq_true c34
       clear c34
       by_cases c35 : ((rd_T79 y137 x39_3).f1) = ((rd_T79 l0_0 x10_1).f1)
       {
       rw [if_pos c35] at H
       have c35b0 := beq_iff_eq.mpr c35
       have c35b1 := bne_eq_false_iff_eq.mpr c35
       clear c35
       obtain rfl := Option.some.inj H
       simp only [Option.some.injEq, Prod.mk.injEq] at H
       obtain ⟨rfl⟩ := H
       have p141 : 0 ≤ (x39_3 : Int) := dt_
       have q141 : x39_3 < (y137.length : Int) := dt_
       obtain ⟨ad141, A141_2, c141_2, e141, hx141_0, hx141_1, hx141_2, hl141_2, hi141_2⟩ := at_T79 HR140.out x39_3 p141 q141
       obtain rfl : ad133 = ad141 := (by injection e141)
       replace hx141_0 := cB_ hx141_0
       replace hx141_1 := cB_ hx141_1
       replace hx141_2 := cB_ hx141_2
       have HR141_2 := aM hi141_2
       have HC141_2 := aM hl141_2
       clear hi141_2 hl141_2
       replace p141 := eq_true p141
       replace q141 := eq_true q141
       go_wp2_with (first | ((with_reducible refine gate_dst (N := 6) rfl ?_); refine bx_ 6 #[.int .i64 0, .int .i64 0, .slice none 0 0] 79 ?_; intro gb142 hg w36 hbox hb; have BK142 := aM (hbox); have GW142 := aM (bz_ w hg qz1); have GE142 := GW142; replace HB := bS_ hb; obtain ⟨NB132_142, NB142_132⟩ := nb_ hg (bk_ BK132.out); replace BK132 := bB_ BK132 hb; obtain ⟨NB134_142, NB142_134⟩ := nb_ hg (bk_ BK134.out); replace BK134 := bB_ BK134 hb; clear hb hbox hg; have hnb37 := NB142_132.out; have hnc37 := NB132_142.out; have hnb38 := NB142_134.out; have hnc38 := NB134_142.out; obtain ⟨hcz39_0, hcz39_1, hcz39_2, hfz39_0, hfz39_1, hfz39_2⟩ := b6_ BK142.out; have hnb40 := NB134_132.out; have hnc40 := NB132_134.out; obtain ⟨hcz41_0, hcz41_1, hcz41_2, hfz41_0, hfz41_1, hfz41_2⟩ := b6_ BK134.out))
       go_ret
       exact ⟨qzw, qz1⟩
       }
       {
       rw [if_neg c35] at H
       have c35b0 := beq_eq_false_iff_ne.mpr c35
       have c35b1 := bne_iff_ne.mpr c35
       have H' := aM H
       clear H
       have p141 : 0 ≤ (x39_3 : Int) := dt_
       have q141 : x39_3 < (y137.length : Int) := dt_
       obtain ⟨ad141, A141_2, c141_2, e141, hx141_0, hx141_1, hx141_2, hl141_2, hi141_2⟩ := at_T79 HR140.out x39_3 p141 q141
       obtain rfl : ad133 = ad141 := (by injection e141)
       replace hx141_0 := cB_ hx141_0
       replace hx141_1 := cB_ hx141_1
       replace hx141_2 := cB_ hx141_2
       have HR141_2 := aM hi141_2
       have HC141_2 := aM hl141_2
       clear hi141_2 hl141_2
       replace p141 := eq_true p141
       replace q141 := eq_true q141
       go_wp2_with (first | ((with_reducible refine gate_dst (N := 6) rfl ?_); refine bx_ 6 #[.int .i64 0, .int .i64 0, .slice none 0 0] 79 ?_; intro gb142 hg w42 hbox hb; have BK142 := aM (hbox); have GW142 := aM (bz_ w hg qz1); have GE142 := GW142; replace HB := bS_ hb; obtain ⟨NB132_142, NB142_132⟩ := nb_ hg (bk_ BK132.out); replace BK132 := bB_ BK132 hb; obtain ⟨NB134_142, NB142_134⟩ := nb_ hg (bk_ BK134.out); replace BK134 := bB_ BK134 hb; clear hb hbox hg; have hnb43 := NB142_132.out; have hnc43 := NB132_142.out; have hnb44 := NB142_134.out; have hnc44 := NB134_142.out; obtain ⟨hcz45_0, hcz45_1, hcz45_2, hfz45_0, hfz45_1, hfz45_2⟩ := b6_ BK142.out; have hnb46 := NB134_132.out; have hnc46 := NB132_134.out; obtain ⟨hcz47_0, hcz47_1, hcz47_2, hfz47_0, hfz47_1, hfz47_2⟩ := b6_ BK134.out))
       go_roundg k3
       case measure => have := HK1.out; have := HJ6.out; have := HK3.out; omega
       case rel => exact ⟨(wrap64 (x39_3 + 1)), qz5, H', ⟨by have := HK1.out; have := HJ6.out; have := HK3.out; omega⟩, ⟨by (with_reducible repeat (first | refine blk_drewN ?_ _ | refine blk_drew ?_ | refine blk_alloc ?_ _)); refine blk_far ?_ NB132_142.out _; (with_reducible repeat (first | refine blk_drewN ?_ _ | refine blk_drew ?_ | refine blk_alloc ?_ _)); refine blk_far ?_ NB132_142.out _; (with_reducible repeat (first | refine blk_drewN ?_ _ | refine blk_drew ?_ | refine blk_alloc ?_ _)); refine blk_far ?_ NB132_142.out _; exact bk_ BK132.out⟩, ⟨by (with_reducible repeat (first | refine blk_drewN ?_ _ | refine blk_drew ?_ | refine blk_alloc ?_ _)); refine blk_far ?_ NB134_142.out _; (with_reducible repeat (first | refine blk_drewN ?_ _ | refine blk_drew ?_ | refine blk_alloc ?_ _)); refine blk_far ?_ NB134_142.out _; (with_reducible repeat (first | refine blk_drewN ?_ _ | refine blk_drew ?_ | refine blk_alloc ?_ _)); refine blk_far ?_ NB134_142.out _; exact bk_ BK134.out⟩, ⟨qz1⟩⟩
       }
       }
       {
       exact an_ c34 H
       }
       }
       {
       exact an_ c33 H
       }
       }
       {
       rw [if_neg c32] at H
       have c32b0 := decide_eq_false c32
       clear c32
       have H' := aM H
       clear H
       go_wp2
       go_roundg k3
       case measure => have := HK1.out; have := HJ6.out; have := HK3.out; omega
       case rel => exact ⟨(wrap64 (x10_1 + 1)), qz5, H', ⟨by have := HK1.out; have := HJ6.out; have := HK3.out; omega⟩, ⟨bk_ BK132.out⟩, ⟨qz1⟩⟩
       }
     }
     {
     exact an_ c28 H
     }
     }
     {
     exact an_ c27 H
     }
     }
   }
   {
   exact an_ c6 H
   }
   }
   {
   exact an_ c5 H
   }
   }
   {
   rw [if_neg c4] at H
   have c4b0 := decide_eq_false c4
   clear c4
   obtain rfl := Option.some.inj H
   simp only [Option.some.injEq, Prod.mk.injEq] at H
   obtain ⟨rfl⟩ := H
   obtain ⟨hcz48_0, hfz48_0⟩ := bf_ BK132.out
   go_wp2
   go_ret
   exact ⟨qzw, qz1⟩

   }
end Go.Proofs.Yteajnkondkfmgaa.PFnEach
