-- Made by a program of this session out of the translation. Lean checks it.
import Derived.Test.YteajnkondkfmgaaPFnEachx1
namespace Go.Proofs.Yteajnkondkfmgaa.PFnEach
open Go.RowKit Go.Proofs.YteajnkondkfmgaaW.PrintWords Go.Proofs.YteajnkondkfmgaaW.PrintLast Go.Proofs.YteajnkondkfmgaaW.PrintMore
attribute [local go_sem] max2_int min2_int max_two min_two max_three min_three max_four min_four   -- for this text's walks alone
set_option linter.unusedVariables false
set_option linter.unusedSimpArgs false

attribute [local go_sem high] eqA72
/-! ### laws_big: function 15 -/
def laws_big.f (l0 : List Int) : Option (Bool) := some (decide ((l0.length : Int) > 1048576))
set_option maxHeartbeats 8000000 in
set_option maxRecDepth 100000 in
theorem laws_big.calls (A0 : Option Addr) (c0 : Nat) (l0 : List Int) (r : Bool) (w : World) (hr0 : Kd.C (Kd.int .u8) w A0 l0.length l0) (hc0 : l0.length ≤ c0) (h : laws_big.f l0 = some r) :
  Calls Try.prog 15 #[.slice A0 l0.length c0] w fun e w' => e = .returned (.bool r) ∧ Drawn0 w w' := by
 have HR0 := aM hr0
 have HC0 := aM hc0
 clear hr0 hc0
 have H : (some (decide ((l0.length : Int) > 1048576))) = some r := h
 clear h
 obtain rfl := Option.some.inj H
 simp only [Option.some.injEq, Prod.mk.injEq] at H
 obtain ⟨rfl⟩ := H
 go_enter Try.func15, Try.ntmps15
 go_wp2
 go_ret
 exact ⟨by first | rfl | (simp; done) | (simp [*]; done), by repeat (first | exact Drawn0.refl _ | apply Drawn0.step)⟩

/-! ### laws_sameStock: function 19 -/
mutual
def laws_sameStock.l0 : Nat → Int → List (S79) → List (S79) → Option (Bool)
 | 0, _, _, _ => none
 | k + 1, x5, x102000, x103000 => if x5 < (x102000.length : Int) then (if 0 ≤ x5 then (if x5 < (x103000.length : Int) then (if ((rd_T79 x102000 x5).f0) = ((rd_T79 x103000 x5).f0) then (if ((rd_T79 x102000 x5).f1) = ((rd_T79 x103000 x5).f1) then (laws_sameStock.j1 k x5 ((((rd_T79 x102000 x5).f2).length : Int) != (((rd_T79 x103000 x5).f2).length : Int)) x102000 x103000 ((rd_T79 x102000 x5).f0) ((rd_T79 x102000 x5).f1) ((rd_T79 x102000 x5).f2) ((rd_T79 x103000 x5).f0) ((rd_T79 x103000 x5).f1) ((rd_T79 x103000 x5).f2)) else (laws_sameStock.j1 k x5 true x102000 x103000 ((rd_T79 x102000 x5).f0) ((rd_T79 x102000 x5).f1) ((rd_T79 x102000 x5).f2) ((rd_T79 x103000 x5).f0) ((rd_T79 x103000 x5).f1) ((rd_T79 x103000 x5).f2))) else (laws_sameStock.j1 k x5 true x102000 x103000 ((rd_T79 x102000 x5).f0) ((rd_T79 x102000 x5).f1) ((rd_T79 x102000 x5).f2) ((rd_T79 x103000 x5).f0) ((rd_T79 x103000 x5).f1) ((rd_T79 x103000 x5).f2))) else (none)) else (none)) else (some true)
def laws_sameStock.j1 : Nat → Int → Bool → List (S79) → List (S79) → Int → Int → List (S72) → Int → Int → List (S72) → Option (Bool)
 | 0, _, _, _, _, _, _, _, _, _, _ => none
 | k + 1, x5, x53, x102000, x103000, x105000, x105001, x105002, x107000, x107001, x107002 => if x53 = true then (some false) else (laws_sameStock.l1 k x5 0 x102000 x103000 x105000 x105001 x105002 x107000 x107001 x107002)
def laws_sameStock.l1 : Nat → Int → Int → List (S79) → List (S79) → Int → Int → List (S72) → Int → Int → List (S72) → Option (Bool)
 | 0, _, _, _, _, _, _, _, _, _, _ => none
 | k + 1, x5, x8, x102000, x103000, x105000, x105001, x105002, x107000, x107001, x107002 => if x8 < (x105002.length : Int) then (if 0 ≤ x8 then (if x8 < (x107002.length : Int) then (if (!(((rd_T72 x105002 x8).f0) == ((rd_T72 x107002 x8).f0)) || (!(((rd_T72 x105002 x8).f1) == ((rd_T72 x107002 x8).f1)) || (!(((rd_T72 x105002 x8).f2) == ((rd_T72 x107002 x8).f2))))) = true then (some false) else (laws_sameStock.l1 k x5 (wrap64 (x8 + 1)) x102000 x103000 x105000 x105001 x105002 x107000 x107001 x107002)) else (none)) else (none)) else (laws_sameStock.l0 k (wrap64 (x5 + 1)) x102000 x103000)
end
def laws_sameStock.f (k : Nat) (l0_0 : List (S79)) (l1_0 : List (S79)) : Option (Bool) := if (l0_0.length : Int) = (l1_0.length : Int) then (laws_sameStock.l0 k 0 l0_0 l1_0) else (some false)
theorem laws_sameStock.mono_l : ∀ k, (∀ y0 y1 y2, LeO (laws_sameStock.l0 k y0 y1 y2) (laws_sameStock.l0 (k + 1) y0 y1 y2)) ∧ (∀ y0 y1 y2 y3 y4 y5 y6 y7 y8 y9, LeO (laws_sameStock.j1 k y0 y1 y2 y3 y4 y5 y6 y7 y8 y9) (laws_sameStock.j1 (k + 1) y0 y1 y2 y3 y4 y5 y6 y7 y8 y9)) ∧ (∀ y0 y1 y2 y3 y4 y5 y6 y7 y8 y9, LeO (laws_sameStock.l1 k y0 y1 y2 y3 y4 y5 y6 y7 y8 y9) (laws_sameStock.l1 (k + 1) y0 y1 y2 y3 y4 y5 y6 y7 y8 y9))
 | 0 => ⟨fun _ _ _ r h => by simp [laws_sameStock.l0] at h, fun _ _ _ _ _ _ _ _ _ _ r h => by simp [laws_sameStock.j1] at h, fun _ _ _ _ _ _ _ _ _ _ r h => by simp [laws_sameStock.l1] at h⟩
 | k + 1 => by
  obtain ⟨ih0, ih1, ih2⟩ := laws_sameStock.mono_l k
  refine ⟨?_, ?_, ?_⟩
  {
  intro y0 y1 y2
  unfold laws_sameStock.l0
  exact qL
  }
  {
  intro y0 y1 y2 y3 y4 y5 y6 y7 y8 y9
  unfold laws_sameStock.j1
  exact qL
  }
  {
  intro y0 y1 y2 y3 y4 y5 y6 y7 y8 y9
  unfold laws_sameStock.l1
  exact qL
  }
theorem laws_sameStock.mono : ∀ a0 a1 k, LeO (laws_sameStock.f k a0 a1) (laws_sameStock.f (k + 1) a0 a1) := by
 intro a0 a1 k
 obtain ⟨ih0, ih1, ih2⟩ := laws_sameStock.mono_l k
 unfold laws_sameStock.f
 exact qL
set_option maxHeartbeats 8000000 in
set_option maxRecDepth 100000 in
theorem laws_sameStock.calls (k : Nat) (A0_0 : Option Addr) (c0_0 : Nat) (l0_0 : List (S79)) (A1_0 : Option Addr) (c1_0 : Nat) (l1_0 : List (S79)) (r : Bool) (w : World) (hr0_0 : Kd.C k79 w A0_0 l0_0.length l0_0) (hc0_0 : l0_0.length ≤ c0_0) (hr1_0 : Kd.C k79 w A1_0 l1_0.length l1_0) (hc1_0 : l1_0.length ≤ c1_0) (h : laws_sameStock.f k l0_0 l1_0 = some r) (hT : r = true) :
  Calls Try.prog 19 #[.agg #[.slice A0_0 l0_0.length c0_0], .agg #[.slice A1_0 l1_0.length c1_0]] w fun e w' => e = .returned (.bool r) ∧ Below w.heap.size w w' := by
 have HTR_ := aM hT
 clear hT
 have hu26 := Try.underlying26
 have hu79 := Try.underlying79
 have hu72 := Try.underlying72
 have HR0_0 := aM hr0_0
 have HC0_0 := aM hc0_0
 clear hr0_0 hc0_0
 have HR1_0 := aM hr1_0
 have HC1_0 := aM hc1_0
 clear hr1_0 hc1_0
 have HB := aM (Below.refl w.heap.size w)
 have H : (if (l0_0.length : Int) = (l1_0.length : Int) then (laws_sameStock.l0 k 0 l0_0 l1_0) else (some false)) = some r := h
 clear h
 by_cases c3 : (l0_0.length : Int) = (l1_0.length : Int)
 {
 rw [if_pos c3] at H
 have c3b0 := beq_iff_eq.mpr c3
 have c3b1 := bne_eq_false_iff_eq.mpr c3
 have c3b2 : (l0_0.length == l1_0.length) = true := by first | simpa using c3 | (simp at c3 ⊢; omega)
 clear c3
 have H' := aM H
 clear H
 go_enter Try.func19, Try.ntmps19
 go_wp2_with (first | ((with_reducible refine gate_dst (N := 2) rfl ?_); (try (refine gate_guard (by rfl) ?_; dsimp only)); refine bx_ 2 #[.slice A0_0 l0_0.length c0_0] 26 ?_; intro gb101 hg w4 hbox hb; have BK101 := aM (hbox); have GW101 := aM (bz_ w hg qz1); have GE101 := GW101; replace HB := bS_ hb; clear hb hbox hg) | ((with_reducible refine gate_dst (N := 3) rfl ?_); (try (refine gate_guard (by rfl) ?_; dsimp only)); refine bx_ 3 #[.slice A1_0 l1_0.length c1_0] 26 ?_; intro gb102 hg w5 hbox hb; have BK102 := aM (hbox); have GW102 := aM (bz_ w hg qz1); have GE102 := GW102; replace HB := bS_ hb; obtain ⟨NB101_102, NB102_101⟩ := nb_ hg (bk_ BK101.out); replace BK101 := bB_ BK101 hb; clear hb hbox hg; have hnb6 := NB101_102.out; have hnc6 := NB102_101.out; obtain ⟨hcz7_0, hfz7_0⟩ := bf_ BK101.out; obtain ⟨hcz8_0, hfz8_0⟩ := bf_ BK102.out))
 repeat (go_quiet (first | ((with_reducible refine gate_dst (N := 2) rfl ?_); (try (refine gate_guard (by rfl) ?_; dsimp only)); refine bx_ 2 #[.slice A0_0 l0_0.length c0_0] 26 ?_; intro gb101 hg w4 hbox hb; have BK101 := aM (hbox); have GW101 := aM (bz_ w hg qz1); have GE101 := GW101; replace HB := bS_ hb; clear hb hbox hg) | ((with_reducible refine gate_dst (N := 3) rfl ?_); (try (refine gate_guard (by rfl) ?_; dsimp only)); refine bx_ 3 #[.slice A1_0 l1_0.length c1_0] 26 ?_; intro gb102 hg w5 hbox hb; have BK102 := aM (hbox); have GW102 := aM (bz_ w hg qz1); have GE102 := GW102; replace HB := bS_ hb; obtain ⟨NB101_102, NB102_101⟩ := nb_ hg (bk_ BK101.out); replace BK101 := bB_ BK101 hb; clear hb hbox hg; have hnb6 := NB101_102.out; have hnc6 := NB102_101.out; obtain ⟨hcz7_0, hfz7_0⟩ := bf_ BK101.out; obtain ⟨hcz8_0, hfz8_0⟩ := bf_ BK102.out)); try go_wp2_with (first | ((with_reducible refine gate_dst (N := 2) rfl ?_); (try (refine gate_guard (by rfl) ?_; dsimp only)); refine bx_ 2 #[.slice A0_0 l0_0.length c0_0] 26 ?_; intro gb101 hg w4 hbox hb; have BK101 := aM (hbox); have GW101 := aM (bz_ w hg qz1); have GE101 := GW101; replace HB := bS_ hb; clear hb hbox hg) | ((with_reducible refine gate_dst (N := 3) rfl ?_); (try (refine gate_guard (by rfl) ?_; dsimp only)); refine bx_ 3 #[.slice A1_0 l1_0.length c1_0] 26 ?_; intro gb102 hg w5 hbox hb; have BK102 := aM (hbox); have GW102 := aM (bz_ w hg qz1); have GE102 := GW102; replace HB := bS_ hb; obtain ⟨NB101_102, NB102_101⟩ := nb_ hg (bk_ BK101.out); replace BK101 := bB_ BK101 hb; clear hb hbox hg; have hnb6 := NB101_102.out; have hnc6 := NB102_101.out; obtain ⟨hcz7_0, hfz7_0⟩ := bf_ BK101.out; obtain ⟨hcz8_0, hfz8_0⟩ := bf_ BK102.out)))
 go_loopg [5] k (fun kq v5 w' => ∃ (x5_1 : Int), v5 = .int .i64 x5_1 ∧ Aside0 (laws_sameStock.l0 kq x5_1 l0_0 l1_0 = some r) ∧ Aside0 (kq ≤ k) ∧ Aside0 (w'.heap[gb101]? = some (.cells #[(.slice A0_0 l0_0.length c0_0)] 26 (0, 0))) ∧ Aside0 (w'.heap[gb102]? = some (.cells #[(.slice A1_0 l1_0.length c1_0)] 26 (0, 0))) ∧ Aside0 (Below w.heap.size w w'))
 case atStart => exact ⟨(0), qz5, H', ⟨Nat.le_refl _⟩, ⟨bk_ BK101.out⟩, ⟨bk_ BK102.out⟩, ⟨qz1⟩⟩
 case round =>
  clear H'
  try clear c1
  try clear p2
  try clear c3
  try clear c3b0
  try clear c3b1
  try clear c3b2
  try clear c6
  try clear hcz7_0 hfz7_0
  try clear hcz8_0 hfz8_0
  obtain ⟨x5_1, rfl, HA, HK1, BK101, BK102, HB⟩ := hrel
  cases gk with
  | zero => exact absurd HA.out (by simp [laws_sameStock.l0])
  | succ k1 =>
   have H := HA.out
   clear HA
   simp only [laws_sameStock.l0] at H
   by_cases c9 : x5_1 < (l0_0.length : Int)
   {
   rw [if_pos c9] at H
   have c9b0 := decide_eq_true c9
   clear c9
   by_cases c10 : 0 ≤ x5_1
   {
   rw [if_pos c10] at H
   have c10b0 := decide_eq_true c10
   clear c10
   by_cases c11 : x5_1 < (l1_0.length : Int)
   {
   rw [if_pos c11] at H
   have c11b0 := decide_eq_true c11
   clear c11
   have HC12 := aM H
   clear H
   have hnb13 := NB101_102.out
   have hnc13 := NB102_101.out
   obtain ⟨hcz14_0, hfz14_0⟩ := bf_ BK101.out
   have p103 : 0 ≤ (x5_1 : Int) := dt_
   have q103 : x5_1 < (l0_0.length : Int) := dt_
   obtain ⟨ad103, A103_2, c103_2, e103, hx103_0, hx103_1, hx103_2, hl103_2, hi103_2⟩ := at_T79 HR0_0.out x5_1 p103 q103
   cases e103
   replace hx103_0 := cB_ hx103_0
   replace hx103_1 := cB_ hx103_1
   replace hx103_2 := cB_ hx103_2
   have HR103_2 := aM hi103_2
   have HC103_2 := aM hl103_2
   clear hi103_2 hl103_2
   replace p103 := eq_true p103
   replace q103 := eq_true q103
   go_upto_region 8 with (first | ((with_reducible refine gate_dst (N := 6) rfl ?_); (try (refine gate_guard (by rfl) ?_; dsimp only)); refine bx_ 6 #[.int .i64 0, .int .i64 0, .slice none 0 0] 79 ?_; intro gb104 hg w15 hbox hb; have BK104 := aM (hbox); have GW104 := aM (bz_ w hg qz1); have GE104 := GW104; replace HB := bS_ hb; obtain ⟨NB101_104, NB104_101⟩ := nb_ hg (bk_ BK101.out); replace BK101 := bB_ BK101 hb; obtain ⟨NB102_104, NB104_102⟩ := nb_ hg (bk_ BK102.out); replace BK102 := bB_ BK102 hb; clear hb hbox hg; have hnb16 := NB104_101.out; have hnc16 := NB101_104.out; have hnb17 := NB104_102.out; have hnc17 := NB102_104.out; obtain ⟨hcz18_0, hcz18_1, hcz18_2, hfz18_0, hfz18_1, hfz18_2⟩ := b6_ BK104.out; obtain ⟨hcz19_0, hfz19_0⟩ := bf_ BK102.out; have p105 : 0 ≤ (x5_1 : Int) := dt_; have q105 : x5_1 < (l1_0.length : Int) := dt_; obtain ⟨ad105, A105_2, c105_2, e105, hx105_0, hx105_1, hx105_2, hl105_2, hi105_2⟩ := at_T79 HR1_0.out x5_1 p105 q105; cases e105; have hn105_0 : ad105.block ≠ gb104 := nf_ hx105_0 GW104.out; have hn105_1 : ad105.block ≠ gb104 := nf_ hx105_0 GW104.out; have hn105_2 : ad105.block ≠ gb104 := nf_ hx105_0 GW104.out; replace hx105_0 := cB_ hx105_0; replace hx105_1 := cB_ hx105_1; replace hx105_2 := cB_ hx105_2; have HR105_2 := aM hi105_2; have HC105_2 := aM hl105_2; clear hi105_2 hl105_2; replace hx105_0 := (cell_far (p := ⟨gb104, 0, none⟩) qz14 (.int .i64 ((rd_T79 l0_0 x5_1).f0))).trans hx105_0; replace hx105_1 := (cell_far (p := ⟨gb104, 0, none⟩) qz14 (.int .i64 ((rd_T79 l0_0 x5_1).f0))).trans hx105_1; replace hx105_2 := (cell_far (p := ⟨gb104, 0, none⟩) qz14 (.int .i64 ((rd_T79 l0_0 x5_1).f0))).trans hx105_2; replace hx105_0 := (cell_far (p := ⟨gb104, 1, none⟩) qz15 (.int .i64 ((rd_T79 l0_0 x5_1).f1))).trans hx105_0; replace hx105_1 := (cell_far (p := ⟨gb104, 1, none⟩) qz15 (.int .i64 ((rd_T79 l0_0 x5_1).f1))).trans hx105_1; replace hx105_2 := (cell_far (p := ⟨gb104, 1, none⟩) qz15 (.int .i64 ((rd_T79 l0_0 x5_1).f1))).trans hx105_2; replace hx105_0 := (cell_far (p := ⟨gb104, 2, none⟩) qz16 (.slice A103_2 ((rd_T79 l0_0 x5_1).f2).length c103_2)).trans hx105_0; replace hx105_1 := (cell_far (p := ⟨gb104, 2, none⟩) qz16 (.slice A103_2 ((rd_T79 l0_0 x5_1).f2).length c103_2)).trans hx105_1; replace hx105_2 := (cell_far (p := ⟨gb104, 2, none⟩) qz16 (.slice A103_2 ((rd_T79 l0_0 x5_1).f2).length c103_2)).trans hx105_2; (try have hy105_0 := fun (n_ : Nat) => (show (((((w15.drewN n_).setCell ⟨gb104, 0, none⟩ (.int .i64 ((rd_T79 l0_0 x5_1).f0))).setCell ⟨gb104, 1, none⟩ (.int .i64 ((rd_T79 l0_0 x5_1).f1))).setCell ⟨gb104, 2, none⟩ (.slice A103_2 ((rd_T79 l0_0 x5_1).f2).length c103_2))).cell? _ = some _ from hx105_0)); (try have hy105_1 := fun (n_ : Nat) => (show (((((w15.drewN n_).setCell ⟨gb104, 0, none⟩ (.int .i64 ((rd_T79 l0_0 x5_1).f0))).setCell ⟨gb104, 1, none⟩ (.int .i64 ((rd_T79 l0_0 x5_1).f1))).setCell ⟨gb104, 2, none⟩ (.slice A103_2 ((rd_T79 l0_0 x5_1).f2).length c103_2))).cell? _ = some _ from hx105_1)); (try have hy105_2 := fun (n_ : Nat) => (show (((((w15.drewN n_).setCell ⟨gb104, 0, none⟩ (.int .i64 ((rd_T79 l0_0 x5_1).f0))).setCell ⟨gb104, 1, none⟩ (.int .i64 ((rd_T79 l0_0 x5_1).f1))).setCell ⟨gb104, 2, none⟩ (.slice A103_2 ((rd_T79 l0_0 x5_1).f2).length c103_2))).cell? _ = some _ from hx105_2)); clear hn105_0 hn105_1 hn105_2; replace p105 := eq_true p105; replace q105 := eq_true q105) | ((with_reducible refine gate_dst (N := 7) rfl ?_); (try (refine gate_guard (by rfl) ?_; dsimp only)); refine bx_ 7 #[.int .i64 0, .int .i64 0, .slice none 0 0] 79 ?_; intro gb106 hg w20 hbox hb; have BK106 := aM (hbox); have GW106 := aM (bz_ w hg qz1); have GE106 := GW106; replace HB := bS_ hb; have NB101_106 := aM ((by rw [hg]; exact Nat.ne_of_lt (blk_lt (g := gb101) (o := .cells #[.slice (some ad103) l0_0.length c0_0] 26 (0, 0)) (bk2_ BK101.out)) : gb101 ≠ gb106)); have NB106_101 := aM ((by rw [hg]; exact Nat.ne_of_gt (blk_lt (g := gb101) (o := .cells #[.slice (some ad103) l0_0.length c0_0] 26 (0, 0)) (bk2_ BK101.out)) : gb106 ≠ gb101)); replace BK101 := aM (blk_below (g := gb101) (o := .cells #[.slice (some ad103) l0_0.length c0_0] 26 (0, 0)) (bk2_ BK101.out) hb); have NB102_106 := aM ((by rw [hg]; exact Nat.ne_of_lt (blk_lt (g := gb102) (o := .cells #[.slice (some ad105) l1_0.length c1_0] 26 (0, 0)) (bk2_ BK102.out)) : gb102 ≠ gb106)); have NB106_102 := aM ((by rw [hg]; exact Nat.ne_of_gt (blk_lt (g := gb102) (o := .cells #[.slice (some ad105) l1_0.length c1_0] 26 (0, 0)) (bk2_ BK102.out)) : gb106 ≠ gb102)); replace BK102 := aM (blk_below (g := gb102) (o := .cells #[.slice (some ad105) l1_0.length c1_0] 26 (0, 0)) (bk2_ BK102.out) hb); have NB104_106 := aM ((by rw [hg]; exact Nat.ne_of_lt (blk_lt (g := gb104) (o := .cells #[.int .i64 ((rd_T79 l0_0 x5_1).f0), .int .i64 ((rd_T79 l0_0 x5_1).f1), .slice A103_2 ((rd_T79 l0_0 x5_1).f2).length c103_2] 79 (0, 0)) (by (with_reducible repeat (first | refine blk_drewN ?_ _ | refine blk_drew ?_ | refine blk_alloc ?_ _)); refine blk_put (cs := #[.int .i64 ((rd_T79 l0_0 x5_1).f0), .int .i64 ((rd_T79 l0_0 x5_1).f1), .slice none 0 0]) ?_ 2 _ rfl; (with_reducible repeat (first | refine blk_drewN ?_ _ | refine blk_drew ?_ | refine blk_alloc ?_ _)); refine blk_put (cs := #[.int .i64 ((rd_T79 l0_0 x5_1).f0), .int .i64 0, .slice none 0 0]) ?_ 1 _ rfl; (with_reducible repeat (first | refine blk_drewN ?_ _ | refine blk_drew ?_ | refine blk_alloc ?_ _)); refine blk_put (cs := #[.int .i64 0, .int .i64 0, .slice none 0 0]) ?_ 0 _ rfl; exact bk_ BK104.out)) : gb104 ≠ gb106)); have NB106_104 := aM ((by rw [hg]; exact Nat.ne_of_gt (blk_lt (g := gb104) (o := .cells #[.int .i64 ((rd_T79 l0_0 x5_1).f0), .int .i64 ((rd_T79 l0_0 x5_1).f1), .slice A103_2 ((rd_T79 l0_0 x5_1).f2).length c103_2] 79 (0, 0)) (by (with_reducible repeat (first | refine blk_drewN ?_ _ | refine blk_drew ?_ | refine blk_alloc ?_ _)); refine blk_put (cs := #[.int .i64 ((rd_T79 l0_0 x5_1).f0), .int .i64 ((rd_T79 l0_0 x5_1).f1), .slice none 0 0]) ?_ 2 _ rfl; (with_reducible repeat (first | refine blk_drewN ?_ _ | refine blk_drew ?_ | refine blk_alloc ?_ _)); refine blk_put (cs := #[.int .i64 ((rd_T79 l0_0 x5_1).f0), .int .i64 0, .slice none 0 0]) ?_ 1 _ rfl; (with_reducible repeat (first | refine blk_drewN ?_ _ | refine blk_drew ?_ | refine blk_alloc ?_ _)); refine blk_put (cs := #[.int .i64 0, .int .i64 0, .slice none 0 0]) ?_ 0 _ rfl; exact bk_ BK104.out)) : gb106 ≠ gb104)); replace BK104 := aM (blk_below (g := gb104) (o := .cells #[.int .i64 ((rd_T79 l0_0 x5_1).f0), .int .i64 ((rd_T79 l0_0 x5_1).f1), .slice A103_2 ((rd_T79 l0_0 x5_1).f2).length c103_2] 79 (0, 0)) (by (with_reducible repeat (first | refine blk_drewN ?_ _ | refine blk_drew ?_ | refine blk_alloc ?_ _)); refine blk_put (cs := #[.int .i64 ((rd_T79 l0_0 x5_1).f0), .int .i64 ((rd_T79 l0_0 x5_1).f1), .slice none 0 0]) ?_ 2 _ rfl; (with_reducible repeat (first | refine blk_drewN ?_ _ | refine blk_drew ?_ | refine blk_alloc ?_ _)); refine blk_put (cs := #[.int .i64 ((rd_T79 l0_0 x5_1).f0), .int .i64 0, .slice none 0 0]) ?_ 1 _ rfl; (with_reducible repeat (first | refine blk_drewN ?_ _ | refine blk_drew ?_ | refine blk_alloc ?_ _)); refine blk_put (cs := #[.int .i64 0, .int .i64 0, .slice none 0 0]) ?_ 0 _ rfl; exact bk_ BK104.out) hb); clear hb hbox hg; have hnb21 := NB106_101.out; have hnc21 := NB101_106.out; have hnb22 := NB106_102.out; have hnc22 := NB102_106.out; have hnb23 := NB106_104.out; have hnc23 := NB104_106.out; obtain ⟨hcz24_0, hcz24_1, hcz24_2, hfz24_0, hfz24_1, hfz24_2⟩ := b6_ BK106.out))
   repeat (go_quiet (first | ((with_reducible refine gate_dst (N := 6) rfl ?_); (try (refine gate_guard (by rfl) ?_; dsimp only)); refine bx_ 6 #[.int .i64 0, .int .i64 0, .slice none 0 0] 79 ?_; intro gb104 hg w15 hbox hb; have BK104 := aM (hbox); have GW104 := aM (bz_ w hg qz1); have GE104 := GW104; replace HB := bS_ hb; obtain ⟨NB101_104, NB104_101⟩ := nb_ hg (bk_ BK101.out); replace BK101 := bB_ BK101 hb; obtain ⟨NB102_104, NB104_102⟩ := nb_ hg (bk_ BK102.out); replace BK102 := bB_ BK102 hb; clear hb hbox hg; have hnb16 := NB104_101.out; have hnc16 := NB101_104.out; have hnb17 := NB104_102.out; have hnc17 := NB102_104.out; obtain ⟨hcz18_0, hcz18_1, hcz18_2, hfz18_0, hfz18_1, hfz18_2⟩ := b6_ BK104.out; obtain ⟨hcz19_0, hfz19_0⟩ := bf_ BK102.out; have p105 : 0 ≤ (x5_1 : Int) := dt_; have q105 : x5_1 < (l1_0.length : Int) := dt_; obtain ⟨ad105, A105_2, c105_2, e105, hx105_0, hx105_1, hx105_2, hl105_2, hi105_2⟩ := at_T79 HR1_0.out x5_1 p105 q105; cases e105; have hn105_0 : ad105.block ≠ gb104 := nf_ hx105_0 GW104.out; have hn105_1 : ad105.block ≠ gb104 := nf_ hx105_0 GW104.out; have hn105_2 : ad105.block ≠ gb104 := nf_ hx105_0 GW104.out; replace hx105_0 := cB_ hx105_0; replace hx105_1 := cB_ hx105_1; replace hx105_2 := cB_ hx105_2; have HR105_2 := aM hi105_2; have HC105_2 := aM hl105_2; clear hi105_2 hl105_2; replace hx105_0 := (cell_far (p := ⟨gb104, 0, none⟩) qz14 (.int .i64 ((rd_T79 l0_0 x5_1).f0))).trans hx105_0; replace hx105_1 := (cell_far (p := ⟨gb104, 0, none⟩) qz14 (.int .i64 ((rd_T79 l0_0 x5_1).f0))).trans hx105_1; replace hx105_2 := (cell_far (p := ⟨gb104, 0, none⟩) qz14 (.int .i64 ((rd_T79 l0_0 x5_1).f0))).trans hx105_2; replace hx105_0 := (cell_far (p := ⟨gb104, 1, none⟩) qz15 (.int .i64 ((rd_T79 l0_0 x5_1).f1))).trans hx105_0; replace hx105_1 := (cell_far (p := ⟨gb104, 1, none⟩) qz15 (.int .i64 ((rd_T79 l0_0 x5_1).f1))).trans hx105_1; replace hx105_2 := (cell_far (p := ⟨gb104, 1, none⟩) qz15 (.int .i64 ((rd_T79 l0_0 x5_1).f1))).trans hx105_2; replace hx105_0 := (cell_far (p := ⟨gb104, 2, none⟩) qz16 (.slice A103_2 ((rd_T79 l0_0 x5_1).f2).length c103_2)).trans hx105_0; replace hx105_1 := (cell_far (p := ⟨gb104, 2, none⟩) qz16 (.slice A103_2 ((rd_T79 l0_0 x5_1).f2).length c103_2)).trans hx105_1; replace hx105_2 := (cell_far (p := ⟨gb104, 2, none⟩) qz16 (.slice A103_2 ((rd_T79 l0_0 x5_1).f2).length c103_2)).trans hx105_2; (try have hy105_0 := fun (n_ : Nat) => (show (((((w15.drewN n_).setCell ⟨gb104, 0, none⟩ (.int .i64 ((rd_T79 l0_0 x5_1).f0))).setCell ⟨gb104, 1, none⟩ (.int .i64 ((rd_T79 l0_0 x5_1).f1))).setCell ⟨gb104, 2, none⟩ (.slice A103_2 ((rd_T79 l0_0 x5_1).f2).length c103_2))).cell? _ = some _ from hx105_0)); (try have hy105_1 := fun (n_ : Nat) => (show (((((w15.drewN n_).setCell ⟨gb104, 0, none⟩ (.int .i64 ((rd_T79 l0_0 x5_1).f0))).setCell ⟨gb104, 1, none⟩ (.int .i64 ((rd_T79 l0_0 x5_1).f1))).setCell ⟨gb104, 2, none⟩ (.slice A103_2 ((rd_T79 l0_0 x5_1).f2).length c103_2))).cell? _ = some _ from hx105_1)); (try have hy105_2 := fun (n_ : Nat) => (show (((((w15.drewN n_).setCell ⟨gb104, 0, none⟩ (.int .i64 ((rd_T79 l0_0 x5_1).f0))).setCell ⟨gb104, 1, none⟩ (.int .i64 ((rd_T79 l0_0 x5_1).f1))).setCell ⟨gb104, 2, none⟩ (.slice A103_2 ((rd_T79 l0_0 x5_1).f2).length c103_2))).cell? _ = some _ from hx105_2)); clear hn105_0 hn105_1 hn105_2; replace p105 := eq_true p105; replace q105 := eq_true q105) | ((with_reducible refine gate_dst (N := 7) rfl ?_); (try (refine gate_guard (by rfl) ?_; dsimp only)); refine bx_ 7 #[.int .i64 0, .int .i64 0, .slice none 0 0] 79 ?_; intro gb106 hg w20 hbox hb; have BK106 := aM (hbox); have GW106 := aM (bz_ w hg qz1); have GE106 := GW106; replace HB := bS_ hb; have NB101_106 := aM ((by rw [hg]; exact Nat.ne_of_lt (blk_lt (g := gb101) (o := .cells #[.slice (some ad103) l0_0.length c0_0] 26 (0, 0)) (bk2_ BK101.out)) : gb101 ≠ gb106)); have NB106_101 := aM ((by rw [hg]; exact Nat.ne_of_gt (blk_lt (g := gb101) (o := .cells #[.slice (some ad103) l0_0.length c0_0] 26 (0, 0)) (bk2_ BK101.out)) : gb106 ≠ gb101)); replace BK101 := aM (blk_below (g := gb101) (o := .cells #[.slice (some ad103) l0_0.length c0_0] 26 (0, 0)) (bk2_ BK101.out) hb); have NB102_106 := aM ((by rw [hg]; exact Nat.ne_of_lt (blk_lt (g := gb102) (o := .cells #[.slice (some ad105) l1_0.length c1_0] 26 (0, 0)) (bk2_ BK102.out)) : gb102 ≠ gb106)); have NB106_102 := aM ((by rw [hg]; exact Nat.ne_of_gt (blk_lt (g := gb102) (o := .cells #[.slice (some ad105) l1_0.length c1_0] 26 (0, 0)) (bk2_ BK102.out)) : gb106 ≠ gb102)); replace BK102 := aM (blk_below (g := gb102) (o := .cells #[.slice (some ad105) l1_0.length c1_0] 26 (0, 0)) (bk2_ BK102.out) hb); have NB104_106 := aM ((by rw [hg]; exact Nat.ne_of_lt (blk_lt (g := gb104) (o := .cells #[.int .i64 ((rd_T79 l0_0 x5_1).f0), .int .i64 ((rd_T79 l0_0 x5_1).f1), .slice A103_2 ((rd_T79 l0_0 x5_1).f2).length c103_2] 79 (0, 0)) (by (with_reducible repeat (first | refine blk_drewN ?_ _ | refine blk_drew ?_ | refine blk_alloc ?_ _)); refine blk_put (cs := #[.int .i64 ((rd_T79 l0_0 x5_1).f0), .int .i64 ((rd_T79 l0_0 x5_1).f1), .slice none 0 0]) ?_ 2 _ rfl; (with_reducible repeat (first | refine blk_drewN ?_ _ | refine blk_drew ?_ | refine blk_alloc ?_ _)); refine blk_put (cs := #[.int .i64 ((rd_T79 l0_0 x5_1).f0), .int .i64 0, .slice none 0 0]) ?_ 1 _ rfl; (with_reducible repeat (first | refine blk_drewN ?_ _ | refine blk_drew ?_ | refine blk_alloc ?_ _)); refine blk_put (cs := #[.int .i64 0, .int .i64 0, .slice none 0 0]) ?_ 0 _ rfl; exact bk_ BK104.out)) : gb104 ≠ gb106)); have NB106_104 := aM ((by rw [hg]; exact Nat.ne_of_gt (blk_lt (g := gb104) (o := .cells #[.int .i64 ((rd_T79 l0_0 x5_1).f0), .int .i64 ((rd_T79 l0_0 x5_1).f1), .slice A103_2 ((rd_T79 l0_0 x5_1).f2).length c103_2] 79 (0, 0)) (by (with_reducible repeat (first | refine blk_drewN ?_ _ | refine blk_drew ?_ | refine blk_alloc ?_ _)); refine blk_put (cs := #[.int .i64 ((rd_T79 l0_0 x5_1).f0), .int .i64 ((rd_T79 l0_0 x5_1).f1), .slice none 0 0]) ?_ 2 _ rfl; (with_reducible repeat (first | refine blk_drewN ?_ _ | refine blk_drew ?_ | refine blk_alloc ?_ _)); refine blk_put (cs := #[.int .i64 ((rd_T79 l0_0 x5_1).f0), .int .i64 0, .slice none 0 0]) ?_ 1 _ rfl; (with_reducible repeat (first | refine blk_drewN ?_ _ | refine blk_drew ?_ | refine blk_alloc ?_ _)); refine blk_put (cs := #[.int .i64 0, .int .i64 0, .slice none 0 0]) ?_ 0 _ rfl; exact bk_ BK104.out)) : gb106 ≠ gb104)); replace BK104 := aM (blk_below (g := gb104) (o := .cells #[.int .i64 ((rd_T79 l0_0 x5_1).f0), .int .i64 ((rd_T79 l0_0 x5_1).f1), .slice A103_2 ((rd_T79 l0_0 x5_1).f2).length c103_2] 79 (0, 0)) (by (with_reducible repeat (first | refine blk_drewN ?_ _ | refine blk_drew ?_ | refine blk_alloc ?_ _)); refine blk_put (cs := #[.int .i64 ((rd_T79 l0_0 x5_1).f0), .int .i64 ((rd_T79 l0_0 x5_1).f1), .slice none 0 0]) ?_ 2 _ rfl; (with_reducible repeat (first | refine blk_drewN ?_ _ | refine blk_drew ?_ | refine blk_alloc ?_ _)); refine blk_put (cs := #[.int .i64 ((rd_T79 l0_0 x5_1).f0), .int .i64 0, .slice none 0 0]) ?_ 1 _ rfl; (with_reducible repeat (first | refine blk_drewN ?_ _ | refine blk_drew ?_ | refine blk_alloc ?_ _)); refine blk_put (cs := #[.int .i64 0, .int .i64 0, .slice none 0 0]) ?_ 0 _ rfl; exact bk_ BK104.out) hb); clear hb hbox hg; have hnb21 := NB106_101.out; have hnc21 := NB101_106.out; have hnb22 := NB106_102.out; have hnc22 := NB102_106.out; have hnb23 := NB106_104.out; have hnc23 := NB104_106.out; obtain ⟨hcz24_0, hcz24_1, hcz24_2, hfz24_0, hfz24_1, hfz24_2⟩ := b6_ BK106.out)); go_upto_region 8 with (first | ((with_reducible refine gate_dst (N := 6) rfl ?_); (try (refine gate_guard (by rfl) ?_; dsimp only)); refine bx_ 6 #[.int .i64 0, .int .i64 0, .slice none 0 0] 79 ?_; intro gb104 hg w15 hbox hb; have BK104 := aM (hbox); have GW104 := aM (bz_ w hg qz1); have GE104 := GW104; replace HB := bS_ hb; obtain ⟨NB101_104, NB104_101⟩ := nb_ hg (bk_ BK101.out); replace BK101 := bB_ BK101 hb; obtain ⟨NB102_104, NB104_102⟩ := nb_ hg (bk_ BK102.out); replace BK102 := bB_ BK102 hb; clear hb hbox hg; have hnb16 := NB104_101.out; have hnc16 := NB101_104.out; have hnb17 := NB104_102.out; have hnc17 := NB102_104.out; obtain ⟨hcz18_0, hcz18_1, hcz18_2, hfz18_0, hfz18_1, hfz18_2⟩ := b6_ BK104.out; obtain ⟨hcz19_0, hfz19_0⟩ := bf_ BK102.out; have p105 : 0 ≤ (x5_1 : Int) := dt_; have q105 : x5_1 < (l1_0.length : Int) := dt_; obtain ⟨ad105, A105_2, c105_2, e105, hx105_0, hx105_1, hx105_2, hl105_2, hi105_2⟩ := at_T79 HR1_0.out x5_1 p105 q105; cases e105; have hn105_0 : ad105.block ≠ gb104 := nf_ hx105_0 GW104.out; have hn105_1 : ad105.block ≠ gb104 := nf_ hx105_0 GW104.out; have hn105_2 : ad105.block ≠ gb104 := nf_ hx105_0 GW104.out; replace hx105_0 := cB_ hx105_0; replace hx105_1 := cB_ hx105_1; replace hx105_2 := cB_ hx105_2; have HR105_2 := aM hi105_2; have HC105_2 := aM hl105_2; clear hi105_2 hl105_2; replace hx105_0 := (cell_far (p := ⟨gb104, 0, none⟩) qz14 (.int .i64 ((rd_T79 l0_0 x5_1).f0))).trans hx105_0; replace hx105_1 := (cell_far (p := ⟨gb104, 0, none⟩) qz14 (.int .i64 ((rd_T79 l0_0 x5_1).f0))).trans hx105_1; replace hx105_2 := (cell_far (p := ⟨gb104, 0, none⟩) qz14 (.int .i64 ((rd_T79 l0_0 x5_1).f0))).trans hx105_2; replace hx105_0 := (cell_far (p := ⟨gb104, 1, none⟩) qz15 (.int .i64 ((rd_T79 l0_0 x5_1).f1))).trans hx105_0; replace hx105_1 := (cell_far (p := ⟨gb104, 1, none⟩) qz15 (.int .i64 ((rd_T79 l0_0 x5_1).f1))).trans hx105_1; replace hx105_2 := (cell_far (p := ⟨gb104, 1, none⟩) qz15 (.int .i64 ((rd_T79 l0_0 x5_1).f1))).trans hx105_2; replace hx105_0 := (cell_far (p := ⟨gb104, 2, none⟩) qz16 (.slice A103_2 ((rd_T79 l0_0 x5_1).f2).length c103_2)).trans hx105_0; replace hx105_1 := (cell_far (p := ⟨gb104, 2, none⟩) qz16 (.slice A103_2 ((rd_T79 l0_0 x5_1).f2).length c103_2)).trans hx105_1; replace hx105_2 := (cell_far (p := ⟨gb104, 2, none⟩) qz16 (.slice A103_2 ((rd_T79 l0_0 x5_1).f2).length c103_2)).trans hx105_2; (try have hy105_0 := fun (n_ : Nat) => (show (((((w15.drewN n_).setCell ⟨gb104, 0, none⟩ (.int .i64 ((rd_T79 l0_0 x5_1).f0))).setCell ⟨gb104, 1, none⟩ (.int .i64 ((rd_T79 l0_0 x5_1).f1))).setCell ⟨gb104, 2, none⟩ (.slice A103_2 ((rd_T79 l0_0 x5_1).f2).length c103_2))).cell? _ = some _ from hx105_0)); (try have hy105_1 := fun (n_ : Nat) => (show (((((w15.drewN n_).setCell ⟨gb104, 0, none⟩ (.int .i64 ((rd_T79 l0_0 x5_1).f0))).setCell ⟨gb104, 1, none⟩ (.int .i64 ((rd_T79 l0_0 x5_1).f1))).setCell ⟨gb104, 2, none⟩ (.slice A103_2 ((rd_T79 l0_0 x5_1).f2).length c103_2))).cell? _ = some _ from hx105_1)); (try have hy105_2 := fun (n_ : Nat) => (show (((((w15.drewN n_).setCell ⟨gb104, 0, none⟩ (.int .i64 ((rd_T79 l0_0 x5_1).f0))).setCell ⟨gb104, 1, none⟩ (.int .i64 ((rd_T79 l0_0 x5_1).f1))).setCell ⟨gb104, 2, none⟩ (.slice A103_2 ((rd_T79 l0_0 x5_1).f2).length c103_2))).cell? _ = some _ from hx105_2)); clear hn105_0 hn105_1 hn105_2; replace p105 := eq_true p105; replace q105 := eq_true q105) | ((with_reducible refine gate_dst (N := 7) rfl ?_); (try (refine gate_guard (by rfl) ?_; dsimp only)); refine bx_ 7 #[.int .i64 0, .int .i64 0, .slice none 0 0] 79 ?_; intro gb106 hg w20 hbox hb; have BK106 := aM (hbox); have GW106 := aM (bz_ w hg qz1); have GE106 := GW106; replace HB := bS_ hb; have NB101_106 := aM ((by rw [hg]; exact Nat.ne_of_lt (blk_lt (g := gb101) (o := .cells #[.slice (some ad103) l0_0.length c0_0] 26 (0, 0)) (bk2_ BK101.out)) : gb101 ≠ gb106)); have NB106_101 := aM ((by rw [hg]; exact Nat.ne_of_gt (blk_lt (g := gb101) (o := .cells #[.slice (some ad103) l0_0.length c0_0] 26 (0, 0)) (bk2_ BK101.out)) : gb106 ≠ gb101)); replace BK101 := aM (blk_below (g := gb101) (o := .cells #[.slice (some ad103) l0_0.length c0_0] 26 (0, 0)) (bk2_ BK101.out) hb); have NB102_106 := aM ((by rw [hg]; exact Nat.ne_of_lt (blk_lt (g := gb102) (o := .cells #[.slice (some ad105) l1_0.length c1_0] 26 (0, 0)) (bk2_ BK102.out)) : gb102 ≠ gb106)); have NB106_102 := aM ((by rw [hg]; exact Nat.ne_of_gt (blk_lt (g := gb102) (o := .cells #[.slice (some ad105) l1_0.length c1_0] 26 (0, 0)) (bk2_ BK102.out)) : gb106 ≠ gb102)); replace BK102 := aM (blk_below (g := gb102) (o := .cells #[.slice (some ad105) l1_0.length c1_0] 26 (0, 0)) (bk2_ BK102.out) hb); have NB104_106 := aM ((by rw [hg]; exact Nat.ne_of_lt (blk_lt (g := gb104) (o := .cells #[.int .i64 ((rd_T79 l0_0 x5_1).f0), .int .i64 ((rd_T79 l0_0 x5_1).f1), .slice A103_2 ((rd_T79 l0_0 x5_1).f2).length c103_2] 79 (0, 0)) (by (with_reducible repeat (first | refine blk_drewN ?_ _ | refine blk_drew ?_ | refine blk_alloc ?_ _)); refine blk_put (cs := #[.int .i64 ((rd_T79 l0_0 x5_1).f0), .int .i64 ((rd_T79 l0_0 x5_1).f1), .slice none 0 0]) ?_ 2 _ rfl; (with_reducible repeat (first | refine blk_drewN ?_ _ | refine blk_drew ?_ | refine blk_alloc ?_ _)); refine blk_put (cs := #[.int .i64 ((rd_T79 l0_0 x5_1).f0), .int .i64 0, .slice none 0 0]) ?_ 1 _ rfl; (with_reducible repeat (first | refine blk_drewN ?_ _ | refine blk_drew ?_ | refine blk_alloc ?_ _)); refine blk_put (cs := #[.int .i64 0, .int .i64 0, .slice none 0 0]) ?_ 0 _ rfl; exact bk_ BK104.out)) : gb104 ≠ gb106)); have NB106_104 := aM ((by rw [hg]; exact Nat.ne_of_gt (blk_lt (g := gb104) (o := .cells #[.int .i64 ((rd_T79 l0_0 x5_1).f0), .int .i64 ((rd_T79 l0_0 x5_1).f1), .slice A103_2 ((rd_T79 l0_0 x5_1).f2).length c103_2] 79 (0, 0)) (by (with_reducible repeat (first | refine blk_drewN ?_ _ | refine blk_drew ?_ | refine blk_alloc ?_ _)); refine blk_put (cs := #[.int .i64 ((rd_T79 l0_0 x5_1).f0), .int .i64 ((rd_T79 l0_0 x5_1).f1), .slice none 0 0]) ?_ 2 _ rfl; (with_reducible repeat (first | refine blk_drewN ?_ _ | refine blk_drew ?_ | refine blk_alloc ?_ _)); refine blk_put (cs := #[.int .i64 ((rd_T79 l0_0 x5_1).f0), .int .i64 0, .slice none 0 0]) ?_ 1 _ rfl; (with_reducible repeat (first | refine blk_drewN ?_ _ | refine blk_drew ?_ | refine blk_alloc ?_ _)); refine blk_put (cs := #[.int .i64 0, .int .i64 0, .slice none 0 0]) ?_ 0 _ rfl; exact bk_ BK104.out)) : gb106 ≠ gb104)); replace BK104 := aM (blk_below (g := gb104) (o := .cells #[.int .i64 ((rd_T79 l0_0 x5_1).f0), .int .i64 ((rd_T79 l0_0 x5_1).f1), .slice A103_2 ((rd_T79 l0_0 x5_1).f2).length c103_2] 79 (0, 0)) (by (with_reducible repeat (first | refine blk_drewN ?_ _ | refine blk_drew ?_ | refine blk_alloc ?_ _)); refine blk_put (cs := #[.int .i64 ((rd_T79 l0_0 x5_1).f0), .int .i64 ((rd_T79 l0_0 x5_1).f1), .slice none 0 0]) ?_ 2 _ rfl; (with_reducible repeat (first | refine blk_drewN ?_ _ | refine blk_drew ?_ | refine blk_alloc ?_ _)); refine blk_put (cs := #[.int .i64 ((rd_T79 l0_0 x5_1).f0), .int .i64 0, .slice none 0 0]) ?_ 1 _ rfl; (with_reducible repeat (first | refine blk_drewN ?_ _ | refine blk_drew ?_ | refine blk_alloc ?_ _)); refine blk_put (cs := #[.int .i64 0, .int .i64 0, .slice none 0 0]) ?_ 0 _ rfl; exact bk_ BK104.out) hb); clear hb hbox hg; have hnb21 := NB106_101.out; have hnc21 := NB101_106.out; have hnb22 := NB106_102.out; have hnc22 := NB102_106.out; have hnb23 := NB106_104.out; have hnc23 := NB104_106.out; obtain ⟨hcz24_0, hcz24_1, hcz24_2, hfz24_0, hfz24_1, hfz24_2⟩ := b6_ BK106.out)))
   (try simp only [Act.put, List.setIfInBounds_toArray, List.set_cons_zero, List.set_cons_succ])
   go_cut [53] (fun v53 wc => ∃ (kq : Nat) (x53_11 : Bool), v53 = .bool x53_11 ∧ Aside0 (laws_sameStock.j1 kq x5_1 x53_11 l0_0 l1_0 ((rd_T79 l0_0 x5_1).f0) ((rd_T79 l0_0 x5_1).f1) ((rd_T79 l0_0 x5_1).f2) ((rd_T79 l1_0 x5_1).f0) ((rd_T79 l1_0 x5_1).f1) ((rd_T79 l1_0 x5_1).f2) = some r) ∧ Aside0 (kq ≤ k1) ∧ Aside0 (wc.heap[gb101]? = some (.cells #[(.slice (some ad103) l0_0.length c0_0)] 26 (0, 0))) ∧ Aside0 (wc.heap[gb102]? = some (.cells #[(.slice (some ad105) l1_0.length c1_0)] 26 (0, 0))) ∧ Aside0 (wc.heap[gb104]? = some (.cells #[.int .i64 ((rd_T79 l0_0 x5_1).f0), .int .i64 ((rd_T79 l0_0 x5_1).f1), (.slice A103_2 ((rd_T79 l0_0 x5_1).f2).length c103_2)] 79 (0, 0))) ∧ Aside0 (wc.heap[gb106]? = some (.cells #[.int .i64 ((rd_T79 l1_0 x5_1).f0), .int .i64 ((rd_T79 l1_0 x5_1).f1), (.slice A105_2 ((rd_T79 l1_0 x5_1).f2).length c105_2)] 79 (0, 0))) ∧ Aside0 (Below w.heap.size w wc))
   case first =>
    have H := HC12.out
    clear HC12
    by_cases c25 : ((rd_T79 l0_0 x5_1).f0) = ((rd_T79 l1_0 x5_1).f0)
    {
    rw [if_pos c25] at H
    have c25b0 := beq_iff_eq.mpr c25
    have c25b1 := bne_eq_false_iff_eq.mpr c25
    clear c25
    (first | rw [c25b0] | (simp only [i64_w, i32_w]; rw [c25b0]) | rw [@decide_eq_true _ _ (of_decide_eq_true c25b0)] | rw [@decide_eq_true _ _ (of_decide_eq_true c25b1)] | skip)
    by_cases c26 : ((rd_T79 l0_0 x5_1).f1) = ((rd_T79 l1_0 x5_1).f1)
    {
    rw [if_pos c26] at H
    have c26b0 := beq_iff_eq.mpr c26
    have c26b1 := bne_eq_false_iff_eq.mpr c26
    clear c26
    have H' := aM H
    clear H
    have hnb27 := NB104_101.out
    have hnc27 := NB101_104.out
    have hnb28 := NB104_102.out
    have hnc28 := NB102_104.out
    have hnb29 := NB104_106.out
    have hnc29 := NB106_104.out
    obtain ⟨hcz30_0, hcz30_1, hcz30_2, hfz30_0, hfz30_1, hfz30_2⟩ := b6_ BK104.out
    have hnb31 := NB106_101.out
    have hnc31 := NB101_106.out
    have hnb32 := NB106_102.out
    have hnc32 := NB102_106.out
    obtain ⟨hcz33_0, hcz33_1, hcz33_2, hfz33_0, hfz33_1, hfz33_2⟩ := b6_ BK106.out
    go_wp2
    repeat (go_quiet (fail); try go_wp2)
    go_meet
    case rel => exact ⟨_, (((((rd_T79 l0_0 x5_1).f2).length : Int) != (((rd_T79 l1_0 x5_1).f2).length : Int))), qz5, H', ⟨by have := HK1.out; first | omega | exact Nat.le_refl _⟩, ⟨by (with_reducible repeat (first | refine blk_drewN ?_ _ | refine blk_drew ?_ | refine blk_alloc ?_ _)); refine blk_far ?_ NB101_106.out _; (with_reducible repeat (first | refine blk_drewN ?_ _ | refine blk_drew ?_ | refine blk_alloc ?_ _)); refine blk_far ?_ NB101_106.out _; (with_reducible repeat (first | refine blk_drewN ?_ _ | refine blk_drew ?_ | refine blk_alloc ?_ _)); refine blk_far ?_ NB101_106.out _; exact bk_ BK101.out⟩, ⟨by (with_reducible repeat (first | refine blk_drewN ?_ _ | refine blk_drew ?_ | refine blk_alloc ?_ _)); refine blk_far ?_ NB102_106.out _; (with_reducible repeat (first | refine blk_drewN ?_ _ | refine blk_drew ?_ | refine blk_alloc ?_ _)); refine blk_far ?_ NB102_106.out _; (with_reducible repeat (first | refine blk_drewN ?_ _ | refine blk_drew ?_ | refine blk_alloc ?_ _)); refine blk_far ?_ NB102_106.out _; exact bk_ BK102.out⟩, ⟨by (with_reducible repeat (first | refine blk_drewN ?_ _ | refine blk_drew ?_ | refine blk_alloc ?_ _)); refine blk_far ?_ NB104_106.out _; (with_reducible repeat (first | refine blk_drewN ?_ _ | refine blk_drew ?_ | refine blk_alloc ?_ _)); refine blk_far ?_ NB104_106.out _; (with_reducible repeat (first | refine blk_drewN ?_ _ | refine blk_drew ?_ | refine blk_alloc ?_ _)); refine blk_far ?_ NB104_106.out _; exact bk_ BK104.out⟩, ⟨by (with_reducible repeat (first | refine blk_drewN ?_ _ | refine blk_drew ?_ | refine blk_alloc ?_ _)); refine blk_put (cs := #[.int .i64 ((rd_T79 l1_0 x5_1).f0), .int .i64 ((rd_T79 l1_0 x5_1).f1), .slice none 0 0]) ?_ 2 _ rfl; (with_reducible repeat (first | refine blk_drewN ?_ _ | refine blk_drew ?_ | refine blk_alloc ?_ _)); refine blk_put (cs := #[.int .i64 ((rd_T79 l1_0 x5_1).f0), .int .i64 0, .slice none 0 0]) ?_ 1 _ rfl; (with_reducible repeat (first | refine blk_drewN ?_ _ | refine blk_drew ?_ | refine blk_alloc ?_ _)); refine blk_put (cs := #[.int .i64 0, .int .i64 0, .slice none 0 0]) ?_ 0 _ rfl; exact bk_ BK106.out⟩, ⟨qz1⟩⟩
    }
    {
    rw [if_neg c26] at H
    have c26b0 := beq_eq_false_iff_ne.mpr c26
    have c26b1 := bne_iff_ne.mpr c26
    have H' := aM H
    clear H
    have hnb34 := NB104_101.out
    have hnc34 := NB101_104.out
    have hnb35 := NB104_102.out
    have hnc35 := NB102_104.out
    have hnb36 := NB104_106.out
    have hnc36 := NB106_104.out
    obtain ⟨hcz37_0, hcz37_1, hcz37_2, hfz37_0, hfz37_1, hfz37_2⟩ := b6_ BK104.out
    have hnb38 := NB106_101.out
    have hnc38 := NB101_106.out
    have hnb39 := NB106_102.out
    have hnc39 := NB102_106.out
    obtain ⟨hcz40_0, hcz40_1, hcz40_2, hfz40_0, hfz40_1, hfz40_2⟩ := b6_ BK106.out
    go_wp2
    repeat (go_quiet (fail); try go_wp2)
    go_meet
    case rel => exact ⟨_, (true), qz5, H', ⟨by have := HK1.out; first | omega | exact Nat.le_refl _⟩, ⟨by (with_reducible repeat (first | refine blk_drewN ?_ _ | refine blk_drew ?_ | refine blk_alloc ?_ _)); refine blk_far ?_ NB101_106.out _; (with_reducible repeat (first | refine blk_drewN ?_ _ | refine blk_drew ?_ | refine blk_alloc ?_ _)); refine blk_far ?_ NB101_106.out _; (with_reducible repeat (first | refine blk_drewN ?_ _ | refine blk_drew ?_ | refine blk_alloc ?_ _)); refine blk_far ?_ NB101_106.out _; exact bk_ BK101.out⟩, ⟨by (with_reducible repeat (first | refine blk_drewN ?_ _ | refine blk_drew ?_ | refine blk_alloc ?_ _)); refine blk_far ?_ NB102_106.out _; (with_reducible repeat (first | refine blk_drewN ?_ _ | refine blk_drew ?_ | refine blk_alloc ?_ _)); refine blk_far ?_ NB102_106.out _; (with_reducible repeat (first | refine blk_drewN ?_ _ | refine blk_drew ?_ | refine blk_alloc ?_ _)); refine blk_far ?_ NB102_106.out _; exact bk_ BK102.out⟩, ⟨by (with_reducible repeat (first | refine blk_drewN ?_ _ | refine blk_drew ?_ | refine blk_alloc ?_ _)); refine blk_far ?_ NB104_106.out _; (with_reducible repeat (first | refine blk_drewN ?_ _ | refine blk_drew ?_ | refine blk_alloc ?_ _)); refine blk_far ?_ NB104_106.out _; (with_reducible repeat (first | refine blk_drewN ?_ _ | refine blk_drew ?_ | refine blk_alloc ?_ _)); refine blk_far ?_ NB104_106.out _; exact bk_ BK104.out⟩, ⟨by (with_reducible repeat (first | refine blk_drewN ?_ _ | refine blk_drew ?_ | refine blk_alloc ?_ _)); refine blk_put (cs := #[.int .i64 ((rd_T79 l1_0 x5_1).f0), .int .i64 ((rd_T79 l1_0 x5_1).f1), .slice none 0 0]) ?_ 2 _ rfl; (with_reducible repeat (first | refine blk_drewN ?_ _ | refine blk_drew ?_ | refine blk_alloc ?_ _)); refine blk_put (cs := #[.int .i64 ((rd_T79 l1_0 x5_1).f0), .int .i64 0, .slice none 0 0]) ?_ 1 _ rfl; (with_reducible repeat (first | refine blk_drewN ?_ _ | refine blk_drew ?_ | refine blk_alloc ?_ _)); refine blk_put (cs := #[.int .i64 0, .int .i64 0, .slice none 0 0]) ?_ 0 _ rfl; exact bk_ BK106.out⟩, ⟨qz1⟩⟩
    }
    }
    {
    rw [if_neg c25] at H
    have c25b0 := beq_eq_false_iff_ne.mpr c25
    have c25b1 := bne_iff_ne.mpr c25
    (first | rw [c25b0] | (simp only [i64_w, i32_w]; rw [c25b0]) | rw [@decide_eq_false _ _ (of_decide_eq_false c25b0)] | rw [@decide_eq_false _ _ (of_decide_eq_false c25b1)] | skip)
    have H' := aM H
    clear H
    have hnb41 := NB104_101.out
    have hnc41 := NB101_104.out
    have hnb42 := NB104_102.out
    have hnc42 := NB102_104.out
    have hnb43 := NB104_106.out
    have hnc43 := NB106_104.out
    obtain ⟨hcz44_0, hcz44_1, hcz44_2, hfz44_0, hfz44_1, hfz44_2⟩ := b6_ BK104.out
    have hnb45 := NB106_101.out
    have hnc45 := NB101_106.out
    have hnb46 := NB106_102.out
    have hnc46 := NB102_106.out
    obtain ⟨hcz47_0, hcz47_1, hcz47_2, hfz47_0, hfz47_1, hfz47_2⟩ := b6_ BK106.out
    go_wp2
    repeat (go_quiet (fail); try go_wp2)
    go_meet
    case rel => exact ⟨_, (true), qz5, H', ⟨by have := HK1.out; first | omega | exact Nat.le_refl _⟩, ⟨by (with_reducible repeat (first | refine blk_drewN ?_ _ | refine blk_drew ?_ | refine blk_alloc ?_ _)); refine blk_far ?_ NB101_106.out _; (with_reducible repeat (first | refine blk_drewN ?_ _ | refine blk_drew ?_ | refine blk_alloc ?_ _)); refine blk_far ?_ NB101_106.out _; (with_reducible repeat (first | refine blk_drewN ?_ _ | refine blk_drew ?_ | refine blk_alloc ?_ _)); refine blk_far ?_ NB101_106.out _; exact bk_ BK101.out⟩, ⟨by (with_reducible repeat (first | refine blk_drewN ?_ _ | refine blk_drew ?_ | refine blk_alloc ?_ _)); refine blk_far ?_ NB102_106.out _; (with_reducible repeat (first | refine blk_drewN ?_ _ | refine blk_drew ?_ | refine blk_alloc ?_ _)); refine blk_far ?_ NB102_106.out _; (with_reducible repeat (first | refine blk_drewN ?_ _ | refine blk_drew ?_ | refine blk_alloc ?_ _)); refine blk_far ?_ NB102_106.out _; exact bk_ BK102.out⟩, ⟨by (with_reducible repeat (first | refine blk_drewN ?_ _ | refine blk_drew ?_ | refine blk_alloc ?_ _)); refine blk_far ?_ NB104_106.out _; (with_reducible repeat (first | refine blk_drewN ?_ _ | refine blk_drew ?_ | refine blk_alloc ?_ _)); refine blk_far ?_ NB104_106.out _; (with_reducible repeat (first | refine blk_drewN ?_ _ | refine blk_drew ?_ | refine blk_alloc ?_ _)); refine blk_far ?_ NB104_106.out _; exact bk_ BK104.out⟩, ⟨by (with_reducible repeat (first | refine blk_drewN ?_ _ | refine blk_drew ?_ | refine blk_alloc ?_ _)); refine blk_put (cs := #[.int .i64 ((rd_T79 l1_0 x5_1).f0), .int .i64 ((rd_T79 l1_0 x5_1).f1), .slice none 0 0]) ?_ 2 _ rfl; (with_reducible repeat (first | refine blk_drewN ?_ _ | refine blk_drew ?_ | refine blk_alloc ?_ _)); refine blk_put (cs := #[.int .i64 ((rd_T79 l1_0 x5_1).f0), .int .i64 0, .slice none 0 0]) ?_ 1 _ rfl; (with_reducible repeat (first | refine blk_drewN ?_ _ | refine blk_drew ?_ | refine blk_alloc ?_ _)); refine blk_put (cs := #[.int .i64 0, .int .i64 0, .slice none 0 0]) ?_ 0 _ rfl; exact bk_ BK106.out⟩, ⟨qz1⟩⟩
    }
   case rest =>
    clear HC12
    try clear c1
    try clear p1
    try clear q1
    try clear hx1
    try clear c2
    try clear p2
    try clear c3
    try clear c3b0
    try clear c3b1
    try clear c3b2
    try clear c4
    try clear c6
    try clear c9
    try clear c9b0
    try clear c10
    try clear c10b0
    try clear p10
    try clear q10
    try clear hx10
    try clear c11
    try clear c11b0
    try clear c13
    try clear c16
    try clear c17
    try clear c19
    try clear c21
    try clear c22
    try clear c23
    try clear c25
    try clear c25b0
    try clear c25b1
    try clear c26
    try clear c26b0
    try clear c26b1
    try clear c27
    try clear c28
    try clear c29
    try clear c31
    try clear c32
    try clear c34
    try clear c35
    try clear c36
    try clear c38
    try clear c39
    try clear c41
    try clear c42
    try clear c43
    try clear c45
    try clear c46
    try clear hcz14_0 hfz14_0
    try clear hcz18_0 hcz18_1 hcz18_2 hfz18_0 hfz18_1 hfz18_2
    try clear hcz19_0 hfz19_0
    try clear hcz24_0 hcz24_1 hcz24_2 hfz24_0 hfz24_1 hfz24_2
    try clear hcz30_0 hcz30_1 hcz30_2 hfz30_0 hfz30_1 hfz30_2
    try clear hcz33_0 hcz33_1 hcz33_2 hfz33_0 hfz33_1 hfz33_2
    try clear hcz37_0 hcz37_1 hcz37_2 hfz37_0 hfz37_1 hfz37_2
    try clear hcz40_0 hcz40_1 hcz40_2 hfz40_0 hfz40_1 hfz40_2
    try clear hcz44_0 hcz44_1 hcz44_2 hfz44_0 hfz44_1 hfz44_2
    try clear hcz47_0 hcz47_1 hcz47_2 hfz47_0 hfz47_1 hfz47_2
    try clear hcz7_0 hfz7_0
    try clear hcz8_0 hfz8_0
    try clear hx103_0
    try clear hx103_1
    try clear hx103_2
    try clear hx105_0
    try clear hx105_1
    try clear hx105_2
    try clear p103
    try clear p105
    try clear q103
    try clear q105
    obtain ⟨kq, x53_11, rfl, HA, HJ11, BK101, BK102, BK104, BK106, HB⟩ := hcut
    cases kq with
    | zero => exact absurd HA.out (by simp [laws_sameStock.j1])
    | succ kj11 =>
     have H := HA.out
     clear HA
     simp only [laws_sameStock.j1] at H
     by_cases c48 : x53_11 = true
     {
     subst c48
     rw [if_pos rfl] at H
     obtain rfl := Option.some.inj H
     exact absurd HTR_.out (by decide)
     }
     {
     replace c48 := Bool.eq_false_iff.mpr c48
     subst c48
     rw [if_neg (show ¬ (false = true) by decide)] at H
     have H' := aM H
     clear H
     go_wp2
     repeat (go_quiet (fail); try go_wp2)
     go_loopg [8] kj11 (fun kq v8 w' => ∃ (x8_3 : Int), v8 = .int .i64 x8_3 ∧ Aside0 (laws_sameStock.l1 kq x5_1 x8_3 l0_0 l1_0 ((rd_T79 l0_0 x5_1).f0) ((rd_T79 l0_0 x5_1).f1) ((rd_T79 l0_0 x5_1).f2) ((rd_T79 l1_0 x5_1).f0) ((rd_T79 l1_0 x5_1).f1) ((rd_T79 l1_0 x5_1).f2) = some r) ∧ Aside0 (kq ≤ kj11) ∧ Aside0 (w'.heap[gb101]? = some (.cells #[(.slice (some ad103) l0_0.length c0_0)] 26 (0, 0))) ∧ Aside0 (w'.heap[gb102]? = some (.cells #[(.slice (some ad105) l1_0.length c1_0)] 26 (0, 0))) ∧ Aside0 (w'.heap[gb104]? = some (.cells #[.int .i64 ((rd_T79 l0_0 x5_1).f0), .int .i64 ((rd_T79 l0_0 x5_1).f1), (.slice A103_2 ((rd_T79 l0_0 x5_1).f2).length c103_2)] 79 (0, 0))) ∧ Aside0 (w'.heap[gb106]? = some (.cells #[.int .i64 ((rd_T79 l1_0 x5_1).f0), .int .i64 ((rd_T79 l1_0 x5_1).f1), (.slice A105_2 ((rd_T79 l1_0 x5_1).f2).length c105_2)] 79 (0, 0))) ∧ Aside0 (Below w.heap.size w w'))
     case atStart => exact ⟨(0), qz5, H', ⟨Nat.le_refl _⟩, ⟨bk_ BK101.out⟩, ⟨bk_ BK102.out⟩, ⟨bk_ BK104.out⟩, ⟨bk_ BK106.out⟩, ⟨qz1⟩⟩
     case round =>
      clear H'
      try clear c1
      try clear p1
      try clear q1
      try clear hx1
      try clear c2
      try clear p2
      try clear c3
      try clear c3b0
      try clear c3b1
      try clear c3b2
      try clear c4
      try clear c6
      try clear c9
      try clear c9b0
      try clear c10
      try clear c10b0
      try clear p10
      try clear q10
      try clear hx10
      try clear c11
      try clear c11b0
      try clear c13
      try clear c16
      try clear c17
      try clear c19
      try clear c21
      try clear c22
      try clear c23
      try clear c25
      try clear c25b0
      try clear c25b1
      try clear c26
      try clear c26b0
      try clear c26b1
      try clear c27
      try clear c28
      try clear c29
      try clear c31
      try clear c32
      try clear c34
      try clear c35
      try clear c36
      try clear c38
      try clear c39
      try clear c41
      try clear c42
      try clear c43
      try clear c45
      try clear c46
      try clear c48
      try clear hcz14_0 hfz14_0
      try clear hcz18_0 hcz18_1 hcz18_2 hfz18_0 hfz18_1 hfz18_2
      try clear hcz19_0 hfz19_0
      try clear hcz24_0 hcz24_1 hcz24_2 hfz24_0 hfz24_1 hfz24_2
      try clear hcz30_0 hcz30_1 hcz30_2 hfz30_0 hfz30_1 hfz30_2
      try clear hcz33_0 hcz33_1 hcz33_2 hfz33_0 hfz33_1 hfz33_2
      try clear hcz37_0 hcz37_1 hcz37_2 hfz37_0 hfz37_1 hfz37_2
      try clear hcz40_0 hcz40_1 hcz40_2 hfz40_0 hfz40_1 hfz40_2
      try clear hcz44_0 hcz44_1 hcz44_2 hfz44_0 hfz44_1 hfz44_2
      try clear hcz47_0 hcz47_1 hcz47_2 hfz47_0 hfz47_1 hfz47_2
      try clear hcz7_0 hfz7_0
      try clear hcz8_0 hfz8_0
      try clear hx103_0
      try clear hx103_1
      try clear hx103_2
      try clear hx105_0
      try clear hx105_1
      try clear hx105_2
      try clear p103
      try clear p105
      try clear q103
      try clear q105
      obtain ⟨x8_3, rfl, HA, HK3, BK101, BK102, BK104, BK106, HB⟩ := hrel
      cases gk with
      | zero => exact absurd HA.out (by simp [laws_sameStock.l1])
      | succ k3 =>
       have H := HA.out
       clear HA
       simp only [laws_sameStock.l1] at H
       by_cases c49 : x8_3 < (((rd_T79 l0_0 x5_1).f2).length : Int)
       {
       rw [if_pos c49] at H
       have c49b0 := decide_eq_true c49
       clear c49
       by_cases c50 : 0 ≤ x8_3
       {
       rw [if_pos c50] at H
       have c50b0 := decide_eq_true c50
       clear c50
       by_cases c51 : x8_3 < (((rd_T79 l1_0 x5_1).f2).length : Int)
       {
       rw [if_pos c51] at H
       have c51b0 := decide_eq_true c51
       clear c51
       by_cases c52 : (!(((rd_T72 ((rd_T79 l0_0 x5_1).f2) x8_3).f0) == ((rd_T72 ((rd_T79 l1_0 x5_1).f2) x8_3).f0)) || (!(((rd_T72 ((rd_T79 l0_0 x5_1).f2) x8_3).f1) == ((rd_T72 ((rd_T79 l1_0 x5_1).f2) x8_3).f1)) || (!(((rd_T72 ((rd_T79 l0_0 x5_1).f2) x8_3).f2) == ((rd_T72 ((rd_T79 l1_0 x5_1).f2) x8_3).f2))))) = true
       {
       rw [if_pos c52] at H
       have c52b0 : (!(((rd_T72 ((rd_T79 l0_0 x5_1).f2) x8_3).f0) == ((rd_T72 ((rd_T79 l1_0 x5_1).f2) x8_3).f0)) || (!(((rd_T72 ((rd_T79 l0_0 x5_1).f2) x8_3).f1) == ((rd_T72 ((rd_T79 l1_0 x5_1).f2) x8_3).f1)) || (!(((rd_T72 ((rd_T79 l0_0 x5_1).f2) x8_3).f2) == ((rd_T72 ((rd_T79 l1_0 x5_1).f2) x8_3).f2))))) = true := c52
       clear c52
       obtain rfl := Option.some.inj H
       exact absurd HTR_.out (by decide)
       }
       {
       rw [if_neg c52] at H
       have c52b0 : (!(((rd_T72 ((rd_T79 l0_0 x5_1).f2) x8_3).f0) == ((rd_T72 ((rd_T79 l1_0 x5_1).f2) x8_3).f0)) || (!(((rd_T72 ((rd_T79 l0_0 x5_1).f2) x8_3).f1) == ((rd_T72 ((rd_T79 l1_0 x5_1).f2) x8_3).f1)) || (!(((rd_T72 ((rd_T79 l0_0 x5_1).f2) x8_3).f2) == ((rd_T72 ((rd_T79 l1_0 x5_1).f2) x8_3).f2))))) = false := by simpa using c52
       clear c52
       have H' := aM H
       clear H
       have hnb53 := NB104_101.out
       have hnc53 := NB101_104.out
       have hnb54 := NB104_102.out
       have hnc54 := NB102_104.out
       have hnb55 := NB104_106.out
       have hnc55 := NB106_104.out
       obtain ⟨hcz56_0, hcz56_1, hcz56_2, hfz56_0, hfz56_1, hfz56_2⟩ := b6_ BK104.out
       have p107 : 0 ≤ (x8_3 : Int) := dt_
       have q107 : x8_3 < (((rd_T79 l0_0 x5_1).f2).length : Int) := dt_
       obtain ⟨ad107, e107, hx107_0, hx107_1, hx107_2⟩ := at_T72 HR103_2.out x8_3 p107 q107
       cases e107
       replace hx107_0 := cB_ hx107_0
       replace hx107_1 := cB_ hx107_1
       replace hx107_2 := cB_ hx107_2
       replace p107 := eq_true p107
       replace q107 := eq_true q107
       have hnb57 := NB106_101.out
       have hnc57 := NB101_106.out
       have hnb58 := NB106_102.out
       have hnc58 := NB102_106.out
       obtain ⟨hcz59_0, hcz59_1, hcz59_2, hfz59_0, hfz59_1, hfz59_2⟩ := b6_ BK106.out
       have p108 : 0 ≤ (x8_3 : Int) := dt_
       have q108 : x8_3 < (((rd_T79 l1_0 x5_1).f2).length : Int) := dt_
       obtain ⟨ad108, e108, hx108_0, hx108_1, hx108_2⟩ := at_T72 HR105_2.out x8_3 p108 q108
       cases e108
       replace hx108_0 := cB_ hx108_0
       replace hx108_1 := cB_ hx108_1
       replace hx108_2 := cB_ hx108_2
       replace p108 := eq_true p108
       replace q108 := eq_true q108
       go_wp2
       repeat (go_quiet (fail); try go_wp2)
       go_roundg k3
       case measure => have := HK1.out; have := HJ11.out; have := HK3.out; omega
       case rel => exact ⟨(wrap64 (x8_3 + 1)), qz5, H', ⟨by have := HK1.out; have := HJ11.out; have := HK3.out; omega⟩, ⟨bk_ BK101.out⟩, ⟨bk_ BK102.out⟩, ⟨bk_ BK104.out⟩, ⟨bk_ BK106.out⟩, ⟨qz1⟩⟩
       }
       }
       {
       exact an_ c51 H
       }
       }
       {
       exact an_ c50 H
       }
       }
       {
       rw [if_neg c49] at H
       have c49b0 := decide_eq_false c49
       clear c49
       have H' := aM H
       clear H
       have hnb60 := NB104_101.out
       have hnc60 := NB101_104.out
       have hnb61 := NB104_102.out
       have hnc61 := NB102_104.out
       have hnb62 := NB104_106.out
       have hnc62 := NB106_104.out
       obtain ⟨hcz63_0, hcz63_1, hcz63_2, hfz63_0, hfz63_1, hfz63_2⟩ := b6_ BK104.out
       go_wp2
       repeat (go_quiet (fail); try go_wp2)
       go_roundg k3
       case measure => have := HK1.out; have := HJ11.out; have := HK3.out; omega
       case rel => exact ⟨(wrap64 (x5_1 + 1)), qz5, H', ⟨by have := HK1.out; have := HJ11.out; have := HK3.out; omega⟩, ⟨bk_ BK101.out⟩, ⟨bk_ BK102.out⟩, ⟨qz1⟩⟩
       }
     }
   }
   {
   exact an_ c11 H
   }
   }
   {
   exact an_ c10 H
   }
   }
   {
   rw [if_neg c9] at H
   have c9b0 := decide_eq_false c9
   clear c9
   obtain rfl := Option.some.inj H
   simp only [Option.some.injEq, Prod.mk.injEq] at H
   obtain ⟨rfl⟩ := H
   have hnb64 := NB101_102.out
   have hnc64 := NB102_101.out
   obtain ⟨hcz65_0, hfz65_0⟩ := bf_ BK101.out
   go_wp2
   repeat (go_quiet (fail); try go_wp2)
   go_ret
   exact ⟨qzw, qz1⟩
   }
 }
 {
 rw [if_neg c3] at H
 have c3b0 := beq_eq_false_iff_ne.mpr c3
 have c3b1 := bne_iff_ne.mpr c3
 have c3b2 : (l0_0.length == l1_0.length) = false := by first | simpa using c3 | (simp at c3 ⊢; omega)
 obtain rfl := Option.some.inj H
 exact absurd HTR_.out (by decide)

 }
/-! ### impl_in: function 64 -/
def impl_in.f (a0 : Int) (a1 : Int) (a2 : Int) : Option (Bool) := if a0 ≥ a1 then (some (decide (a0 ≤ a2))) else (some false)
set_option maxHeartbeats 8000000 in
set_option maxRecDepth 100000 in
theorem impl_in.calls (a0 : Int) (a1 : Int) (a2 : Int) (r : Bool) (w : World) (h : impl_in.f a0 a1 a2 = some r) :
  Calls Try.prog 64 #[.int .i64 a0, .int .i64 a1, .int .i64 a2] w fun e w' => e = .returned (.bool r) ∧ Drawn0 w w' := by
 have H : (if a0 ≥ a1 then (some (decide (a0 ≤ a2))) else (some false)) = some r := h
 clear h
 by_cases c4 : a0 ≥ a1
 {
 rw [if_pos c4] at H
 have c4b0 := decide_eq_true c4
 clear c4
 obtain rfl := Option.some.inj H
 simp only [Option.some.injEq, Prod.mk.injEq] at H
 obtain ⟨rfl⟩ := H
 go_enter Try.func64, Try.ntmps64
 go_wp2
 go_ret
 exact ⟨by first | rfl | (simp; done) | (simp [*]; done), by repeat (first | exact Drawn0.refl _ | apply Drawn0.step)⟩
 }
 {
 rw [if_neg c4] at H
 have c4b0 := decide_eq_false c4
 clear c4
 obtain rfl := Option.some.inj H
 simp only [Option.some.injEq, Prod.mk.injEq] at H
 obtain ⟨rfl⟩ := H
 go_enter Try.func64, Try.ntmps64
 go_wp2
 go_ret
 exact ⟨by first | rfl | (simp; done) | (simp [*]; done), by repeat (first | exact Drawn0.refl _ | apply Drawn0.step)⟩

 }
/-! ### impl_copyStock: function 65 -/
def impl_copyStock.l0 : Nat → List (S79) → Int → Int → List (S79) → Option ((List (S79)))
 | 0, _, _, _, _ => none
 | k + 1, x7, x8, x9, x112000 => if x9 < x8 then (if 0 ≤ x9 then (if x9 < (x7.length : Int) then (if ([] : List (S72)).length + ((rd_T79 x7 x9).f2).length < 5864062014805 then (if x112000.length < 3518437208883 then (impl_copyStock.l0 k x7 x8 (wrap64 (x9 + 1)) (x112000 ++ [(⟨(rd_T79 x7 x9).f0, (rd_T79 x7 x9).f1, (([] : List (S72)) ++ ((rd_T79 x7 x9).f2))⟩ : S79)])) else (none)) else (none)) else (none)) else (none)) else (some x112000)
def impl_copyStock.f (k : Nat) (l0_0 : List (S79)) : Option ((List (S79))) := impl_copyStock.l0 k l0_0 (l0_0.length : Int) 0 ([] : List (S79))
theorem impl_copyStock.mono_l : ∀ k, (∀ y0 y1 y2 y3, LeO (impl_copyStock.l0 k y0 y1 y2 y3) (impl_copyStock.l0 (k + 1) y0 y1 y2 y3))
 | 0 => fun _ _ _ _ r h => by simp [impl_copyStock.l0] at h
 | k + 1 => by
  have ih0 := impl_copyStock.mono_l k
  {
  intro y0 y1 y2 y3
  unfold impl_copyStock.l0
  exact qL
  }
theorem impl_copyStock.mono : ∀ a0 k, LeO (impl_copyStock.f k a0) (impl_copyStock.f (k + 1) a0) := by
 intro a0 k
 have ih0 := impl_copyStock.mono_l k
 unfold impl_copyStock.f
 exact qL
set_option maxHeartbeats 8000000 in
set_option maxRecDepth 100000 in
theorem impl_copyStock.calls (k : Nat) (A0_0 : Option Addr) (c0_0 : Nat) (l0_0 : List (S79)) (r : List (S79)) (w : World) (hr0_0 : Kd.C k79 w A0_0 l0_0.length l0_0) (hc0_0 : l0_0.length ≤ c0_0) (h : impl_copyStock.f k l0_0 = some r) :
  Calls Try.prog 65 #[.agg #[.slice A0_0 l0_0.length c0_0]] w fun e w' => ∃ v0_ : Value, e = .returned (.agg #[v0_]) ∧ Kd.S k79 79 w' w.heap.size (fun _ => True) v0_ r ∧ Below w.heap.size w w' := by
 have hu26 := Try.underlying26
 have hu79 := Try.underlying79
 have HR0_0 := aM hr0_0
 have HC0_0 := aM hc0_0
 clear hr0_0 hc0_0
 have HB := aM (Below.refl w.heap.size w)
 have H : (impl_copyStock.l0 k l0_0 (l0_0.length : Int) 0 ([] : List (S79))) = some r := h
 clear h
 have H' := aM H
 clear H
 go_enter Try.func65, Try.ntmps65
 go_wp2_with (first | ((with_reducible refine gate_dst (N := 1) rfl ?_); refine bx_ 1 #[.slice A0_0 l0_0.length c0_0] 26 ?_; intro gb109 hg w2 hbox hb; have BK109 := aM (hbox); have GW109 := aM (bz_ w hg qz1); have GE109 := GW109; replace HB := bS_ hb; clear hb hbox hg) | ((with_reducible refine gate_dst (N := 2) rfl ?_); refine bx_ 2 #[.slice none 0 0] 26 ?_; intro gb110 hg w3 hbox hb; have BK110 := aM (hbox); have GW110 := aM (bz_ w hg qz1); have GE110 := GW110; replace HB := bS_ hb; obtain ⟨NB109_110, NB110_109⟩ := nb_ hg (bk_ BK109.out); replace BK109 := bB_ BK109 hb; clear hb hbox hg) | ((with_reducible refine gate_dst (N := 3) rfl ?_); refine bx_ 3 #[.slice none 0 0] 26 ?_; intro gb111 hg w4 hbox hb; have BK111 := aM (hbox); have GW111 := aM (bz_ w hg qz1); have GE111 := GW111; replace HB := bS_ hb; obtain ⟨NB109_111, NB111_109⟩ := nb_ hg (bk_ BK109.out); replace BK109 := bB_ BK109 hb; obtain ⟨NB110_111, NB111_110⟩ := nb_ hg (bk_ BK110.out); replace BK110 := bB_ BK110 hb; clear hb hbox hg; have hnb5 := NB109_110.out; have hnc5 := NB110_109.out; have hnb6 := NB109_111.out; have hnc6 := NB111_109.out; obtain ⟨hcz7_0, hfz7_0⟩ := bf_ BK109.out))
 go_loopg [9] k (fun kq v9 w' => ∃ (x9_1 : Int) (x112000_1 : List (S79)) (u112000 : Value), v9 = .int .i64 x9_1 ∧ Aside0 (impl_copyStock.l0 kq l0_0 (l0_0.length : Int) x9_1 x112000_1 = some r) ∧ Aside0 (kq ≤ k) ∧ Aside0 (Kd.S k79 79 w' w.heap.size (fun _ => True) u112000 x112000_1) ∧ Aside0 (w'.heap[gb109]? = some (.cells #[(.slice A0_0 l0_0.length c0_0)] 26 (0, 0))) ∧ Aside0 (w'.heap[gb110]? = some (.cells #[(.slice none 0 0)] 26 (0, 0))) ∧ Aside0 (w'.heap[gb111]? = some (.cells #[u112000] 26 (0, 0))) ∧ Aside0 (Below w.heap.size w w'))
 case atStart => exact ⟨(0), (([] : List (S79))), (.slice none 0 0), qz5, H', ⟨Nat.le_refl _⟩, ⟨by first | exact Kd.S_nil _ _ _ _ _ | exact Kd.N_nil _ _ _ _ _ | exact Kd.V_nil _ _ _ _ _ | exact Kd.Q_nil _ _ _ _ _ | exact Kd.R_nil _ _ _ _ _⟩, ⟨bk_ BK109.out⟩, ⟨bk_ BK110.out⟩, ⟨bk_ BK111.out⟩, ⟨qz1⟩⟩
 case round =>
  clear H'
  try clear p2
  try clear c5
  try clear c6
  try clear hcz7_0 hfz7_0
  obtain ⟨x9_1, x112000_1, u112000, rfl, HA, HK1, HO_112000, BK109, BK110, BK111, HB⟩ := hrel
  cases gk with
  | zero => exact absurd HA.out (by simp [impl_copyStock.l0])
  | succ k1 =>
   have H := HA.out
   clear HA
   simp only [impl_copyStock.l0] at H
   by_cases c8 : x9_1 < (l0_0.length : Int)
   {
   rw [if_pos c8] at H
   have c8b0 := decide_eq_true c8
   clear c8
   by_cases c9 : 0 ≤ x9_1
   {
   rw [if_pos c9] at H
   have c9b0 := decide_eq_true c9
   clear c9
   by_cases c10 : x9_1 < (l0_0.length : Int)
   {
   rw [if_pos c10] at H
   have c10b0 := decide_eq_true c10
   clear c10
   by_cases c11 : ([] : List (S72)).length + ((rd_T79 l0_0 x9_1).f2).length < 5864062014805
   {
   rw [if_pos c11] at H
   have LMc11 := aM c11
   clear c11
   obtain ⟨y114, hy114⟩ : ∃ y_ : List (S72), y_ = (([] : List (S72)) ++ ((rd_T79 l0_0 x9_1).f2)) := ⟨_, rfl⟩
   replace H : (if x112000_1.length < 3518437208883 then (impl_copyStock.l0 k1 l0_0 (l0_0.length : Int) (wrap64 (x9_1 + 1)) (x112000_1 ++ [(⟨(rd_T79 l0_0 x9_1).f0, (rd_T79 l0_0 x9_1).f1, y114⟩ : S79)])) else (none)) = some r := by first | (rw [hy114]; with_reducible exact H) | (have H2_ := (Option.bind_some _ _).symm.trans H; rw [hy114]; with_reducible exact H2_) | (have H2_ := (Option.bind_some _ _).symm.trans H; with_reducible exact H2_) | with_reducible exact H | (rw [hy114]; exact H) | exact H
   have Ny114 := aM hy114
   clear hy114
   by_cases c12 : x112000_1.length < 3518437208883
   {
   rw [if_pos c12] at H
   have LMc12 := aM c12
   clear c12
   obtain ⟨y117, hy117⟩ : ∃ y_ : List (S79), y_ = (x112000_1 ++ [(⟨(rd_T79 l0_0 x9_1).f0, (rd_T79 l0_0 x9_1).f1, y114⟩ : S79)]) := ⟨_, rfl⟩
   replace H : (impl_copyStock.l0 k1 l0_0 (l0_0.length : Int) (wrap64 (x9_1 + 1)) y117) = some r := by first | (rw [hy117]; with_reducible exact H) | (have H2_ := (Option.bind_some _ _).symm.trans H; rw [hy117]; with_reducible exact H2_) | (have H2_ := (Option.bind_some _ _).symm.trans H; with_reducible exact H2_) | with_reducible exact H | (rw [hy117]; exact H) | exact H
   have Ny117 := aM hy117
   clear hy117
   have H' := aM H
   clear H
   have p112 : 0 ≤ (x9_1 : Int) := dt_
   have q112 : x9_1 < (l0_0.length : Int) := dt_
   obtain ⟨ad112, A112_2, c112_2, e112, hx112_0, hx112_1, hx112_2, hl112_2, hi112_2⟩ := at_T79 HR0_0.out x9_1 p112 q112
   cases e112
   replace hx112_0 := cB_ hx112_0
   replace hx112_1 := cB_ hx112_1
   replace hx112_2 := cB_ hx112_2
   have HR112_2 := aM hi112_2
   have HC112_2 := aM hl112_2
   clear hi112_2 hl112_2
   replace p112 := eq_true p112
   replace q112 := eq_true q112
   go_wp2_with (first | ((with_reducible refine gate_dst (N := 5) rfl ?_); refine bx_ 5 #[.int .i64 0, .int .i64 0, .slice none 0 0] 79 ?_; intro gb113 hg w13 hbox hb; replace HO_112000 := aM (Kd.S_below (Kd.S_elderB (rs_ HO_112000.out) gb113 (Nat.le_of_eq hg.symm)) hb); have BK113 := aM (hbox); have GW113 := aM (bz_ w hg qz1); have GE113 := GW113; replace HB := bS_ hb; obtain ⟨NB109_113, NB113_109⟩ := nb_ hg (bk_ BK109.out); replace BK109 := bB_ BK109 hb; obtain ⟨NB110_113, NB113_110⟩ := nb_ hg (bk_ BK110.out); replace BK110 := bB_ BK110 hb; obtain ⟨NB111_113, NB113_111⟩ := nb_ hg (bk_ BK111.out); replace BK111 := bB_ BK111 hb; clear hb hbox hg; have hnb14 := NB113_109.out; have hnc14 := NB109_113.out; have hnb15 := NB113_110.out; have hnc15 := NB110_113.out; have hnb16 := NB113_111.out; have hnc16 := NB111_113.out; obtain ⟨hcz17_0, hcz17_1, hcz17_2, hfz17_0, hfz17_1, hfz17_2⟩ := b6_ BK113.out) | ((with_reducible refine gate_builtin (b := .append) (xs := #[.const (.slice none 0 0), .tmp 14]) rfl ?_); at_builtin; refine Kd.R_append_rows k72 (w0 := w) w.heap.size rfl (.const (.slice none 0 0)) (.tmp 14) 77 72 (.agg #[(.int .i64 0), (.int .i64 0), (.int .i64 0)]) 24 rfl Try.underlying77 info72 rfl (by decide) (by omega) (.slice none 0 0) ([] : List (S72)) ((rd_T79 l0_0 x9_1).f2) _ _ _ (fun _ => True) (fun _ => False) rfl rfl ?aO ?aR (fun _ _ h => h) (fun _ h => h.elim) ?aF ?aB ?aS ?aL ?_; (case aR => exact Kd.C_below HR112_2.out qz1); (case aB => exact qz1); (case aF => exact (fun _ _ => trivial)); (case aO => exact ((Kd.R_nil _ _ _ _ (fun _ => True)))); (case aS => exact qz46); (case aL => have := LMc11.out; omega); intro v115 w18 ho hb hg hat; rw [← Ny114.out] at ho; replace HO_112000 := aM (Kd.S_after (Kd.S_apart_nil (by (with_reducible repeat (first | apply Kd.S_alloc | apply Kd.S_drewN | apply Kd.S_drew)); exact (Kd.S_mono (Kd.S_far (p := ⟨gb113, 2, none⟩) (Kd.S_far (p := ⟨gb113, 1, none⟩) (Kd.S_far (p := ⟨gb113, 0, none⟩) (Kd.S_mono HO_112000.out (fun k_ hk => (⟨hk, hk.2⟩ : _ ∧ k_ ≠ gb113))) (fun _ hk => hk.2) (.int .i64 ((rd_T79 l0_0 x9_1).f0))) (fun _ hk => hk.2) (.int .i64 ((rd_T79 l0_0 x9_1).f1))) (fun _ hk => hk.2) (.slice A112_2 ((rd_T79 l0_0 x9_1).f2).length c112_2)) (fun _ h_ => h_.1)))) hg hat); replace BK109 := aM (blk_grown (g := gb109) (o := .cells #[.slice (some ad112) l0_0.length c0_0] 26 (0, 0)) (bk2_ BK109.out) hg (by simp [Value.ownBlock])); replace BK110 := aM (blk_grown (g := gb110) (o := .cells #[.slice none 0 0] 26 (0, 0)) (bk2_ BK110.out) hg (by simp [Value.ownBlock])); replace BK111 := aM (blk_grown (g := gb111) (o := .cells #[u112000] 26 (0, 0)) (bk2_ BK111.out) hg (by simp [Value.ownBlock])); replace BK113 := aM (blk_grown (g := gb113) (o := .cells #[.int .i64 ((rd_T79 l0_0 x9_1).f0), .int .i64 ((rd_T79 l0_0 x9_1).f1), .slice A112_2 ((rd_T79 l0_0 x9_1).f2).length c112_2] 79 (0, 0)) (by (with_reducible repeat (first | refine blk_drewN ?_ _ | refine blk_drew ?_ | refine blk_alloc ?_ _)); refine blk_put (cs := #[.int .i64 ((rd_T79 l0_0 x9_1).f0), .int .i64 ((rd_T79 l0_0 x9_1).f1), .slice none 0 0]) ?_ 2 _ rfl; (with_reducible repeat (first | refine blk_drewN ?_ _ | refine blk_drew ?_ | refine blk_alloc ?_ _)); refine blk_put (cs := #[.int .i64 ((rd_T79 l0_0 x9_1).f0), .int .i64 0, .slice none 0 0]) ?_ 1 _ rfl; (with_reducible repeat (first | refine blk_drewN ?_ _ | refine blk_drew ?_ | refine blk_alloc ?_ _)); refine blk_put (cs := #[.int .i64 0, .int .i64 0, .slice none 0 0]) ?_ 0 _ rfl; exact bk_ BK113.out) hg (by simp [Value.ownBlock])); replace HB := aM (hb); have HO116 := aM (ho); clear ho hb hg hat; obtain ⟨Ao19, co19, eo19⟩ := Kd.R_slice HO116.out; subst eo19; obtain ⟨hcz20_0, hcz20_1, hcz20_2, hfz20_0, hfz20_1, hfz20_2⟩ := b6_ BK113.out) | ((with_reducible refine gate_store (t := 77) (p := 16) rfl ?_); refine store_event (t := 77) (p := 16) (v := ?vo_w21) (w1 := (w18.setCell ⟨gb113, 2, none⟩ (.slice Ao19 y114.length co19))) ?hg ?ho ?hn ?hr ?_; (case ho => rfl); (case hg => rfl); (case hn => rfl); (case hr => exact qz23); intro w21 hw; replace HO_112000 : Aside0 (Kd.S k79 79 w21 w.heap.size (fun k_ => some k_ ≠ (.slice Ao19 y114.length co19 : Value).ownBlock ∧ k_ ≠ gb113) u112000 x112000_1) := ⟨(by rw [hw]; exact (by (with_reducible repeat (first | apply Kd.S_alloc | apply Kd.S_drewN | apply Kd.S_drew)); exact Kd.S_mono (Kd.S_far (p := ⟨gb113, 2, none⟩) (Kd.S_mono HO_112000.out (fun k_ hk => (⟨hk, hk.1.2⟩ : _ ∧ k_ ≠ gb113))) (fun _ hk => hk.2) (.slice Ao19 y114.length co19)) (fun _ hk => ⟨hk.1.2, hk.1.1.2⟩)))⟩; replace HO116 : Aside0 (Kd.R k72 72 w21 w.heap.size (fun _ => True) (.slice Ao19 y114.length co19) y114) := ⟨(by rw [hw]; exact (by (with_reducible repeat (first | apply Kd.R_alloc | apply Kd.R_drewN | apply Kd.R_drew)); exact Kd.R_mono (Kd.R_far (p := ⟨gb113, 2, none⟩) (Kd.R_types HO116.out BK113.out (by decide)) (fun _ hk => hk.2) (.slice Ao19 y114.length co19)) (fun _ hk => trivial)))⟩; replace BK109 : Aside0 (w21.heap[gb109]? = some (.cells #[.slice (some ad112) l0_0.length c0_0] 26 (0, 0))) := ⟨(by rw [hw]; exact (bk2_ BK109.out))⟩; replace BK110 : Aside0 (w21.heap[gb110]? = some (.cells #[.slice none 0 0] 26 (0, 0))) := ⟨(by rw [hw]; exact (bk2_ BK110.out))⟩; replace BK111 : Aside0 (w21.heap[gb111]? = some (.cells #[u112000] 26 (0, 0))) := ⟨(by rw [hw]; exact (bk2_ BK111.out))⟩; replace BK113 : Aside0 (w21.heap[gb113]? = some (.cells #[.int .i64 ((rd_T79 l0_0 x9_1).f0), .int .i64 ((rd_T79 l0_0 x9_1).f1), .slice Ao19 y114.length co19] 79 (0, 0))) := ⟨(by rw [hw]; exact (by (with_reducible repeat (first | refine blk_drewN ?_ _ | refine blk_drew ?_ | refine blk_alloc ?_ _)); refine blk_put (cs := #[.int .i64 ((rd_T79 l0_0 x9_1).f0), .int .i64 ((rd_T79 l0_0 x9_1).f1), .slice A112_2 ((rd_T79 l0_0 x9_1).f2).length c112_2]) ?_ 2 _ rfl; exact bk_ BK113.out))⟩; replace HB : Aside0 (Below w.heap.size w w21) := ⟨(by rw [hw]; exact qz1)⟩; clear hw; have hnb22 := NB111_109.out; have hnc22 := NB109_111.out; have hnb23 := NB111_110.out; have hnc23 := NB110_111.out; obtain ⟨hcz24_0, hfz24_0⟩ := bf_ BK111.out; obtain ⟨hcz25_0, hcz25_1, hcz25_2, hfz25_0, hfz25_1, hfz25_2⟩ := b6_ BK113.out) | ((with_reducible refine gate_builtin (b := .append) (xs := #[.tmp 18, .tmp 20]) rfl ?_); at_builtin; refine Kd.S_append k79 (w0 := w) w.heap.size rfl (.tmp 18) (.tmp 20) 24 79 (.agg #[(.int .i64 0), (.int .i64 0), (.slice none 0 0)]) 40 rfl Try.underlying24 info79 rfl (by decide) (by omega) u112000 x112000_1 (⟨(rd_T79 l0_0 x9_1).f0, (rd_T79 l0_0 x9_1).f1, y114⟩ : S79) [.int .i64 ((rd_T79 l0_0 x9_1).f0), .int .i64 ((rd_T79 l0_0 x9_1).f1), .slice Ao19 y114.length co19] (fun k_ => k_ ≠ gb113) (fun k_ => some k_ = (.slice Ao19 y114.length co19 : Value).ownBlock) rfl rfl ?aP (fun k_ hk_ => ((Kd.R_mono (ok' := fun k_ => ((fun k_ => k_ ≠ gb113)) k_ ∧ some k_ ≠ (u112000 : Value).ownBlock) (Kd.R_types (Kd.R_apart' (HO116.out) (Kd.S_typed HO_112000.out) (by decide)) BK113.out (by decide)) (fun k_ hk => ⟨hk.2, hk.1.2⟩))).1 k_ hk_.symm) ?aF ?aO ?aB ?aS ?aL ?_; (case aP => exact k79_mkM _ _ _ (⟨(rd_T79 l0_0 x9_1).f0, (rd_T79 l0_0 x9_1).f1, y114⟩ : S79) (Kd.R_mono (Kd.R_tight rfl (Kd.R_mono (ok' := fun k_ => ((fun k_ => k_ ≠ gb113)) k_ ∧ some k_ ≠ (u112000 : Value).ownBlock) (Kd.R_types (Kd.R_apart' (HO116.out) (Kd.S_typed HO_112000.out) (by decide)) BK113.out (by decide)) (fun k_ hk => ⟨hk.2, hk.1.2⟩))) (fun _ h_ => h_))); (case aB => exact qz1); (case aF => exact (fun k_ hk => Kd.freshB (bk_ BK113.out) k_ hk)); (case aO => exact (by (with_reducible repeat (first | apply Kd.S_alloc | apply Kd.S_drewN | apply Kd.S_drew)); exact Kd.S_mono HO_112000.out (fun k_ hk => ⟨hk.2, fun e_ => hk.1 e_⟩))); (case aS => exact qz46); (case aL => have := LMc12.out; omega); intro v118 w26 ho hb hg hat; rw [← Ny117.out] at ho; replace BK109 := aM (blk_grown (bk_ BK109.out) hg (Kd.S_ne HO_112000.out BK109.out (by decide))); replace BK110 := aM (blk_grown (bk_ BK110.out) hg (Kd.S_ne HO_112000.out BK110.out (by decide))); replace BK111 := aM (blk_grown (bk_ BK111.out) hg (Kd.S_ne HO_112000.out BK111.out (by decide))); replace BK113 := aM (blk_grown (bk_ BK113.out) hg (Kd.S_away HO_112000.out (fun _ hk => hk.2))); replace HB := aM (hb); have HO119 := aM (ho); clear HO_112000 HO116; clear ho hb hg hat; obtain ⟨Ao27, co27, eo27⟩ := Kd.S_slice HO119.out; subst eo27; obtain ⟨hcz28_0, hfz28_0⟩ := bf_ BK111.out))
   go_roundg k1
   case measure => have := HK1.out; omega
   case rel => exact ⟨(wrap64 (x9_1 + 1)), (y117), (.slice Ao27 y117.length co27), qz5, H', ⟨by have := HK1.out; omega⟩, ⟨by (with_reducible repeat (first | apply Kd.S_alloc | apply Kd.S_drewN | apply Kd.S_drew)); exact Kd.S_mono (Kd.S_far (p := ⟨gb111, 0, none⟩) (Kd.S_types HO119.out BK111.out (by decide)) (fun _ hk => hk.2) (.slice Ao27 y117.length co27)) (fun _ hk => trivial)⟩, ⟨by (with_reducible repeat (first | refine blk_drewN ?_ _ | refine blk_drew ?_ | refine blk_alloc ?_ _)); refine blk_far ?_ NB109_111.out _; exact bk_ BK109.out⟩, ⟨by (with_reducible repeat (first | refine blk_drewN ?_ _ | refine blk_drew ?_ | refine blk_alloc ?_ _)); refine blk_far ?_ NB110_111.out _; exact bk_ BK110.out⟩, ⟨by (with_reducible repeat (first | refine blk_drewN ?_ _ | refine blk_drew ?_ | refine blk_alloc ?_ _)); refine blk_put (cs := #[u112000]) ?_ 0 _ rfl; exact bk_ BK111.out⟩, ⟨qz1⟩⟩
   }
   {
   exact an_ c12 H
   }
   }
   {
   exact an_ c11 H
   }
   }
   {
   exact an_ c10 H
   }
   }
   {
   exact an_ c9 H
   }
   }
   {
   rw [if_neg c8] at H
   have c8b0 := decide_eq_false c8
   clear c8
   obtain rfl := Option.some.inj H
   simp only [Option.some.injEq, Prod.mk.injEq] at H
   obtain ⟨rfl⟩ := H
   have hnb29 := NB111_109.out
   have hnc29 := NB109_111.out
   have hnb30 := NB111_110.out
   have hnc30 := NB110_111.out
   obtain ⟨hcz31_0, hfz31_0⟩ := bf_ BK111.out
   obtain ⟨Ao32, co32, eo32⟩ := Kd.S_slice HO_112000.out
   subst eo32
   have hnb33 := NB110_109.out
   have hnc33 := NB109_110.out
   obtain ⟨hcz34_0, hfz34_0⟩ := bf_ BK110.out
   go_wp2
   refine bodyPost_ret (results_cell_row rfl _ _ gb110 26 #[.slice Ao32 x112000_1.length co32] (0, 0) _ rfl (by (with_reducible repeat (first | refine blk_drewN ?_ _ | refine blk_drew ?_ | refine blk_alloc ?_ _)); refine blk_put (cs := #[.slice none 0 0]) ?_ 0 _ rfl; exact bk_ BK110.out) Try.underlying26 rfl (by kernel_rfl)) rfl ?_
   exact ⟨_, qzw, by (with_reducible repeat (first | apply Kd.S_alloc | apply Kd.S_drewN | apply Kd.S_drew)); exact Kd.S_mono (Kd.S_far (p := ⟨gb110, 0, none⟩) (Kd.S_types HO_112000.out BK110.out (by decide)) (fun _ hk => hk.2) (.slice Ao32 x112000_1.length co32)) (fun _ hk => trivial), qz1⟩

   }
end Go.Proofs.Yteajnkondkfmgaa.PFnEach
