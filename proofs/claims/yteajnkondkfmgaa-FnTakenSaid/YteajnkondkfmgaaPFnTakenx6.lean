-- Made by a program of this session out of the translation. Lean checks it.
import Derived.Test.YteajnkondkfmgaaPFnTakenx0
import Derived.Test.YteajnkondkfmgaaPFnTakenx1
import Derived.Test.YteajnkondkfmgaaPFnTakenx2
import Derived.Test.YteajnkondkfmgaaPFnTakenx4
namespace Go.Proofs.Yteajnkondkfmgaa.PFnTaken
open Go.RowKit Go.Proofs.YteajnkondkfmgaaW.PrintWords Go.Proofs.YteajnkondkfmgaaW.PrintLast Go.Proofs.YteajnkondkfmgaaW.PrintMore
attribute [local go_sem] max2_int min2_int max_two min_two max_three min_three max_four min_four   -- for this text's walks alone
set_option linter.unusedVariables false
set_option linter.unusedSimpArgs false

attribute [local go_sem high] eqA72
/-! ### laws_sameStock: function 19 -/
mutual
def laws_sameStock.l0 : Nat → Int → List (S79) → List (S79) → Option (Bool)
 | 0, _, _, _ => none
 | k + 1, x5, x150000, x151000 => if x5 < (x150000.length : Int) then (if 0 ≤ x5 then (if x5 < (x151000.length : Int) then (if ((rd_T79 x150000 x5).f0) = ((rd_T79 x151000 x5).f0) then (if ((rd_T79 x150000 x5).f1) = ((rd_T79 x151000 x5).f1) then (laws_sameStock.j1 k x5 ((((rd_T79 x150000 x5).f2).length : Int) != (((rd_T79 x151000 x5).f2).length : Int)) x150000 x151000 ((rd_T79 x150000 x5).f0) ((rd_T79 x150000 x5).f1) ((rd_T79 x150000 x5).f2) ((rd_T79 x151000 x5).f0) ((rd_T79 x151000 x5).f1) ((rd_T79 x151000 x5).f2)) else (laws_sameStock.j1 k x5 true x150000 x151000 ((rd_T79 x150000 x5).f0) ((rd_T79 x150000 x5).f1) ((rd_T79 x150000 x5).f2) ((rd_T79 x151000 x5).f0) ((rd_T79 x151000 x5).f1) ((rd_T79 x151000 x5).f2))) else (laws_sameStock.j1 k x5 true x150000 x151000 ((rd_T79 x150000 x5).f0) ((rd_T79 x150000 x5).f1) ((rd_T79 x150000 x5).f2) ((rd_T79 x151000 x5).f0) ((rd_T79 x151000 x5).f1) ((rd_T79 x151000 x5).f2))) else (none)) else (none)) else (some true)
def laws_sameStock.j1 : Nat → Int → Bool → List (S79) → List (S79) → Int → Int → List (S72) → Int → Int → List (S72) → Option (Bool)
 | 0, _, _, _, _, _, _, _, _, _, _ => none
 | k + 1, x5, x53, x150000, x151000, x153000, x153001, x153002, x155000, x155001, x155002 => if x53 = true then (some false) else (laws_sameStock.l1 k x5 0 x150000 x151000 x153000 x153001 x153002 x155000 x155001 x155002)
def laws_sameStock.l1 : Nat → Int → Int → List (S79) → List (S79) → Int → Int → List (S72) → Int → Int → List (S72) → Option (Bool)
 | 0, _, _, _, _, _, _, _, _, _, _ => none
 | k + 1, x5, x8, x150000, x151000, x153000, x153001, x153002, x155000, x155001, x155002 => if x8 < (x153002.length : Int) then (if 0 ≤ x8 then (if x8 < (x155002.length : Int) then (if (!(((rd_T72 x153002 x8).f0) == ((rd_T72 x155002 x8).f0)) || (!(((rd_T72 x153002 x8).f1) == ((rd_T72 x155002 x8).f1)) || (!(((rd_T72 x153002 x8).f2) == ((rd_T72 x155002 x8).f2))))) = true then (some false) else (laws_sameStock.l1 k x5 (wrap64 (x8 + 1)) x150000 x151000 x153000 x153001 x153002 x155000 x155001 x155002)) else (none)) else (none)) else (laws_sameStock.l0 k (wrap64 (x5 + 1)) x150000 x151000)
end
def laws_sameStock.f (k : Nat) (l0_0 : List (S79)) (l1_0 : List (S79)) : Option (Bool) := if (l0_0.length : Int) = (l1_0.length : Int) then (laws_sameStock.l0 k 0 l0_0 l1_0) else (some false)
theorem laws_sameStock.mono_l : ∀ k, (∀ y0 y1 y2, LeO (laws_sameStock.l0 k y0 y1 y2) (laws_sameStock.l0 (k + 1) y0 y1 y2)) ∧ (∀ y0 y1 y2 y3 y4 y5 y6 y7 y8 y9, LeO (laws_sameStock.j1 k y0 y1 y2 y3 y4 y5 y6 y7 y8 y9) (laws_sameStock.j1 (k + 1) y0 y1 y2 y3 y4 y5 y6 y7 y8 y9)) ∧ (∀ y0 y1 y2 y3 y4 y5 y6 y7 y8 y9, LeO (laws_sameStock.l1 k y0 y1 y2 y3 y4 y5 y6 y7 y8 y9) (laws_sameStock.l1 (k + 1) y0 y1 y2 y3 y4 y5 y6 y7 y8 y9))
 | 0 => ⟨fun _ _ _ r h => by simp [laws_sameStock.l0] at h, fun _ _ _ _ _ _ _ _ _ _ r h => by simp [laws_sameStock.j1] at h, fun _ _ _ _ _ _ _ _ _ _ r h => by simp [laws_sameStock.l1] at h⟩
 | k + 1 => by
  obtain ⟨ih0, ih1, ih2⟩ := laws_sameStock.mono_l k
  refine ⟨?_, ?_, ?_⟩
  {
  intro y0 y1 y2
  unfold laws_sameStock.l0
  exact qL
  }
  {
  intro y0 y1 y2 y3 y4 y5 y6 y7 y8 y9
  unfold laws_sameStock.j1
  exact qL
  }
  {
  intro y0 y1 y2 y3 y4 y5 y6 y7 y8 y9
  unfold laws_sameStock.l1
  exact qL
  }
theorem laws_sameStock.mono : ∀ a0 a1 k, LeO (laws_sameStock.f k a0 a1) (laws_sameStock.f (k + 1) a0 a1) := by
 intro a0 a1 k
 obtain ⟨ih0, ih1, ih2⟩ := laws_sameStock.mono_l k
 unfold laws_sameStock.f
 exact qL
set_option maxHeartbeats 8000000 in
set_option maxRecDepth 100000 in
theorem laws_sameStock.calls (k : Nat) (A0_0 : Option Addr) (c0_0 : Nat) (l0_0 : List (S79)) (A1_0 : Option Addr) (c1_0 : Nat) (l1_0 : List (S79)) (r : Bool) (w : World) (hr0_0 : Kd.C k79 w A0_0 l0_0.length l0_0) (hc0_0 : l0_0.length ≤ c0_0) (hr1_0 : Kd.C k79 w A1_0 l1_0.length l1_0) (hc1_0 : l1_0.length ≤ c1_0) (h : laws_sameStock.f k l0_0 l1_0 = some r) (hT : r = true) :
  Calls Try.prog 19 #[.agg #[.slice A0_0 l0_0.length c0_0], .agg #[.slice A1_0 l1_0.length c1_0]] w fun e w' => e = .returned (.bool r) ∧ Below w.heap.size w w' := by
 have HTR_ := aM hT
 clear hT
 have hu26 := Try.underlying26
 have hu79 := Try.underlying79
 have hu72 := Try.underlying72
 have HR0_0 := aM hr0_0
 have HC0_0 := aM hc0_0
 clear hr0_0 hc0_0
 have HR1_0 := aM hr1_0
 have HC1_0 := aM hc1_0
 clear hr1_0 hc1_0
 have HB := aM (Below.refl w.heap.size w)
 have H : (if (l0_0.length : Int) = (l1_0.length : Int) then (laws_sameStock.l0 k 0 l0_0 l1_0) else (some false)) = some r := h
 clear h
 by_cases c3 : (l0_0.length : Int) = (l1_0.length : Int)
 {
 rw [if_pos c3] at H
 have c3b0 := beq_iff_eq.mpr c3
 have c3b1 := bne_eq_false_iff_eq.mpr c3
 have c3b2 : (l0_0.length == l1_0.length) = true := by first | simpa using c3 | (simp at c3 ⊢; omega)
 clear c3
 have H' := aM H
 clear H
 go_enter Try.func19, Try.ntmps19
 go_wp2_with (first | ((with_reducible refine gate_dst (N := 2) rfl ?_); (try (refine gate_guard (by rfl) ?_; dsimp only)); refine bx_ 2 #[.slice A0_0 l0_0.length c0_0] 26 ?_; intro gb149 hg w4 hbox hb; have BK149 := aM (hbox); have GW149 := aM (bz_ w hg qz1); have GE149 := GW149; replace HB := bS_ hb; clear hb hbox hg) | ((with_reducible refine gate_dst (N := 3) rfl ?_); (try (refine gate_guard (by rfl) ?_; dsimp only)); refine bx_ 3 #[.slice A1_0 l1_0.length c1_0] 26 ?_; intro gb150 hg w5 hbox hb; have BK150 := aM (hbox); have GW150 := aM (bz_ w hg qz1); have GE150 := GW150; replace HB := bS_ hb; obtain ⟨NB149_150, NB150_149⟩ := nb_ hg (bk_ BK149.out); replace BK149 := bB_ BK149 hb; clear hb hbox hg; have hnb6 := NB149_150.out; have hnc6 := NB150_149.out; obtain ⟨hcz7_0, hfz7_0⟩ := bf_ BK149.out; obtain ⟨hcz8_0, hfz8_0⟩ := bf_ BK150.out))
 repeat (go_quiet (first | ((with_reducible refine gate_dst (N := 2) rfl ?_); (try (refine gate_guard (by rfl) ?_; dsimp only)); refine bx_ 2 #[.slice A0_0 l0_0.length c0_0] 26 ?_; intro gb149 hg w4 hbox hb; have BK149 := aM (hbox); have GW149 := aM (bz_ w hg qz1); have GE149 := GW149; replace HB := bS_ hb; clear hb hbox hg) | ((with_reducible refine gate_dst (N := 3) rfl ?_); (try (refine gate_guard (by rfl) ?_; dsimp only)); refine bx_ 3 #[.slice A1_0 l1_0.length c1_0] 26 ?_; intro gb150 hg w5 hbox hb; have BK150 := aM (hbox); have GW150 := aM (bz_ w hg qz1); have GE150 := GW150; replace HB := bS_ hb; obtain ⟨NB149_150, NB150_149⟩ := nb_ hg (bk_ BK149.out); replace BK149 := bB_ BK149 hb; clear hb hbox hg; have hnb6 := NB149_150.out; have hnc6 := NB150_149.out; obtain ⟨hcz7_0, hfz7_0⟩ := bf_ BK149.out; obtain ⟨hcz8_0, hfz8_0⟩ := bf_ BK150.out)); try go_wp2_with (first | ((with_reducible refine gate_dst (N := 2) rfl ?_); (try (refine gate_guard (by rfl) ?_; dsimp only)); refine bx_ 2 #[.slice A0_0 l0_0.length c0_0] 26 ?_; intro gb149 hg w4 hbox hb; have BK149 := aM (hbox); have GW149 := aM (bz_ w hg qz1); have GE149 := GW149; replace HB := bS_ hb; clear hb hbox hg) | ((with_reducible refine gate_dst (N := 3) rfl ?_); (try (refine gate_guard (by rfl) ?_; dsimp only)); refine bx_ 3 #[.slice A1_0 l1_0.length c1_0] 26 ?_; intro gb150 hg w5 hbox hb; have BK150 := aM (hbox); have GW150 := aM (bz_ w hg qz1); have GE150 := GW150; replace HB := bS_ hb; obtain ⟨NB149_150, NB150_149⟩ := nb_ hg (bk_ BK149.out); replace BK149 := bB_ BK149 hb; clear hb hbox hg; have hnb6 := NB149_150.out; have hnc6 := NB150_149.out; obtain ⟨hcz7_0, hfz7_0⟩ := bf_ BK149.out; obtain ⟨hcz8_0, hfz8_0⟩ := bf_ BK150.out)))
 go_loopg [5] k (fun kq v5 w' => ∃ (x5_1 : Int), v5 = .int .i64 x5_1 ∧ Aside0 (laws_sameStock.l0 kq x5_1 l0_0 l1_0 = some r) ∧ Aside0 (kq ≤ k) ∧ Aside0 (w'.heap[gb149]? = some (.cells #[(.slice A0_0 l0_0.length c0_0)] 26 (0, 0))) ∧ Aside0 (w'.heap[gb150]? = some (.cells #[(.slice A1_0 l1_0.length c1_0)] 26 (0, 0))) ∧ Aside0 (Below w.heap.size w w'))
 case atStart => exact ⟨(0), qz6, H', ⟨Nat.le_refl _⟩, ⟨bk_ BK149.out⟩, ⟨bk_ BK150.out⟩, ⟨qz1⟩⟩
 case round =>
  clear H'
  try clear c1
  try clear p2
  try clear c3
  try clear c3b0
  try clear c3b1
  try clear c3b2
  try clear c6
  try clear hcz7_0
  try clear hcz8_0
  try clear hfz7_0
  try clear hfz8_0
  obtain ⟨x5_1, rfl, HA, HK1, BK149, BK150, HB⟩ := hrel
  cases gk with
  | zero => exact absurd HA.out (by simp [laws_sameStock.l0])
  | succ k1 =>
   have H := HA.out
   clear HA
   simp only [laws_sameStock.l0] at H
   by_cases c9 : x5_1 < (l0_0.length : Int)
   {
   rw [if_pos c9] at H
   have c9b0 := decide_eq_true c9
   clear c9
   by_cases c10 : 0 ≤ x5_1
   {
   rw [if_pos c10] at H
   have c10b0 := decide_eq_true c10
   clear c10
   by_cases c11 : x5_1 < (l1_0.length : Int)
   {
   rw [if_pos c11] at H
   have c11b0 := decide_eq_true c11
   clear c11
   have HC12 := aM H
   clear H
   have hnb13 := NB149_150.out
   have hnc13 := NB150_149.out
   obtain ⟨hcz14_0, hfz14_0⟩ := bf_ BK149.out
   have p151 : 0 ≤ (x5_1 : Int) := dt_
   have q151 : x5_1 < (l0_0.length : Int) := dt_
   obtain ⟨ad151, A151_2, c151_2, e151, hx151_0, hx151_1, hx151_2, hl151_2, hi151_2⟩ := at_T79 HR0_0.out x5_1 p151 q151
   cases e151
   replace hx151_0 := cB_ hx151_0
   replace hx151_1 := cB_ hx151_1
   replace hx151_2 := cB_ hx151_2
   have HR151_2 := aM hi151_2
   have HC151_2 := aM hl151_2
   clear hi151_2 hl151_2
   replace p151 := eq_true p151
   replace q151 := eq_true q151
   go_upto_region 8 with (first | ((with_reducible refine gate_dst (N := 6) rfl ?_); (try (refine gate_guard (by rfl) ?_; dsimp only)); refine bx_ 6 #[.int .i64 0, .int .i64 0, .slice none 0 0] 79 ?_; intro gb152 hg w15 hbox hb; have BK152 := aM (hbox); have GW152 := aM (bz_ w hg qz1); have GE152 := GW152; replace HB := bS_ hb; obtain ⟨NB149_152, NB152_149⟩ := nb_ hg (bk_ BK149.out); replace BK149 := bB_ BK149 hb; obtain ⟨NB150_152, NB152_150⟩ := nb_ hg (bk_ BK150.out); replace BK150 := bB_ BK150 hb; clear hb hbox hg; have hnb16 := NB152_149.out; have hnc16 := NB149_152.out; have hnb17 := NB152_150.out; have hnc17 := NB150_152.out; obtain ⟨hcz18_0, hcz18_1, hcz18_2, hfz18_0, hfz18_1, hfz18_2⟩ := b6_ BK152.out; obtain ⟨hcz19_0, hfz19_0⟩ := bf_ BK150.out; have p153 : 0 ≤ (x5_1 : Int) := dt_; have q153 : x5_1 < (l1_0.length : Int) := dt_; obtain ⟨ad153, A153_2, c153_2, e153, hx153_0, hx153_1, hx153_2, hl153_2, hi153_2⟩ := at_T79 HR1_0.out x5_1 p153 q153; cases e153; have hn153_0 : ad153.block ≠ gb152 := nf_ hx153_0 GW152.out; have hn153_1 : ad153.block ≠ gb152 := nf_ hx153_0 GW152.out; have hn153_2 : ad153.block ≠ gb152 := nf_ hx153_0 GW152.out; replace hx153_0 := cB_ hx153_0; replace hx153_1 := cB_ hx153_1; replace hx153_2 := cB_ hx153_2; have HR153_2 := aM hi153_2; have HC153_2 := aM hl153_2; clear hi153_2 hl153_2; replace hx153_0 := (cell_far (p := ⟨gb152, 0, none⟩) qz16 (.int .i64 ((rd_T79 l0_0 x5_1).f0))).trans hx153_0; replace hx153_1 := (cell_far (p := ⟨gb152, 0, none⟩) qz16 (.int .i64 ((rd_T79 l0_0 x5_1).f0))).trans hx153_1; replace hx153_2 := (cell_far (p := ⟨gb152, 0, none⟩) qz16 (.int .i64 ((rd_T79 l0_0 x5_1).f0))).trans hx153_2; replace hx153_0 := (cell_far (p := ⟨gb152, 1, none⟩) qz17 (.int .i64 ((rd_T79 l0_0 x5_1).f1))).trans hx153_0; replace hx153_1 := (cell_far (p := ⟨gb152, 1, none⟩) qz17 (.int .i64 ((rd_T79 l0_0 x5_1).f1))).trans hx153_1; replace hx153_2 := (cell_far (p := ⟨gb152, 1, none⟩) qz17 (.int .i64 ((rd_T79 l0_0 x5_1).f1))).trans hx153_2; replace hx153_0 := (cell_far (p := ⟨gb152, 2, none⟩) qz18 (.slice A151_2 ((rd_T79 l0_0 x5_1).f2).length c151_2)).trans hx153_0; replace hx153_1 := (cell_far (p := ⟨gb152, 2, none⟩) qz18 (.slice A151_2 ((rd_T79 l0_0 x5_1).f2).length c151_2)).trans hx153_1; replace hx153_2 := (cell_far (p := ⟨gb152, 2, none⟩) qz18 (.slice A151_2 ((rd_T79 l0_0 x5_1).f2).length c151_2)).trans hx153_2; (try have hy153_0 := fun (n_ : Nat) => (show (((((w15.drewN n_).setCell ⟨gb152, 0, none⟩ (.int .i64 ((rd_T79 l0_0 x5_1).f0))).setCell ⟨gb152, 1, none⟩ (.int .i64 ((rd_T79 l0_0 x5_1).f1))).setCell ⟨gb152, 2, none⟩ (.slice A151_2 ((rd_T79 l0_0 x5_1).f2).length c151_2))).cell? _ = some _ from hx153_0)); (try have hy153_1 := fun (n_ : Nat) => (show (((((w15.drewN n_).setCell ⟨gb152, 0, none⟩ (.int .i64 ((rd_T79 l0_0 x5_1).f0))).setCell ⟨gb152, 1, none⟩ (.int .i64 ((rd_T79 l0_0 x5_1).f1))).setCell ⟨gb152, 2, none⟩ (.slice A151_2 ((rd_T79 l0_0 x5_1).f2).length c151_2))).cell? _ = some _ from hx153_1)); (try have hy153_2 := fun (n_ : Nat) => (show (((((w15.drewN n_).setCell ⟨gb152, 0, none⟩ (.int .i64 ((rd_T79 l0_0 x5_1).f0))).setCell ⟨gb152, 1, none⟩ (.int .i64 ((rd_T79 l0_0 x5_1).f1))).setCell ⟨gb152, 2, none⟩ (.slice A151_2 ((rd_T79 l0_0 x5_1).f2).length c151_2))).cell? _ = some _ from hx153_2)); clear hn153_0 hn153_1 hn153_2; replace p153 := eq_true p153; replace q153 := eq_true q153) | ((with_reducible refine gate_dst (N := 7) rfl ?_); (try (refine gate_guard (by rfl) ?_; dsimp only)); refine bx_ 7 #[.int .i64 0, .int .i64 0, .slice none 0 0] 79 ?_; intro gb154 hg w20 hbox hb; have BK154 := aM (hbox); have GW154 := aM (bz_ w hg qz1); have GE154 := GW154; replace HB := bS_ hb; have NB149_154 := aM ((by rw [hg]; exact Nat.ne_of_lt (blk_lt (g := gb149) (o := .cells #[.slice (some ad151) l0_0.length c0_0] 26 (0, 0)) (bk2_ BK149.out)) : gb149 ≠ gb154)); have NB154_149 := aM ((by rw [hg]; exact Nat.ne_of_gt (blk_lt (g := gb149) (o := .cells #[.slice (some ad151) l0_0.length c0_0] 26 (0, 0)) (bk2_ BK149.out)) : gb154 ≠ gb149)); replace BK149 := aM (blk_below (g := gb149) (o := .cells #[.slice (some ad151) l0_0.length c0_0] 26 (0, 0)) (bk2_ BK149.out) hb); have NB150_154 := aM ((by rw [hg]; exact Nat.ne_of_lt (blk_lt (g := gb150) (o := .cells #[.slice (some ad153) l1_0.length c1_0] 26 (0, 0)) (bk2_ BK150.out)) : gb150 ≠ gb154)); have NB154_150 := aM ((by rw [hg]; exact Nat.ne_of_gt (blk_lt (g := gb150) (o := .cells #[.slice (some ad153) l1_0.length c1_0] 26 (0, 0)) (bk2_ BK150.out)) : gb154 ≠ gb150)); replace BK150 := aM (blk_below (g := gb150) (o := .cells #[.slice (some ad153) l1_0.length c1_0] 26 (0, 0)) (bk2_ BK150.out) hb); have NB152_154 := aM ((by rw [hg]; exact Nat.ne_of_lt (blk_lt (g := gb152) (o := .cells #[.int .i64 ((rd_T79 l0_0 x5_1).f0), .int .i64 ((rd_T79 l0_0 x5_1).f1), .slice A151_2 ((rd_T79 l0_0 x5_1).f2).length c151_2] 79 (0, 0)) (by (with_reducible repeat (first | refine blk_drewN ?_ _ | refine blk_drew ?_ | refine blk_alloc ?_ _)); refine blk_put (cs := #[.int .i64 ((rd_T79 l0_0 x5_1).f0), .int .i64 ((rd_T79 l0_0 x5_1).f1), .slice none 0 0]) ?_ 2 _ rfl; (with_reducible repeat (first | refine blk_drewN ?_ _ | refine blk_drew ?_ | refine blk_alloc ?_ _)); refine blk_put (cs := #[.int .i64 ((rd_T79 l0_0 x5_1).f0), .int .i64 0, .slice none 0 0]) ?_ 1 _ rfl; (with_reducible repeat (first | refine blk_drewN ?_ _ | refine blk_drew ?_ | refine blk_alloc ?_ _)); refine blk_put (cs := #[.int .i64 0, .int .i64 0, .slice none 0 0]) ?_ 0 _ rfl; exact bk_ BK152.out)) : gb152 ≠ gb154)); have NB154_152 := aM ((by rw [hg]; exact Nat.ne_of_gt (blk_lt (g := gb152) (o := .cells #[.int .i64 ((rd_T79 l0_0 x5_1).f0), .int .i64 ((rd_T79 l0_0 x5_1).f1), .slice A151_2 ((rd_T79 l0_0 x5_1).f2).length c151_2] 79 (0, 0)) (by (with_reducible repeat (first | refine blk_drewN ?_ _ | refine blk_drew ?_ | refine blk_alloc ?_ _)); refine blk_put (cs := #[.int .i64 ((rd_T79 l0_0 x5_1).f0), .int .i64 ((rd_T79 l0_0 x5_1).f1), .slice none 0 0]) ?_ 2 _ rfl; (with_reducible repeat (first | refine blk_drewN ?_ _ | refine blk_drew ?_ | refine blk_alloc ?_ _)); refine blk_put (cs := #[.int .i64 ((rd_T79 l0_0 x5_1).f0), .int .i64 0, .slice none 0 0]) ?_ 1 _ rfl; (with_reducible repeat (first | refine blk_drewN ?_ _ | refine blk_drew ?_ | refine blk_alloc ?_ _)); refine blk_put (cs := #[.int .i64 0, .int .i64 0, .slice none 0 0]) ?_ 0 _ rfl; exact bk_ BK152.out)) : gb154 ≠ gb152)); replace BK152 := aM (blk_below (g := gb152) (o := .cells #[.int .i64 ((rd_T79 l0_0 x5_1).f0), .int .i64 ((rd_T79 l0_0 x5_1).f1), .slice A151_2 ((rd_T79 l0_0 x5_1).f2).length c151_2] 79 (0, 0)) (by (with_reducible repeat (first | refine blk_drewN ?_ _ | refine blk_drew ?_ | refine blk_alloc ?_ _)); refine blk_put (cs := #[.int .i64 ((rd_T79 l0_0 x5_1).f0), .int .i64 ((rd_T79 l0_0 x5_1).f1), .slice none 0 0]) ?_ 2 _ rfl; (with_reducible repeat (first | refine blk_drewN ?_ _ | refine blk_drew ?_ | refine blk_alloc ?_ _)); refine blk_put (cs := #[.int .i64 ((rd_T79 l0_0 x5_1).f0), .int .i64 0, .slice none 0 0]) ?_ 1 _ rfl; (with_reducible repeat (first | refine blk_drewN ?_ _ | refine blk_drew ?_ | refine blk_alloc ?_ _)); refine blk_put (cs := #[.int .i64 0, .int .i64 0, .slice none 0 0]) ?_ 0 _ rfl; exact bk_ BK152.out) hb); clear hb hbox hg; have hnb21 := NB154_149.out; have hnc21 := NB149_154.out; have hnb22 := NB154_150.out; have hnc22 := NB150_154.out; have hnb23 := NB154_152.out; have hnc23 := NB152_154.out; obtain ⟨hcz24_0, hcz24_1, hcz24_2, hfz24_0, hfz24_1, hfz24_2⟩ := b6_ BK154.out))
   repeat (go_quiet (first | ((with_reducible refine gate_dst (N := 6) rfl ?_); (try (refine gate_guard (by rfl) ?_; dsimp only)); refine bx_ 6 #[.int .i64 0, .int .i64 0, .slice none 0 0] 79 ?_; intro gb152 hg w15 hbox hb; have BK152 := aM (hbox); have GW152 := aM (bz_ w hg qz1); have GE152 := GW152; replace HB := bS_ hb; obtain ⟨NB149_152, NB152_149⟩ := nb_ hg (bk_ BK149.out); replace BK149 := bB_ BK149 hb; obtain ⟨NB150_152, NB152_150⟩ := nb_ hg (bk_ BK150.out); replace BK150 := bB_ BK150 hb; clear hb hbox hg; have hnb16 := NB152_149.out; have hnc16 := NB149_152.out; have hnb17 := NB152_150.out; have hnc17 := NB150_152.out; obtain ⟨hcz18_0, hcz18_1, hcz18_2, hfz18_0, hfz18_1, hfz18_2⟩ := b6_ BK152.out; obtain ⟨hcz19_0, hfz19_0⟩ := bf_ BK150.out; have p153 : 0 ≤ (x5_1 : Int) := dt_; have q153 : x5_1 < (l1_0.length : Int) := dt_; obtain ⟨ad153, A153_2, c153_2, e153, hx153_0, hx153_1, hx153_2, hl153_2, hi153_2⟩ := at_T79 HR1_0.out x5_1 p153 q153; cases e153; have hn153_0 : ad153.block ≠ gb152 := nf_ hx153_0 GW152.out; have hn153_1 : ad153.block ≠ gb152 := nf_ hx153_0 GW152.out; have hn153_2 : ad153.block ≠ gb152 := nf_ hx153_0 GW152.out; replace hx153_0 := cB_ hx153_0; replace hx153_1 := cB_ hx153_1; replace hx153_2 := cB_ hx153_2; have HR153_2 := aM hi153_2; have HC153_2 := aM hl153_2; clear hi153_2 hl153_2; replace hx153_0 := (cell_far (p := ⟨gb152, 0, none⟩) qz16 (.int .i64 ((rd_T79 l0_0 x5_1).f0))).trans hx153_0; replace hx153_1 := (cell_far (p := ⟨gb152, 0, none⟩) qz16 (.int .i64 ((rd_T79 l0_0 x5_1).f0))).trans hx153_1; replace hx153_2 := (cell_far (p := ⟨gb152, 0, none⟩) qz16 (.int .i64 ((rd_T79 l0_0 x5_1).f0))).trans hx153_2; replace hx153_0 := (cell_far (p := ⟨gb152, 1, none⟩) qz17 (.int .i64 ((rd_T79 l0_0 x5_1).f1))).trans hx153_0; replace hx153_1 := (cell_far (p := ⟨gb152, 1, none⟩) qz17 (.int .i64 ((rd_T79 l0_0 x5_1).f1))).trans hx153_1; replace hx153_2 := (cell_far (p := ⟨gb152, 1, none⟩) qz17 (.int .i64 ((rd_T79 l0_0 x5_1).f1))).trans hx153_2; replace hx153_0 := (cell_far (p := ⟨gb152, 2, none⟩) qz18 (.slice A151_2 ((rd_T79 l0_0 x5_1).f2).length c151_2)).trans hx153_0; replace hx153_1 := (cell_far (p := ⟨gb152, 2, none⟩) qz18 (.slice A151_2 ((rd_T79 l0_0 x5_1).f2).length c151_2)).trans hx153_1; replace hx153_2 := (cell_far (p := ⟨gb152, 2, none⟩) qz18 (.slice A151_2 ((rd_T79 l0_0 x5_1).f2).length c151_2)).trans hx153_2; (try have hy153_0 := fun (n_ : Nat) => (show (((((w15.drewN n_).setCell ⟨gb152, 0, none⟩ (.int .i64 ((rd_T79 l0_0 x5_1).f0))).setCell ⟨gb152, 1, none⟩ (.int .i64 ((rd_T79 l0_0 x5_1).f1))).setCell ⟨gb152, 2, none⟩ (.slice A151_2 ((rd_T79 l0_0 x5_1).f2).length c151_2))).cell? _ = some _ from hx153_0)); (try have hy153_1 := fun (n_ : Nat) => (show (((((w15.drewN n_).setCell ⟨gb152, 0, none⟩ (.int .i64 ((rd_T79 l0_0 x5_1).f0))).setCell ⟨gb152, 1, none⟩ (.int .i64 ((rd_T79 l0_0 x5_1).f1))).setCell ⟨gb152, 2, none⟩ (.slice A151_2 ((rd_T79 l0_0 x5_1).f2).length c151_2))).cell? _ = some _ from hx153_1)); (try have hy153_2 := fun (n_ : Nat) => (show (((((w15.drewN n_).setCell ⟨gb152, 0, none⟩ (.int .i64 ((rd_T79 l0_0 x5_1).f0))).setCell ⟨gb152, 1, none⟩ (.int .i64 ((rd_T79 l0_0 x5_1).f1))).setCell ⟨gb152, 2, none⟩ (.slice A151_2 ((rd_T79 l0_0 x5_1).f2).length c151_2))).cell? _ = some _ from hx153_2)); clear hn153_0 hn153_1 hn153_2; replace p153 := eq_true p153; replace q153 := eq_true q153) | ((with_reducible refine gate_dst (N := 7) rfl ?_); (try (refine gate_guard (by rfl) ?_; dsimp only)); refine bx_ 7 #[.int .i64 0, .int .i64 0, .slice none 0 0] 79 ?_; intro gb154 hg w20 hbox hb; have BK154 := aM (hbox); have GW154 := aM (bz_ w hg qz1); have GE154 := GW154; replace HB := bS_ hb; have NB149_154 := aM ((by rw [hg]; exact Nat.ne_of_lt (blk_lt (g := gb149) (o := .cells #[.slice (some ad151) l0_0.length c0_0] 26 (0, 0)) (bk2_ BK149.out)) : gb149 ≠ gb154)); have NB154_149 := aM ((by rw [hg]; exact Nat.ne_of_gt (blk_lt (g := gb149) (o := .cells #[.slice (some ad151) l0_0.length c0_0] 26 (0, 0)) (bk2_ BK149.out)) : gb154 ≠ gb149)); replace BK149 := aM (blk_below (g := gb149) (o := .cells #[.slice (some ad151) l0_0.length c0_0] 26 (0, 0)) (bk2_ BK149.out) hb); have NB150_154 := aM ((by rw [hg]; exact Nat.ne_of_lt (blk_lt (g := gb150) (o := .cells #[.slice (some ad153) l1_0.length c1_0] 26 (0, 0)) (bk2_ BK150.out)) : gb150 ≠ gb154)); have NB154_150 := aM ((by rw [hg]; exact Nat.ne_of_gt (blk_lt (g := gb150) (o := .cells #[.slice (some ad153) l1_0.length c1_0] 26 (0, 0)) (bk2_ BK150.out)) : gb154 ≠ gb150)); replace BK150 := aM (blk_below (g := gb150) (o := .cells #[.slice (some ad153) l1_0.length c1_0] 26 (0, 0)) (bk2_ BK150.out) hb); have NB152_154 := aM ((by rw [hg]; exact Nat.ne_of_lt (blk_lt (g := gb152) (o := .cells #[.int .i64 ((rd_T79 l0_0 x5_1).f0), .int .i64 ((rd_T79 l0_0 x5_1).f1), .slice A151_2 ((rd_T79 l0_0 x5_1).f2).length c151_2] 79 (0, 0)) (by (with_reducible repeat (first | refine blk_drewN ?_ _ | refine blk_drew ?_ | refine blk_alloc ?_ _)); refine blk_put (cs := #[.int .i64 ((rd_T79 l0_0 x5_1).f0), .int .i64 ((rd_T79 l0_0 x5_1).f1), .slice none 0 0]) ?_ 2 _ rfl; (with_reducible repeat (first | refine blk_drewN ?_ _ | refine blk_drew ?_ | refine blk_alloc ?_ _)); refine blk_put (cs := #[.int .i64 ((rd_T79 l0_0 x5_1).f0), .int .i64 0, .slice none 0 0]) ?_ 1 _ rfl; (with_reducible repeat (first | refine blk_drewN ?_ _ | refine blk_drew ?_ | refine blk_alloc ?_ _)); refine blk_put (cs := #[.int .i64 0, .int .i64 0, .slice none 0 0]) ?_ 0 _ rfl; exact bk_ BK152.out)) : gb152 ≠ gb154)); have NB154_152 := aM ((by rw [hg]; exact Nat.ne_of_gt (blk_lt (g := gb152) (o := .cells #[.int .i64 ((rd_T79 l0_0 x5_1).f0), .int .i64 ((rd_T79 l0_0 x5_1).f1), .slice A151_2 ((rd_T79 l0_0 x5_1).f2).length c151_2] 79 (0, 0)) (by (with_reducible repeat (first | refine blk_drewN ?_ _ | refine blk_drew ?_ | refine blk_alloc ?_ _)); refine blk_put (cs := #[.int .i64 ((rd_T79 l0_0 x5_1).f0), .int .i64 ((rd_T79 l0_0 x5_1).f1), .slice none 0 0]) ?_ 2 _ rfl; (with_reducible repeat (first | refine blk_drewN ?_ _ | refine blk_drew ?_ | refine blk_alloc ?_ _)); refine blk_put (cs := #[.int .i64 ((rd_T79 l0_0 x5_1).f0), .int .i64 0, .slice none 0 0]) ?_ 1 _ rfl; (with_reducible repeat (first | refine blk_drewN ?_ _ | refine blk_drew ?_ | refine blk_alloc ?_ _)); refine blk_put (cs := #[.int .i64 0, .int .i64 0, .slice none 0 0]) ?_ 0 _ rfl; exact bk_ BK152.out)) : gb154 ≠ gb152)); replace BK152 := aM (blk_below (g := gb152) (o := .cells #[.int .i64 ((rd_T79 l0_0 x5_1).f0), .int .i64 ((rd_T79 l0_0 x5_1).f1), .slice A151_2 ((rd_T79 l0_0 x5_1).f2).length c151_2] 79 (0, 0)) (by (with_reducible repeat (first | refine blk_drewN ?_ _ | refine blk_drew ?_ | refine blk_alloc ?_ _)); refine blk_put (cs := #[.int .i64 ((rd_T79 l0_0 x5_1).f0), .int .i64 ((rd_T79 l0_0 x5_1).f1), .slice none 0 0]) ?_ 2 _ rfl; (with_reducible repeat (first | refine blk_drewN ?_ _ | refine blk_drew ?_ | refine blk_alloc ?_ _)); refine blk_put (cs := #[.int .i64 ((rd_T79 l0_0 x5_1).f0), .int .i64 0, .slice none 0 0]) ?_ 1 _ rfl; (with_reducible repeat (first | refine blk_drewN ?_ _ | refine blk_drew ?_ | refine blk_alloc ?_ _)); refine blk_put (cs := #[.int .i64 0, .int .i64 0, .slice none 0 0]) ?_ 0 _ rfl; exact bk_ BK152.out) hb); clear hb hbox hg; have hnb21 := NB154_149.out; have hnc21 := NB149_154.out; have hnb22 := NB154_150.out; have hnc22 := NB150_154.out; have hnb23 := NB154_152.out; have hnc23 := NB152_154.out; obtain ⟨hcz24_0, hcz24_1, hcz24_2, hfz24_0, hfz24_1, hfz24_2⟩ := b6_ BK154.out)); go_upto_region 8 with (first | ((with_reducible refine gate_dst (N := 6) rfl ?_); (try (refine gate_guard (by rfl) ?_; dsimp only)); refine bx_ 6 #[.int .i64 0, .int .i64 0, .slice none 0 0] 79 ?_; intro gb152 hg w15 hbox hb; have BK152 := aM (hbox); have GW152 := aM (bz_ w hg qz1); have GE152 := GW152; replace HB := bS_ hb; obtain ⟨NB149_152, NB152_149⟩ := nb_ hg (bk_ BK149.out); replace BK149 := bB_ BK149 hb; obtain ⟨NB150_152, NB152_150⟩ := nb_ hg (bk_ BK150.out); replace BK150 := bB_ BK150 hb; clear hb hbox hg; have hnb16 := NB152_149.out; have hnc16 := NB149_152.out; have hnb17 := NB152_150.out; have hnc17 := NB150_152.out; obtain ⟨hcz18_0, hcz18_1, hcz18_2, hfz18_0, hfz18_1, hfz18_2⟩ := b6_ BK152.out; obtain ⟨hcz19_0, hfz19_0⟩ := bf_ BK150.out; have p153 : 0 ≤ (x5_1 : Int) := dt_; have q153 : x5_1 < (l1_0.length : Int) := dt_; obtain ⟨ad153, A153_2, c153_2, e153, hx153_0, hx153_1, hx153_2, hl153_2, hi153_2⟩ := at_T79 HR1_0.out x5_1 p153 q153; cases e153; have hn153_0 : ad153.block ≠ gb152 := nf_ hx153_0 GW152.out; have hn153_1 : ad153.block ≠ gb152 := nf_ hx153_0 GW152.out; have hn153_2 : ad153.block ≠ gb152 := nf_ hx153_0 GW152.out; replace hx153_0 := cB_ hx153_0; replace hx153_1 := cB_ hx153_1; replace hx153_2 := cB_ hx153_2; have HR153_2 := aM hi153_2; have HC153_2 := aM hl153_2; clear hi153_2 hl153_2; replace hx153_0 := (cell_far (p := ⟨gb152, 0, none⟩) qz16 (.int .i64 ((rd_T79 l0_0 x5_1).f0))).trans hx153_0; replace hx153_1 := (cell_far (p := ⟨gb152, 0, none⟩) qz16 (.int .i64 ((rd_T79 l0_0 x5_1).f0))).trans hx153_1; replace hx153_2 := (cell_far (p := ⟨gb152, 0, none⟩) qz16 (.int .i64 ((rd_T79 l0_0 x5_1).f0))).trans hx153_2; replace hx153_0 := (cell_far (p := ⟨gb152, 1, none⟩) qz17 (.int .i64 ((rd_T79 l0_0 x5_1).f1))).trans hx153_0; replace hx153_1 := (cell_far (p := ⟨gb152, 1, none⟩) qz17 (.int .i64 ((rd_T79 l0_0 x5_1).f1))).trans hx153_1; replace hx153_2 := (cell_far (p := ⟨gb152, 1, none⟩) qz17 (.int .i64 ((rd_T79 l0_0 x5_1).f1))).trans hx153_2; replace hx153_0 := (cell_far (p := ⟨gb152, 2, none⟩) qz18 (.slice A151_2 ((rd_T79 l0_0 x5_1).f2).length c151_2)).trans hx153_0; replace hx153_1 := (cell_far (p := ⟨gb152, 2, none⟩) qz18 (.slice A151_2 ((rd_T79 l0_0 x5_1).f2).length c151_2)).trans hx153_1; replace hx153_2 := (cell_far (p := ⟨gb152, 2, none⟩) qz18 (.slice A151_2 ((rd_T79 l0_0 x5_1).f2).length c151_2)).trans hx153_2; (try have hy153_0 := fun (n_ : Nat) => (show (((((w15.drewN n_).setCell ⟨gb152, 0, none⟩ (.int .i64 ((rd_T79 l0_0 x5_1).f0))).setCell ⟨gb152, 1, none⟩ (.int .i64 ((rd_T79 l0_0 x5_1).f1))).setCell ⟨gb152, 2, none⟩ (.slice A151_2 ((rd_T79 l0_0 x5_1).f2).length c151_2))).cell? _ = some _ from hx153_0)); (try have hy153_1 := fun (n_ : Nat) => (show (((((w15.drewN n_).setCell ⟨gb152, 0, none⟩ (.int .i64 ((rd_T79 l0_0 x5_1).f0))).setCell ⟨gb152, 1, none⟩ (.int .i64 ((rd_T79 l0_0 x5_1).f1))).setCell ⟨gb152, 2, none⟩ (.slice A151_2 ((rd_T79 l0_0 x5_1).f2).length c151_2))).cell? _ = some _ from hx153_1)); (try have hy153_2 := fun (n_ : Nat) => (show (((((w15.drewN n_).setCell ⟨gb152, 0, none⟩ (.int .i64 ((rd_T79 l0_0 x5_1).f0))).setCell ⟨gb152, 1, none⟩ (.int .i64 ((rd_T79 l0_0 x5_1).f1))).setCell ⟨gb152, 2, none⟩ (.slice A151_2 ((rd_T79 l0_0 x5_1).f2).length c151_2))).cell? _ = some _ from hx153_2)); clear hn153_0 hn153_1 hn153_2; replace p153 := eq_true p153; replace q153 := eq_true q153) | ((with_reducible refine gate_dst (N := 7) rfl ?_); (try (refine gate_guard (by rfl) ?_; dsimp only)); refine bx_ 7 #[.int .i64 0, .int .i64 0, .slice none 0 0] 79 ?_; intro gb154 hg w20 hbox hb; have BK154 := aM (hbox); have GW154 := aM (bz_ w hg qz1); have GE154 := GW154; replace HB := bS_ hb; have NB149_154 := aM ((by rw [hg]; exact Nat.ne_of_lt (blk_lt (g := gb149) (o := .cells #[.slice (some ad151) l0_0.length c0_0] 26 (0, 0)) (bk2_ BK149.out)) : gb149 ≠ gb154)); have NB154_149 := aM ((by rw [hg]; exact Nat.ne_of_gt (blk_lt (g := gb149) (o := .cells #[.slice (some ad151) l0_0.length c0_0] 26 (0, 0)) (bk2_ BK149.out)) : gb154 ≠ gb149)); replace BK149 := aM (blk_below (g := gb149) (o := .cells #[.slice (some ad151) l0_0.length c0_0] 26 (0, 0)) (bk2_ BK149.out) hb); have NB150_154 := aM ((by rw [hg]; exact Nat.ne_of_lt (blk_lt (g := gb150) (o := .cells #[.slice (some ad153) l1_0.length c1_0] 26 (0, 0)) (bk2_ BK150.out)) : gb150 ≠ gb154)); have NB154_150 := aM ((by rw [hg]; exact Nat.ne_of_gt (blk_lt (g := gb150) (o := .cells #[.slice (some ad153) l1_0.length c1_0] 26 (0, 0)) (bk2_ BK150.out)) : gb154 ≠ gb150)); replace BK150 := aM (blk_below (g := gb150) (o := .cells #[.slice (some ad153) l1_0.length c1_0] 26 (0, 0)) (bk2_ BK150.out) hb); have NB152_154 := aM ((by rw [hg]; exact Nat.ne_of_lt (blk_lt (g := gb152) (o := .cells #[.int .i64 ((rd_T79 l0_0 x5_1).f0), .int .i64 ((rd_T79 l0_0 x5_1).f1), .slice A151_2 ((rd_T79 l0_0 x5_1).f2).length c151_2] 79 (0, 0)) (by (with_reducible repeat (first | refine blk_drewN ?_ _ | refine blk_drew ?_ | refine blk_alloc ?_ _)); refine blk_put (cs := #[.int .i64 ((rd_T79 l0_0 x5_1).f0), .int .i64 ((rd_T79 l0_0 x5_1).f1), .slice none 0 0]) ?_ 2 _ rfl; (with_reducible repeat (first | refine blk_drewN ?_ _ | refine blk_drew ?_ | refine blk_alloc ?_ _)); refine blk_put (cs := #[.int .i64 ((rd_T79 l0_0 x5_1).f0), .int .i64 0, .slice none 0 0]) ?_ 1 _ rfl; (with_reducible repeat (first | refine blk_drewN ?_ _ | refine blk_drew ?_ | refine blk_alloc ?_ _)); refine blk_put (cs := #[.int .i64 0, .int .i64 0, .slice none 0 0]) ?_ 0 _ rfl; exact bk_ BK152.out)) : gb152 ≠ gb154)); have NB154_152 := aM ((by rw [hg]; exact Nat.ne_of_gt (blk_lt (g := gb152) (o := .cells #[.int .i64 ((rd_T79 l0_0 x5_1).f0), .int .i64 ((rd_T79 l0_0 x5_1).f1), .slice A151_2 ((rd_T79 l0_0 x5_1).f2).length c151_2] 79 (0, 0)) (by (with_reducible repeat (first | refine blk_drewN ?_ _ | refine blk_drew ?_ | refine blk_alloc ?_ _)); refine blk_put (cs := #[.int .i64 ((rd_T79 l0_0 x5_1).f0), .int .i64 ((rd_T79 l0_0 x5_1).f1), .slice none 0 0]) ?_ 2 _ rfl; (with_reducible repeat (first | refine blk_drewN ?_ _ | refine blk_drew ?_ | refine blk_alloc ?_ _)); refine blk_put (cs := #[.int .i64 ((rd_T79 l0_0 x5_1).f0), .int .i64 0, .slice none 0 0]) ?_ 1 _ rfl; (with_reducible repeat (first | refine blk_drewN ?_ _ | refine blk_drew ?_ | refine blk_alloc ?_ _)); refine blk_put (cs := #[.int .i64 0, .int .i64 0, .slice none 0 0]) ?_ 0 _ rfl; exact bk_ BK152.out)) : gb154 ≠ gb152)); replace BK152 := aM (blk_below (g := gb152) (o := .cells #[.int .i64 ((rd_T79 l0_0 x5_1).f0), .int .i64 ((rd_T79 l0_0 x5_1).f1), .slice A151_2 ((rd_T79 l0_0 x5_1).f2).length c151_2] 79 (0, 0)) (by (with_reducible repeat (first | refine blk_drewN ?_ _ | refine blk_drew ?_ | refine blk_alloc ?_ _)); refine blk_put (cs := #[.int .i64 ((rd_T79 l0_0 x5_1).f0), .int .i64 ((rd_T79 l0_0 x5_1).f1), .slice none 0 0]) ?_ 2 _ rfl; (with_reducible repeat (first | refine blk_drewN ?_ _ | refine blk_drew ?_ | refine blk_alloc ?_ _)); refine blk_put (cs := #[.int .i64 ((rd_T79 l0_0 x5_1).f0), .int .i64 0, .slice none 0 0]) ?_ 1 _ rfl; (with_reducible repeat (first | refine blk_drewN ?_ _ | refine blk_drew ?_ | refine blk_alloc ?_ _)); refine blk_put (cs := #[.int .i64 0, .int .i64 0, .slice none 0 0]) ?_ 0 _ rfl; exact bk_ BK152.out) hb); clear hb hbox hg; have hnb21 := NB154_149.out; have hnc21 := NB149_154.out; have hnb22 := NB154_150.out; have hnc22 := NB150_154.out; have hnb23 := NB154_152.out; have hnc23 := NB152_154.out; obtain ⟨hcz24_0, hcz24_1, hcz24_2, hfz24_0, hfz24_1, hfz24_2⟩ := b6_ BK154.out)))
   (try simp only [Act.put, List.setIfInBounds_toArray, List.set_cons_zero, List.set_cons_succ])
   go_cut [53] (fun v53 wc => ∃ (kq : Nat) (x53_11 : Bool), v53 = .bool x53_11 ∧ Aside0 (laws_sameStock.j1 kq x5_1 x53_11 l0_0 l1_0 ((rd_T79 l0_0 x5_1).f0) ((rd_T79 l0_0 x5_1).f1) ((rd_T79 l0_0 x5_1).f2) ((rd_T79 l1_0 x5_1).f0) ((rd_T79 l1_0 x5_1).f1) ((rd_T79 l1_0 x5_1).f2) = some r) ∧ Aside0 (kq ≤ k1) ∧ Aside0 (wc.heap[gb149]? = some (.cells #[(.slice (some ad151) l0_0.length c0_0)] 26 (0, 0))) ∧ Aside0 (wc.heap[gb150]? = some (.cells #[(.slice (some ad153) l1_0.length c1_0)] 26 (0, 0))) ∧ Aside0 (wc.heap[gb152]? = some (.cells #[.int .i64 ((rd_T79 l0_0 x5_1).f0), .int .i64 ((rd_T79 l0_0 x5_1).f1), (.slice A151_2 ((rd_T79 l0_0 x5_1).f2).length c151_2)] 79 (0, 0))) ∧ Aside0 (wc.heap[gb154]? = some (.cells #[.int .i64 ((rd_T79 l1_0 x5_1).f0), .int .i64 ((rd_T79 l1_0 x5_1).f1), (.slice A153_2 ((rd_T79 l1_0 x5_1).f2).length c153_2)] 79 (0, 0))) ∧ Aside0 (Below w.heap.size w wc))
   case first =>
    have H := HC12.out
    clear HC12
    by_cases c25 : ((rd_T79 l0_0 x5_1).f0) = ((rd_T79 l1_0 x5_1).f0)
    {
    rw [if_pos c25] at H
    have c25b0 := beq_iff_eq.mpr c25
    have c25b1 := bne_eq_false_iff_eq.mpr c25
    clear c25
    (first | rw [c25b0] | (simp only [i64_w, i32_w]; rw [c25b0]) | rw [@decide_eq_true _ _ (of_decide_eq_true c25b0)] | rw [@decide_eq_true _ _ (of_decide_eq_true c25b1)] | skip)
    by_cases c26 : ((rd_T79 l0_0 x5_1).f1) = ((rd_T79 l1_0 x5_1).f1)
    {
    rw [if_pos c26] at H
    have c26b0 := beq_iff_eq.mpr c26
    have c26b1 := bne_eq_false_iff_eq.mpr c26
    clear c26
    have H' := aM H
    clear H
    have hnb27 := NB152_149.out
    have hnc27 := NB149_152.out
    have hnb28 := NB152_150.out
    have hnc28 := NB150_152.out
    have hnb29 := NB152_154.out
    have hnc29 := NB154_152.out
    obtain ⟨hcz30_0, hcz30_1, hcz30_2, hfz30_0, hfz30_1, hfz30_2⟩ := b6_ BK152.out
    have hnb31 := NB154_149.out
    have hnc31 := NB149_154.out
    have hnb32 := NB154_150.out
    have hnc32 := NB150_154.out
    obtain ⟨hcz33_0, hcz33_1, hcz33_2, hfz33_0, hfz33_1, hfz33_2⟩ := b6_ BK154.out
    go_wp2
    repeat (go_quiet (fail); try go_wp2)
    go_meet
    case rel => exact ⟨_, (((((rd_T79 l0_0 x5_1).f2).length : Int) != (((rd_T79 l1_0 x5_1).f2).length : Int))), qz6, H', ⟨by have := HK1.out; first | omega | exact Nat.le_refl _⟩, ⟨by (with_reducible repeat (first | refine blk_drewN ?_ _ | refine blk_drew ?_ | refine blk_alloc ?_ _)); refine blk_far ?_ NB149_154.out _; (with_reducible repeat (first | refine blk_drewN ?_ _ | refine blk_drew ?_ | refine blk_alloc ?_ _)); refine blk_far ?_ NB149_154.out _; (with_reducible repeat (first | refine blk_drewN ?_ _ | refine blk_drew ?_ | refine blk_alloc ?_ _)); refine blk_far ?_ NB149_154.out _; exact bk_ BK149.out⟩, ⟨by (with_reducible repeat (first | refine blk_drewN ?_ _ | refine blk_drew ?_ | refine blk_alloc ?_ _)); refine blk_far ?_ NB150_154.out _; (with_reducible repeat (first | refine blk_drewN ?_ _ | refine blk_drew ?_ | refine blk_alloc ?_ _)); refine blk_far ?_ NB150_154.out _; (with_reducible repeat (first | refine blk_drewN ?_ _ | refine blk_drew ?_ | refine blk_alloc ?_ _)); refine blk_far ?_ NB150_154.out _; exact bk_ BK150.out⟩, ⟨by (with_reducible repeat (first | refine blk_drewN ?_ _ | refine blk_drew ?_ | refine blk_alloc ?_ _)); refine blk_far ?_ NB152_154.out _; (with_reducible repeat (first | refine blk_drewN ?_ _ | refine blk_drew ?_ | refine blk_alloc ?_ _)); refine blk_far ?_ NB152_154.out _; (with_reducible repeat (first | refine blk_drewN ?_ _ | refine blk_drew ?_ | refine blk_alloc ?_ _)); refine blk_far ?_ NB152_154.out _; exact bk_ BK152.out⟩, ⟨by (with_reducible repeat (first | refine blk_drewN ?_ _ | refine blk_drew ?_ | refine blk_alloc ?_ _)); refine blk_put (cs := #[.int .i64 ((rd_T79 l1_0 x5_1).f0), .int .i64 ((rd_T79 l1_0 x5_1).f1), .slice none 0 0]) ?_ 2 _ rfl; (with_reducible repeat (first | refine blk_drewN ?_ _ | refine blk_drew ?_ | refine blk_alloc ?_ _)); refine blk_put (cs := #[.int .i64 ((rd_T79 l1_0 x5_1).f0), .int .i64 0, .slice none 0 0]) ?_ 1 _ rfl; (with_reducible repeat (first | refine blk_drewN ?_ _ | refine blk_drew ?_ | refine blk_alloc ?_ _)); refine blk_put (cs := #[.int .i64 0, .int .i64 0, .slice none 0 0]) ?_ 0 _ rfl; exact bk_ BK154.out⟩, ⟨qz1⟩⟩
    }
    {
    rw [if_neg c26] at H
    have c26b0 := beq_eq_false_iff_ne.mpr c26
    have c26b1 := bne_iff_ne.mpr c26
    have H' := aM H
    clear H
    have hnb34 := NB152_149.out
    have hnc34 := NB149_152.out
    have hnb35 := NB152_150.out
    have hnc35 := NB150_152.out
    have hnb36 := NB152_154.out
    have hnc36 := NB154_152.out
    obtain ⟨hcz37_0, hcz37_1, hcz37_2, hfz37_0, hfz37_1, hfz37_2⟩ := b6_ BK152.out
    have hnb38 := NB154_149.out
    have hnc38 := NB149_154.out
    have hnb39 := NB154_150.out
    have hnc39 := NB150_154.out
    obtain ⟨hcz40_0, hcz40_1, hcz40_2, hfz40_0, hfz40_1, hfz40_2⟩ := b6_ BK154.out
    go_wp2
    repeat (go_quiet (fail); try go_wp2)
    go_meet
    case rel => exact ⟨_, (true), qz6, H', ⟨by have := HK1.out; first | omega | exact Nat.le_refl _⟩, ⟨by (with_reducible repeat (first | refine blk_drewN ?_ _ | refine blk_drew ?_ | refine blk_alloc ?_ _)); refine blk_far ?_ NB149_154.out _; (with_reducible repeat (first | refine blk_drewN ?_ _ | refine blk_drew ?_ | refine blk_alloc ?_ _)); refine blk_far ?_ NB149_154.out _; (with_reducible repeat (first | refine blk_drewN ?_ _ | refine blk_drew ?_ | refine blk_alloc ?_ _)); refine blk_far ?_ NB149_154.out _; exact bk_ BK149.out⟩, ⟨by (with_reducible repeat (first | refine blk_drewN ?_ _ | refine blk_drew ?_ | refine blk_alloc ?_ _)); refine blk_far ?_ NB150_154.out _; (with_reducible repeat (first | refine blk_drewN ?_ _ | refine blk_drew ?_ | refine blk_alloc ?_ _)); refine blk_far ?_ NB150_154.out _; (with_reducible repeat (first | refine blk_drewN ?_ _ | refine blk_drew ?_ | refine blk_alloc ?_ _)); refine blk_far ?_ NB150_154.out _; exact bk_ BK150.out⟩, ⟨by (with_reducible repeat (first | refine blk_drewN ?_ _ | refine blk_drew ?_ | refine blk_alloc ?_ _)); refine blk_far ?_ NB152_154.out _; (with_reducible repeat (first | refine blk_drewN ?_ _ | refine blk_drew ?_ | refine blk_alloc ?_ _)); refine blk_far ?_ NB152_154.out _; (with_reducible repeat (first | refine blk_drewN ?_ _ | refine blk_drew ?_ | refine blk_alloc ?_ _)); refine blk_far ?_ NB152_154.out _; exact bk_ BK152.out⟩, ⟨by (with_reducible repeat (first | refine blk_drewN ?_ _ | refine blk_drew ?_ | refine blk_alloc ?_ _)); refine blk_put (cs := #[.int .i64 ((rd_T79 l1_0 x5_1).f0), .int .i64 ((rd_T79 l1_0 x5_1).f1), .slice none 0 0]) ?_ 2 _ rfl; (with_reducible repeat (first | refine blk_drewN ?_ _ | refine blk_drew ?_ | refine blk_alloc ?_ _)); refine blk_put (cs := #[.int .i64 ((rd_T79 l1_0 x5_1).f0), .int .i64 0, .slice none 0 0]) ?_ 1 _ rfl; (with_reducible repeat (first | refine blk_drewN ?_ _ | refine blk_drew ?_ | refine blk_alloc ?_ _)); refine blk_put (cs := #[.int .i64 0, .int .i64 0, .slice none 0 0]) ?_ 0 _ rfl; exact bk_ BK154.out⟩, ⟨qz1⟩⟩
    }
    }
    {
    rw [if_neg c25] at H
    have c25b0 := beq_eq_false_iff_ne.mpr c25
    have c25b1 := bne_iff_ne.mpr c25
    (first | rw [c25b0] | (simp only [i64_w, i32_w]; rw [c25b0]) | rw [@decide_eq_false _ _ (of_decide_eq_false c25b0)] | rw [@decide_eq_false _ _ (of_decide_eq_false c25b1)] | skip)
    have H' := aM H
    clear H
    have hnb41 := NB152_149.out
    have hnc41 := NB149_152.out
    have hnb42 := NB152_150.out
    have hnc42 := NB150_152.out
    have hnb43 := NB152_154.out
    have hnc43 := NB154_152.out
    obtain ⟨hcz44_0, hcz44_1, hcz44_2, hfz44_0, hfz44_1, hfz44_2⟩ := b6_ BK152.out
    have hnb45 := NB154_149.out
    have hnc45 := NB149_154.out
    have hnb46 := NB154_150.out
    have hnc46 := NB150_154.out
    obtain ⟨hcz47_0, hcz47_1, hcz47_2, hfz47_0, hfz47_1, hfz47_2⟩ := b6_ BK154.out
    go_wp2
    repeat (go_quiet (fail); try go_wp2)
    go_meet
    case rel => exact ⟨_, (true), qz6, H', ⟨by have := HK1.out; first | omega | exact Nat.le_refl _⟩, ⟨by (with_reducible repeat (first | refine blk_drewN ?_ _ | refine blk_drew ?_ | refine blk_alloc ?_ _)); refine blk_far ?_ NB149_154.out _; (with_reducible repeat (first | refine blk_drewN ?_ _ | refine blk_drew ?_ | refine blk_alloc ?_ _)); refine blk_far ?_ NB149_154.out _; (with_reducible repeat (first | refine blk_drewN ?_ _ | refine blk_drew ?_ | refine blk_alloc ?_ _)); refine blk_far ?_ NB149_154.out _; exact bk_ BK149.out⟩, ⟨by (with_reducible repeat (first | refine blk_drewN ?_ _ | refine blk_drew ?_ | refine blk_alloc ?_ _)); refine blk_far ?_ NB150_154.out _; (with_reducible repeat (first | refine blk_drewN ?_ _ | refine blk_drew ?_ | refine blk_alloc ?_ _)); refine blk_far ?_ NB150_154.out _; (with_reducible repeat (first | refine blk_drewN ?_ _ | refine blk_drew ?_ | refine blk_alloc ?_ _)); refine blk_far ?_ NB150_154.out _; exact bk_ BK150.out⟩, ⟨by (with_reducible repeat (first | refine blk_drewN ?_ _ | refine blk_drew ?_ | refine blk_alloc ?_ _)); refine blk_far ?_ NB152_154.out _; (with_reducible repeat (first | refine blk_drewN ?_ _ | refine blk_drew ?_ | refine blk_alloc ?_ _)); refine blk_far ?_ NB152_154.out _; (with_reducible repeat (first | refine blk_drewN ?_ _ | refine blk_drew ?_ | refine blk_alloc ?_ _)); refine blk_far ?_ NB152_154.out _; exact bk_ BK152.out⟩, ⟨by (with_reducible repeat (first | refine blk_drewN ?_ _ | refine blk_drew ?_ | refine blk_alloc ?_ _)); refine blk_put (cs := #[.int .i64 ((rd_T79 l1_0 x5_1).f0), .int .i64 ((rd_T79 l1_0 x5_1).f1), .slice none 0 0]) ?_ 2 _ rfl; (with_reducible repeat (first | refine blk_drewN ?_ _ | refine blk_drew ?_ | refine blk_alloc ?_ _)); refine blk_put (cs := #[.int .i64 ((rd_T79 l1_0 x5_1).f0), .int .i64 0, .slice none 0 0]) ?_ 1 _ rfl; (with_reducible repeat (first | refine blk_drewN ?_ _ | refine blk_drew ?_ | refine blk_alloc ?_ _)); refine blk_put (cs := #[.int .i64 0, .int .i64 0, .slice none 0 0]) ?_ 0 _ rfl; exact bk_ BK154.out⟩, ⟨qz1⟩⟩
    }
   case rest =>
    clear HC12
    try clear c1
    try clear p1
    try clear q1
    try clear hx1
    try clear c2
    try clear p2
    try clear c3
    try clear c3b0
    try clear c3b1
    try clear c3b2
    try clear c4
    try clear c6
    try clear c9
    try clear c9b0
    try clear c10
    try clear c10b0
    try clear c11
    try clear c11b0
    try clear c13
    try clear c15
    try clear p15
    try clear q15
    try clear hx15
    try clear c16
    try clear c17
    try clear c19
    try clear c21
    try clear c22
    try clear c23
    try clear c25
    try clear c25b0
    try clear c25b1
    try clear c26
    try clear c26b0
    try clear c26b1
    try clear c27
    try clear c28
    try clear c29
    try clear c31
    try clear c32
    try clear c34
    try clear c35
    try clear c36
    try clear c38
    try clear c39
    try clear c41
    try clear c42
    try clear c43
    try clear c45
    try clear c46
    try clear hcz14_0
    try clear hcz18_0
    try clear hcz18_1
    try clear hcz18_2
    try clear hcz19_0
    try clear hcz24_0
    try clear hcz24_1
    try clear hcz24_2
    try clear hcz30_0
    try clear hcz30_1
    try clear hcz30_2
    try clear hcz33_0
    try clear hcz33_1
    try clear hcz33_2
    try clear hcz37_0
    try clear hcz37_1
    try clear hcz37_2
    try clear hcz40_0
    try clear hcz40_1
    try clear hcz40_2
    try clear hcz44_0
    try clear hcz44_1
    try clear hcz44_2
    try clear hcz47_0
    try clear hcz47_1
    try clear hcz47_2
    try clear hcz7_0
    try clear hcz8_0
    try clear hfz14_0
    try clear hfz18_0
    try clear hfz18_1
    try clear hfz18_2
    try clear hfz19_0
    try clear hfz24_0
    try clear hfz24_1
    try clear hfz24_2
    try clear hfz30_0
    try clear hfz30_1
    try clear hfz30_2
    try clear hfz33_0
    try clear hfz33_1
    try clear hfz33_2
    try clear hfz37_0
    try clear hfz37_1
    try clear hfz37_2
    try clear hfz40_0
    try clear hfz40_1
    try clear hfz40_2
    try clear hfz44_0
    try clear hfz44_1
    try clear hfz44_2
    try clear hfz47_0
    try clear hfz47_1
    try clear hfz47_2
    try clear hfz7_0
    try clear hfz8_0
    try clear hx151_0
    try clear hx151_1
    try clear hx151_2
    try clear hx153_0
    try clear hx153_1
    try clear hx153_2
    try clear p151
    try clear p153
    try clear p2
    try clear q151
    try clear q153
    obtain ⟨kq, x53_11, rfl, HA, HJ11, BK149, BK150, BK152, BK154, HB⟩ := hcut
    cases kq with
    | zero => exact absurd HA.out (by simp [laws_sameStock.j1])
    | succ kj11 =>
     have H := HA.out
     clear HA
     simp only [laws_sameStock.j1] at H
     by_cases c48 : x53_11 = true
     {
     subst c48
     rw [if_pos rfl] at H
     obtain rfl := Option.some.inj H
     exact absurd HTR_.out (by decide)
     }
     {
     replace c48 := Bool.eq_false_iff.mpr c48
     subst c48
     rw [if_neg (show ¬ (false = true) by decide)] at H
     have H' := aM H
     clear H
     go_wp2
     repeat (go_quiet (fail); try go_wp2)
     go_loopg [8] kj11 (fun kq v8 w' => ∃ (x8_3 : Int), v8 = .int .i64 x8_3 ∧ Aside0 (laws_sameStock.l1 kq x5_1 x8_3 l0_0 l1_0 ((rd_T79 l0_0 x5_1).f0) ((rd_T79 l0_0 x5_1).f1) ((rd_T79 l0_0 x5_1).f2) ((rd_T79 l1_0 x5_1).f0) ((rd_T79 l1_0 x5_1).f1) ((rd_T79 l1_0 x5_1).f2) = some r) ∧ Aside0 (kq ≤ kj11) ∧ Aside0 (w'.heap[gb149]? = some (.cells #[(.slice (some ad151) l0_0.length c0_0)] 26 (0, 0))) ∧ Aside0 (w'.heap[gb150]? = some (.cells #[(.slice (some ad153) l1_0.length c1_0)] 26 (0, 0))) ∧ Aside0 (w'.heap[gb152]? = some (.cells #[.int .i64 ((rd_T79 l0_0 x5_1).f0), .int .i64 ((rd_T79 l0_0 x5_1).f1), (.slice A151_2 ((rd_T79 l0_0 x5_1).f2).length c151_2)] 79 (0, 0))) ∧ Aside0 (w'.heap[gb154]? = some (.cells #[.int .i64 ((rd_T79 l1_0 x5_1).f0), .int .i64 ((rd_T79 l1_0 x5_1).f1), (.slice A153_2 ((rd_T79 l1_0 x5_1).f2).length c153_2)] 79 (0, 0))) ∧ Aside0 (Below w.heap.size w w'))
     case atStart => exact ⟨(0), qz6, H', ⟨Nat.le_refl _⟩, ⟨bk_ BK149.out⟩, ⟨bk_ BK150.out⟩, ⟨bk_ BK152.out⟩, ⟨bk_ BK154.out⟩, ⟨qz1⟩⟩
     case round =>
      clear H'
      try clear c1
      try clear p1
      try clear q1
      try clear hx1
      try clear c2
      try clear p2
      try clear c3
      try clear c3b0
      try clear c3b1
      try clear c3b2
      try clear c4
      try clear c6
      try clear c9
      try clear c9b0
      try clear c10
      try clear c10b0
      try clear c11
      try clear c11b0
      try clear c13
      try clear c15
      try clear p15
      try clear q15
      try clear hx15
      try clear c16
      try clear c17
      try clear c19
      try clear c21
      try clear c22
      try clear c23
      try clear c25
      try clear c25b0
      try clear c25b1
      try clear c26
      try clear c26b0
      try clear c26b1
      try clear c27
      try clear c28
      try clear c29
      try clear c31
      try clear c32
      try clear c34
      try clear c35
      try clear c36
      try clear c38
      try clear c39
      try clear c41
      try clear c42
      try clear c43
      try clear c45
      try clear c46
      try clear c48
      try clear hcz14_0
      try clear hcz18_0
      try clear hcz18_1
      try clear hcz18_2
      try clear hcz19_0
      try clear hcz24_0
      try clear hcz24_1
      try clear hcz24_2
      try clear hcz30_0
      try clear hcz30_1
      try clear hcz30_2
      try clear hcz33_0
      try clear hcz33_1
      try clear hcz33_2
      try clear hcz37_0
      try clear hcz37_1
      try clear hcz37_2
      try clear hcz40_0
      try clear hcz40_1
      try clear hcz40_2
      try clear hcz44_0
      try clear hcz44_1
      try clear hcz44_2
      try clear hcz47_0
      try clear hcz47_1
      try clear hcz47_2
      try clear hcz7_0
      try clear hcz8_0
      try clear hfz14_0
      try clear hfz18_0
      try clear hfz18_1
      try clear hfz18_2
      try clear hfz19_0
      try clear hfz24_0
      try clear hfz24_1
      try clear hfz24_2
      try clear hfz30_0
      try clear hfz30_1
      try clear hfz30_2
      try clear hfz33_0
      try clear hfz33_1
      try clear hfz33_2
      try clear hfz37_0
      try clear hfz37_1
      try clear hfz37_2
      try clear hfz40_0
      try clear hfz40_1
      try clear hfz40_2
      try clear hfz44_0
      try clear hfz44_1
      try clear hfz44_2
      try clear hfz47_0
      try clear hfz47_1
      try clear hfz47_2
      try clear hfz7_0
      try clear hfz8_0
      try clear hx151_0
      try clear hx151_1
      try clear hx151_2
      try clear hx153_0
      try clear hx153_1
      try clear hx153_2
      try clear p1
      try clear p15
      try clear p151
      try clear p153
      try clear p2
      try clear q1
      try clear q15
      try clear q151
      try clear q153
      obtain ⟨x8_3, rfl, HA, HK3, BK149, BK150, BK152, BK154, HB⟩ := hrel
      cases gk with
      | zero => exact absurd HA.out (by simp [laws_sameStock.l1])
      | succ k3 =>
       have H := HA.out
       clear HA
       simp only [laws_sameStock.l1] at H
       by_cases c49 : x8_3 < (((rd_T79 l0_0 x5_1).f2).length : Int)
       {
       rw [if_pos c49] at H
       have c49b0 := decide_eq_true c49
       clear c49
       by_cases c50 : 0 ≤ x8_3
       {
       rw [if_pos c50] at H
       have c50b0 := decide_eq_true c50
       clear c50
       by_cases c51 : x8_3 < (((rd_T79 l1_0 x5_1).f2).length : Int)
       {
       rw [if_pos c51] at H
       have c51b0 := decide_eq_true c51
       clear c51
       by_cases c52 : (!(((rd_T72 ((rd_T79 l0_0 x5_1).f2) x8_3).f0) == ((rd_T72 ((rd_T79 l1_0 x5_1).f2) x8_3).f0)) || (!(((rd_T72 ((rd_T79 l0_0 x5_1).f2) x8_3).f1) == ((rd_T72 ((rd_T79 l1_0 x5_1).f2) x8_3).f1)) || (!(((rd_T72 ((rd_T79 l0_0 x5_1).f2) x8_3).f2) == ((rd_T72 ((rd_T79 l1_0 x5_1).f2) x8_3).f2))))) = true
       {
       rw [if_pos c52] at H
       have c52b0 : (!(((rd_T72 ((rd_T79 l0_0 x5_1).f2) x8_3).f0) == ((rd_T72 ((rd_T79 l1_0 x5_1).f2) x8_3).f0)) || (!(((rd_T72 ((rd_T79 l0_0 x5_1).f2) x8_3).f1) == ((rd_T72 ((rd_T79 l1_0 x5_1).f2) x8_3).f1)) || (!(((rd_T72 ((rd_T79 l0_0 x5_1).f2) x8_3).f2) == ((rd_T72 ((rd_T79 l1_0 x5_1).f2) x8_3).f2))))) = true := c52
       clear c52
       obtain rfl := Option.some.inj H
       exact absurd HTR_.out (by decide)
       }
       {
       rw [if_neg c52] at H
       have c52b0 : (!(((rd_T72 ((rd_T79 l0_0 x5_1).f2) x8_3).f0) == ((rd_T72 ((rd_T79 l1_0 x5_1).f2) x8_3).f0)) || (!(((rd_T72 ((rd_T79 l0_0 x5_1).f2) x8_3).f1) == ((rd_T72 ((rd_T79 l1_0 x5_1).f2) x8_3).f1)) || (!(((rd_T72 ((rd_T79 l0_0 x5_1).f2) x8_3).f2) == ((rd_T72 ((rd_T79 l1_0 x5_1).f2) x8_3).f2))))) = false := by simpa using c52
       clear c52
       have H' := aM H
       clear H
       have hnb53 := NB152_149.out
       have hnc53 := NB149_152.out
       have hnb54 := NB152_150.out
       have hnc54 := NB150_152.out
       have hnb55 := NB152_154.out
       have hnc55 := NB154_152.out
       obtain ⟨hcz56_0, hcz56_1, hcz56_2, hfz56_0, hfz56_1, hfz56_2⟩ := b6_ BK152.out
       have p155 : 0 ≤ (x8_3 : Int) := dt_
       have q155 : x8_3 < (((rd_T79 l0_0 x5_1).f2).length : Int) := dt_
       obtain ⟨ad155, e155, hx155_0, hx155_1, hx155_2⟩ := at_T72 HR151_2.out x8_3 p155 q155
       cases e155
       replace hx155_0 := cB_ hx155_0
       replace hx155_1 := cB_ hx155_1
       replace hx155_2 := cB_ hx155_2
       replace p155 := eq_true p155
       replace q155 := eq_true q155
       have hnb57 := NB154_149.out
       have hnc57 := NB149_154.out
       have hnb58 := NB154_150.out
       have hnc58 := NB150_154.out
       obtain ⟨hcz59_0, hcz59_1, hcz59_2, hfz59_0, hfz59_1, hfz59_2⟩ := b6_ BK154.out
       have p156 : 0 ≤ (x8_3 : Int) := dt_
       have q156 : x8_3 < (((rd_T79 l1_0 x5_1).f2).length : Int) := dt_
       obtain ⟨ad156, e156, hx156_0, hx156_1, hx156_2⟩ := at_T72 HR153_2.out x8_3 p156 q156
       cases e156
       replace hx156_0 := cB_ hx156_0
       replace hx156_1 := cB_ hx156_1
       replace hx156_2 := cB_ hx156_2
       replace p156 := eq_true p156
       replace q156 := eq_true q156
       go_wp2
       repeat (go_quiet (fail); try go_wp2)
       go_roundg k3
       case measure => have := HK1.out; have := HJ11.out; have := HK3.out; omega
       case rel => exact ⟨(wrap64 (x8_3 + 1)), qz6, H', ⟨by have := HK1.out; have := HJ11.out; have := HK3.out; omega⟩, ⟨bk_ BK149.out⟩, ⟨bk_ BK150.out⟩, ⟨bk_ BK152.out⟩, ⟨bk_ BK154.out⟩, ⟨qz1⟩⟩
       }
       }
       {
       exact an_ c51 H
       }
       }
       {
       exact an_ c50 H
       }
       }
       {
       rw [if_neg c49] at H
       have c49b0 := decide_eq_false c49
       clear c49
       have H' := aM H
       clear H
       have hnb60 := NB152_149.out
       have hnc60 := NB149_152.out
       have hnb61 := NB152_150.out
       have hnc61 := NB150_152.out
       have hnb62 := NB152_154.out
       have hnc62 := NB154_152.out
       obtain ⟨hcz63_0, hcz63_1, hcz63_2, hfz63_0, hfz63_1, hfz63_2⟩ := b6_ BK152.out
       go_wp2
       repeat (go_quiet (fail); try go_wp2)
       go_roundg k3
       case measure => have := HK1.out; have := HJ11.out; have := HK3.out; omega
       case rel => exact ⟨(wrap64 (x5_1 + 1)), qz6, H', ⟨by have := HK1.out; have := HJ11.out; have := HK3.out; omega⟩, ⟨bk_ BK149.out⟩, ⟨bk_ BK150.out⟩, ⟨qz1⟩⟩
       }
     }
   }
   {
   exact an_ c11 H
   }
   }
   {
   exact an_ c10 H
   }
   }
   {
   rw [if_neg c9] at H
   have c9b0 := decide_eq_false c9
   clear c9
   obtain rfl := Option.some.inj H
   simp only [Option.some.injEq, Prod.mk.injEq] at H
   obtain ⟨rfl⟩ := H
   have hnb64 := NB149_150.out
   have hnc64 := NB150_149.out
   obtain ⟨hcz65_0, hfz65_0⟩ := bf_ BK149.out
   go_wp2
   repeat (go_quiet (fail); try go_wp2)
   go_ret
   exact ⟨qzw, qz1⟩
   }
 }
 {
 rw [if_neg c3] at H
 have c3b0 := beq_eq_false_iff_ne.mpr c3
 have c3b1 := bne_iff_ne.mpr c3
 have c3b2 : (l0_0.length == l1_0.length) = false := by first | simpa using c3 | (simp at c3 ⊢; omega)
 obtain rfl := Option.some.inj H
 exact absurd HTR_.out (by decide)

 }
/-! ### impl_Free: function 22 -/
def impl_Free.l0 : Nat → Int → Int → List (S79) → Int → Int → Option (Int)
 | 0, _, _, _, _, _ => none
 | k + 1, x1, x5, x15, x16, x17 => if x17 < x16 then (if 0 ≤ x17 then (if x17 < (x15.length : Int) then ((impl_stackAt.f k ((rd_T79 x15 x17).f0) ((rd_T79 x15 x17).f1) ((rd_T79 x15 x17).f2) x1).bind fun bt161 => (if bt161.2 = true then (if 0 ≤ bt161.1 then (if bt161.1 < (((rd_T79 x15 x17).f2).length : Int) then (impl_Free.l0 k x1 (wrap64 (x5 + (wrap64 (((rd_T72 ((rd_T79 x15 x17).f2) bt161.1).f1) - ((rd_T72 ((rd_T79 x15 x17).f2) bt161.1).f2))))) x15 x16 (wrap64 (x17 + 1))) else (none)) else (none)) else (impl_Free.l0 k x1 x5 x15 x16 (wrap64 (x17 + 1))))) else (none)) else (none)) else (some x5)
def impl_Free.f (k : Nat) (l0_0 : List (S79)) (a1 : Int) : Option (Int) := (impl_StockOk.f k l0_0).bind fun t158 => (if t158 = true then (impl_Free.l0 k a1 0 l0_0 (l0_0.length : Int) 0) else (some 0))
theorem impl_Free.mono_l : ∀ k, (∀ y0 y1 y2 y3 y4, LeO (impl_Free.l0 k y0 y1 y2 y3 y4) (impl_Free.l0 (k + 1) y0 y1 y2 y3 y4))
 | 0 => fun _ _ _ _ _ r h => by simp [impl_Free.l0] at h
 | k + 1 => by
  have ih0 := impl_Free.mono_l k
  {
  intro y0 y1 y2 y3 y4
  unfold impl_Free.l0
  have j0 := @impl_StockOk.mono
  have j1 := @impl_stackAt.mono
  exact qL
  }
theorem impl_Free.mono : ∀ a0 a1 k, LeO (impl_Free.f k a0 a1) (impl_Free.f (k + 1) a0 a1) := by
 intro a0 a1 k
 have ih0 := impl_Free.mono_l k
 unfold impl_Free.f
 have j0 := @impl_StockOk.mono
 have j1 := @impl_stackAt.mono
 exact qL
set_option maxHeartbeats 8000000 in
set_option maxRecDepth 100000 in
theorem impl_Free.calls (k : Nat) (A0_0 : Option Addr) (c0_0 : Nat) (l0_0 : List (S79)) (a1 : Int) (r : Int) (w : World) (hr0_0 : Kd.C k79 w A0_0 l0_0.length l0_0) (hc0_0 : l0_0.length ≤ c0_0) (h : impl_Free.f k l0_0 a1 = some r) :
  Calls Try.prog 22 #[.agg #[.slice A0_0 l0_0.length c0_0], .int .i64 a1] w fun e w' => e = .returned (.int .i64 r) ∧ Below w.heap.size w w' := by
 have hu26 := Try.underlying26
 have hu79 := Try.underlying79
 have HR0_0 := aM hr0_0
 have HC0_0 := aM hc0_0
 clear hr0_0 hc0_0
 have HB := aM (Below.refl w.heap.size w)
 have H : ((impl_StockOk.f k l0_0).bind fun t158 => (if t158 = true then (impl_Free.l0 k a1 0 l0_0 (l0_0.length : Int) 0) else (some 0))) = some r := h
 clear h
 replace H := Option.bind_eq_some_iff.mp H
 obtain ⟨t158, A30, H⟩ := H
 replace H : (if t158 = true then (impl_Free.l0 k a1 0 l0_0 (l0_0.length : Int) 0) else (some 0)) = some r := H
 have A3 := aM A30
 clear A30
 by_cases c4 : t158 = true
 {
 subst c4
 rw [if_pos rfl] at H
 have H' := aM H
 clear H
 go_enter Try.func22, Try.ntmps22
 go_wp2_with (first | ((with_reducible refine gate_dst (N := 2) rfl ?_); refine bx_ 2 #[.slice A0_0 l0_0.length c0_0] 26 ?_; intro gb157 hg w5 hbox hb; have BK157 := aM (hbox); have GW157 := aM (bz_ w hg qz1); have GE157 := GW157; replace HB := bS_ hb; clear hb hbox hg; obtain ⟨hcz6_0, hfz6_0⟩ := bf_ BK157.out) | (go_at_call 21; (with_reducible refine (impl_StockOk.calls k _ _ l0_0 true _ ?side1 ?side2 A3.out).mono ?_); (case side1 => exact qz7); (case side2 => exact HC0_0.out); rintro e w7 ⟨rfl, hb⟩; replace BK157 := bB_ BK157 hb; replace HB := bS_ hb; (try clear hb); (try clear hb2); (try clear hk); (try clear hi); obtain ⟨hcz8_0, hfz8_0⟩ := bf_ BK157.out))
 repeat (go_quiet (first | ((with_reducible refine gate_dst (N := 2) rfl ?_); refine bx_ 2 #[.slice A0_0 l0_0.length c0_0] 26 ?_; intro gb157 hg w5 hbox hb; have BK157 := aM (hbox); have GW157 := aM (bz_ w hg qz1); have GE157 := GW157; replace HB := bS_ hb; clear hb hbox hg; obtain ⟨hcz6_0, hfz6_0⟩ := bf_ BK157.out) | (go_at_call 21; (with_reducible refine (impl_StockOk.calls k _ _ l0_0 true _ ?side1 ?side2 A3.out).mono ?_); (case side1 => exact qz7); (case side2 => exact HC0_0.out); rintro e w7 ⟨rfl, hb⟩; replace BK157 := bB_ BK157 hb; replace HB := bS_ hb; (try clear hb); (try clear hb2); (try clear hk); (try clear hi); obtain ⟨hcz8_0, hfz8_0⟩ := bf_ BK157.out)); try go_wp2_with (first | ((with_reducible refine gate_dst (N := 2) rfl ?_); refine bx_ 2 #[.slice A0_0 l0_0.length c0_0] 26 ?_; intro gb157 hg w5 hbox hb; have BK157 := aM (hbox); have GW157 := aM (bz_ w hg qz1); have GE157 := GW157; replace HB := bS_ hb; clear hb hbox hg; obtain ⟨hcz6_0, hfz6_0⟩ := bf_ BK157.out) | (go_at_call 21; (with_reducible refine (impl_StockOk.calls k _ _ l0_0 true _ ?side1 ?side2 A3.out).mono ?_); (case side1 => exact qz7); (case side2 => exact HC0_0.out); rintro e w7 ⟨rfl, hb⟩; replace BK157 := bB_ BK157 hb; replace HB := bS_ hb; (try clear hb); (try clear hb2); (try clear hk); (try clear hi); obtain ⟨hcz8_0, hfz8_0⟩ := bf_ BK157.out)))
 go_loopg [5, 17] k (fun kq v5 v17 w' => ∃ (x5_1 : Int) (x17_1 : Int), v5 = .int .i64 x5_1 ∧ v17 = .int .i64 x17_1 ∧ Aside0 (impl_Free.l0 kq a1 x5_1 l0_0 (l0_0.length : Int) x17_1 = some r) ∧ Aside0 (kq ≤ k) ∧ Aside0 (w'.heap[gb157]? = some (.cells #[(.slice A0_0 l0_0.length c0_0)] 26 (0, 0))) ∧ Aside0 (Below w.heap.size w w'))
 case atStart => exact ⟨(0), (0), qz6, qz6, H', ⟨Nat.le_refl _⟩, ⟨bk_ BK157.out⟩, ⟨qz1⟩⟩
 case round =>
  clear H'
  try clear c2
  try clear p2
  try clear c4
  try clear hcz6_0
  try clear hcz8_0
  try clear hfz6_0
  try clear hfz8_0
  obtain ⟨x5_1, x17_1, rfl, rfl, HA, HK1, BK157, HB⟩ := hrel
  cases gk with
  | zero => exact absurd HA.out (by simp [impl_Free.l0])
  | succ k1 =>
   have H := HA.out
   clear HA
   simp only [impl_Free.l0] at H
   by_cases c9 : x17_1 < (l0_0.length : Int)
   {
   rw [if_pos c9] at H
   have c9b0 := decide_eq_true c9
   clear c9
   by_cases c10 : 0 ≤ x17_1
   {
   rw [if_pos c10] at H
   have c10b0 := decide_eq_true c10
   clear c10
   by_cases c11 : x17_1 < (l0_0.length : Int)
   {
   rw [if_pos c11] at H
   have c11b0 := decide_eq_true c11
   clear c11
   replace H := Option.bind_eq_some_iff.mp H
   obtain ⟨⟨t161, t162⟩, A120, H⟩ := H
   replace H : (if t162 = true then (if 0 ≤ t161 then (if t161 < (((rd_T79 l0_0 x17_1).f2).length : Int) then (impl_Free.l0 k1 a1 (wrap64 (x5_1 + (wrap64 (((rd_T72 ((rd_T79 l0_0 x17_1).f2) t161).f1) - ((rd_T72 ((rd_T79 l0_0 x17_1).f2) t161).f2))))) l0_0 (l0_0.length : Int) (wrap64 (x17_1 + 1))) else (none)) else (none)) else (impl_Free.l0 k1 a1 x5_1 l0_0 (l0_0.length : Int) (wrap64 (x17_1 + 1)))) = some r := H
   have A12 := aM A120
   clear A120
   by_cases c13 : t162 = true
   {
   subst c13
   rw [if_pos rfl] at H
   by_cases c14 : 0 ≤ t161
   {
   rw [if_pos c14] at H
   have c14b0 := decide_eq_true c14
   clear c14
   by_cases c15 : t161 < (((rd_T79 l0_0 x17_1).f2).length : Int)
   {
   rw [if_pos c15] at H
   have c15b0 := decide_eq_true c15
   clear c15
   have H' := aM H
   clear H
   have p159 : 0 ≤ (x17_1 : Int) := dt_
   have q159 : x17_1 < (l0_0.length : Int) := dt_
   obtain ⟨ad159, A159_2, c159_2, e159, hx159_0, hx159_1, hx159_2, hl159_2, hi159_2⟩ := at_T79 HR0_0.out x17_1 p159 q159
   cases e159
   replace hx159_0 := cB_ hx159_0
   replace hx159_1 := cB_ hx159_1
   replace hx159_2 := cB_ hx159_2
   have HR159_2 := aM hi159_2
   have HC159_2 := aM hl159_2
   clear hi159_2 hl159_2
   replace p159 := eq_true p159
   replace q159 := eq_true q159
   go_wp2_with (first | ((with_reducible refine gate_dst (N := 7) rfl ?_); refine bx_ 7 #[.int .i64 0, .int .i64 0, .slice none 0 0] 79 ?_; intro gb160 hg w16 hbox hb; have BK160 := aM (hbox); have GW160 := aM (bz_ w hg qz1); have GE160 := GW160; replace HB := bS_ hb; obtain ⟨NB157_160, NB160_157⟩ := nb_ hg (bk_ BK157.out); replace BK157 := bB_ BK157 hb; clear hb hbox hg; have hnb17 := NB160_157.out; have hnc17 := NB157_160.out; obtain ⟨hcz18_0, hcz18_1, hcz18_2, hfz18_0, hfz18_1, hfz18_2⟩ := b6_ BK160.out) | (go_at_call 67; (with_reducible refine (impl_stackAt.calls k1 ((rd_T79 l0_0 x17_1).f0) ((rd_T79 l0_0 x17_1).f1) _ _ ((rd_T79 l0_0 x17_1).f2) a1 t161 true _ ?side1 ?side2 A12.out).mono ?_); (case side1 => exact Kd.C_below HR159_2.out qz1); (case side2 => exact HC159_2.out); rintro e w19 ⟨rfl, hb⟩; replace BK157 := aM (blk_below (g := gb157) (o := .cells #[.slice (some ad159) l0_0.length c0_0] 26 (0, 0)) (bk2_ BK157.out) hb); replace BK160 := aM (blk_below (g := gb160) (o := .cells #[.int .i64 ((rd_T79 l0_0 x17_1).f0), .int .i64 ((rd_T79 l0_0 x17_1).f1), .slice A159_2 ((rd_T79 l0_0 x17_1).f2).length c159_2] 79 (0, 0)) (by (with_reducible repeat (first | refine blk_drewN ?_ _ | refine blk_drew ?_ | refine blk_alloc ?_ _)); refine blk_put (cs := #[.int .i64 ((rd_T79 l0_0 x17_1).f0), .int .i64 ((rd_T79 l0_0 x17_1).f1), .slice none 0 0]) ?_ 2 _ rfl; (with_reducible repeat (first | refine blk_drewN ?_ _ | refine blk_drew ?_ | refine blk_alloc ?_ _)); refine blk_put (cs := #[.int .i64 ((rd_T79 l0_0 x17_1).f0), .int .i64 0, .slice none 0 0]) ?_ 1 _ rfl; (with_reducible repeat (first | refine blk_drewN ?_ _ | refine blk_drew ?_ | refine blk_alloc ?_ _)); refine blk_put (cs := #[.int .i64 0, .int .i64 0, .slice none 0 0]) ?_ 0 _ rfl; exact bk_ BK160.out) hb); replace HB := bS_ hb; (try clear hb); (try clear hb2); (try clear hk); (try clear hi); obtain ⟨hcz20_0, hcz20_1, hcz20_2, hfz20_0, hfz20_1, hfz20_2⟩ := b6_ BK160.out; have p163 : 0 ≤ (t161 : Int) := dt_; have q163 : t161 < (((rd_T79 l0_0 x17_1).f2).length : Int) := dt_; obtain ⟨ad163, e163, hx163_0, hx163_1, hx163_2⟩ := at_T72 HR159_2.out t161 p163 q163; cases e163; replace hx163_0 := cB_ hx163_0; replace hx163_1 := cB_ hx163_1; replace hx163_2 := cB_ hx163_2; replace p163 := eq_true p163; replace q163 := eq_true q163; have p164 : 0 ≤ (t161 : Int) := dt_; have q164 : t161 < (((rd_T79 l0_0 x17_1).f2).length : Int) := dt_; obtain ⟨ad164, e164, hx164_0, hx164_1, hx164_2⟩ := at_T72 HR159_2.out t161 p164 q164; obtain rfl : ad163 = ad164 := (by injection e164); replace hx164_0 := cB_ hx164_0; replace hx164_1 := cB_ hx164_1; replace hx164_2 := cB_ hx164_2; replace p164 := eq_true p164; replace q164 := eq_true q164))
   repeat (go_quiet (first | ((with_reducible refine gate_dst (N := 7) rfl ?_); refine bx_ 7 #[.int .i64 0, .int .i64 0, .slice none 0 0] 79 ?_; intro gb160 hg w16 hbox hb; have BK160 := aM (hbox); have GW160 := aM (bz_ w hg qz1); have GE160 := GW160; replace HB := bS_ hb; obtain ⟨NB157_160, NB160_157⟩ := nb_ hg (bk_ BK157.out); replace BK157 := bB_ BK157 hb; clear hb hbox hg; have hnb17 := NB160_157.out; have hnc17 := NB157_160.out; obtain ⟨hcz18_0, hcz18_1, hcz18_2, hfz18_0, hfz18_1, hfz18_2⟩ := b6_ BK160.out) | (go_at_call 67; (with_reducible refine (impl_stackAt.calls k1 ((rd_T79 l0_0 x17_1).f0) ((rd_T79 l0_0 x17_1).f1) _ _ ((rd_T79 l0_0 x17_1).f2) a1 t161 true _ ?side1 ?side2 A12.out).mono ?_); (case side1 => exact Kd.C_below HR159_2.out qz1); (case side2 => exact HC159_2.out); rintro e w19 ⟨rfl, hb⟩; replace BK157 := aM (blk_below (g := gb157) (o := .cells #[.slice (some ad159) l0_0.length c0_0] 26 (0, 0)) (bk2_ BK157.out) hb); replace BK160 := aM (blk_below (g := gb160) (o := .cells #[.int .i64 ((rd_T79 l0_0 x17_1).f0), .int .i64 ((rd_T79 l0_0 x17_1).f1), .slice A159_2 ((rd_T79 l0_0 x17_1).f2).length c159_2] 79 (0, 0)) (by (with_reducible repeat (first | refine blk_drewN ?_ _ | refine blk_drew ?_ | refine blk_alloc ?_ _)); refine blk_put (cs := #[.int .i64 ((rd_T79 l0_0 x17_1).f0), .int .i64 ((rd_T79 l0_0 x17_1).f1), .slice none 0 0]) ?_ 2 _ rfl; (with_reducible repeat (first | refine blk_drewN ?_ _ | refine blk_drew ?_ | refine blk_alloc ?_ _)); refine blk_put (cs := #[.int .i64 ((rd_T79 l0_0 x17_1).f0), .int .i64 0, .slice none 0 0]) ?_ 1 _ rfl; (with_reducible repeat (first | refine blk_drewN ?_ _ | refine blk_drew ?_ | refine blk_alloc ?_ _)); refine blk_put (cs := #[.int .i64 0, .int .i64 0, .slice none 0 0]) ?_ 0 _ rfl; exact bk_ BK160.out) hb); replace HB := bS_ hb; (try clear hb); (try clear hb2); (try clear hk); (try clear hi); obtain ⟨hcz20_0, hcz20_1, hcz20_2, hfz20_0, hfz20_1, hfz20_2⟩ := b6_ BK160.out; have p163 : 0 ≤ (t161 : Int) := dt_; have q163 : t161 < (((rd_T79 l0_0 x17_1).f2).length : Int) := dt_; obtain ⟨ad163, e163, hx163_0, hx163_1, hx163_2⟩ := at_T72 HR159_2.out t161 p163 q163; cases e163; replace hx163_0 := cB_ hx163_0; replace hx163_1 := cB_ hx163_1; replace hx163_2 := cB_ hx163_2; replace p163 := eq_true p163; replace q163 := eq_true q163; have p164 : 0 ≤ (t161 : Int) := dt_; have q164 : t161 < (((rd_T79 l0_0 x17_1).f2).length : Int) := dt_; obtain ⟨ad164, e164, hx164_0, hx164_1, hx164_2⟩ := at_T72 HR159_2.out t161 p164 q164; obtain rfl : ad163 = ad164 := (by injection e164); replace hx164_0 := cB_ hx164_0; replace hx164_1 := cB_ hx164_1; replace hx164_2 := cB_ hx164_2; replace p164 := eq_true p164; replace q164 := eq_true q164)); try go_wp2_with (first | ((with_reducible refine gate_dst (N := 7) rfl ?_); refine bx_ 7 #[.int .i64 0, .int .i64 0, .slice none 0 0] 79 ?_; intro gb160 hg w16 hbox hb; have BK160 := aM (hbox); have GW160 := aM (bz_ w hg qz1); have GE160 := GW160; replace HB := bS_ hb; obtain ⟨NB157_160, NB160_157⟩ := nb_ hg (bk_ BK157.out); replace BK157 := bB_ BK157 hb; clear hb hbox hg; have hnb17 := NB160_157.out; have hnc17 := NB157_160.out; obtain ⟨hcz18_0, hcz18_1, hcz18_2, hfz18_0, hfz18_1, hfz18_2⟩ := b6_ BK160.out) | (go_at_call 67; (with_reducible refine (impl_stackAt.calls k1 ((rd_T79 l0_0 x17_1).f0) ((rd_T79 l0_0 x17_1).f1) _ _ ((rd_T79 l0_0 x17_1).f2) a1 t161 true _ ?side1 ?side2 A12.out).mono ?_); (case side1 => exact Kd.C_below HR159_2.out qz1); (case side2 => exact HC159_2.out); rintro e w19 ⟨rfl, hb⟩; replace BK157 := aM (blk_below (g := gb157) (o := .cells #[.slice (some ad159) l0_0.length c0_0] 26 (0, 0)) (bk2_ BK157.out) hb); replace BK160 := aM (blk_below (g := gb160) (o := .cells #[.int .i64 ((rd_T79 l0_0 x17_1).f0), .int .i64 ((rd_T79 l0_0 x17_1).f1), .slice A159_2 ((rd_T79 l0_0 x17_1).f2).length c159_2] 79 (0, 0)) (by (with_reducible repeat (first | refine blk_drewN ?_ _ | refine blk_drew ?_ | refine blk_alloc ?_ _)); refine blk_put (cs := #[.int .i64 ((rd_T79 l0_0 x17_1).f0), .int .i64 ((rd_T79 l0_0 x17_1).f1), .slice none 0 0]) ?_ 2 _ rfl; (with_reducible repeat (first | refine blk_drewN ?_ _ | refine blk_drew ?_ | refine blk_alloc ?_ _)); refine blk_put (cs := #[.int .i64 ((rd_T79 l0_0 x17_1).f0), .int .i64 0, .slice none 0 0]) ?_ 1 _ rfl; (with_reducible repeat (first | refine blk_drewN ?_ _ | refine blk_drew ?_ | refine blk_alloc ?_ _)); refine blk_put (cs := #[.int .i64 0, .int .i64 0, .slice none 0 0]) ?_ 0 _ rfl; exact bk_ BK160.out) hb); replace HB := bS_ hb; (try clear hb); (try clear hb2); (try clear hk); (try clear hi); obtain ⟨hcz20_0, hcz20_1, hcz20_2, hfz20_0, hfz20_1, hfz20_2⟩ := b6_ BK160.out; have p163 : 0 ≤ (t161 : Int) := dt_; have q163 : t161 < (((rd_T79 l0_0 x17_1).f2).length : Int) := dt_; obtain ⟨ad163, e163, hx163_0, hx163_1, hx163_2⟩ := at_T72 HR159_2.out t161 p163 q163; cases e163; replace hx163_0 := cB_ hx163_0; replace hx163_1 := cB_ hx163_1; replace hx163_2 := cB_ hx163_2; replace p163 := eq_true p163; replace q163 := eq_true q163; have p164 : 0 ≤ (t161 : Int) := dt_; have q164 : t161 < (((rd_T79 l0_0 x17_1).f2).length : Int) := dt_; obtain ⟨ad164, e164, hx164_0, hx164_1, hx164_2⟩ := at_T72 HR159_2.out t161 p164 q164; obtain rfl : ad163 = ad164 := (by injection e164); replace hx164_0 := cB_ hx164_0; replace hx164_1 := cB_ hx164_1; replace hx164_2 := cB_ hx164_2; replace p164 := eq_true p164; replace q164 := eq_true q164)))
   go_roundg k1
   case measure => have := HK1.out; omega
   case rel => exact ⟨(wrap64 (x5_1 + (wrap64 (((rd_T72 ((rd_T79 l0_0 x17_1).f2) t161).f1) - ((rd_T72 ((rd_T79 l0_0 x17_1).f2) t161).f2))))), (wrap64 (x17_1 + 1)), qz6, qz6, H', ⟨by have := HK1.out; omega⟩, ⟨bk_ BK157.out⟩, ⟨qz1⟩⟩
   }
   {
   exact an_ c15 H
   }
   }
   {
   exact an_ c14 H
   }
   }
   {
   replace c13 := Bool.eq_false_iff.mpr c13
   subst c13
   rw [if_neg (show ¬ (false = true) by decide)] at H
   have H' := aM H
   clear H
   have p159 : 0 ≤ (x17_1 : Int) := dt_
   have q159 : x17_1 < (l0_0.length : Int) := dt_
   obtain ⟨ad159, A159_2, c159_2, e159, hx159_0, hx159_1, hx159_2, hl159_2, hi159_2⟩ := at_T79 HR0_0.out x17_1 p159 q159
   cases e159
   replace hx159_0 := cB_ hx159_0
   replace hx159_1 := cB_ hx159_1
   replace hx159_2 := cB_ hx159_2
   have HR159_2 := aM hi159_2
   have HC159_2 := aM hl159_2
   clear hi159_2 hl159_2
   replace p159 := eq_true p159
   replace q159 := eq_true q159
   go_wp2_with (first | ((with_reducible refine gate_dst (N := 7) rfl ?_); refine bx_ 7 #[.int .i64 0, .int .i64 0, .slice none 0 0] 79 ?_; intro gb160 hg w21 hbox hb; have BK160 := aM (hbox); have GW160 := aM (bz_ w hg qz1); have GE160 := GW160; replace HB := bS_ hb; obtain ⟨NB157_160, NB160_157⟩ := nb_ hg (bk_ BK157.out); replace BK157 := bB_ BK157 hb; clear hb hbox hg; have hnb22 := NB160_157.out; have hnc22 := NB157_160.out; obtain ⟨hcz23_0, hcz23_1, hcz23_2, hfz23_0, hfz23_1, hfz23_2⟩ := b6_ BK160.out) | (go_at_call 67; (with_reducible refine (impl_stackAt.calls k1 ((rd_T79 l0_0 x17_1).f0) ((rd_T79 l0_0 x17_1).f1) _ _ ((rd_T79 l0_0 x17_1).f2) a1 t161 false _ ?side1 ?side2 A12.out).mono ?_); (case side1 => exact Kd.C_below HR159_2.out qz1); (case side2 => exact HC159_2.out); rintro e w24 ⟨rfl, hb⟩; replace BK157 := aM (blk_below (g := gb157) (o := .cells #[.slice (some ad159) l0_0.length c0_0] 26 (0, 0)) (bk2_ BK157.out) hb); replace BK160 := aM (blk_below (g := gb160) (o := .cells #[.int .i64 ((rd_T79 l0_0 x17_1).f0), .int .i64 ((rd_T79 l0_0 x17_1).f1), .slice A159_2 ((rd_T79 l0_0 x17_1).f2).length c159_2] 79 (0, 0)) (by (with_reducible repeat (first | refine blk_drewN ?_ _ | refine blk_drew ?_ | refine blk_alloc ?_ _)); refine blk_put (cs := #[.int .i64 ((rd_T79 l0_0 x17_1).f0), .int .i64 ((rd_T79 l0_0 x17_1).f1), .slice none 0 0]) ?_ 2 _ rfl; (with_reducible repeat (first | refine blk_drewN ?_ _ | refine blk_drew ?_ | refine blk_alloc ?_ _)); refine blk_put (cs := #[.int .i64 ((rd_T79 l0_0 x17_1).f0), .int .i64 0, .slice none 0 0]) ?_ 1 _ rfl; (with_reducible repeat (first | refine blk_drewN ?_ _ | refine blk_drew ?_ | refine blk_alloc ?_ _)); refine blk_put (cs := #[.int .i64 0, .int .i64 0, .slice none 0 0]) ?_ 0 _ rfl; exact bk_ BK160.out) hb); replace HB := bS_ hb; (try clear hb); (try clear hb2); (try clear hk); (try clear hi)))
   repeat (go_quiet (first | ((with_reducible refine gate_dst (N := 7) rfl ?_); refine bx_ 7 #[.int .i64 0, .int .i64 0, .slice none 0 0] 79 ?_; intro gb160 hg w21 hbox hb; have BK160 := aM (hbox); have GW160 := aM (bz_ w hg qz1); have GE160 := GW160; replace HB := bS_ hb; obtain ⟨NB157_160, NB160_157⟩ := nb_ hg (bk_ BK157.out); replace BK157 := bB_ BK157 hb; clear hb hbox hg; have hnb22 := NB160_157.out; have hnc22 := NB157_160.out; obtain ⟨hcz23_0, hcz23_1, hcz23_2, hfz23_0, hfz23_1, hfz23_2⟩ := b6_ BK160.out) | (go_at_call 67; (with_reducible refine (impl_stackAt.calls k1 ((rd_T79 l0_0 x17_1).f0) ((rd_T79 l0_0 x17_1).f1) _ _ ((rd_T79 l0_0 x17_1).f2) a1 t161 false _ ?side1 ?side2 A12.out).mono ?_); (case side1 => exact Kd.C_below HR159_2.out qz1); (case side2 => exact HC159_2.out); rintro e w24 ⟨rfl, hb⟩; replace BK157 := aM (blk_below (g := gb157) (o := .cells #[.slice (some ad159) l0_0.length c0_0] 26 (0, 0)) (bk2_ BK157.out) hb); replace BK160 := aM (blk_below (g := gb160) (o := .cells #[.int .i64 ((rd_T79 l0_0 x17_1).f0), .int .i64 ((rd_T79 l0_0 x17_1).f1), .slice A159_2 ((rd_T79 l0_0 x17_1).f2).length c159_2] 79 (0, 0)) (by (with_reducible repeat (first | refine blk_drewN ?_ _ | refine blk_drew ?_ | refine blk_alloc ?_ _)); refine blk_put (cs := #[.int .i64 ((rd_T79 l0_0 x17_1).f0), .int .i64 ((rd_T79 l0_0 x17_1).f1), .slice none 0 0]) ?_ 2 _ rfl; (with_reducible repeat (first | refine blk_drewN ?_ _ | refine blk_drew ?_ | refine blk_alloc ?_ _)); refine blk_put (cs := #[.int .i64 ((rd_T79 l0_0 x17_1).f0), .int .i64 0, .slice none 0 0]) ?_ 1 _ rfl; (with_reducible repeat (first | refine blk_drewN ?_ _ | refine blk_drew ?_ | refine blk_alloc ?_ _)); refine blk_put (cs := #[.int .i64 0, .int .i64 0, .slice none 0 0]) ?_ 0 _ rfl; exact bk_ BK160.out) hb); replace HB := bS_ hb; (try clear hb); (try clear hb2); (try clear hk); (try clear hi))); try go_wp2_with (first | ((with_reducible refine gate_dst (N := 7) rfl ?_); refine bx_ 7 #[.int .i64 0, .int .i64 0, .slice none 0 0] 79 ?_; intro gb160 hg w21 hbox hb; have BK160 := aM (hbox); have GW160 := aM (bz_ w hg qz1); have GE160 := GW160; replace HB := bS_ hb; obtain ⟨NB157_160, NB160_157⟩ := nb_ hg (bk_ BK157.out); replace BK157 := bB_ BK157 hb; clear hb hbox hg; have hnb22 := NB160_157.out; have hnc22 := NB157_160.out; obtain ⟨hcz23_0, hcz23_1, hcz23_2, hfz23_0, hfz23_1, hfz23_2⟩ := b6_ BK160.out) | (go_at_call 67; (with_reducible refine (impl_stackAt.calls k1 ((rd_T79 l0_0 x17_1).f0) ((rd_T79 l0_0 x17_1).f1) _ _ ((rd_T79 l0_0 x17_1).f2) a1 t161 false _ ?side1 ?side2 A12.out).mono ?_); (case side1 => exact Kd.C_below HR159_2.out qz1); (case side2 => exact HC159_2.out); rintro e w24 ⟨rfl, hb⟩; replace BK157 := aM (blk_below (g := gb157) (o := .cells #[.slice (some ad159) l0_0.length c0_0] 26 (0, 0)) (bk2_ BK157.out) hb); replace BK160 := aM (blk_below (g := gb160) (o := .cells #[.int .i64 ((rd_T79 l0_0 x17_1).f0), .int .i64 ((rd_T79 l0_0 x17_1).f1), .slice A159_2 ((rd_T79 l0_0 x17_1).f2).length c159_2] 79 (0, 0)) (by (with_reducible repeat (first | refine blk_drewN ?_ _ | refine blk_drew ?_ | refine blk_alloc ?_ _)); refine blk_put (cs := #[.int .i64 ((rd_T79 l0_0 x17_1).f0), .int .i64 ((rd_T79 l0_0 x17_1).f1), .slice none 0 0]) ?_ 2 _ rfl; (with_reducible repeat (first | refine blk_drewN ?_ _ | refine blk_drew ?_ | refine blk_alloc ?_ _)); refine blk_put (cs := #[.int .i64 ((rd_T79 l0_0 x17_1).f0), .int .i64 0, .slice none 0 0]) ?_ 1 _ rfl; (with_reducible repeat (first | refine blk_drewN ?_ _ | refine blk_drew ?_ | refine blk_alloc ?_ _)); refine blk_put (cs := #[.int .i64 0, .int .i64 0, .slice none 0 0]) ?_ 0 _ rfl; exact bk_ BK160.out) hb); replace HB := bS_ hb; (try clear hb); (try clear hb2); (try clear hk); (try clear hi))))
   go_roundg k1
   case measure => have := HK1.out; omega
   case rel => exact ⟨(x5_1), (wrap64 (x17_1 + 1)), qz6, qz6, H', ⟨by have := HK1.out; omega⟩, ⟨bk_ BK157.out⟩, ⟨qz1⟩⟩
   }
   }
   {
   exact an_ c11 H
   }
   }
   {
   exact an_ c10 H
   }
   }
   {
   rw [if_neg c9] at H
   have c9b0 := decide_eq_false c9
   clear c9
   obtain rfl := Option.some.inj H
   simp only [Option.some.injEq, Prod.mk.injEq] at H
   obtain ⟨rfl⟩ := H
   go_wp2
   repeat (go_quiet (fail); try go_wp2)
   go_ret
   exact ⟨qzw, qz1⟩
   }
 }
 {
 replace c4 := Bool.eq_false_iff.mpr c4
 subst c4
 rw [if_neg (show ¬ (false = true) by decide)] at H
 obtain rfl := Option.some.inj H
 simp only [Option.some.injEq, Prod.mk.injEq] at H
 obtain ⟨rfl⟩ := H
 go_enter Try.func22, Try.ntmps22
 go_wp2_with (first | ((with_reducible refine gate_dst (N := 2) rfl ?_); refine bx_ 2 #[.slice A0_0 l0_0.length c0_0] 26 ?_; intro gb157 hg w25 hbox hb; have BK157 := aM (hbox); have GW157 := aM (bz_ w hg qz1); have GE157 := GW157; replace HB := bS_ hb; clear hb hbox hg; obtain ⟨hcz26_0, hfz26_0⟩ := bf_ BK157.out) | (go_at_call 21; (with_reducible refine (impl_StockOk.calls k _ _ l0_0 false _ ?side1 ?side2 A3.out).mono ?_); (case side1 => exact qz7); (case side2 => exact HC0_0.out); rintro e w27 ⟨rfl, hb⟩; replace BK157 := bB_ BK157 hb; replace HB := bS_ hb; (try clear hb); (try clear hb2); (try clear hk); (try clear hi)))
 repeat (go_quiet (first | ((with_reducible refine gate_dst (N := 2) rfl ?_); refine bx_ 2 #[.slice A0_0 l0_0.length c0_0] 26 ?_; intro gb157 hg w25 hbox hb; have BK157 := aM (hbox); have GW157 := aM (bz_ w hg qz1); have GE157 := GW157; replace HB := bS_ hb; clear hb hbox hg; obtain ⟨hcz26_0, hfz26_0⟩ := bf_ BK157.out) | (go_at_call 21; (with_reducible refine (impl_StockOk.calls k _ _ l0_0 false _ ?side1 ?side2 A3.out).mono ?_); (case side1 => exact qz7); (case side2 => exact HC0_0.out); rintro e w27 ⟨rfl, hb⟩; replace BK157 := bB_ BK157 hb; replace HB := bS_ hb; (try clear hb); (try clear hb2); (try clear hk); (try clear hi))); try go_wp2_with (first | ((with_reducible refine gate_dst (N := 2) rfl ?_); refine bx_ 2 #[.slice A0_0 l0_0.length c0_0] 26 ?_; intro gb157 hg w25 hbox hb; have BK157 := aM (hbox); have GW157 := aM (bz_ w hg qz1); have GE157 := GW157; replace HB := bS_ hb; clear hb hbox hg; obtain ⟨hcz26_0, hfz26_0⟩ := bf_ BK157.out) | (go_at_call 21; (with_reducible refine (impl_StockOk.calls k _ _ l0_0 false _ ?side1 ?side2 A3.out).mono ?_); (case side1 => exact qz7); (case side2 => exact HC0_0.out); rintro e w27 ⟨rfl, hb⟩; replace BK157 := bB_ BK157 hb; replace HB := bS_ hb; (try clear hb); (try clear hb2); (try clear hk); (try clear hi))))
 go_ret
 exact ⟨qzw, qz1⟩

 }
end Go.Proofs.Yteajnkondkfmgaa.PFnTaken
