-- Made by a program of this session out of the translation. Lean checks it.
import Derived.Test.YteajnkondkfmgaaPFnPicksx0
import Derived.Test.YteajnkondkfmgaaPFnPicksx2
import Derived.Test.YteajnkondkfmgaaPFnPicksx5
namespace Go.Proofs.Yteajnkondkfmgaa.PFnPicks
open Go.RowKit Go.Proofs.YteajnkondkfmgaaW.PrintWords Go.Proofs.YteajnkondkfmgaaW.PrintLast Go.Proofs.YteajnkondkfmgaaW.PrintMore
attribute [local go_sem] max2_int min2_int max_two min_two max_three min_three max_four min_four   -- for this text's walks alone
set_option linter.unusedVariables false
set_option linter.unusedSimpArgs false

/-! ### impl_ItemsOk: function 43 -/
def impl_ItemsOk.l0 : Nat → List (S48) → List (S48) → Int → Int → Option (Bool)
 | 0, _, _, _, _ => none
 | k + 1, x0, x5, x6, x7 => if x7 < x6 then (if 0 ≤ x7 then (if x7 < (x5.length : Int) then ((impl_in.f ((rd_T48 x5 x7).f0) 1 50).bind fun t347 => (if t347 = true then ((impl_in.f ((rd_T48 x5 x7).f1) 1 1000).bind fun t348 => (if t348 = true then (if x7 > 0 then (if 0 ≤ (wrap64 (x7 - 1)) then (if (wrap64 (x7 - 1)) < (x0.length : Int) then (if ((rd_T48 x0 (wrap64 (x7 - 1))).f0) ≥ ((rd_T48 x5 x7).f0) then (some false) else (impl_ItemsOk.l0 k x0 x5 x6 (wrap64 (x7 + 1)))) else (none)) else (none)) else (impl_ItemsOk.l0 k x0 x5 x6 (wrap64 (x7 + 1)))) else (some false))) else (some false))) else (none)) else (none)) else (some (decide ((x0.length : Int) ≤ 6)))
def impl_ItemsOk.f (k : Nat) (l0 : List (S48)) : Option (Bool) := impl_ItemsOk.l0 k l0 l0 (l0.length : Int) 0
theorem impl_ItemsOk.mono_l : ∀ k, (∀ y0 y1 y2 y3, LeO (impl_ItemsOk.l0 k y0 y1 y2 y3) (impl_ItemsOk.l0 (k + 1) y0 y1 y2 y3))
 | 0 => fun _ _ _ _ r h => by simp [impl_ItemsOk.l0] at h
 | k + 1 => by
  have ih0 := impl_ItemsOk.mono_l k
  {
  intro y0 y1 y2 y3
  unfold impl_ItemsOk.l0
  exact qL
  }
theorem impl_ItemsOk.mono : ∀ a0 k, LeO (impl_ItemsOk.f k a0) (impl_ItemsOk.f (k + 1) a0) := by
 intro a0 k
 have ih0 := impl_ItemsOk.mono_l k
 unfold impl_ItemsOk.f
 exact qL
set_option maxHeartbeats 8000000 in
set_option maxRecDepth 100000 in
theorem impl_ItemsOk.calls (k : Nat) (A0 : Option Addr) (c0 : Nat) (l0 : List (S48)) (r : Bool) (w : World) (hr0 : Kd.C k48 w A0 l0.length l0) (hc0 : l0.length ≤ c0) (h : impl_ItemsOk.f k l0 = some r) :
  Calls Try.prog 43 #[.slice A0 l0.length c0] w fun e w' => e = .returned (.bool r) ∧ Below w.heap.size w w' := by
 have hu48 := Try.underlying48
 have HR0 := aM hr0
 have HC0 := aM hc0
 clear hr0 hc0
 have HB := aM (Below.refl w.heap.size w)
 have H : (impl_ItemsOk.l0 k l0 l0 (l0.length : Int) 0) = some r := h
 clear h
 have H' := aM H
 clear H
 go_enter Try.func43, Try.ntmps43
 go_wp2
 repeat (go_quiet (fail); try go_wp2)
 go_loopg [7] k (fun kq v7 w' => ∃ (x7_1 : Int), v7 = .int .i64 x7_1 ∧ Aside0 (impl_ItemsOk.l0 kq l0 l0 (l0.length : Int) x7_1 = some r) ∧ Aside0 (kq ≤ k) ∧ Aside0 (Below w.heap.size w w'))
 case atStart => exact ⟨(0), qz5, H', ⟨Nat.le_refl _⟩, ⟨qz1⟩⟩
 case round =>
  clear H'
  obtain ⟨x7_1, rfl, HA, HK1, HB⟩ := hrel
  cases gk with
  | zero => exact absurd HA.out (by simp [impl_ItemsOk.l0])
  | succ k1 =>
   have H := HA.out
   clear HA
   simp only [impl_ItemsOk.l0] at H
   by_cases c2 : x7_1 < (l0.length : Int)
   {
   rw [if_pos c2] at H
   have c2b0 := decide_eq_true c2
   clear c2
   by_cases c3 : 0 ≤ x7_1
   {
   rw [if_pos c3] at H
   have c3b0 := decide_eq_true c3
   clear c3
   by_cases c4 : x7_1 < (l0.length : Int)
   {
   rw [if_pos c4] at H
   have c4b0 := decide_eq_true c4
   clear c4
   replace H := Option.bind_eq_some_iff.mp H
   obtain ⟨t347, A50, H⟩ := H
   replace H : (if t347 = true then ((impl_in.f ((rd_T48 l0 x7_1).f1) 1 1000).bind fun t348 => (if t348 = true then (if x7_1 > 0 then (if 0 ≤ (wrap64 (x7_1 - 1)) then (if (wrap64 (x7_1 - 1)) < (l0.length : Int) then (if ((rd_T48 l0 (wrap64 (x7_1 - 1))).f0) ≥ ((rd_T48 l0 x7_1).f0) then (some false) else (impl_ItemsOk.l0 k1 l0 l0 (l0.length : Int) (wrap64 (x7_1 + 1)))) else (none)) else (none)) else (impl_ItemsOk.l0 k1 l0 l0 (l0.length : Int) (wrap64 (x7_1 + 1)))) else (some false))) else (some false)) = some r := H
   have A5 := aM A50
   clear A50
   by_cases c6 : t347 = true
   {
   subst c6
   rw [if_pos rfl] at H
   replace H := Option.bind_eq_some_iff.mp H
   obtain ⟨t348, A70, H⟩ := H
   replace H : (if t348 = true then (if x7_1 > 0 then (if 0 ≤ (wrap64 (x7_1 - 1)) then (if (wrap64 (x7_1 - 1)) < (l0.length : Int) then (if ((rd_T48 l0 (wrap64 (x7_1 - 1))).f0) ≥ ((rd_T48 l0 x7_1).f0) then (some false) else (impl_ItemsOk.l0 k1 l0 l0 (l0.length : Int) (wrap64 (x7_1 + 1)))) else (none)) else (none)) else (impl_ItemsOk.l0 k1 l0 l0 (l0.length : Int) (wrap64 (x7_1 + 1)))) else (some false)) = some r := H
   have A7 := aM A70
   clear A70
   by_cases c8 : t348 = true
   {
   subst c8
   rw [if_pos rfl] at H
   by_cases c9 : x7_1 > 0
   {
   rw [if_pos c9] at H
   have c9b0 := decide_eq_true c9
   clear c9
   obtain ⟨ji10, hji10⟩ : ∃ j_ : Int, (wrap64 (x7_1 - 1)) = j_ := ⟨_, rfl⟩
   replace H : (if 0 ≤ (ji10) then (if (ji10) < (l0.length : Int) then (if ((rd_T48 l0 (ji10)).f0) ≥ ((rd_T48 l0 x7_1).f0) then (some false) else (impl_ItemsOk.l0 k1 l0 l0 (l0.length : Int) (wrap64 (x7_1 + 1)))) else (none)) else (none)) = some r := by first | (rw [hji10] at H; exact H) | (simp only [hji10] at H ⊢; exact H)
   (try rw [hji10] at A5)
   (try rw [hji10] at A7)
   have hji10w : (IntKind.i64.wrap (x7_1 - 1)) = ji10 := (i64_w _).trans hji10
   by_cases c11 : 0 ≤ (ji10)
   {
   rw [if_pos c11] at H
   have c11b0 := decide_eq_true c11
   clear c11
   by_cases c12 : (ji10) < (l0.length : Int)
   {
   rw [if_pos c12] at H
   have c12b0 := decide_eq_true c12
   clear c12
   by_cases c13 : ((rd_T48 l0 (ji10)).f0) ≥ ((rd_T48 l0 x7_1).f0)
   {
   rw [if_pos c13] at H
   have c13b0 := decide_eq_true c13
   clear c13
   obtain rfl := Option.some.inj H
   simp only [Option.some.injEq, Prod.mk.injEq] at H
   obtain ⟨rfl⟩ := H
   have p345 : 0 ≤ (x7_1 : Int) := dt_
   have q345 : x7_1 < (l0.length : Int) := dt_
   obtain ⟨ad345, e345, hx345_0, hx345_1⟩ := at_T48 HR0.out x7_1 p345 q345
   cases e345
   replace hx345_0 := cB_ hx345_0
   replace hx345_1 := cB_ hx345_1
   replace p345 := eq_true p345
   replace q345 := eq_true q345
   go_wp2_with (first | ((with_reducible refine gate_dst (N := 4) rfl ?_); refine bx_ 4 #[.int .i64 0, .int .i64 0] 48 ?_; intro gb346 hg w14 hbox hb; have BK346 := aM (hbox); have GW346 := aM (bz_ w hg qz1); have GE346 := GW346; replace HB := bS_ hb; clear hb hbox hg; have hcz15_0 := bc0_ BK346.out; have hcz15_1 := bc1_ BK346.out; have hfz15_0 := blk_frozen BK346.out 0; have hfz15_1 := blk_frozen BK346.out 1) | (go_at_call 64; (with_reducible refine (impl_in.calls ((rd_T48 l0 x7_1).f0) 1 50 true _ A5.out).mono ?_); rintro e w' ⟨rfl, ⟨nd, rfl⟩⟩; (try first | exact ⟨rfl, _, World.drewN_drewN _ _ _⟩ | exact ⟨rfl, _, Eq.trans (World.drewN_drewN _ _ _) (congrArg (World.drewN _) (Nat.add_assoc _ _ _))⟩)) | (go_at_call 64; (with_reducible refine (impl_in.calls ((rd_T48 l0 x7_1).f1) 1 1000 true _ A7.out).mono ?_); rintro e w' ⟨rfl, ⟨nd, rfl⟩⟩; (try first | exact ⟨rfl, _, World.drewN_drewN _ _ _⟩ | exact ⟨rfl, _, Eq.trans (World.drewN_drewN _ _ _) (congrArg (World.drewN _) (Nat.add_assoc _ _ _))⟩); have p349 : 0 ≤ ((ji10) : Int) := dt_; have q349 : (ji10) < (l0.length : Int) := dt_; obtain ⟨ad349, e349, hx349_0, hx349_1⟩ := at_T48 HR0.out (ji10) p349 q349; obtain rfl : ad345 = ad349 := (by injection e349); have hn349_0 : ad345.block ≠ gb346 := nf_ hx349_0 GW346.out; have hn349_1 : ad345.block ≠ gb346 := nf_ hx349_0 GW346.out; replace hx349_0 := cB_ hx349_0; replace hx349_1 := cB_ hx349_1; replace hx349_0 := (cell_far (p := ⟨gb346, 0, none⟩) qz8 (.int .i64 ((rd_T48 l0 x7_1).f0))).trans hx349_0; replace hx349_1 := (cell_far (p := ⟨gb346, 0, none⟩) qz8 (.int .i64 ((rd_T48 l0 x7_1).f0))).trans hx349_1; replace hx349_0 := (cell_far (p := ⟨gb346, 1, none⟩) qz9 (.int .i64 ((rd_T48 l0 x7_1).f1))).trans hx349_0; replace hx349_1 := (cell_far (p := ⟨gb346, 1, none⟩) qz9 (.int .i64 ((rd_T48 l0 x7_1).f1))).trans hx349_1; (try have hy349_0 := fun (n_ : Nat) => (show ((((w14.drewN n_).setCell ⟨gb346, 0, none⟩ (.int .i64 ((rd_T48 l0 x7_1).f0))).setCell ⟨gb346, 1, none⟩ (.int .i64 ((rd_T48 l0 x7_1).f1)))).cell? _ = some _ from hx349_0)); (try have hy349_1 := fun (n_ : Nat) => (show ((((w14.drewN n_).setCell ⟨gb346, 0, none⟩ (.int .i64 ((rd_T48 l0 x7_1).f0))).setCell ⟨gb346, 1, none⟩ (.int .i64 ((rd_T48 l0 x7_1).f1)))).cell? _ = some _ from hx349_1)); clear hn349_0 hn349_1; replace p349 := eq_true p349; replace q349 := eq_true q349))
   repeat (go_quiet (first | ((with_reducible refine gate_dst (N := 4) rfl ?_); refine bx_ 4 #[.int .i64 0, .int .i64 0] 48 ?_; intro gb346 hg w14 hbox hb; have BK346 := aM (hbox); have GW346 := aM (bz_ w hg qz1); have GE346 := GW346; replace HB := bS_ hb; clear hb hbox hg; have hcz15_0 := bc0_ BK346.out; have hcz15_1 := bc1_ BK346.out; have hfz15_0 := blk_frozen BK346.out 0; have hfz15_1 := blk_frozen BK346.out 1) | (go_at_call 64; (with_reducible refine (impl_in.calls ((rd_T48 l0 x7_1).f0) 1 50 true _ A5.out).mono ?_); rintro e w' ⟨rfl, ⟨nd, rfl⟩⟩; (try first | exact ⟨rfl, _, World.drewN_drewN _ _ _⟩ | exact ⟨rfl, _, Eq.trans (World.drewN_drewN _ _ _) (congrArg (World.drewN _) (Nat.add_assoc _ _ _))⟩)) | (go_at_call 64; (with_reducible refine (impl_in.calls ((rd_T48 l0 x7_1).f1) 1 1000 true _ A7.out).mono ?_); rintro e w' ⟨rfl, ⟨nd, rfl⟩⟩; (try first | exact ⟨rfl, _, World.drewN_drewN _ _ _⟩ | exact ⟨rfl, _, Eq.trans (World.drewN_drewN _ _ _) (congrArg (World.drewN _) (Nat.add_assoc _ _ _))⟩); have p349 : 0 ≤ ((ji10) : Int) := dt_; have q349 : (ji10) < (l0.length : Int) := dt_; obtain ⟨ad349, e349, hx349_0, hx349_1⟩ := at_T48 HR0.out (ji10) p349 q349; obtain rfl : ad345 = ad349 := (by injection e349); have hn349_0 : ad345.block ≠ gb346 := nf_ hx349_0 GW346.out; have hn349_1 : ad345.block ≠ gb346 := nf_ hx349_0 GW346.out; replace hx349_0 := cB_ hx349_0; replace hx349_1 := cB_ hx349_1; replace hx349_0 := (cell_far (p := ⟨gb346, 0, none⟩) qz8 (.int .i64 ((rd_T48 l0 x7_1).f0))).trans hx349_0; replace hx349_1 := (cell_far (p := ⟨gb346, 0, none⟩) qz8 (.int .i64 ((rd_T48 l0 x7_1).f0))).trans hx349_1; replace hx349_0 := (cell_far (p := ⟨gb346, 1, none⟩) qz9 (.int .i64 ((rd_T48 l0 x7_1).f1))).trans hx349_0; replace hx349_1 := (cell_far (p := ⟨gb346, 1, none⟩) qz9 (.int .i64 ((rd_T48 l0 x7_1).f1))).trans hx349_1; (try have hy349_0 := fun (n_ : Nat) => (show ((((w14.drewN n_).setCell ⟨gb346, 0, none⟩ (.int .i64 ((rd_T48 l0 x7_1).f0))).setCell ⟨gb346, 1, none⟩ (.int .i64 ((rd_T48 l0 x7_1).f1)))).cell? _ = some _ from hx349_0)); (try have hy349_1 := fun (n_ : Nat) => (show ((((w14.drewN n_).setCell ⟨gb346, 0, none⟩ (.int .i64 ((rd_T48 l0 x7_1).f0))).setCell ⟨gb346, 1, none⟩ (.int .i64 ((rd_T48 l0 x7_1).f1)))).cell? _ = some _ from hx349_1)); clear hn349_0 hn349_1; replace p349 := eq_true p349; replace q349 := eq_true q349)); try go_wp2_with (first | ((with_reducible refine gate_dst (N := 4) rfl ?_); refine bx_ 4 #[.int .i64 0, .int .i64 0] 48 ?_; intro gb346 hg w14 hbox hb; have BK346 := aM (hbox); have GW346 := aM (bz_ w hg qz1); have GE346 := GW346; replace HB := bS_ hb; clear hb hbox hg; have hcz15_0 := bc0_ BK346.out; have hcz15_1 := bc1_ BK346.out; have hfz15_0 := blk_frozen BK346.out 0; have hfz15_1 := blk_frozen BK346.out 1) | (go_at_call 64; (with_reducible refine (impl_in.calls ((rd_T48 l0 x7_1).f0) 1 50 true _ A5.out).mono ?_); rintro e w' ⟨rfl, ⟨nd, rfl⟩⟩; (try first | exact ⟨rfl, _, World.drewN_drewN _ _ _⟩ | exact ⟨rfl, _, Eq.trans (World.drewN_drewN _ _ _) (congrArg (World.drewN _) (Nat.add_assoc _ _ _))⟩)) | (go_at_call 64; (with_reducible refine (impl_in.calls ((rd_T48 l0 x7_1).f1) 1 1000 true _ A7.out).mono ?_); rintro e w' ⟨rfl, ⟨nd, rfl⟩⟩; (try first | exact ⟨rfl, _, World.drewN_drewN _ _ _⟩ | exact ⟨rfl, _, Eq.trans (World.drewN_drewN _ _ _) (congrArg (World.drewN _) (Nat.add_assoc _ _ _))⟩); have p349 : 0 ≤ ((ji10) : Int) := dt_; have q349 : (ji10) < (l0.length : Int) := dt_; obtain ⟨ad349, e349, hx349_0, hx349_1⟩ := at_T48 HR0.out (ji10) p349 q349; obtain rfl : ad345 = ad349 := (by injection e349); have hn349_0 : ad345.block ≠ gb346 := nf_ hx349_0 GW346.out; have hn349_1 : ad345.block ≠ gb346 := nf_ hx349_0 GW346.out; replace hx349_0 := cB_ hx349_0; replace hx349_1 := cB_ hx349_1; replace hx349_0 := (cell_far (p := ⟨gb346, 0, none⟩) qz8 (.int .i64 ((rd_T48 l0 x7_1).f0))).trans hx349_0; replace hx349_1 := (cell_far (p := ⟨gb346, 0, none⟩) qz8 (.int .i64 ((rd_T48 l0 x7_1).f0))).trans hx349_1; replace hx349_0 := (cell_far (p := ⟨gb346, 1, none⟩) qz9 (.int .i64 ((rd_T48 l0 x7_1).f1))).trans hx349_0; replace hx349_1 := (cell_far (p := ⟨gb346, 1, none⟩) qz9 (.int .i64 ((rd_T48 l0 x7_1).f1))).trans hx349_1; (try have hy349_0 := fun (n_ : Nat) => (show ((((w14.drewN n_).setCell ⟨gb346, 0, none⟩ (.int .i64 ((rd_T48 l0 x7_1).f0))).setCell ⟨gb346, 1, none⟩ (.int .i64 ((rd_T48 l0 x7_1).f1)))).cell? _ = some _ from hx349_0)); (try have hy349_1 := fun (n_ : Nat) => (show ((((w14.drewN n_).setCell ⟨gb346, 0, none⟩ (.int .i64 ((rd_T48 l0 x7_1).f0))).setCell ⟨gb346, 1, none⟩ (.int .i64 ((rd_T48 l0 x7_1).f1)))).cell? _ = some _ from hx349_1)); clear hn349_0 hn349_1; replace p349 := eq_true p349; replace q349 := eq_true q349)))
   go_ret
   exact ⟨by first | rfl | (simp [errW_none, errW_some] <;> rfl) | (simp only [← hji10]; first | rfl | (simp [errW_none, errW_some] <;> rfl)) | (simp [*, errW_none, errW_some] <;> rfl), qz1⟩
   }
   {
   rw [if_neg c13] at H
   have c13b0 := decide_eq_false c13
   clear c13
   have H' := aM H
   clear H
   have p345 : 0 ≤ (x7_1 : Int) := dt_
   have q345 : x7_1 < (l0.length : Int) := dt_
   obtain ⟨ad345, e345, hx345_0, hx345_1⟩ := at_T48 HR0.out x7_1 p345 q345
   cases e345
   replace hx345_0 := cB_ hx345_0
   replace hx345_1 := cB_ hx345_1
   replace p345 := eq_true p345
   replace q345 := eq_true q345
   go_wp2_with (first | ((with_reducible refine gate_dst (N := 4) rfl ?_); refine bx_ 4 #[.int .i64 0, .int .i64 0] 48 ?_; intro gb346 hg w16 hbox hb; have BK346 := aM (hbox); have GW346 := aM (bz_ w hg qz1); have GE346 := GW346; replace HB := bS_ hb; clear hb hbox hg; have hcz17_0 := bc0_ BK346.out; have hcz17_1 := bc1_ BK346.out; have hfz17_0 := blk_frozen BK346.out 0; have hfz17_1 := blk_frozen BK346.out 1) | (go_at_call 64; (with_reducible refine (impl_in.calls ((rd_T48 l0 x7_1).f0) 1 50 true _ A5.out).mono ?_); rintro e w' ⟨rfl, ⟨nd, rfl⟩⟩; (try first | exact ⟨rfl, _, World.drewN_drewN _ _ _⟩ | exact ⟨rfl, _, Eq.trans (World.drewN_drewN _ _ _) (congrArg (World.drewN _) (Nat.add_assoc _ _ _))⟩)) | (go_at_call 64; (with_reducible refine (impl_in.calls ((rd_T48 l0 x7_1).f1) 1 1000 true _ A7.out).mono ?_); rintro e w' ⟨rfl, ⟨nd, rfl⟩⟩; (try first | exact ⟨rfl, _, World.drewN_drewN _ _ _⟩ | exact ⟨rfl, _, Eq.trans (World.drewN_drewN _ _ _) (congrArg (World.drewN _) (Nat.add_assoc _ _ _))⟩); have p349 : 0 ≤ ((ji10) : Int) := dt_; have q349 : (ji10) < (l0.length : Int) := dt_; obtain ⟨ad349, e349, hx349_0, hx349_1⟩ := at_T48 HR0.out (ji10) p349 q349; obtain rfl : ad345 = ad349 := (by injection e349); have hn349_0 : ad345.block ≠ gb346 := nf_ hx349_0 GW346.out; have hn349_1 : ad345.block ≠ gb346 := nf_ hx349_0 GW346.out; replace hx349_0 := cB_ hx349_0; replace hx349_1 := cB_ hx349_1; replace hx349_0 := (cell_far (p := ⟨gb346, 0, none⟩) qz8 (.int .i64 ((rd_T48 l0 x7_1).f0))).trans hx349_0; replace hx349_1 := (cell_far (p := ⟨gb346, 0, none⟩) qz8 (.int .i64 ((rd_T48 l0 x7_1).f0))).trans hx349_1; replace hx349_0 := (cell_far (p := ⟨gb346, 1, none⟩) qz9 (.int .i64 ((rd_T48 l0 x7_1).f1))).trans hx349_0; replace hx349_1 := (cell_far (p := ⟨gb346, 1, none⟩) qz9 (.int .i64 ((rd_T48 l0 x7_1).f1))).trans hx349_1; (try have hy349_0 := fun (n_ : Nat) => (show ((((w16.drewN n_).setCell ⟨gb346, 0, none⟩ (.int .i64 ((rd_T48 l0 x7_1).f0))).setCell ⟨gb346, 1, none⟩ (.int .i64 ((rd_T48 l0 x7_1).f1)))).cell? _ = some _ from hx349_0)); (try have hy349_1 := fun (n_ : Nat) => (show ((((w16.drewN n_).setCell ⟨gb346, 0, none⟩ (.int .i64 ((rd_T48 l0 x7_1).f0))).setCell ⟨gb346, 1, none⟩ (.int .i64 ((rd_T48 l0 x7_1).f1)))).cell? _ = some _ from hx349_1)); clear hn349_0 hn349_1; replace p349 := eq_true p349; replace q349 := eq_true q349))
   repeat (go_quiet (first | ((with_reducible refine gate_dst (N := 4) rfl ?_); refine bx_ 4 #[.int .i64 0, .int .i64 0] 48 ?_; intro gb346 hg w16 hbox hb; have BK346 := aM (hbox); have GW346 := aM (bz_ w hg qz1); have GE346 := GW346; replace HB := bS_ hb; clear hb hbox hg; have hcz17_0 := bc0_ BK346.out; have hcz17_1 := bc1_ BK346.out; have hfz17_0 := blk_frozen BK346.out 0; have hfz17_1 := blk_frozen BK346.out 1) | (go_at_call 64; (with_reducible refine (impl_in.calls ((rd_T48 l0 x7_1).f0) 1 50 true _ A5.out).mono ?_); rintro e w' ⟨rfl, ⟨nd, rfl⟩⟩; (try first | exact ⟨rfl, _, World.drewN_drewN _ _ _⟩ | exact ⟨rfl, _, Eq.trans (World.drewN_drewN _ _ _) (congrArg (World.drewN _) (Nat.add_assoc _ _ _))⟩)) | (go_at_call 64; (with_reducible refine (impl_in.calls ((rd_T48 l0 x7_1).f1) 1 1000 true _ A7.out).mono ?_); rintro e w' ⟨rfl, ⟨nd, rfl⟩⟩; (try first | exact ⟨rfl, _, World.drewN_drewN _ _ _⟩ | exact ⟨rfl, _, Eq.trans (World.drewN_drewN _ _ _) (congrArg (World.drewN _) (Nat.add_assoc _ _ _))⟩); have p349 : 0 ≤ ((ji10) : Int) := dt_; have q349 : (ji10) < (l0.length : Int) := dt_; obtain ⟨ad349, e349, hx349_0, hx349_1⟩ := at_T48 HR0.out (ji10) p349 q349; obtain rfl : ad345 = ad349 := (by injection e349); have hn349_0 : ad345.block ≠ gb346 := nf_ hx349_0 GW346.out; have hn349_1 : ad345.block ≠ gb346 := nf_ hx349_0 GW346.out; replace hx349_0 := cB_ hx349_0; replace hx349_1 := cB_ hx349_1; replace hx349_0 := (cell_far (p := ⟨gb346, 0, none⟩) qz8 (.int .i64 ((rd_T48 l0 x7_1).f0))).trans hx349_0; replace hx349_1 := (cell_far (p := ⟨gb346, 0, none⟩) qz8 (.int .i64 ((rd_T48 l0 x7_1).f0))).trans hx349_1; replace hx349_0 := (cell_far (p := ⟨gb346, 1, none⟩) qz9 (.int .i64 ((rd_T48 l0 x7_1).f1))).trans hx349_0; replace hx349_1 := (cell_far (p := ⟨gb346, 1, none⟩) qz9 (.int .i64 ((rd_T48 l0 x7_1).f1))).trans hx349_1; (try have hy349_0 := fun (n_ : Nat) => (show ((((w16.drewN n_).setCell ⟨gb346, 0, none⟩ (.int .i64 ((rd_T48 l0 x7_1).f0))).setCell ⟨gb346, 1, none⟩ (.int .i64 ((rd_T48 l0 x7_1).f1)))).cell? _ = some _ from hx349_0)); (try have hy349_1 := fun (n_ : Nat) => (show ((((w16.drewN n_).setCell ⟨gb346, 0, none⟩ (.int .i64 ((rd_T48 l0 x7_1).f0))).setCell ⟨gb346, 1, none⟩ (.int .i64 ((rd_T48 l0 x7_1).f1)))).cell? _ = some _ from hx349_1)); clear hn349_0 hn349_1; replace p349 := eq_true p349; replace q349 := eq_true q349)); try go_wp2_with (first | ((with_reducible refine gate_dst (N := 4) rfl ?_); refine bx_ 4 #[.int .i64 0, .int .i64 0] 48 ?_; intro gb346 hg w16 hbox hb; have BK346 := aM (hbox); have GW346 := aM (bz_ w hg qz1); have GE346 := GW346; replace HB := bS_ hb; clear hb hbox hg; have hcz17_0 := bc0_ BK346.out; have hcz17_1 := bc1_ BK346.out; have hfz17_0 := blk_frozen BK346.out 0; have hfz17_1 := blk_frozen BK346.out 1) | (go_at_call 64; (with_reducible refine (impl_in.calls ((rd_T48 l0 x7_1).f0) 1 50 true _ A5.out).mono ?_); rintro e w' ⟨rfl, ⟨nd, rfl⟩⟩; (try first | exact ⟨rfl, _, World.drewN_drewN _ _ _⟩ | exact ⟨rfl, _, Eq.trans (World.drewN_drewN _ _ _) (congrArg (World.drewN _) (Nat.add_assoc _ _ _))⟩)) | (go_at_call 64; (with_reducible refine (impl_in.calls ((rd_T48 l0 x7_1).f1) 1 1000 true _ A7.out).mono ?_); rintro e w' ⟨rfl, ⟨nd, rfl⟩⟩; (try first | exact ⟨rfl, _, World.drewN_drewN _ _ _⟩ | exact ⟨rfl, _, Eq.trans (World.drewN_drewN _ _ _) (congrArg (World.drewN _) (Nat.add_assoc _ _ _))⟩); have p349 : 0 ≤ ((ji10) : Int) := dt_; have q349 : (ji10) < (l0.length : Int) := dt_; obtain ⟨ad349, e349, hx349_0, hx349_1⟩ := at_T48 HR0.out (ji10) p349 q349; obtain rfl : ad345 = ad349 := (by injection e349); have hn349_0 : ad345.block ≠ gb346 := nf_ hx349_0 GW346.out; have hn349_1 : ad345.block ≠ gb346 := nf_ hx349_0 GW346.out; replace hx349_0 := cB_ hx349_0; replace hx349_1 := cB_ hx349_1; replace hx349_0 := (cell_far (p := ⟨gb346, 0, none⟩) qz8 (.int .i64 ((rd_T48 l0 x7_1).f0))).trans hx349_0; replace hx349_1 := (cell_far (p := ⟨gb346, 0, none⟩) qz8 (.int .i64 ((rd_T48 l0 x7_1).f0))).trans hx349_1; replace hx349_0 := (cell_far (p := ⟨gb346, 1, none⟩) qz9 (.int .i64 ((rd_T48 l0 x7_1).f1))).trans hx349_0; replace hx349_1 := (cell_far (p := ⟨gb346, 1, none⟩) qz9 (.int .i64 ((rd_T48 l0 x7_1).f1))).trans hx349_1; (try have hy349_0 := fun (n_ : Nat) => (show ((((w16.drewN n_).setCell ⟨gb346, 0, none⟩ (.int .i64 ((rd_T48 l0 x7_1).f0))).setCell ⟨gb346, 1, none⟩ (.int .i64 ((rd_T48 l0 x7_1).f1)))).cell? _ = some _ from hx349_0)); (try have hy349_1 := fun (n_ : Nat) => (show ((((w16.drewN n_).setCell ⟨gb346, 0, none⟩ (.int .i64 ((rd_T48 l0 x7_1).f0))).setCell ⟨gb346, 1, none⟩ (.int .i64 ((rd_T48 l0 x7_1).f1)))).cell? _ = some _ from hx349_1)); clear hn349_0 hn349_1; replace p349 := eq_true p349; replace q349 := eq_true q349)))
   go_roundg k1
   case measure => have := HK1.out; omega
   case rel => exact ⟨(wrap64 (x7_1 + 1)), qz5, H', ⟨by have := HK1.out; omega⟩, ⟨qz1⟩⟩
   }
   }
   {
   exact an_ c12 H
   }
   }
   {
   exact an_ c11 H
   }
   }
   {
   rw [if_neg c9] at H
   have c9b0 := decide_eq_false c9
   clear c9
   have H' := aM H
   clear H
   have p345 : 0 ≤ (x7_1 : Int) := dt_
   have q345 : x7_1 < (l0.length : Int) := dt_
   obtain ⟨ad345, e345, hx345_0, hx345_1⟩ := at_T48 HR0.out x7_1 p345 q345
   cases e345
   replace hx345_0 := cB_ hx345_0
   replace hx345_1 := cB_ hx345_1
   replace p345 := eq_true p345
   replace q345 := eq_true q345
   go_wp2_with (first | ((with_reducible refine gate_dst (N := 4) rfl ?_); refine bx_ 4 #[.int .i64 0, .int .i64 0] 48 ?_; intro gb346 hg w18 hbox hb; have BK346 := aM (hbox); have GW346 := aM (bz_ w hg qz1); have GE346 := GW346; replace HB := bS_ hb; clear hb hbox hg; have hcz19_0 := bc0_ BK346.out; have hcz19_1 := bc1_ BK346.out; have hfz19_0 := blk_frozen BK346.out 0; have hfz19_1 := blk_frozen BK346.out 1) | (go_at_call 64; (with_reducible refine (impl_in.calls ((rd_T48 l0 x7_1).f0) 1 50 true _ A5.out).mono ?_); rintro e w' ⟨rfl, ⟨nd, rfl⟩⟩; (try first | exact ⟨rfl, _, World.drewN_drewN _ _ _⟩ | exact ⟨rfl, _, Eq.trans (World.drewN_drewN _ _ _) (congrArg (World.drewN _) (Nat.add_assoc _ _ _))⟩)) | (go_at_call 64; (with_reducible refine (impl_in.calls ((rd_T48 l0 x7_1).f1) 1 1000 true _ A7.out).mono ?_); rintro e w' ⟨rfl, ⟨nd, rfl⟩⟩; (try first | exact ⟨rfl, _, World.drewN_drewN _ _ _⟩ | exact ⟨rfl, _, Eq.trans (World.drewN_drewN _ _ _) (congrArg (World.drewN _) (Nat.add_assoc _ _ _))⟩)))
   repeat (go_quiet (first | ((with_reducible refine gate_dst (N := 4) rfl ?_); refine bx_ 4 #[.int .i64 0, .int .i64 0] 48 ?_; intro gb346 hg w18 hbox hb; have BK346 := aM (hbox); have GW346 := aM (bz_ w hg qz1); have GE346 := GW346; replace HB := bS_ hb; clear hb hbox hg; have hcz19_0 := bc0_ BK346.out; have hcz19_1 := bc1_ BK346.out; have hfz19_0 := blk_frozen BK346.out 0; have hfz19_1 := blk_frozen BK346.out 1) | (go_at_call 64; (with_reducible refine (impl_in.calls ((rd_T48 l0 x7_1).f0) 1 50 true _ A5.out).mono ?_); rintro e w' ⟨rfl, ⟨nd, rfl⟩⟩; (try first | exact ⟨rfl, _, World.drewN_drewN _ _ _⟩ | exact ⟨rfl, _, Eq.trans (World.drewN_drewN _ _ _) (congrArg (World.drewN _) (Nat.add_assoc _ _ _))⟩)) | (go_at_call 64; (with_reducible refine (impl_in.calls ((rd_T48 l0 x7_1).f1) 1 1000 true _ A7.out).mono ?_); rintro e w' ⟨rfl, ⟨nd, rfl⟩⟩; (try first | exact ⟨rfl, _, World.drewN_drewN _ _ _⟩ | exact ⟨rfl, _, Eq.trans (World.drewN_drewN _ _ _) (congrArg (World.drewN _) (Nat.add_assoc _ _ _))⟩))); try go_wp2_with (first | ((with_reducible refine gate_dst (N := 4) rfl ?_); refine bx_ 4 #[.int .i64 0, .int .i64 0] 48 ?_; intro gb346 hg w18 hbox hb; have BK346 := aM (hbox); have GW346 := aM (bz_ w hg qz1); have GE346 := GW346; replace HB := bS_ hb; clear hb hbox hg; have hcz19_0 := bc0_ BK346.out; have hcz19_1 := bc1_ BK346.out; have hfz19_0 := blk_frozen BK346.out 0; have hfz19_1 := blk_frozen BK346.out 1) | (go_at_call 64; (with_reducible refine (impl_in.calls ((rd_T48 l0 x7_1).f0) 1 50 true _ A5.out).mono ?_); rintro e w' ⟨rfl, ⟨nd, rfl⟩⟩; (try first | exact ⟨rfl, _, World.drewN_drewN _ _ _⟩ | exact ⟨rfl, _, Eq.trans (World.drewN_drewN _ _ _) (congrArg (World.drewN _) (Nat.add_assoc _ _ _))⟩)) | (go_at_call 64; (with_reducible refine (impl_in.calls ((rd_T48 l0 x7_1).f1) 1 1000 true _ A7.out).mono ?_); rintro e w' ⟨rfl, ⟨nd, rfl⟩⟩; (try first | exact ⟨rfl, _, World.drewN_drewN _ _ _⟩ | exact ⟨rfl, _, Eq.trans (World.drewN_drewN _ _ _) (congrArg (World.drewN _) (Nat.add_assoc _ _ _))⟩))))
   go_roundg k1
   case measure => have := HK1.out; omega
   case rel => exact ⟨(wrap64 (x7_1 + 1)), qz5, H', ⟨by have := HK1.out; omega⟩, ⟨qz1⟩⟩
   }
   }
   {
   replace c8 := Bool.eq_false_iff.mpr c8
   subst c8
   rw [if_neg (show ¬ (false = true) by decide)] at H
   obtain rfl := Option.some.inj H
   simp only [Option.some.injEq, Prod.mk.injEq] at H
   obtain ⟨rfl⟩ := H
   have p345 : 0 ≤ (x7_1 : Int) := dt_
   have q345 : x7_1 < (l0.length : Int) := dt_
   obtain ⟨ad345, e345, hx345_0, hx345_1⟩ := at_T48 HR0.out x7_1 p345 q345
   cases e345
   replace hx345_0 := cB_ hx345_0
   replace hx345_1 := cB_ hx345_1
   replace p345 := eq_true p345
   replace q345 := eq_true q345
   go_wp2_with (first | ((with_reducible refine gate_dst (N := 4) rfl ?_); refine bx_ 4 #[.int .i64 0, .int .i64 0] 48 ?_; intro gb346 hg w20 hbox hb; have BK346 := aM (hbox); have GW346 := aM (bz_ w hg qz1); have GE346 := GW346; replace HB := bS_ hb; clear hb hbox hg; have hcz21_0 := bc0_ BK346.out; have hcz21_1 := bc1_ BK346.out; have hfz21_0 := blk_frozen BK346.out 0; have hfz21_1 := blk_frozen BK346.out 1) | (go_at_call 64; (with_reducible refine (impl_in.calls ((rd_T48 l0 x7_1).f0) 1 50 true _ A5.out).mono ?_); rintro e w' ⟨rfl, ⟨nd, rfl⟩⟩; (try first | exact ⟨rfl, _, World.drewN_drewN _ _ _⟩ | exact ⟨rfl, _, Eq.trans (World.drewN_drewN _ _ _) (congrArg (World.drewN _) (Nat.add_assoc _ _ _))⟩)) | (go_at_call 64; (with_reducible refine (impl_in.calls ((rd_T48 l0 x7_1).f1) 1 1000 false _ A7.out).mono ?_); rintro e w' ⟨rfl, ⟨nd, rfl⟩⟩; (try first | exact ⟨rfl, _, World.drewN_drewN _ _ _⟩ | exact ⟨rfl, _, Eq.trans (World.drewN_drewN _ _ _) (congrArg (World.drewN _) (Nat.add_assoc _ _ _))⟩)))
   repeat (go_quiet (first | ((with_reducible refine gate_dst (N := 4) rfl ?_); refine bx_ 4 #[.int .i64 0, .int .i64 0] 48 ?_; intro gb346 hg w20 hbox hb; have BK346 := aM (hbox); have GW346 := aM (bz_ w hg qz1); have GE346 := GW346; replace HB := bS_ hb; clear hb hbox hg; have hcz21_0 := bc0_ BK346.out; have hcz21_1 := bc1_ BK346.out; have hfz21_0 := blk_frozen BK346.out 0; have hfz21_1 := blk_frozen BK346.out 1) | (go_at_call 64; (with_reducible refine (impl_in.calls ((rd_T48 l0 x7_1).f0) 1 50 true _ A5.out).mono ?_); rintro e w' ⟨rfl, ⟨nd, rfl⟩⟩; (try first | exact ⟨rfl, _, World.drewN_drewN _ _ _⟩ | exact ⟨rfl, _, Eq.trans (World.drewN_drewN _ _ _) (congrArg (World.drewN _) (Nat.add_assoc _ _ _))⟩)) | (go_at_call 64; (with_reducible refine (impl_in.calls ((rd_T48 l0 x7_1).f1) 1 1000 false _ A7.out).mono ?_); rintro e w' ⟨rfl, ⟨nd, rfl⟩⟩; (try first | exact ⟨rfl, _, World.drewN_drewN _ _ _⟩ | exact ⟨rfl, _, Eq.trans (World.drewN_drewN _ _ _) (congrArg (World.drewN _) (Nat.add_assoc _ _ _))⟩))); try go_wp2_with (first | ((with_reducible refine gate_dst (N := 4) rfl ?_); refine bx_ 4 #[.int .i64 0, .int .i64 0] 48 ?_; intro gb346 hg w20 hbox hb; have BK346 := aM (hbox); have GW346 := aM (bz_ w hg qz1); have GE346 := GW346; replace HB := bS_ hb; clear hb hbox hg; have hcz21_0 := bc0_ BK346.out; have hcz21_1 := bc1_ BK346.out; have hfz21_0 := blk_frozen BK346.out 0; have hfz21_1 := blk_frozen BK346.out 1) | (go_at_call 64; (with_reducible refine (impl_in.calls ((rd_T48 l0 x7_1).f0) 1 50 true _ A5.out).mono ?_); rintro e w' ⟨rfl, ⟨nd, rfl⟩⟩; (try first | exact ⟨rfl, _, World.drewN_drewN _ _ _⟩ | exact ⟨rfl, _, Eq.trans (World.drewN_drewN _ _ _) (congrArg (World.drewN _) (Nat.add_assoc _ _ _))⟩)) | (go_at_call 64; (with_reducible refine (impl_in.calls ((rd_T48 l0 x7_1).f1) 1 1000 false _ A7.out).mono ?_); rintro e w' ⟨rfl, ⟨nd, rfl⟩⟩; (try first | exact ⟨rfl, _, World.drewN_drewN _ _ _⟩ | exact ⟨rfl, _, Eq.trans (World.drewN_drewN _ _ _) (congrArg (World.drewN _) (Nat.add_assoc _ _ _))⟩))))
   go_ret
   exact ⟨qzw, qz1⟩
   }
   }
   {
   replace c6 := Bool.eq_false_iff.mpr c6
   subst c6
   rw [if_neg (show ¬ (false = true) by decide)] at H
   obtain rfl := Option.some.inj H
   simp only [Option.some.injEq, Prod.mk.injEq] at H
   obtain ⟨rfl⟩ := H
   have p345 : 0 ≤ (x7_1 : Int) := dt_
   have q345 : x7_1 < (l0.length : Int) := dt_
   obtain ⟨ad345, e345, hx345_0, hx345_1⟩ := at_T48 HR0.out x7_1 p345 q345
   cases e345
   replace hx345_0 := cB_ hx345_0
   replace hx345_1 := cB_ hx345_1
   replace p345 := eq_true p345
   replace q345 := eq_true q345
   go_wp2_with (first | ((with_reducible refine gate_dst (N := 4) rfl ?_); refine bx_ 4 #[.int .i64 0, .int .i64 0] 48 ?_; intro gb346 hg w22 hbox hb; have BK346 := aM (hbox); have GW346 := aM (bz_ w hg qz1); have GE346 := GW346; replace HB := bS_ hb; clear hb hbox hg; have hcz23_0 := bc0_ BK346.out; have hcz23_1 := bc1_ BK346.out; have hfz23_0 := blk_frozen BK346.out 0; have hfz23_1 := blk_frozen BK346.out 1) | (go_at_call 64; (with_reducible refine (impl_in.calls ((rd_T48 l0 x7_1).f0) 1 50 false _ A5.out).mono ?_); rintro e w' ⟨rfl, ⟨nd, rfl⟩⟩; (try first | exact ⟨rfl, _, World.drewN_drewN _ _ _⟩ | exact ⟨rfl, _, Eq.trans (World.drewN_drewN _ _ _) (congrArg (World.drewN _) (Nat.add_assoc _ _ _))⟩)))
   repeat (go_quiet (first | ((with_reducible refine gate_dst (N := 4) rfl ?_); refine bx_ 4 #[.int .i64 0, .int .i64 0] 48 ?_; intro gb346 hg w22 hbox hb; have BK346 := aM (hbox); have GW346 := aM (bz_ w hg qz1); have GE346 := GW346; replace HB := bS_ hb; clear hb hbox hg; have hcz23_0 := bc0_ BK346.out; have hcz23_1 := bc1_ BK346.out; have hfz23_0 := blk_frozen BK346.out 0; have hfz23_1 := blk_frozen BK346.out 1) | (go_at_call 64; (with_reducible refine (impl_in.calls ((rd_T48 l0 x7_1).f0) 1 50 false _ A5.out).mono ?_); rintro e w' ⟨rfl, ⟨nd, rfl⟩⟩; (try first | exact ⟨rfl, _, World.drewN_drewN _ _ _⟩ | exact ⟨rfl, _, Eq.trans (World.drewN_drewN _ _ _) (congrArg (World.drewN _) (Nat.add_assoc _ _ _))⟩))); try go_wp2_with (first | ((with_reducible refine gate_dst (N := 4) rfl ?_); refine bx_ 4 #[.int .i64 0, .int .i64 0] 48 ?_; intro gb346 hg w22 hbox hb; have BK346 := aM (hbox); have GW346 := aM (bz_ w hg qz1); have GE346 := GW346; replace HB := bS_ hb; clear hb hbox hg; have hcz23_0 := bc0_ BK346.out; have hcz23_1 := bc1_ BK346.out; have hfz23_0 := blk_frozen BK346.out 0; have hfz23_1 := blk_frozen BK346.out 1) | (go_at_call 64; (with_reducible refine (impl_in.calls ((rd_T48 l0 x7_1).f0) 1 50 false _ A5.out).mono ?_); rintro e w' ⟨rfl, ⟨nd, rfl⟩⟩; (try first | exact ⟨rfl, _, World.drewN_drewN _ _ _⟩ | exact ⟨rfl, _, Eq.trans (World.drewN_drewN _ _ _) (congrArg (World.drewN _) (Nat.add_assoc _ _ _))⟩))))
   go_ret
   exact ⟨qzw, qz1⟩
   }
   }
   {
   exact an_ c4 H
   }
   }
   {
   exact an_ c3 H
   }
   }
   {
   rw [if_neg c2] at H
   have c2b0 := decide_eq_false c2
   clear c2
   obtain rfl := Option.some.inj H
   simp only [Option.some.injEq, Prod.mk.injEq] at H
   obtain ⟨rfl⟩ := H
   go_wp2
   repeat (go_quiet (fail); try go_wp2)
   go_ret
   exact ⟨qzw, qz1⟩

   }
/-! ### impl_copyItems: function 78 -/
def impl_copyItems.f (l0 : List (S48)) : Option ((List (S48))) := if ([] : List (S48)).length + l0.length < 8796093022208 then (some (([] : List (S48)) ++ l0)) else (none)
set_option maxHeartbeats 8000000 in
set_option maxRecDepth 100000 in
theorem impl_copyItems.calls (A0 : Option Addr) (c0 : Nat) (l0 : List (S48)) (r : List (S48)) (w : World) (hr0 : Kd.C k48 w A0 l0.length l0) (hc0 : l0.length ≤ c0) (h : impl_copyItems.f l0 = some r) :
  Calls Try.prog 78 #[.slice A0 l0.length c0] w fun e w' => ∃ v0_ : Value, e = .returned (v0_) ∧ Kd.R k48 48 w' w.heap.size (fun _ => True) v0_ r ∧ Below w.heap.size w w' := by
 have HR0 := aM hr0
 have HC0 := aM hc0
 clear hr0 hc0
 have HB := aM (Below.refl w.heap.size w)
 have H : (if ([] : List (S48)).length + l0.length < 8796093022208 then (some (([] : List (S48)) ++ l0)) else (none)) = some r := h
 clear h
 by_cases c2 : ([] : List (S48)).length + l0.length < 8796093022208
 {
 rw [if_pos c2] at H
 have LMc2 := aM c2
 clear c2
 obtain ⟨y350, hy350⟩ : ∃ y_ : List (S48), y_ = (([] : List (S48)) ++ l0) := ⟨_, rfl⟩
 replace H : (some y350) = some r := by first | (rw [hy350]; with_reducible exact H) | (have H2_ := (Option.bind_some _ _).symm.trans H; rw [hy350]; with_reducible exact H2_) | (have H2_ := (Option.bind_some _ _).symm.trans H; with_reducible exact H2_) | with_reducible exact H | (rw [hy350]; exact H) | exact H
 have Ny350 := aM hy350
 clear hy350
 obtain rfl := Option.some.inj H
 simp only [Option.some.injEq, Prod.mk.injEq] at H
 obtain ⟨rfl⟩ := H
 go_enter Try.func78, Try.ntmps78
 go_wp2_with (first | ((with_reducible refine gate_builtin (b := .append) (xs := #[.const (.slice none 0 0), .tmp 3]) rfl ?_); at_builtin; refine Kd.R_append_rows k48 (w0 := w) w.heap.size rfl (.const (.slice none 0 0)) (.tmp 3) 40 48 (.agg #[(.int .i64 0), (.int .i64 0)]) 16 rfl Try.underlying40 info48 rfl (by decide) (by omega) (.slice none 0 0) ([] : List (S48)) l0 _ _ _ (fun _ => True) (fun _ => False) rfl rfl ?aO ?aR (fun _ _ h => h) (fun _ h => h.elim) ?aF ?aB ?aS ?aL ?_; (case aR => exact qz22); (case aB => exact qz1); (case aF => exact (fun _ _ => trivial)); (case aO => exact ((Kd.R_nil _ _ _ _ (fun _ => True)))); (case aS => exact (below_size qz1)); (case aL => have := LMc2.out; omega); intro v351 w3 ho hb hg hat; rw [← Ny350.out] at ho; replace HB := aM (hb); have HO352 := aM (ho); clear ho hb hg hat))
 go_ret
 exact ⟨_, qzw, by (with_reducible repeat (first | apply Kd.R_alloc | apply Kd.R_drewN | apply Kd.R_drew)); exact HO352.out, qz1⟩
 }
 {
 exact an_ c2 H

 }
/-! ### impl_could: function 79 -/
def impl_could.l0 : Nat → List (S50) → Int → List (S48) → Int → Int → Int → Int → List (S72) → Option ((List (S50)) × Int)
 | 0, _, _, _, _, _, _, _, _ => none
 | k + 1, x6, x7, x13, x14, x15, x354000, x354001, x354002 => if x15 < x14 then (if 0 ≤ x15 then (if x15 < (x13.length : Int) then ((impl_stackAt.f k x354000 x354001 x354002 ((rd_T48 x13 x15).f0)).bind fun bt356 => (if bt356.2 = true then (if 0 ≤ bt356.1 then (if bt356.1 < (x354002.length : Int) then (if (mn ((rd_T48 x13 x15).f1) (wrap64 (((rd_T72 x354002 bt356.1).f1) - ((rd_T72 x354002 bt356.1).f2)))) > 0 then (if x6.length < 5864062014805 then (impl_could.l0 k (x6 ++ [(⟨x354000, (rd_T48 x13 x15).f0, mn ((rd_T48 x13 x15).f1) (wrap64 (((rd_T72 x354002 bt356.1).f1) - ((rd_T72 x354002 bt356.1).f2)))⟩ : S50)]) (wrap64 (x7 + (mn ((rd_T48 x13 x15).f1) (wrap64 (((rd_T72 x354002 bt356.1).f1) - ((rd_T72 x354002 bt356.1).f2)))))) x13 x14 (wrap64 (x15 + 1)) x354000 x354001 x354002) else (none)) else (impl_could.l0 k x6 x7 x13 x14 (wrap64 (x15 + 1)) x354000 x354001 x354002)) else (none)) else (none)) else (impl_could.l0 k x6 x7 x13 x14 (wrap64 (x15 + 1)) x354000 x354001 x354002))) else (none)) else (none)) else (some (x6, x7))
def impl_could.f (k : Nat) (a0_0 : Int) (a0_1 : Int) (l0_2 : List (S72)) (l1 : List (S48)) : Option ((List (S50)) × Int) := impl_could.l0 k ([] : List (S50)) 0 l1 (l1.length : Int) 0 a0_0 a0_1 l0_2
theorem impl_could.mono_l : ∀ k, (∀ y0 y1 y2 y3 y4 y5 y6 y7, LeO (impl_could.l0 k y0 y1 y2 y3 y4 y5 y6 y7) (impl_could.l0 (k + 1) y0 y1 y2 y3 y4 y5 y6 y7))
 | 0 => fun _ _ _ _ _ _ _ _ r h => by simp [impl_could.l0] at h
 | k + 1 => by
  have ih0 := impl_could.mono_l k
  {
  intro y0 y1 y2 y3 y4 y5 y6 y7
  unfold impl_could.l0
  have j0 := @impl_stackAt.mono
  exact qL
  }
theorem impl_could.mono : ∀ a0 a1 a2 a3 k, LeO (impl_could.f k a0 a1 a2 a3) (impl_could.f (k + 1) a0 a1 a2 a3) := by
 intro a0 a1 a2 a3 k
 have ih0 := impl_could.mono_l k
 unfold impl_could.f
 have j0 := @impl_stackAt.mono
 exact qL
set_option maxHeartbeats 8000000 in
set_option maxRecDepth 100000 in
theorem impl_could.calls (k : Nat) (a0_0 : Int) (a0_1 : Int) (A0_2 : Option Addr) (c0_2 : Nat) (l0_2 : List (S72)) (A1 : Option Addr) (c1 : Nat) (l1 : List (S48)) (r1 : List (S50)) (r2 : Int) (w : World) (hr0_2 : Kd.C k72 w A0_2 l0_2.length l0_2) (hc0_2 : l0_2.length ≤ c0_2) (hr1 : Kd.C k48 w A1 l1.length l1) (hc1 : l1.length ≤ c1) (h : impl_could.f k a0_0 a0_1 l0_2 l1 = some (r1, r2)) :
  Calls Try.prog 79 #[.agg #[.int .i64 a0_0, .int .i64 a0_1, .slice A0_2 l0_2.length c0_2], .slice A1 l1.length c1] w fun e w' => ∃ v0_ : Value, e = .returned (.tuple #[v0_, .int .i64 r2]) ∧ Kd.R k50 50 w' w.heap.size (fun _ => True) v0_ r1 ∧ Below w.heap.size w w' := by
 have hu79 := Try.underlying79
 have hu48 := Try.underlying48
 have hu50 := Try.underlying50
 have HR0_2 := aM hr0_2
 have HC0_2 := aM hc0_2
 clear hr0_2 hc0_2
 have HR1 := aM hr1
 have HC1 := aM hc1
 clear hr1 hc1
 have HB := aM (Below.refl w.heap.size w)
 have H : (impl_could.l0 k ([] : List (S50)) 0 l1 (l1.length : Int) 0 a0_0 a0_1 l0_2) = some (r1, r2) := h
 clear h
 have H' := aM H
 clear H
 go_enter Try.func79, Try.ntmps79
 go_wp2_with (first | ((with_reducible refine gate_dst (N := 2) rfl ?_); refine bx_ 2 #[.int .i64 a0_0, .int .i64 a0_1, .slice A0_2 l0_2.length c0_2] 79 ?_; intro gb353 hg w3 hbox hb; have BK353 := aM (hbox); have GW353 := aM (bz_ w hg qz1); have GE353 := GW353; replace HB := bS_ hb; clear hb hbox hg))
 repeat (go_quiet (first | ((with_reducible refine gate_dst (N := 2) rfl ?_); refine bx_ 2 #[.int .i64 a0_0, .int .i64 a0_1, .slice A0_2 l0_2.length c0_2] 79 ?_; intro gb353 hg w3 hbox hb; have BK353 := aM (hbox); have GW353 := aM (bz_ w hg qz1); have GE353 := GW353; replace HB := bS_ hb; clear hb hbox hg)); try go_wp2_with (first | ((with_reducible refine gate_dst (N := 2) rfl ?_); refine bx_ 2 #[.int .i64 a0_0, .int .i64 a0_1, .slice A0_2 l0_2.length c0_2] 79 ?_; intro gb353 hg w3 hbox hb; have BK353 := aM (hbox); have GW353 := aM (bz_ w hg qz1); have GE353 := GW353; replace HB := bS_ hb; clear hb hbox hg)))
 go_loopg [6, 7, 15] k (fun kq v6 v7 v15 w' => ∃ (x6_1 : List (S50)) (x7_1 : Int) (x15_1 : Int), v7 = .int .i64 x7_1 ∧ v15 = .int .i64 x15_1 ∧ Aside0 (impl_could.l0 kq x6_1 x7_1 l1 (l1.length : Int) x15_1 a0_0 a0_1 l0_2 = some (r1, r2)) ∧ Aside0 (kq ≤ k) ∧ Aside0 (Kd.R k50 50 w' w.heap.size (fun _ => True) v6 x6_1) ∧ Aside0 (w'.heap[gb353]? = some (.cells #[.int .i64 a0_0, .int .i64 a0_1, (.slice A0_2 l0_2.length c0_2)] 79 (0, 0))) ∧ Aside0 (Below w.heap.size w w'))
 case atStart => exact ⟨(([] : List (S50))), (0), (0), qz5, qz5, H', ⟨Nat.le_refl _⟩, ⟨by first | exact Kd.R_nil _ _ _ _ _ | exact Kd.N_nil _ _ _ _ _ | exact Kd.V_nil _ _ _ _ _ | exact Kd.Q_nil _ _ _ _ _ | exact Kd.S_nil _ _ _ _ _⟩, ⟨bk_ BK353.out⟩, ⟨qz1⟩⟩
 case round =>
  clear H'
  try clear c1
  try clear p2
  obtain ⟨x6_1, x7_1, x15_1, rfl, rfl, HA, HK1, HO_6, BK353, HB⟩ := hrel
  cases gk with
  | zero => exact absurd HA.out (by simp [impl_could.l0])
  | succ k1 =>
   have H := HA.out
   clear HA
   simp only [impl_could.l0] at H
   by_cases c4 : x15_1 < (l1.length : Int)
   {
   rw [if_pos c4] at H
   have c4b0 := decide_eq_true c4
   clear c4
   by_cases c5 : 0 ≤ x15_1
   {
   rw [if_pos c5] at H
   have c5b0 := decide_eq_true c5
   clear c5
   by_cases c6 : x15_1 < (l1.length : Int)
   {
   rw [if_pos c6] at H
   have c6b0 := decide_eq_true c6
   clear c6
   replace H := Option.bind_eq_some_iff.mp H
   obtain ⟨⟨t356, t357⟩, A70, H⟩ := H
   replace H : (if t357 = true then (if 0 ≤ t356 then (if t356 < (l0_2.length : Int) then (if (mn ((rd_T48 l1 x15_1).f1) (wrap64 (((rd_T72 l0_2 t356).f1) - ((rd_T72 l0_2 t356).f2)))) > 0 then (if x6_1.length < 5864062014805 then (impl_could.l0 k1 (x6_1 ++ [(⟨a0_0, (rd_T48 l1 x15_1).f0, mn ((rd_T48 l1 x15_1).f1) (wrap64 (((rd_T72 l0_2 t356).f1) - ((rd_T72 l0_2 t356).f2)))⟩ : S50)]) (wrap64 (x7_1 + (mn ((rd_T48 l1 x15_1).f1) (wrap64 (((rd_T72 l0_2 t356).f1) - ((rd_T72 l0_2 t356).f2)))))) l1 (l1.length : Int) (wrap64 (x15_1 + 1)) a0_0 a0_1 l0_2) else (none)) else (impl_could.l0 k1 x6_1 x7_1 l1 (l1.length : Int) (wrap64 (x15_1 + 1)) a0_0 a0_1 l0_2)) else (none)) else (none)) else (impl_could.l0 k1 x6_1 x7_1 l1 (l1.length : Int) (wrap64 (x15_1 + 1)) a0_0 a0_1 l0_2)) = some (r1, r2) := H
   have A7 := aM A70
   clear A70
   by_cases c8 : t357 = true
   {
   subst c8
   rw [if_pos rfl] at H
   by_cases c9 : 0 ≤ t356
   {
   rw [if_pos c9] at H
   have c9b0 := decide_eq_true c9
   clear c9
   by_cases c10 : t356 < (l0_2.length : Int)
   {
   rw [if_pos c10] at H
   have c10b0 := decide_eq_true c10
   clear c10
   obtain ⟨ji11, hji11⟩ : ∃ j_ : Int, (mn ((rd_T48 l1 x15_1).f1) (wrap64 (((rd_T72 l0_2 t356).f1) - ((rd_T72 l0_2 t356).f2)))) = j_ := ⟨_, rfl⟩
   replace H : (if (ji11) > 0 then (if x6_1.length < 5864062014805 then (impl_could.l0 k1 (x6_1 ++ [(⟨a0_0, (rd_T48 l1 x15_1).f0, ji11⟩ : S50)]) (wrap64 (x7_1 + (ji11))) l1 (l1.length : Int) (wrap64 (x15_1 + 1)) a0_0 a0_1 l0_2) else (none)) else (impl_could.l0 k1 x6_1 x7_1 l1 (l1.length : Int) (wrap64 (x15_1 + 1)) a0_0 a0_1 l0_2)) = some (r1, r2) := by first | (rw [hji11] at H; exact H) | (simp only [hji11] at H ⊢; exact H)
   (try rw [hji11] at A7)
   have hji11_ : (if (wrap64 (((rd_T72 l0_2 t356).f1) - ((rd_T72 l0_2 t356).f2))) < ((rd_T48 l1 x15_1).f1) then (wrap64 (((rd_T72 l0_2 t356).f1) - ((rd_T72 l0_2 t356).f2))) else ((rd_T48 l1 x15_1).f1)) = ji11 := hji11
   by_cases c12 : (ji11) > 0
   {
   rw [if_pos c12] at H
   have c12b0 := decide_eq_true c12
   clear c12
   by_cases c13 : x6_1.length < 5864062014805
   {
   rw [if_pos c13] at H
   have LMc13 := aM c13
   clear c13
   obtain ⟨y360, hy360⟩ : ∃ y_ : List (S50), y_ = (x6_1 ++ [(⟨a0_0, (rd_T48 l1 x15_1).f0, ji11⟩ : S50)]) := ⟨_, rfl⟩
   replace H : (impl_could.l0 k1 y360 (wrap64 (x7_1 + (ji11))) l1 (l1.length : Int) (wrap64 (x15_1 + 1)) a0_0 a0_1 l0_2) = some (r1, r2) := by first | (rw [hy360]; with_reducible exact H) | (have H2_ := (Option.bind_some _ _).symm.trans H; rw [hy360]; with_reducible exact H2_) | (have H2_ := (Option.bind_some _ _).symm.trans H; with_reducible exact H2_) | with_reducible exact H | (rw [hy360]; exact H) | exact H
   have Ny360 := aM hy360
   clear hy360
   have H' := aM H
   clear H
   have p354 : 0 ≤ (x15_1 : Int) := dt_
   have q354 : x15_1 < (l1.length : Int) := dt_
   obtain ⟨ad354, e354, hx354_0, hx354_1⟩ := at_T48 HR1.out x15_1 p354 q354
   cases e354
   replace hx354_0 := cB_ hx354_0
   replace hx354_1 := cB_ hx354_1
   replace p354 := eq_true p354
   replace q354 := eq_true q354
   go_wp2_with (first | ((with_reducible refine gate_dst (N := 9) rfl ?_); refine bx_ 9 #[.int .i64 0, .int .i64 0] 48 ?_; intro gb355 hg w14 hbox hb; replace HO_6 := aM (Kd.R_below (rr_ HO_6.out) hb); have BK355 := aM (hbox); have GW355 := aM (bz_ w hg qz1); have GE355 := GW355; replace HB := bS_ hb; obtain ⟨NB353_355, NB355_353⟩ := nb_ hg (bk_ BK353.out); replace BK353 := bB_ BK353 hb; clear hb hbox hg; have hnb15 := NB355_353.out; have hnc15 := NB353_355.out; have hcz16_0 := bc0_ BK355.out; have hcz16_1 := bc1_ BK355.out; have hfz16_0 := blk_frozen BK355.out 0; have hfz16_1 := blk_frozen BK355.out 1; obtain ⟨hcz17_0, hcz17_1, hcz17_2, hfz17_0, hfz17_1, hfz17_2⟩ := b6_ BK353.out) | (go_at_call 67; (with_reducible refine (impl_stackAt.calls k1 a0_0 a0_1 _ _ l0_2 ((rd_T48 l1 x15_1).f0) t356 true _ ?side1 ?side2 A7.out).mono ?_); (case side1 => exact Kd.C_below HR0_2.out qz1); (case side2 => exact HC0_2.out); rintro e w18 ⟨rfl, hb⟩; replace HO_6 := aM (Kd.R_below (by (with_reducible repeat (first | apply Kd.R_alloc | apply Kd.R_drewN | apply Kd.R_drew)); exact (Kd.R_mono (Kd.R_far (p := ⟨gb355, 1, none⟩) (Kd.R_far (p := ⟨gb355, 0, none⟩) (Kd.R_types HO_6.out BK355.out (by decide)) (fun _ hk => hk.2) (.int .i64 ((rd_T48 l1 x15_1).f0))) (fun _ hk => hk.2) (.int .i64 ((rd_T48 l1 x15_1).f1))) (fun _ h_ => h_.1))) hb); replace BK353 := aM (blk_below (g := gb353) (o := .cells #[.int .i64 a0_0, .int .i64 a0_1, .slice A0_2 l0_2.length c0_2] 79 (0, 0)) (bk2_ BK353.out) hb); replace BK355 := aM (blk_below (g := gb355) (o := .cells #[.int .i64 ((rd_T48 l1 x15_1).f0), .int .i64 ((rd_T48 l1 x15_1).f1)] 48 (0, 0)) (by (with_reducible repeat (first | refine blk_drewN ?_ _ | refine blk_drew ?_ | refine blk_alloc ?_ _)); refine blk_put (cs := #[.int .i64 ((rd_T48 l1 x15_1).f0), .int .i64 0]) ?_ 1 _ rfl; (with_reducible repeat (first | refine blk_drewN ?_ _ | refine blk_drew ?_ | refine blk_alloc ?_ _)); refine blk_put (cs := #[.int .i64 0, .int .i64 0]) ?_ 0 _ rfl; exact bk_ BK355.out) hb); replace HB := bS_ hb; (try clear hb); (try clear hb2); (try clear hk); (try clear hi); have hcz19_0 := bc0_ BK355.out; have hcz19_1 := bc1_ BK355.out; have hfz19_0 := blk_frozen BK355.out 0; have hfz19_1 := blk_frozen BK355.out 1; obtain ⟨hcz20_0, hcz20_1, hcz20_2, hfz20_0, hfz20_1, hfz20_2⟩ := b6_ BK353.out; have p358 : 0 ≤ (t356 : Int) := dt_; have q358 : t356 < (l0_2.length : Int) := dt_; obtain ⟨ad358, e358, hx358_0, hx358_1, hx358_2⟩ := at_T72 HR0_2.out t356 p358 q358; cases e358; replace hx358_0 := cB_ hx358_0; replace hx358_1 := cB_ hx358_1; replace hx358_2 := cB_ hx358_2; replace p358 := eq_true p358; replace q358 := eq_true q358; have p359 : 0 ≤ (t356 : Int) := dt_; have q359 : t356 < (l0_2.length : Int) := dt_; obtain ⟨ad359, e359, hx359_0, hx359_1, hx359_2⟩ := at_T72 HR0_2.out t356 p359 q359; obtain rfl : ad358 = ad359 := (by injection e359); replace hx359_0 := cB_ hx359_0; replace hx359_1 := cB_ hx359_1; replace hx359_2 := cB_ hx359_2; replace p359 := eq_true p359; replace q359 := eq_true q359) | ((with_reducible refine gate_builtin (b := .append) (xs := #[.tmp 46, .tmp 53]) rfl ?_); at_builtin; refine Kd.R_append k50 (w0 := w) w.heap.size rfl (.tmp 46) (.tmp 53) 43 50 (.agg #[(.int .i64 0), (.int .i64 0), (.int .i64 0)]) 24 rfl Try.underlying43 info50 rfl (by decide) (by omega) u6 x6_1 (⟨a0_0, (rd_T48 l1 x15_1).f0, ji11⟩ : S50) [.int .i64 a0_0, .int .i64 ((rd_T48 l1 x15_1).f0), .int .i64 ji11] (fun _ => True) (fun _ => False) rfl rfl ?aP (fun _ hk => hk.elim) ?aF ?aO ?aB ?aS ?aL ?_; (case aP => exact k50_mkM _ _ _ (⟨a0_0, (rd_T48 l1 x15_1).f0, ji11⟩ : S50)); (case aB => exact qz1); (case aF => exact (fun _ _ => trivial)); (case aO => exact (rr_ HO_6.out)); (case aS => exact (below_size qz1)); (case aL => have := LMc13.out; omega); intro v361 w21 ho hb hg hat; rw [← Ny360.out] at ho; replace BK353 := aM (blk_grown (bk_ BK353.out) hg (Kd.R_ne HO_6.out BK353.out (by decide))); replace BK355 := aM (blk_grown (bk_ BK355.out) hg (Kd.R_ne HO_6.out BK355.out (by decide))); replace HB := aM (hb); have HO362 := aM (ho); clear HO_6; clear ho hb hg hat))
   repeat (go_quiet (first | ((with_reducible refine gate_dst (N := 9) rfl ?_); refine bx_ 9 #[.int .i64 0, .int .i64 0] 48 ?_; intro gb355 hg w14 hbox hb; replace HO_6 := aM (Kd.R_below (rr_ HO_6.out) hb); have BK355 := aM (hbox); have GW355 := aM (bz_ w hg qz1); have GE355 := GW355; replace HB := bS_ hb; obtain ⟨NB353_355, NB355_353⟩ := nb_ hg (bk_ BK353.out); replace BK353 := bB_ BK353 hb; clear hb hbox hg; have hnb15 := NB355_353.out; have hnc15 := NB353_355.out; have hcz16_0 := bc0_ BK355.out; have hcz16_1 := bc1_ BK355.out; have hfz16_0 := blk_frozen BK355.out 0; have hfz16_1 := blk_frozen BK355.out 1; obtain ⟨hcz17_0, hcz17_1, hcz17_2, hfz17_0, hfz17_1, hfz17_2⟩ := b6_ BK353.out) | (go_at_call 67; (with_reducible refine (impl_stackAt.calls k1 a0_0 a0_1 _ _ l0_2 ((rd_T48 l1 x15_1).f0) t356 true _ ?side1 ?side2 A7.out).mono ?_); (case side1 => exact Kd.C_below HR0_2.out qz1); (case side2 => exact HC0_2.out); rintro e w18 ⟨rfl, hb⟩; replace HO_6 := aM (Kd.R_below (by (with_reducible repeat (first | apply Kd.R_alloc | apply Kd.R_drewN | apply Kd.R_drew)); exact (Kd.R_mono (Kd.R_far (p := ⟨gb355, 1, none⟩) (Kd.R_far (p := ⟨gb355, 0, none⟩) (Kd.R_types HO_6.out BK355.out (by decide)) (fun _ hk => hk.2) (.int .i64 ((rd_T48 l1 x15_1).f0))) (fun _ hk => hk.2) (.int .i64 ((rd_T48 l1 x15_1).f1))) (fun _ h_ => h_.1))) hb); replace BK353 := aM (blk_below (g := gb353) (o := .cells #[.int .i64 a0_0, .int .i64 a0_1, .slice A0_2 l0_2.length c0_2] 79 (0, 0)) (bk2_ BK353.out) hb); replace BK355 := aM (blk_below (g := gb355) (o := .cells #[.int .i64 ((rd_T48 l1 x15_1).f0), .int .i64 ((rd_T48 l1 x15_1).f1)] 48 (0, 0)) (by (with_reducible repeat (first | refine blk_drewN ?_ _ | refine blk_drew ?_ | refine blk_alloc ?_ _)); refine blk_put (cs := #[.int .i64 ((rd_T48 l1 x15_1).f0), .int .i64 0]) ?_ 1 _ rfl; (with_reducible repeat (first | refine blk_drewN ?_ _ | refine blk_drew ?_ | refine blk_alloc ?_ _)); refine blk_put (cs := #[.int .i64 0, .int .i64 0]) ?_ 0 _ rfl; exact bk_ BK355.out) hb); replace HB := bS_ hb; (try clear hb); (try clear hb2); (try clear hk); (try clear hi); have hcz19_0 := bc0_ BK355.out; have hcz19_1 := bc1_ BK355.out; have hfz19_0 := blk_frozen BK355.out 0; have hfz19_1 := blk_frozen BK355.out 1; obtain ⟨hcz20_0, hcz20_1, hcz20_2, hfz20_0, hfz20_1, hfz20_2⟩ := b6_ BK353.out; have p358 : 0 ≤ (t356 : Int) := dt_; have q358 : t356 < (l0_2.length : Int) := dt_; obtain ⟨ad358, e358, hx358_0, hx358_1, hx358_2⟩ := at_T72 HR0_2.out t356 p358 q358; cases e358; replace hx358_0 := cB_ hx358_0; replace hx358_1 := cB_ hx358_1; replace hx358_2 := cB_ hx358_2; replace p358 := eq_true p358; replace q358 := eq_true q358; have p359 : 0 ≤ (t356 : Int) := dt_; have q359 : t356 < (l0_2.length : Int) := dt_; obtain ⟨ad359, e359, hx359_0, hx359_1, hx359_2⟩ := at_T72 HR0_2.out t356 p359 q359; obtain rfl : ad358 = ad359 := (by injection e359); replace hx359_0 := cB_ hx359_0; replace hx359_1 := cB_ hx359_1; replace hx359_2 := cB_ hx359_2; replace p359 := eq_true p359; replace q359 := eq_true q359) | ((with_reducible refine gate_builtin (b := .append) (xs := #[.tmp 46, .tmp 53]) rfl ?_); at_builtin; refine Kd.R_append k50 (w0 := w) w.heap.size rfl (.tmp 46) (.tmp 53) 43 50 (.agg #[(.int .i64 0), (.int .i64 0), (.int .i64 0)]) 24 rfl Try.underlying43 info50 rfl (by decide) (by omega) u6 x6_1 (⟨a0_0, (rd_T48 l1 x15_1).f0, ji11⟩ : S50) [.int .i64 a0_0, .int .i64 ((rd_T48 l1 x15_1).f0), .int .i64 ji11] (fun _ => True) (fun _ => False) rfl rfl ?aP (fun _ hk => hk.elim) ?aF ?aO ?aB ?aS ?aL ?_; (case aP => exact k50_mkM _ _ _ (⟨a0_0, (rd_T48 l1 x15_1).f0, ji11⟩ : S50)); (case aB => exact qz1); (case aF => exact (fun _ _ => trivial)); (case aO => exact (rr_ HO_6.out)); (case aS => exact (below_size qz1)); (case aL => have := LMc13.out; omega); intro v361 w21 ho hb hg hat; rw [← Ny360.out] at ho; replace BK353 := aM (blk_grown (bk_ BK353.out) hg (Kd.R_ne HO_6.out BK353.out (by decide))); replace BK355 := aM (blk_grown (bk_ BK355.out) hg (Kd.R_ne HO_6.out BK355.out (by decide))); replace HB := aM (hb); have HO362 := aM (ho); clear HO_6; clear ho hb hg hat)); try go_wp2_with (first | ((with_reducible refine gate_dst (N := 9) rfl ?_); refine bx_ 9 #[.int .i64 0, .int .i64 0] 48 ?_; intro gb355 hg w14 hbox hb; replace HO_6 := aM (Kd.R_below (rr_ HO_6.out) hb); have BK355 := aM (hbox); have GW355 := aM (bz_ w hg qz1); have GE355 := GW355; replace HB := bS_ hb; obtain ⟨NB353_355, NB355_353⟩ := nb_ hg (bk_ BK353.out); replace BK353 := bB_ BK353 hb; clear hb hbox hg; have hnb15 := NB355_353.out; have hnc15 := NB353_355.out; have hcz16_0 := bc0_ BK355.out; have hcz16_1 := bc1_ BK355.out; have hfz16_0 := blk_frozen BK355.out 0; have hfz16_1 := blk_frozen BK355.out 1; obtain ⟨hcz17_0, hcz17_1, hcz17_2, hfz17_0, hfz17_1, hfz17_2⟩ := b6_ BK353.out) | (go_at_call 67; (with_reducible refine (impl_stackAt.calls k1 a0_0 a0_1 _ _ l0_2 ((rd_T48 l1 x15_1).f0) t356 true _ ?side1 ?side2 A7.out).mono ?_); (case side1 => exact Kd.C_below HR0_2.out qz1); (case side2 => exact HC0_2.out); rintro e w18 ⟨rfl, hb⟩; replace HO_6 := aM (Kd.R_below (by (with_reducible repeat (first | apply Kd.R_alloc | apply Kd.R_drewN | apply Kd.R_drew)); exact (Kd.R_mono (Kd.R_far (p := ⟨gb355, 1, none⟩) (Kd.R_far (p := ⟨gb355, 0, none⟩) (Kd.R_types HO_6.out BK355.out (by decide)) (fun _ hk => hk.2) (.int .i64 ((rd_T48 l1 x15_1).f0))) (fun _ hk => hk.2) (.int .i64 ((rd_T48 l1 x15_1).f1))) (fun _ h_ => h_.1))) hb); replace BK353 := aM (blk_below (g := gb353) (o := .cells #[.int .i64 a0_0, .int .i64 a0_1, .slice A0_2 l0_2.length c0_2] 79 (0, 0)) (bk2_ BK353.out) hb); replace BK355 := aM (blk_below (g := gb355) (o := .cells #[.int .i64 ((rd_T48 l1 x15_1).f0), .int .i64 ((rd_T48 l1 x15_1).f1)] 48 (0, 0)) (by (with_reducible repeat (first | refine blk_drewN ?_ _ | refine blk_drew ?_ | refine blk_alloc ?_ _)); refine blk_put (cs := #[.int .i64 ((rd_T48 l1 x15_1).f0), .int .i64 0]) ?_ 1 _ rfl; (with_reducible repeat (first | refine blk_drewN ?_ _ | refine blk_drew ?_ | refine blk_alloc ?_ _)); refine blk_put (cs := #[.int .i64 0, .int .i64 0]) ?_ 0 _ rfl; exact bk_ BK355.out) hb); replace HB := bS_ hb; (try clear hb); (try clear hb2); (try clear hk); (try clear hi); have hcz19_0 := bc0_ BK355.out; have hcz19_1 := bc1_ BK355.out; have hfz19_0 := blk_frozen BK355.out 0; have hfz19_1 := blk_frozen BK355.out 1; obtain ⟨hcz20_0, hcz20_1, hcz20_2, hfz20_0, hfz20_1, hfz20_2⟩ := b6_ BK353.out; have p358 : 0 ≤ (t356 : Int) := dt_; have q358 : t356 < (l0_2.length : Int) := dt_; obtain ⟨ad358, e358, hx358_0, hx358_1, hx358_2⟩ := at_T72 HR0_2.out t356 p358 q358; cases e358; replace hx358_0 := cB_ hx358_0; replace hx358_1 := cB_ hx358_1; replace hx358_2 := cB_ hx358_2; replace p358 := eq_true p358; replace q358 := eq_true q358; have p359 : 0 ≤ (t356 : Int) := dt_; have q359 : t356 < (l0_2.length : Int) := dt_; obtain ⟨ad359, e359, hx359_0, hx359_1, hx359_2⟩ := at_T72 HR0_2.out t356 p359 q359; obtain rfl : ad358 = ad359 := (by injection e359); replace hx359_0 := cB_ hx359_0; replace hx359_1 := cB_ hx359_1; replace hx359_2 := cB_ hx359_2; replace p359 := eq_true p359; replace q359 := eq_true q359) | ((with_reducible refine gate_builtin (b := .append) (xs := #[.tmp 46, .tmp 53]) rfl ?_); at_builtin; refine Kd.R_append k50 (w0 := w) w.heap.size rfl (.tmp 46) (.tmp 53) 43 50 (.agg #[(.int .i64 0), (.int .i64 0), (.int .i64 0)]) 24 rfl Try.underlying43 info50 rfl (by decide) (by omega) u6 x6_1 (⟨a0_0, (rd_T48 l1 x15_1).f0, ji11⟩ : S50) [.int .i64 a0_0, .int .i64 ((rd_T48 l1 x15_1).f0), .int .i64 ji11] (fun _ => True) (fun _ => False) rfl rfl ?aP (fun _ hk => hk.elim) ?aF ?aO ?aB ?aS ?aL ?_; (case aP => exact k50_mkM _ _ _ (⟨a0_0, (rd_T48 l1 x15_1).f0, ji11⟩ : S50)); (case aB => exact qz1); (case aF => exact (fun _ _ => trivial)); (case aO => exact (rr_ HO_6.out)); (case aS => exact (below_size qz1)); (case aL => have := LMc13.out; omega); intro v361 w21 ho hb hg hat; rw [← Ny360.out] at ho; replace BK353 := aM (blk_grown (bk_ BK353.out) hg (Kd.R_ne HO_6.out BK353.out (by decide))); replace BK355 := aM (blk_grown (bk_ BK355.out) hg (Kd.R_ne HO_6.out BK355.out (by decide))); replace HB := aM (hb); have HO362 := aM (ho); clear HO_6; clear ho hb hg hat)))
   go_roundg k1
   case measure => have := HK1.out; omega
   case rel => exact ⟨(y360), (wrap64 (x7_1 + (ji11))), (wrap64 (x15_1 + 1)), (by first | rfl | (simp; done) | (simp only [← hji11] <;> (first | rfl | simp)) | (simp [*]; done)), qz5, H', ⟨by have := HK1.out; omega⟩, ⟨rm_ HO362.out⟩, ⟨bk_ BK353.out⟩, ⟨qz1⟩⟩
   }
   {
   exact an_ c13 H
   }
   }
   {
   rw [if_neg c12] at H
   have c12b0 := decide_eq_false c12
   clear c12
   have H' := aM H
   clear H
   have p354 : 0 ≤ (x15_1 : Int) := dt_
   have q354 : x15_1 < (l1.length : Int) := dt_
   obtain ⟨ad354, e354, hx354_0, hx354_1⟩ := at_T48 HR1.out x15_1 p354 q354
   cases e354
   replace hx354_0 := cB_ hx354_0
   replace hx354_1 := cB_ hx354_1
   replace p354 := eq_true p354
   replace q354 := eq_true q354
   go_wp2_with (first | ((with_reducible refine gate_dst (N := 9) rfl ?_); refine bx_ 9 #[.int .i64 0, .int .i64 0] 48 ?_; intro gb355 hg w22 hbox hb; replace HO_6 := aM (Kd.R_below (rr_ HO_6.out) hb); have BK355 := aM (hbox); have GW355 := aM (bz_ w hg qz1); have GE355 := GW355; replace HB := bS_ hb; obtain ⟨NB353_355, NB355_353⟩ := nb_ hg (bk_ BK353.out); replace BK353 := bB_ BK353 hb; clear hb hbox hg; have hnb23 := NB355_353.out; have hnc23 := NB353_355.out; have hcz24_0 := bc0_ BK355.out; have hcz24_1 := bc1_ BK355.out; have hfz24_0 := blk_frozen BK355.out 0; have hfz24_1 := blk_frozen BK355.out 1; obtain ⟨hcz25_0, hcz25_1, hcz25_2, hfz25_0, hfz25_1, hfz25_2⟩ := b6_ BK353.out) | (go_at_call 67; (with_reducible refine (impl_stackAt.calls k1 a0_0 a0_1 _ _ l0_2 ((rd_T48 l1 x15_1).f0) t356 true _ ?side1 ?side2 A7.out).mono ?_); (case side1 => exact Kd.C_below HR0_2.out qz1); (case side2 => exact HC0_2.out); rintro e w26 ⟨rfl, hb⟩; replace HO_6 := aM (Kd.R_below (by (with_reducible repeat (first | apply Kd.R_alloc | apply Kd.R_drewN | apply Kd.R_drew)); exact (Kd.R_mono (Kd.R_far (p := ⟨gb355, 1, none⟩) (Kd.R_far (p := ⟨gb355, 0, none⟩) (Kd.R_types HO_6.out BK355.out (by decide)) (fun _ hk => hk.2) (.int .i64 ((rd_T48 l1 x15_1).f0))) (fun _ hk => hk.2) (.int .i64 ((rd_T48 l1 x15_1).f1))) (fun _ h_ => h_.1))) hb); replace BK353 := aM (blk_below (g := gb353) (o := .cells #[.int .i64 a0_0, .int .i64 a0_1, .slice A0_2 l0_2.length c0_2] 79 (0, 0)) (bk2_ BK353.out) hb); replace BK355 := aM (blk_below (g := gb355) (o := .cells #[.int .i64 ((rd_T48 l1 x15_1).f0), .int .i64 ((rd_T48 l1 x15_1).f1)] 48 (0, 0)) (by (with_reducible repeat (first | refine blk_drewN ?_ _ | refine blk_drew ?_ | refine blk_alloc ?_ _)); refine blk_put (cs := #[.int .i64 ((rd_T48 l1 x15_1).f0), .int .i64 0]) ?_ 1 _ rfl; (with_reducible repeat (first | refine blk_drewN ?_ _ | refine blk_drew ?_ | refine blk_alloc ?_ _)); refine blk_put (cs := #[.int .i64 0, .int .i64 0]) ?_ 0 _ rfl; exact bk_ BK355.out) hb); replace HB := bS_ hb; (try clear hb); (try clear hb2); (try clear hk); (try clear hi); have hcz27_0 := bc0_ BK355.out; have hcz27_1 := bc1_ BK355.out; have hfz27_0 := blk_frozen BK355.out 0; have hfz27_1 := blk_frozen BK355.out 1; obtain ⟨hcz28_0, hcz28_1, hcz28_2, hfz28_0, hfz28_1, hfz28_2⟩ := b6_ BK353.out; have p358 : 0 ≤ (t356 : Int) := dt_; have q358 : t356 < (l0_2.length : Int) := dt_; obtain ⟨ad358, e358, hx358_0, hx358_1, hx358_2⟩ := at_T72 HR0_2.out t356 p358 q358; cases e358; replace hx358_0 := cB_ hx358_0; replace hx358_1 := cB_ hx358_1; replace hx358_2 := cB_ hx358_2; replace p358 := eq_true p358; replace q358 := eq_true q358; have p359 : 0 ≤ (t356 : Int) := dt_; have q359 : t356 < (l0_2.length : Int) := dt_; obtain ⟨ad359, e359, hx359_0, hx359_1, hx359_2⟩ := at_T72 HR0_2.out t356 p359 q359; obtain rfl : ad358 = ad359 := (by injection e359); replace hx359_0 := cB_ hx359_0; replace hx359_1 := cB_ hx359_1; replace hx359_2 := cB_ hx359_2; replace p359 := eq_true p359; replace q359 := eq_true q359))
   repeat (go_quiet (first | ((with_reducible refine gate_dst (N := 9) rfl ?_); refine bx_ 9 #[.int .i64 0, .int .i64 0] 48 ?_; intro gb355 hg w22 hbox hb; replace HO_6 := aM (Kd.R_below (rr_ HO_6.out) hb); have BK355 := aM (hbox); have GW355 := aM (bz_ w hg qz1); have GE355 := GW355; replace HB := bS_ hb; obtain ⟨NB353_355, NB355_353⟩ := nb_ hg (bk_ BK353.out); replace BK353 := bB_ BK353 hb; clear hb hbox hg; have hnb23 := NB355_353.out; have hnc23 := NB353_355.out; have hcz24_0 := bc0_ BK355.out; have hcz24_1 := bc1_ BK355.out; have hfz24_0 := blk_frozen BK355.out 0; have hfz24_1 := blk_frozen BK355.out 1; obtain ⟨hcz25_0, hcz25_1, hcz25_2, hfz25_0, hfz25_1, hfz25_2⟩ := b6_ BK353.out) | (go_at_call 67; (with_reducible refine (impl_stackAt.calls k1 a0_0 a0_1 _ _ l0_2 ((rd_T48 l1 x15_1).f0) t356 true _ ?side1 ?side2 A7.out).mono ?_); (case side1 => exact Kd.C_below HR0_2.out qz1); (case side2 => exact HC0_2.out); rintro e w26 ⟨rfl, hb⟩; replace HO_6 := aM (Kd.R_below (by (with_reducible repeat (first | apply Kd.R_alloc | apply Kd.R_drewN | apply Kd.R_drew)); exact (Kd.R_mono (Kd.R_far (p := ⟨gb355, 1, none⟩) (Kd.R_far (p := ⟨gb355, 0, none⟩) (Kd.R_types HO_6.out BK355.out (by decide)) (fun _ hk => hk.2) (.int .i64 ((rd_T48 l1 x15_1).f0))) (fun _ hk => hk.2) (.int .i64 ((rd_T48 l1 x15_1).f1))) (fun _ h_ => h_.1))) hb); replace BK353 := aM (blk_below (g := gb353) (o := .cells #[.int .i64 a0_0, .int .i64 a0_1, .slice A0_2 l0_2.length c0_2] 79 (0, 0)) (bk2_ BK353.out) hb); replace BK355 := aM (blk_below (g := gb355) (o := .cells #[.int .i64 ((rd_T48 l1 x15_1).f0), .int .i64 ((rd_T48 l1 x15_1).f1)] 48 (0, 0)) (by (with_reducible repeat (first | refine blk_drewN ?_ _ | refine blk_drew ?_ | refine blk_alloc ?_ _)); refine blk_put (cs := #[.int .i64 ((rd_T48 l1 x15_1).f0), .int .i64 0]) ?_ 1 _ rfl; (with_reducible repeat (first | refine blk_drewN ?_ _ | refine blk_drew ?_ | refine blk_alloc ?_ _)); refine blk_put (cs := #[.int .i64 0, .int .i64 0]) ?_ 0 _ rfl; exact bk_ BK355.out) hb); replace HB := bS_ hb; (try clear hb); (try clear hb2); (try clear hk); (try clear hi); have hcz27_0 := bc0_ BK355.out; have hcz27_1 := bc1_ BK355.out; have hfz27_0 := blk_frozen BK355.out 0; have hfz27_1 := blk_frozen BK355.out 1; obtain ⟨hcz28_0, hcz28_1, hcz28_2, hfz28_0, hfz28_1, hfz28_2⟩ := b6_ BK353.out; have p358 : 0 ≤ (t356 : Int) := dt_; have q358 : t356 < (l0_2.length : Int) := dt_; obtain ⟨ad358, e358, hx358_0, hx358_1, hx358_2⟩ := at_T72 HR0_2.out t356 p358 q358; cases e358; replace hx358_0 := cB_ hx358_0; replace hx358_1 := cB_ hx358_1; replace hx358_2 := cB_ hx358_2; replace p358 := eq_true p358; replace q358 := eq_true q358; have p359 : 0 ≤ (t356 : Int) := dt_; have q359 : t356 < (l0_2.length : Int) := dt_; obtain ⟨ad359, e359, hx359_0, hx359_1, hx359_2⟩ := at_T72 HR0_2.out t356 p359 q359; obtain rfl : ad358 = ad359 := (by injection e359); replace hx359_0 := cB_ hx359_0; replace hx359_1 := cB_ hx359_1; replace hx359_2 := cB_ hx359_2; replace p359 := eq_true p359; replace q359 := eq_true q359)); try go_wp2_with (first | ((with_reducible refine gate_dst (N := 9) rfl ?_); refine bx_ 9 #[.int .i64 0, .int .i64 0] 48 ?_; intro gb355 hg w22 hbox hb; replace HO_6 := aM (Kd.R_below (rr_ HO_6.out) hb); have BK355 := aM (hbox); have GW355 := aM (bz_ w hg qz1); have GE355 := GW355; replace HB := bS_ hb; obtain ⟨NB353_355, NB355_353⟩ := nb_ hg (bk_ BK353.out); replace BK353 := bB_ BK353 hb; clear hb hbox hg; have hnb23 := NB355_353.out; have hnc23 := NB353_355.out; have hcz24_0 := bc0_ BK355.out; have hcz24_1 := bc1_ BK355.out; have hfz24_0 := blk_frozen BK355.out 0; have hfz24_1 := blk_frozen BK355.out 1; obtain ⟨hcz25_0, hcz25_1, hcz25_2, hfz25_0, hfz25_1, hfz25_2⟩ := b6_ BK353.out) | (go_at_call 67; (with_reducible refine (impl_stackAt.calls k1 a0_0 a0_1 _ _ l0_2 ((rd_T48 l1 x15_1).f0) t356 true _ ?side1 ?side2 A7.out).mono ?_); (case side1 => exact Kd.C_below HR0_2.out qz1); (case side2 => exact HC0_2.out); rintro e w26 ⟨rfl, hb⟩; replace HO_6 := aM (Kd.R_below (by (with_reducible repeat (first | apply Kd.R_alloc | apply Kd.R_drewN | apply Kd.R_drew)); exact (Kd.R_mono (Kd.R_far (p := ⟨gb355, 1, none⟩) (Kd.R_far (p := ⟨gb355, 0, none⟩) (Kd.R_types HO_6.out BK355.out (by decide)) (fun _ hk => hk.2) (.int .i64 ((rd_T48 l1 x15_1).f0))) (fun _ hk => hk.2) (.int .i64 ((rd_T48 l1 x15_1).f1))) (fun _ h_ => h_.1))) hb); replace BK353 := aM (blk_below (g := gb353) (o := .cells #[.int .i64 a0_0, .int .i64 a0_1, .slice A0_2 l0_2.length c0_2] 79 (0, 0)) (bk2_ BK353.out) hb); replace BK355 := aM (blk_below (g := gb355) (o := .cells #[.int .i64 ((rd_T48 l1 x15_1).f0), .int .i64 ((rd_T48 l1 x15_1).f1)] 48 (0, 0)) (by (with_reducible repeat (first | refine blk_drewN ?_ _ | refine blk_drew ?_ | refine blk_alloc ?_ _)); refine blk_put (cs := #[.int .i64 ((rd_T48 l1 x15_1).f0), .int .i64 0]) ?_ 1 _ rfl; (with_reducible repeat (first | refine blk_drewN ?_ _ | refine blk_drew ?_ | refine blk_alloc ?_ _)); refine blk_put (cs := #[.int .i64 0, .int .i64 0]) ?_ 0 _ rfl; exact bk_ BK355.out) hb); replace HB := bS_ hb; (try clear hb); (try clear hb2); (try clear hk); (try clear hi); have hcz27_0 := bc0_ BK355.out; have hcz27_1 := bc1_ BK355.out; have hfz27_0 := blk_frozen BK355.out 0; have hfz27_1 := blk_frozen BK355.out 1; obtain ⟨hcz28_0, hcz28_1, hcz28_2, hfz28_0, hfz28_1, hfz28_2⟩ := b6_ BK353.out; have p358 : 0 ≤ (t356 : Int) := dt_; have q358 : t356 < (l0_2.length : Int) := dt_; obtain ⟨ad358, e358, hx358_0, hx358_1, hx358_2⟩ := at_T72 HR0_2.out t356 p358 q358; cases e358; replace hx358_0 := cB_ hx358_0; replace hx358_1 := cB_ hx358_1; replace hx358_2 := cB_ hx358_2; replace p358 := eq_true p358; replace q358 := eq_true q358; have p359 : 0 ≤ (t356 : Int) := dt_; have q359 : t356 < (l0_2.length : Int) := dt_; obtain ⟨ad359, e359, hx359_0, hx359_1, hx359_2⟩ := at_T72 HR0_2.out t356 p359 q359; obtain rfl : ad358 = ad359 := (by injection e359); replace hx359_0 := cB_ hx359_0; replace hx359_1 := cB_ hx359_1; replace hx359_2 := cB_ hx359_2; replace p359 := eq_true p359; replace q359 := eq_true q359)))
   go_roundg k1
   case measure => have := HK1.out; omega
   case rel => exact ⟨(x6_1), (x7_1), (wrap64 (x15_1 + 1)), qz5, qz5, H', ⟨by have := HK1.out; omega⟩, ⟨rm_ HO_6.out⟩, ⟨bk_ BK353.out⟩, ⟨qz1⟩⟩
   }
   }
   {
   exact an_ c10 H
   }
   }
   {
   exact an_ c9 H
   }
   }
   {
   replace c8 := Bool.eq_false_iff.mpr c8
   subst c8
   rw [if_neg (show ¬ (false = true) by decide)] at H
   have H' := aM H
   clear H
   have p354 : 0 ≤ (x15_1 : Int) := dt_
   have q354 : x15_1 < (l1.length : Int) := dt_
   obtain ⟨ad354, e354, hx354_0, hx354_1⟩ := at_T48 HR1.out x15_1 p354 q354
   cases e354
   replace hx354_0 := cB_ hx354_0
   replace hx354_1 := cB_ hx354_1
   replace p354 := eq_true p354
   replace q354 := eq_true q354
   go_wp2_with (first | ((with_reducible refine gate_dst (N := 9) rfl ?_); refine bx_ 9 #[.int .i64 0, .int .i64 0] 48 ?_; intro gb355 hg w29 hbox hb; replace HO_6 := aM (Kd.R_below (rr_ HO_6.out) hb); have BK355 := aM (hbox); have GW355 := aM (bz_ w hg qz1); have GE355 := GW355; replace HB := bS_ hb; obtain ⟨NB353_355, NB355_353⟩ := nb_ hg (bk_ BK353.out); replace BK353 := bB_ BK353 hb; clear hb hbox hg; have hnb30 := NB355_353.out; have hnc30 := NB353_355.out; have hcz31_0 := bc0_ BK355.out; have hcz31_1 := bc1_ BK355.out; have hfz31_0 := blk_frozen BK355.out 0; have hfz31_1 := blk_frozen BK355.out 1; obtain ⟨hcz32_0, hcz32_1, hcz32_2, hfz32_0, hfz32_1, hfz32_2⟩ := b6_ BK353.out) | (go_at_call 67; (with_reducible refine (impl_stackAt.calls k1 a0_0 a0_1 _ _ l0_2 ((rd_T48 l1 x15_1).f0) t356 false _ ?side1 ?side2 A7.out).mono ?_); (case side1 => exact Kd.C_below HR0_2.out qz1); (case side2 => exact HC0_2.out); rintro e w33 ⟨rfl, hb⟩; replace HO_6 := aM (Kd.R_below (by (with_reducible repeat (first | apply Kd.R_alloc | apply Kd.R_drewN | apply Kd.R_drew)); exact (Kd.R_mono (Kd.R_far (p := ⟨gb355, 1, none⟩) (Kd.R_far (p := ⟨gb355, 0, none⟩) (Kd.R_types HO_6.out BK355.out (by decide)) (fun _ hk => hk.2) (.int .i64 ((rd_T48 l1 x15_1).f0))) (fun _ hk => hk.2) (.int .i64 ((rd_T48 l1 x15_1).f1))) (fun _ h_ => h_.1))) hb); replace BK353 := aM (blk_below (g := gb353) (o := .cells #[.int .i64 a0_0, .int .i64 a0_1, .slice A0_2 l0_2.length c0_2] 79 (0, 0)) (bk2_ BK353.out) hb); replace BK355 := aM (blk_below (g := gb355) (o := .cells #[.int .i64 ((rd_T48 l1 x15_1).f0), .int .i64 ((rd_T48 l1 x15_1).f1)] 48 (0, 0)) (by (with_reducible repeat (first | refine blk_drewN ?_ _ | refine blk_drew ?_ | refine blk_alloc ?_ _)); refine blk_put (cs := #[.int .i64 ((rd_T48 l1 x15_1).f0), .int .i64 0]) ?_ 1 _ rfl; (with_reducible repeat (first | refine blk_drewN ?_ _ | refine blk_drew ?_ | refine blk_alloc ?_ _)); refine blk_put (cs := #[.int .i64 0, .int .i64 0]) ?_ 0 _ rfl; exact bk_ BK355.out) hb); replace HB := bS_ hb; (try clear hb); (try clear hb2); (try clear hk); (try clear hi)))
   repeat (go_quiet (first | ((with_reducible refine gate_dst (N := 9) rfl ?_); refine bx_ 9 #[.int .i64 0, .int .i64 0] 48 ?_; intro gb355 hg w29 hbox hb; replace HO_6 := aM (Kd.R_below (rr_ HO_6.out) hb); have BK355 := aM (hbox); have GW355 := aM (bz_ w hg qz1); have GE355 := GW355; replace HB := bS_ hb; obtain ⟨NB353_355, NB355_353⟩ := nb_ hg (bk_ BK353.out); replace BK353 := bB_ BK353 hb; clear hb hbox hg; have hnb30 := NB355_353.out; have hnc30 := NB353_355.out; have hcz31_0 := bc0_ BK355.out; have hcz31_1 := bc1_ BK355.out; have hfz31_0 := blk_frozen BK355.out 0; have hfz31_1 := blk_frozen BK355.out 1; obtain ⟨hcz32_0, hcz32_1, hcz32_2, hfz32_0, hfz32_1, hfz32_2⟩ := b6_ BK353.out) | (go_at_call 67; (with_reducible refine (impl_stackAt.calls k1 a0_0 a0_1 _ _ l0_2 ((rd_T48 l1 x15_1).f0) t356 false _ ?side1 ?side2 A7.out).mono ?_); (case side1 => exact Kd.C_below HR0_2.out qz1); (case side2 => exact HC0_2.out); rintro e w33 ⟨rfl, hb⟩; replace HO_6 := aM (Kd.R_below (by (with_reducible repeat (first | apply Kd.R_alloc | apply Kd.R_drewN | apply Kd.R_drew)); exact (Kd.R_mono (Kd.R_far (p := ⟨gb355, 1, none⟩) (Kd.R_far (p := ⟨gb355, 0, none⟩) (Kd.R_types HO_6.out BK355.out (by decide)) (fun _ hk => hk.2) (.int .i64 ((rd_T48 l1 x15_1).f0))) (fun _ hk => hk.2) (.int .i64 ((rd_T48 l1 x15_1).f1))) (fun _ h_ => h_.1))) hb); replace BK353 := aM (blk_below (g := gb353) (o := .cells #[.int .i64 a0_0, .int .i64 a0_1, .slice A0_2 l0_2.length c0_2] 79 (0, 0)) (bk2_ BK353.out) hb); replace BK355 := aM (blk_below (g := gb355) (o := .cells #[.int .i64 ((rd_T48 l1 x15_1).f0), .int .i64 ((rd_T48 l1 x15_1).f1)] 48 (0, 0)) (by (with_reducible repeat (first | refine blk_drewN ?_ _ | refine blk_drew ?_ | refine blk_alloc ?_ _)); refine blk_put (cs := #[.int .i64 ((rd_T48 l1 x15_1).f0), .int .i64 0]) ?_ 1 _ rfl; (with_reducible repeat (first | refine blk_drewN ?_ _ | refine blk_drew ?_ | refine blk_alloc ?_ _)); refine blk_put (cs := #[.int .i64 0, .int .i64 0]) ?_ 0 _ rfl; exact bk_ BK355.out) hb); replace HB := bS_ hb; (try clear hb); (try clear hb2); (try clear hk); (try clear hi))); try go_wp2_with (first | ((with_reducible refine gate_dst (N := 9) rfl ?_); refine bx_ 9 #[.int .i64 0, .int .i64 0] 48 ?_; intro gb355 hg w29 hbox hb; replace HO_6 := aM (Kd.R_below (rr_ HO_6.out) hb); have BK355 := aM (hbox); have GW355 := aM (bz_ w hg qz1); have GE355 := GW355; replace HB := bS_ hb; obtain ⟨NB353_355, NB355_353⟩ := nb_ hg (bk_ BK353.out); replace BK353 := bB_ BK353 hb; clear hb hbox hg; have hnb30 := NB355_353.out; have hnc30 := NB353_355.out; have hcz31_0 := bc0_ BK355.out; have hcz31_1 := bc1_ BK355.out; have hfz31_0 := blk_frozen BK355.out 0; have hfz31_1 := blk_frozen BK355.out 1; obtain ⟨hcz32_0, hcz32_1, hcz32_2, hfz32_0, hfz32_1, hfz32_2⟩ := b6_ BK353.out) | (go_at_call 67; (with_reducible refine (impl_stackAt.calls k1 a0_0 a0_1 _ _ l0_2 ((rd_T48 l1 x15_1).f0) t356 false _ ?side1 ?side2 A7.out).mono ?_); (case side1 => exact Kd.C_below HR0_2.out qz1); (case side2 => exact HC0_2.out); rintro e w33 ⟨rfl, hb⟩; replace HO_6 := aM (Kd.R_below (by (with_reducible repeat (first | apply Kd.R_alloc | apply Kd.R_drewN | apply Kd.R_drew)); exact (Kd.R_mono (Kd.R_far (p := ⟨gb355, 1, none⟩) (Kd.R_far (p := ⟨gb355, 0, none⟩) (Kd.R_types HO_6.out BK355.out (by decide)) (fun _ hk => hk.2) (.int .i64 ((rd_T48 l1 x15_1).f0))) (fun _ hk => hk.2) (.int .i64 ((rd_T48 l1 x15_1).f1))) (fun _ h_ => h_.1))) hb); replace BK353 := aM (blk_below (g := gb353) (o := .cells #[.int .i64 a0_0, .int .i64 a0_1, .slice A0_2 l0_2.length c0_2] 79 (0, 0)) (bk2_ BK353.out) hb); replace BK355 := aM (blk_below (g := gb355) (o := .cells #[.int .i64 ((rd_T48 l1 x15_1).f0), .int .i64 ((rd_T48 l1 x15_1).f1)] 48 (0, 0)) (by (with_reducible repeat (first | refine blk_drewN ?_ _ | refine blk_drew ?_ | refine blk_alloc ?_ _)); refine blk_put (cs := #[.int .i64 ((rd_T48 l1 x15_1).f0), .int .i64 0]) ?_ 1 _ rfl; (with_reducible repeat (first | refine blk_drewN ?_ _ | refine blk_drew ?_ | refine blk_alloc ?_ _)); refine blk_put (cs := #[.int .i64 0, .int .i64 0]) ?_ 0 _ rfl; exact bk_ BK355.out) hb); replace HB := bS_ hb; (try clear hb); (try clear hb2); (try clear hk); (try clear hi))))
   go_roundg k1
   case measure => have := HK1.out; omega
   case rel => exact ⟨(x6_1), (x7_1), (wrap64 (x15_1 + 1)), qz5, qz5, H', ⟨by have := HK1.out; omega⟩, ⟨rm_ HO_6.out⟩, ⟨bk_ BK353.out⟩, ⟨qz1⟩⟩
   }
   }
   {
   exact an_ c6 H
   }
   }
   {
   exact an_ c5 H
   }
   }
   {
   rw [if_neg c4] at H
   have c4b0 := decide_eq_false c4
   clear c4
   simp only [Option.some.injEq, Prod.mk.injEq] at H
   obtain ⟨rfl, rfl⟩ := H
   go_wp2
   repeat (go_quiet (fail); try go_wp2)
   go_ret2
   exact ⟨_, qzw, by (with_reducible repeat (first | apply Kd.R_alloc | apply Kd.R_drewN | apply Kd.R_drew)); exact HO_6.out, qz1⟩

   }
/-! ### impl_less: function 80 -/
mutual
def impl_less.l0 : Nat → List (S50) → List (S48) → List (S48) → Int → Int → Option ((List (S48)))
 | 0, _, _, _, _, _ => none
 | k + 1, x1, x5, x10, x11, x12 => if x12 < x11 then (if 0 ≤ x12 then (if x12 < (x10.length : Int) then (impl_less.l1 k x1 x5 x10 x11 x12 x1 (x1.length : Int) 0 ((rd_T48 x10 x12).f0) ((rd_T48 x10 x12).f1)) else (none)) else (none)) else (some x5)
def impl_less.l1 : Nat → List (S50) → List (S48) → List (S48) → Int → Int → List (S50) → Int → Int → Int → Int → Option ((List (S48)))
 | 0, _, _, _, _, _, _, _, _, _, _ => none
 | k + 1, x1, x5, x10, x11, x12, x16, x17, x18, x365000, x365001 => if x18 < x17 then (if 0 ≤ x18 then (if x18 < (x16.length : Int) then (if ((rd_T50 x16 x18).f1) = x365000 then (impl_less.l1 k x1 x5 x10 x11 x12 x16 x17 (wrap64 (x18 + 1)) x365000 (wrap64 (x365001 - ((rd_T50 x16 x18).f2)))) else (impl_less.l1 k x1 x5 x10 x11 x12 x16 x17 (wrap64 (x18 + 1)) x365000 x365001)) else (none)) else (none)) else (if x365001 > 0 then (if x5.length < 8796093022208 then (impl_less.l0 k x1 (x5 ++ [(⟨x365000, x365001⟩ : S48)]) x10 x11 (wrap64 (x12 + 1))) else (none)) else (impl_less.l0 k x1 x5 x10 x11 (wrap64 (x12 + 1))))
end
def impl_less.f (k : Nat) (l0 : List (S48)) (l1 : List (S50)) : Option ((List (S48))) := impl_less.l0 k l1 ([] : List (S48)) l0 (l0.length : Int) 0
theorem impl_less.mono_l : ∀ k, (∀ y0 y1 y2 y3 y4, LeO (impl_less.l0 k y0 y1 y2 y3 y4) (impl_less.l0 (k + 1) y0 y1 y2 y3 y4)) ∧ (∀ y0 y1 y2 y3 y4 y5 y6 y7 y8 y9, LeO (impl_less.l1 k y0 y1 y2 y3 y4 y5 y6 y7 y8 y9) (impl_less.l1 (k + 1) y0 y1 y2 y3 y4 y5 y6 y7 y8 y9))
 | 0 => ⟨fun _ _ _ _ _ r h => by simp [impl_less.l0] at h, fun _ _ _ _ _ _ _ _ _ _ r h => by simp [impl_less.l1] at h⟩
 | k + 1 => by
  obtain ⟨ih0, ih1⟩ := impl_less.mono_l k
  refine ⟨?_, ?_⟩
  {
  intro y0 y1 y2 y3 y4
  unfold impl_less.l0
  exact qL
  }
  {
  intro y0 y1 y2 y3 y4 y5 y6 y7 y8 y9
  unfold impl_less.l1
  exact qL
  }
theorem impl_less.mono : ∀ a0 a1 k, LeO (impl_less.f k a0 a1) (impl_less.f (k + 1) a0 a1) := by
 intro a0 a1 k
 obtain ⟨ih0, ih1⟩ := impl_less.mono_l k
 unfold impl_less.f
 exact qL
set_option maxHeartbeats 8000000 in
set_option maxRecDepth 100000 in
theorem impl_less.calls (k : Nat) (A0 : Option Addr) (c0 : Nat) (l0 : List (S48)) (A1 : Option Addr) (c1 : Nat) (l1 : List (S50)) (r : List (S48)) (w : World) (hr0 : Kd.C k48 w A0 l0.length l0) (hc0 : l0.length ≤ c0) (hr1 : Kd.C k50 w A1 l1.length l1) (hc1 : l1.length ≤ c1) (h : impl_less.f k l0 l1 = some r) :
  Calls Try.prog 80 #[.slice A0 l0.length c0, .slice A1 l1.length c1] w fun e w' => ∃ v0_ : Value, e = .returned (v0_) ∧ Kd.R k48 48 w' w.heap.size (fun _ => True) v0_ r ∧ Below w.heap.size w w' := by
 have hu48 := Try.underlying48
 have hu50 := Try.underlying50
 have HR0 := aM hr0
 have HC0 := aM hc0
 clear hr0 hc0
 have HR1 := aM hr1
 have HC1 := aM hc1
 clear hr1 hc1
 have HB := aM (Below.refl w.heap.size w)
 have H : (impl_less.l0 k l1 ([] : List (S48)) l0 (l0.length : Int) 0) = some r := h
 clear h
 have H' := aM H
 clear H
 go_enter Try.func80, Try.ntmps80
 go_wp2
 go_loopg [5, 12] k (fun kq v5 v12 w' => ∃ (x5_1 : List (S48)) (x12_1 : Int), v12 = .int .i64 x12_1 ∧ Aside0 (impl_less.l0 kq l1 x5_1 l0 (l0.length : Int) x12_1 = some r) ∧ Aside0 (kq ≤ k) ∧ Aside0 (Kd.R k48 48 w' w.heap.size (fun _ => True) v5 x5_1) ∧ Aside0 (Below w.heap.size w w'))
 case atStart => exact ⟨(([] : List (S48))), (0), qz5, H', ⟨Nat.le_refl _⟩, ⟨by first | exact Kd.R_nil _ _ _ _ _ | exact Kd.N_nil _ _ _ _ _ | exact Kd.V_nil _ _ _ _ _ | exact Kd.Q_nil _ _ _ _ _ | exact Kd.S_nil _ _ _ _ _⟩, ⟨qz1⟩⟩
 case round =>
  clear H'
  try clear c1
  try clear p2
  obtain ⟨x5_1, x12_1, rfl, HA, HK1, HO_5, HB⟩ := hrel
  cases gk with
  | zero => exact absurd HA.out (by simp [impl_less.l0])
  | succ k1 =>
   have H := HA.out
   clear HA
   simp only [impl_less.l0] at H
   by_cases c3 : x12_1 < (l0.length : Int)
   {
   rw [if_pos c3] at H
   have c3b0 := decide_eq_true c3
   clear c3
   by_cases c4 : 0 ≤ x12_1
   {
   rw [if_pos c4] at H
   have c4b0 := decide_eq_true c4
   clear c4
   by_cases c5 : x12_1 < (l0.length : Int)
   {
   rw [if_pos c5] at H
   have c5b0 := decide_eq_true c5
   clear c5
   have H' := aM H
   clear H
   have p363 : 0 ≤ (x12_1 : Int) := dt_
   have q363 : x12_1 < (l0.length : Int) := dt_
   obtain ⟨ad363, e363, hx363_0, hx363_1⟩ := at_T48 HR0.out x12_1 p363 q363
   cases e363
   replace hx363_0 := cB_ hx363_0
   replace hx363_1 := cB_ hx363_1
   replace p363 := eq_true p363
   replace q363 := eq_true q363
   go_wp2_with (first | ((with_reducible refine gate_dst (N := 7) rfl ?_); refine bx_ 7 #[.int .i64 0, .int .i64 0] 48 ?_; intro gb364 hg w6 hbox hb; replace HO_5 := aM (Kd.R_below (Kd.R_elderB (rr_ HO_5.out) gb364 (Nat.le_of_eq hg.symm)) hb); have BK364 := aM (hbox); have GW364 := aM (bz_ w hg qz1); have GE364 := GW364; replace HB := bS_ hb; clear hb hbox hg; have hcz7_0 := bc0_ BK364.out; have hcz7_1 := bc1_ BK364.out; have hfz7_0 := blk_frozen BK364.out 0; have hfz7_1 := blk_frozen BK364.out 1))
   go_loopg [18] k1 (fun kq v18 w' => ∃ (x18_2 : Int) (x365001_2 : Int), v18 = .int .i64 x18_2 ∧ Aside0 (impl_less.l1 kq l1 x5_1 l0 (l0.length : Int) x12_1 l1 (l1.length : Int) x18_2 ((rd_T48 l0 x12_1).f0) x365001_2 = some r) ∧ Aside0 (kq ≤ k1) ∧ Aside0 (Kd.R k48 48 w' w.heap.size (fun k_ => k_ ≠ gb364) u5 x5_1) ∧ Aside0 (w'.heap[gb364]? = some (.cells #[.int .i64 ((rd_T48 l0 x12_1).f0), .int .i64 x365001_2] 48 (0, 0))) ∧ Aside0 (Below w.heap.size w w'))
   case atStart => exact ⟨(0), ((rd_T48 l0 x12_1).f1), qz5, H', ⟨Nat.le_refl _⟩, ⟨by (with_reducible repeat (first | apply Kd.R_alloc | apply Kd.R_drewN | apply Kd.R_drew)); exact Kd.R_mono (Kd.R_far (p := ⟨gb364, 1, none⟩) (Kd.R_far (p := ⟨gb364, 0, none⟩) (Kd.R_mono HO_5.out (fun k_ hk => (⟨hk, hk.2⟩ : _ ∧ k_ ≠ gb364))) (fun _ hk => hk.2) (.int .i64 ((rd_T48 l0 x12_1).f0))) (fun _ hk => hk.2) (.int .i64 ((rd_T48 l0 x12_1).f1))) (fun _ hk => hk.1.2)⟩, ⟨by (with_reducible repeat (first | refine blk_drewN ?_ _ | refine blk_drew ?_ | refine blk_alloc ?_ _)); refine blk_put (cs := #[.int .i64 ((rd_T48 l0 x12_1).f0), .int .i64 0]) ?_ 1 _ rfl; (with_reducible repeat (first | refine blk_drewN ?_ _ | refine blk_drew ?_ | refine blk_alloc ?_ _)); refine blk_put (cs := #[.int .i64 0, .int .i64 0]) ?_ 0 _ rfl; exact bk_ BK364.out⟩, ⟨qz1⟩⟩
   case round =>
    clear H'
    try clear c1
    try clear p2
    try clear c3
    try clear c3b0
    try clear p3
    try clear q3
    try clear hx3
    try clear c4
    try clear c4b0
    try clear c5
    try clear c5b0
    try clear hcz7_0
    try clear hcz7_1
    try clear hfz7_0
    try clear hfz7_1
    try clear hx363_0
    try clear hx363_1
    try clear p2
    try clear p363
    try clear q363
    obtain ⟨x18_2, x365001_2, rfl, HA, HK2, HO_5, BK364, HB⟩ := hrel
    cases gk with
    | zero => exact absurd HA.out (by simp [impl_less.l1])
    | succ k2 =>
     have H := HA.out
     clear HA
     simp only [impl_less.l1] at H
     by_cases c8 : x18_2 < (l1.length : Int)
     {
     rw [if_pos c8] at H
     have c8b0 := decide_eq_true c8
     clear c8
     by_cases c9 : 0 ≤ x18_2
     {
     rw [if_pos c9] at H
     have c9b0 := decide_eq_true c9
     clear c9
     by_cases c10 : x18_2 < (l1.length : Int)
     {
     rw [if_pos c10] at H
     have c10b0 := decide_eq_true c10
     clear c10
     by_cases c11 : ((rd_T50 l1 x18_2).f1) = ((rd_T48 l0 x12_1).f0)
     {
     rw [if_pos c11] at H
     have c11b0 := beq_iff_eq.mpr c11
     have c11b1 := bne_eq_false_iff_eq.mpr c11
     clear c11
     have H' := aM H
     clear H
     have p365 : 0 ≤ (x18_2 : Int) := dt_
     have q365 : x18_2 < (l1.length : Int) := dt_
     obtain ⟨ad365, e365, hx365_0, hx365_1, hx365_2⟩ := at_T50 HR1.out x18_2 p365 q365
     cases e365
     replace hx365_0 := cB_ hx365_0
     replace hx365_1 := cB_ hx365_1
     replace hx365_2 := cB_ hx365_2
     replace p365 := eq_true p365
     replace q365 := eq_true q365
     go_wp2_with (first | ((with_reducible refine gate_dst (N := 9) rfl ?_); refine bx_ 9 #[.int .i64 0, .int .i64 0, .int .i64 0] 50 ?_; intro gb366 hg w12 hbox hb; replace HO_5 := aM (Kd.R_below (rr_ HO_5.out) hb); have BK366 := aM (hbox); have GW366 := aM (bz_ w hg qz1); have GE366 := GW366; replace HB := bS_ hb; obtain ⟨NB364_366, NB366_364⟩ := nb_ hg (bk_ BK364.out); replace BK364 := bB_ BK364 hb; clear hb hbox hg; have hnb13 := NB366_364.out; have hnc13 := NB364_366.out; obtain ⟨hcz14_0, hcz14_1, hcz14_2, hfz14_0, hfz14_1, hfz14_2⟩ := b6_ BK366.out; have hcz15_0 := bc0_ BK364.out; have hcz15_1 := bc1_ BK364.out; have hfz15_0 := blk_frozen BK364.out 0; have hfz15_1 := blk_frozen BK364.out 1))
     go_roundg k2
     case measure => have := HK1.out; have := HK2.out; omega
     case rel => exact ⟨(wrap64 (x18_2 + 1)), (wrap64 (x365001_2 - ((rd_T50 l1 x18_2).f2))), qz5, H', ⟨by have := HK1.out; have := HK2.out; omega⟩, ⟨by (with_reducible repeat (first | apply Kd.R_alloc | apply Kd.R_drewN | apply Kd.R_drew)); exact Kd.R_mono (Kd.R_far (p := ⟨gb364, 1, none⟩) (Kd.R_far (p := ⟨gb366, 2, none⟩) (Kd.R_far (p := ⟨gb366, 1, none⟩) (Kd.R_far (p := ⟨gb366, 0, none⟩) (Kd.R_mono (Kd.R_types HO_5.out BK366.out (by decide)) (fun k_ hk => (⟨hk, hk.1⟩ : _ ∧ k_ ≠ gb364))) (fun _ hk => hk.1.2) (.int .i64 ((rd_T50 l1 x18_2).f0))) (fun _ hk => hk.1.2) (.int .i64 ((rd_T50 l1 x18_2).f1))) (fun _ hk => hk.1.2) (.int .i64 ((rd_T50 l1 x18_2).f2))) (fun _ hk => hk.2) (.int .i64 (wrap64 (x365001_2 - ((rd_T50 l1 x18_2).f2))))) (fun _ hk => hk.1.1)⟩, ⟨by (with_reducible repeat (first | refine blk_drewN ?_ _ | refine blk_drew ?_ | refine blk_alloc ?_ _)); refine blk_put (cs := #[.int .i64 ((rd_T48 l0 x12_1).f0), .int .i64 x365001_2]) ?_ 1 _ rfl; (with_reducible repeat (first | refine blk_drewN ?_ _ | refine blk_drew ?_ | refine blk_alloc ?_ _)); refine blk_far ?_ NB364_366.out _; (with_reducible repeat (first | refine blk_drewN ?_ _ | refine blk_drew ?_ | refine blk_alloc ?_ _)); refine blk_far ?_ NB364_366.out _; (with_reducible repeat (first | refine blk_drewN ?_ _ | refine blk_drew ?_ | refine blk_alloc ?_ _)); refine blk_far ?_ NB364_366.out _; exact bk_ BK364.out⟩, ⟨qz1⟩⟩
     }
     {
     rw [if_neg c11] at H
     have c11b0 := beq_eq_false_iff_ne.mpr c11
     have c11b1 := bne_iff_ne.mpr c11
     have H' := aM H
     clear H
     have p365 : 0 ≤ (x18_2 : Int) := dt_
     have q365 : x18_2 < (l1.length : Int) := dt_
     obtain ⟨ad365, e365, hx365_0, hx365_1, hx365_2⟩ := at_T50 HR1.out x18_2 p365 q365
     cases e365
     replace hx365_0 := cB_ hx365_0
     replace hx365_1 := cB_ hx365_1
     replace hx365_2 := cB_ hx365_2
     replace p365 := eq_true p365
     replace q365 := eq_true q365
     go_wp2_with (first | ((with_reducible refine gate_dst (N := 9) rfl ?_); refine bx_ 9 #[.int .i64 0, .int .i64 0, .int .i64 0] 50 ?_; intro gb366 hg w16 hbox hb; replace HO_5 := aM (Kd.R_below (rr_ HO_5.out) hb); have BK366 := aM (hbox); have GW366 := aM (bz_ w hg qz1); have GE366 := GW366; replace HB := bS_ hb; obtain ⟨NB364_366, NB366_364⟩ := nb_ hg (bk_ BK364.out); replace BK364 := bB_ BK364 hb; clear hb hbox hg; have hnb17 := NB366_364.out; have hnc17 := NB364_366.out; obtain ⟨hcz18_0, hcz18_1, hcz18_2, hfz18_0, hfz18_1, hfz18_2⟩ := b6_ BK366.out; have hcz19_0 := bc0_ BK364.out; have hcz19_1 := bc1_ BK364.out; have hfz19_0 := blk_frozen BK364.out 0; have hfz19_1 := blk_frozen BK364.out 1))
     go_roundg k2
     case measure => have := HK1.out; have := HK2.out; omega
     case rel => exact ⟨(wrap64 (x18_2 + 1)), (x365001_2), qz5, H', ⟨by have := HK1.out; have := HK2.out; omega⟩, ⟨by (with_reducible repeat (first | apply Kd.R_alloc | apply Kd.R_drewN | apply Kd.R_drew)); exact Kd.R_mono (Kd.R_far (p := ⟨gb366, 2, none⟩) (Kd.R_far (p := ⟨gb366, 1, none⟩) (Kd.R_far (p := ⟨gb366, 0, none⟩) (Kd.R_types HO_5.out BK366.out (by decide)) (fun _ hk => hk.2) (.int .i64 ((rd_T50 l1 x18_2).f0))) (fun _ hk => hk.2) (.int .i64 ((rd_T50 l1 x18_2).f1))) (fun _ hk => hk.2) (.int .i64 ((rd_T50 l1 x18_2).f2))) (fun _ hk => hk.1)⟩, ⟨by (with_reducible repeat (first | refine blk_drewN ?_ _ | refine blk_drew ?_ | refine blk_alloc ?_ _)); refine blk_far ?_ NB364_366.out _; (with_reducible repeat (first | refine blk_drewN ?_ _ | refine blk_drew ?_ | refine blk_alloc ?_ _)); refine blk_far ?_ NB364_366.out _; (with_reducible repeat (first | refine blk_drewN ?_ _ | refine blk_drew ?_ | refine blk_alloc ?_ _)); refine blk_far ?_ NB364_366.out _; exact bk_ BK364.out⟩, ⟨qz1⟩⟩
     }
     }
     {
     exact an_ c10 H
     }
     }
     {
     exact an_ c9 H
     }
     }
     {
     rw [if_neg c8] at H
     have c8b0 := decide_eq_false c8
     clear c8
     by_cases c20 : x365001_2 > 0
     {
     rw [if_pos c20] at H
     have c20b0 := decide_eq_true c20
     clear c20
     by_cases c21 : x5_1.length < 8796093022208
     {
     rw [if_pos c21] at H
     have LMc21 := aM c21
     clear c21
     obtain ⟨y367, hy367⟩ : ∃ y_ : List (S48), y_ = (x5_1 ++ [(⟨((rd_T48 l0 x12_1).f0), x365001_2⟩ : S48)]) := ⟨_, rfl⟩
     replace H : (impl_less.l0 k2 l1 y367 l0 (l0.length : Int) (wrap64 (x12_1 + 1))) = some r := by first | (rw [hy367]; with_reducible exact H) | (have H2_ := (Option.bind_some _ _).symm.trans H; rw [hy367]; with_reducible exact H2_) | (have H2_ := (Option.bind_some _ _).symm.trans H; with_reducible exact H2_) | with_reducible exact H | (rw [hy367]; exact H) | exact H
     have Ny367 := aM hy367
     clear hy367
     have H' := aM H
     clear H
     have hcz22_0 := bc0_ BK364.out
     have hcz22_1 := bc1_ BK364.out
     have hfz22_0 := blk_frozen BK364.out 0
     have hfz22_1 := blk_frozen BK364.out 1
     go_wp2_with (first | ((with_reducible refine gate_builtin (b := .append) (xs := #[.tmp 37, .tmp 39]) rfl ?_); at_builtin; refine Kd.R_append k48 (w0 := w) w.heap.size rfl (.tmp 37) (.tmp 39) 40 48 (.agg #[(.int .i64 0), (.int .i64 0)]) 16 rfl Try.underlying40 info48 rfl (by decide) (by omega) u5 x5_1 (⟨((rd_T48 l0 x12_1).f0), x365001_2⟩ : S48) [.int .i64 ((rd_T48 l0 x12_1).f0), .int .i64 x365001_2] (fun k_ => k_ ≠ gb364) (fun _ => False) rfl rfl ?aP (fun _ hk => hk.elim) ?aF ?aO ?aB ?aS ?aL ?_; (case aP => exact k48_mkM _ _ _ (⟨((rd_T48 l0 x12_1).f0), x365001_2⟩ : S48)); (case aB => exact qz1); (case aF => exact (fun k_ hk => Kd.freshB (bk_ BK364.out) k_ hk)); (case aO => exact (rr_ HO_5.out)); (case aS => exact (below_size qz1)); (case aL => have := LMc21.out; omega); intro v368 w23 ho hb hg hat; rw [← Ny367.out] at ho; replace BK364 := aM (blk_grown (bk_ BK364.out) hg (Kd.R_away HO_5.out (fun _ hk => hk))); replace HB := aM (hb); have HO369 := aM (ho); clear HO_5; clear ho hb hg hat))
     go_roundg k2
     case measure => have := HK1.out; have := HK2.out; omega
     case rel => exact ⟨(y367), (wrap64 (x12_1 + 1)), qz5, H', ⟨by have := HK1.out; have := HK2.out; omega⟩, ⟨by (with_reducible repeat (first | apply Kd.R_alloc | apply Kd.R_drewN | apply Kd.R_drew)); exact Kd.R_mono HO369.out (fun _ hk => trivial)⟩, ⟨qz1⟩⟩
     }
     {
     exact an_ c21 H
     }
     }
     {
     rw [if_neg c20] at H
     have c20b0 := decide_eq_false c20
     clear c20
     have H' := aM H
     clear H
     have hcz24_0 := bc0_ BK364.out
     have hcz24_1 := bc1_ BK364.out
     have hfz24_0 := blk_frozen BK364.out 0
     have hfz24_1 := blk_frozen BK364.out 1
     go_wp2
     go_roundg k2
     case measure => have := HK1.out; have := HK2.out; omega
     case rel => exact ⟨(x5_1), (wrap64 (x12_1 + 1)), qz5, H', ⟨by have := HK1.out; have := HK2.out; omega⟩, ⟨by (with_reducible repeat (first | apply Kd.R_alloc | apply Kd.R_drewN | apply Kd.R_drew)); exact Kd.R_mono HO_5.out (fun _ hk => trivial)⟩, ⟨qz1⟩⟩
     }
     }
   }
   {
   exact an_ c5 H
   }
   }
   {
   exact an_ c4 H
   }
   }
   {
   rw [if_neg c3] at H
   have c3b0 := decide_eq_false c3
   clear c3
   obtain rfl := Option.some.inj H
   simp only [Option.some.injEq, Prod.mk.injEq] at H
   obtain ⟨rfl⟩ := H
   go_wp2
   go_ret
   exact ⟨_, qzw, by (with_reducible repeat (first | apply Kd.R_alloc | apply Kd.R_drewN | apply Kd.R_drew)); exact HO_5.out, qz1⟩

   }
end Go.Proofs.Yteajnkondkfmgaa.PFnPicks
