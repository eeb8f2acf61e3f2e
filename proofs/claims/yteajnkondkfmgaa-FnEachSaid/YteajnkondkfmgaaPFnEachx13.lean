-- Made by a program of this session out of the translation. Lean checks it.
import Derived.Test.YteajnkondkfmgaaPFnEachx9
import Derived.Test.YteajnkondkfmgaaPFnEachx10
import Derived.Test.YteajnkondkfmgaaPFnEachx12
namespace Go.Proofs.Yteajnkondkfmgaa.PFnEach
open Go.RowKit Go.Proofs.YteajnkondkfmgaaW.PrintWords Go.Proofs.YteajnkondkfmgaaW.PrintLast Go.Proofs.YteajnkondkfmgaaW.PrintMore
attribute [local go_sem] max2_int min2_int max_two min_two max_three min_three max_four min_four   -- for this text's walks alone
set_option linter.unusedVariables false
set_option linter.unusedSimpArgs false

/-! ### spec_Picks: function 54 -/
mutual
def spec_Picks.j0 : Nat → List (S48) → List (S50) → Bool → List (S79) → Option ((List (S50)) × Bool)
 | 0, _, _, _, _ => none
 | k + 1, x1, x6, x29, x214000 => if x29 = true then (some (x6, false)) else ((some (([] : List (S48)) : List (S48))).bind fun y219 => (if y219.length + x1.length < 8796093022208 then (if 0 ≤ (x214000.length : Int) then (if ((x214000.length : Int) : Int).toNat ≤ 281474976710656 then (spec_Picks.l0 k x6 (y219 ++ x1) (List.replicate ((x214000.length : Int) : Int).toNat false) (([] : List (S50))) x214000) else (none)) else (none)) else (none)))
def spec_Picks.l0 : Nat → List (S50) → List (S48) → List Bool → List (S50) → List (S79) → Option ((List (S50)) × Bool)
 | 0, _, _, _, _, _ => none
 | k + 1, x6, x7, x8, x9, x214000 => spec_Picks.l1 k x6 x7 x8 x9 0 0 x214000
def spec_Picks.l1 : Nat → List (S50) → List (S48) → List Bool → List (S50) → Int → Int → List (S79) → Option ((List (S50)) × Bool)
 | 0, _, _, _, _, _, _, _ => none
 | k + 1, x6, x7, x8, x9, x10, x11, x214000 => if x11 < (x7.length : Int) then (if 0 ≤ x11 then (spec_Picks.l1 k x6 x7 x8 x9 (wrap64 (x10 + ((rd_T48 x7 x11).f1))) (wrap64 (x11 + 1)) x214000) else (none)) else (if x10 = 0 then (some (x9, true)) else (spec_Picks.l2 k x6 x7 x8 x9 (-1) 0 0 x214000))
def spec_Picks.l2 : Nat → List (S50) → List (S48) → List Bool → List (S50) → Int → Int → Int → List (S79) → Option ((List (S50)) × Bool)
 | 0, _, _, _, _, _, _, _, _ => none
 | k + 1, x6, x7, x8, x9, x12, x13, x14, x214000 => if x14 < (x214000.length : Int) then (if 0 ≤ x14 then ((spec_l6Could.f k ((rd_T79 x214000 x14).f0) ((rd_T79 x214000 x14).f1) ((rd_T79 x214000 x14).f2) x7).bind fun bt233 => (if x14 < (x8.length : Int) then (if rdOf false x8 x14 = true then (spec_Picks.l2 k x6 x7 x8 x9 x12 x13 (wrap64 (x14 + 1)) x214000) else (if bt233.2 > x13 then (spec_Picks.l2 k x6 x7 x8 x9 x14 bt233.2 (wrap64 (x14 + 1)) x214000) else (spec_Picks.l2 k x6 x7 x8 x9 x12 x13 (wrap64 (x14 + 1)) x214000))) else (none))) else (none)) else (if x12 < 0 then (some (x6, false)) else (if 0 ≤ x12 then (if x12 < (x8.length : Int) then (if x12 < (x214000.length : Int) then ((spec_l6Could.f k ((rd_T79 x214000 x12).f0) ((rd_T79 x214000 x12).f1) ((rd_T79 x214000 x12).f2) x7).bind fun bt240 => (if x9.length + bt240.1.length < 5864062014805 then (spec_Picks.l3 k x6 x7 (x8.set (x12 : Int).toNat true) (x9 ++ bt240.1) bt240.1 0 x214000) else (none))) else (none)) else (none)) else (none)))
def spec_Picks.l3 : Nat → List (S50) → List (S48) → List Bool → List (S50) → List (S50) → Int → List (S79) → Option ((List (S50)) × Bool)
 | 0, _, _, _, _, _, _, _ => none
 | k + 1, x6, x7, x8, x9, x17, x19, x214000 => if x19 < (x17.length : Int) then (spec_Picks.l4 k x6 x7 x8 x9 x17 x19 0 x214000) else (spec_Picks.l0 k x6 x7 x8 x9 x214000)
def spec_Picks.l4 : Nat → List (S50) → List (S48) → List Bool → List (S50) → List (S50) → Int → Int → List (S79) → Option ((List (S50)) × Bool)
 | 0, _, _, _, _, _, _, _, _ => none
 | k + 1, x6, x7, x8, x9, x17, x19, x20, x214000 => if x20 < (x7.length : Int) then (if 0 ≤ x20 then (if 0 ≤ x19 then (if x19 < (x17.length : Int) then (if ((rd_T48 x7 x20).f0) = ((rd_T50 x17 x19).f1) then (spec_Picks.l4 k x6 (x7.set (x20 : Int).toNat (⟨(rd_T48 x7 x20).f0, wrap64 (((rd_T48 x7 x20).f1) - ((rd_T50 x17 x19).f2))⟩ : S48)) x8 x9 x17 x19 (wrap64 (x20 + 1)) x214000) else (spec_Picks.l4 k x6 x7 x8 x9 x17 x19 (wrap64 (x20 + 1)) x214000)) else (none)) else (none)) else (none)) else (spec_Picks.l3 k x6 x7 x8 x9 x17 (wrap64 (x19 + 1)) x214000)
end
def spec_Picks.f (k : Nat) (l0_0 : List (S79)) (l1 : List (S48)) : Option ((List (S50)) × Bool) := (some (([] : List (S50)) : List (S50))).bind fun y214 => ((spec_StockOk.f k l0_0).bind fun t217 => (if t217 = true then ((spec_ItemsOk.f k l1).bind fun t218 => (spec_Picks.j0 k l1 y214 (!t218) l0_0)) else (spec_Picks.j0 k l1 y214 true l0_0)))
theorem spec_Picks.mono_l : ∀ k, (∀ y0 y1 y2 y3, LeO (spec_Picks.j0 k y0 y1 y2 y3) (spec_Picks.j0 (k + 1) y0 y1 y2 y3)) ∧ (∀ y0 y1 y2 y3 y4, LeO (spec_Picks.l0 k y0 y1 y2 y3 y4) (spec_Picks.l0 (k + 1) y0 y1 y2 y3 y4)) ∧ (∀ y0 y1 y2 y3 y4 y5 y6, LeO (spec_Picks.l1 k y0 y1 y2 y3 y4 y5 y6) (spec_Picks.l1 (k + 1) y0 y1 y2 y3 y4 y5 y6)) ∧ (∀ y0 y1 y2 y3 y4 y5 y6 y7, LeO (spec_Picks.l2 k y0 y1 y2 y3 y4 y5 y6 y7) (spec_Picks.l2 (k + 1) y0 y1 y2 y3 y4 y5 y6 y7)) ∧ (∀ y0 y1 y2 y3 y4 y5 y6, LeO (spec_Picks.l3 k y0 y1 y2 y3 y4 y5 y6) (spec_Picks.l3 (k + 1) y0 y1 y2 y3 y4 y5 y6)) ∧ (∀ y0 y1 y2 y3 y4 y5 y6 y7, LeO (spec_Picks.l4 k y0 y1 y2 y3 y4 y5 y6 y7) (spec_Picks.l4 (k + 1) y0 y1 y2 y3 y4 y5 y6 y7))
 | 0 => ⟨fun _ _ _ _ r h => by simp [spec_Picks.j0] at h, fun _ _ _ _ _ r h => by simp [spec_Picks.l0] at h, fun _ _ _ _ _ _ _ r h => by simp [spec_Picks.l1] at h, fun _ _ _ _ _ _ _ _ r h => by simp [spec_Picks.l2] at h, fun _ _ _ _ _ _ _ r h => by simp [spec_Picks.l3] at h, fun _ _ _ _ _ _ _ _ r h => by simp [spec_Picks.l4] at h⟩
 | k + 1 => by
  obtain ⟨ih0, ih1, ih2, ih3, ih4, ih5⟩ := spec_Picks.mono_l k
  refine ⟨?_, ?_, ?_, ?_, ?_, ?_⟩
  {
  intro y0 y1 y2 y3
  unfold spec_Picks.j0
  have j0 := @spec_ItemsOk.mono
  have j1 := @spec_StockOk.mono
  have j2 := @spec_l6Could.mono
  exact qL
  }
  {
  intro y0 y1 y2 y3 y4
  unfold spec_Picks.l0
  have j0 := @spec_ItemsOk.mono
  have j1 := @spec_StockOk.mono
  have j2 := @spec_l6Could.mono
  exact qL
  }
  {
  intro y0 y1 y2 y3 y4 y5 y6
  unfold spec_Picks.l1
  have j0 := @spec_ItemsOk.mono
  have j1 := @spec_StockOk.mono
  have j2 := @spec_l6Could.mono
  exact qL
  }
  {
  intro y0 y1 y2 y3 y4 y5 y6 y7
  unfold spec_Picks.l2
  have j0 := @spec_ItemsOk.mono
  have j1 := @spec_StockOk.mono
  have j2 := @spec_l6Could.mono
  exact qL
  }
  {
  intro y0 y1 y2 y3 y4 y5 y6
  unfold spec_Picks.l3
  have j0 := @spec_ItemsOk.mono
  have j1 := @spec_StockOk.mono
  have j2 := @spec_l6Could.mono
  exact qL
  }
  {
  intro y0 y1 y2 y3 y4 y5 y6 y7
  unfold spec_Picks.l4
  have j0 := @spec_ItemsOk.mono
  have j1 := @spec_StockOk.mono
  have j2 := @spec_l6Could.mono
  exact qL
  }
theorem spec_Picks.mono : ∀ a0 a1 k, LeO (spec_Picks.f k a0 a1) (spec_Picks.f (k + 1) a0 a1) := by
 intro a0 a1 k
 obtain ⟨ih0, ih1, ih2, ih3, ih4, ih5⟩ := spec_Picks.mono_l k
 unfold spec_Picks.f
 have j0 := @spec_ItemsOk.mono
 have j1 := @spec_StockOk.mono
 have j2 := @spec_l6Could.mono
 exact qL
def spec_Picks.T34 : Bool × List (List Nat × List Nat) := (true, [([], []), ([], []), ([0, 1], [0, 1]), ([2], [2]), ([3], [3]), ([], []), ([], []), ([5, 6], [5, 6]), ([7], [7]), ([8], [8]), ([4, 9], [4, 9])])
def spec_Picks.B34 : List Nat := [0, 0, 3, 7, 15, 0, 0, 96, 224, 480, 1023]
theorem spec_Picks.tab34 : rtab .any (opsOf Try.f54 34) = spec_Picks.T34 := by kernel_rfl
theorem spec_Picks.bits34 : waitsOk spec_Picks.T34.2 spec_Picks.B34 = true := by kernel_rfl
def spec_Picks.T35 : Bool × List (List Nat × List Nat) := (true, [([], []), ([], []), ([], []), ([], []), ([2, 3], [2, 3]), ([4], [4]), ([5], [5]), ([], []), ([], []), ([7, 8], [7, 8]), ([9], [9]), ([10], [10]), ([6, 11], [6, 11]), ([0, 1, 0, 1, 2, 3, 4, 5, 6, 7, 8, 9, 10, 11, 12], [0, 1]), ([13, 0, 1, 2, 3, 4, 5, 6, 7, 8, 9, 10, 11, 12], [13]), ([14, 12, 0, 1, 2, 3, 4, 5, 6, 7, 8, 9, 10, 11, 12], [12, 14])])
def spec_Picks.B35 : List Nat := [0, 0, 0, 0, 12, 28, 60, 0, 0, 384, 896, 1920, 4092, 8191, 16383, 32767]
theorem spec_Picks.tab35 : rtab .any (opsOf Try.f54 35) = spec_Picks.T35 := by kernel_rfl
theorem spec_Picks.bits35 : waitsOk spec_Picks.T35.2 spec_Picks.B35 = true := by kernel_rfl
set_option maxHeartbeats 8000000 in
set_option maxRecDepth 100000 in
theorem spec_Picks.calls (k : Nat) (A0_0 : Option Addr) (c0_0 : Nat) (l0_0 : List (S79)) (A1 : Option Addr) (c1 : Nat) (l1 : List (S48)) (r1 : List (S50)) (r2 : Bool) (w : World) (hr0_0 : Kd.C k79 w A0_0 l0_0.length l0_0) (hc0_0 : l0_0.length ≤ c0_0) (hr1 : Kd.C k48 w A1 l1.length l1) (hc1 : l1.length ≤ c1) (h : spec_Picks.f k l0_0 l1 = some (r1, r2)) :
  Calls Try.prog 54 #[.agg #[.slice A0_0 l0_0.length c0_0], .slice A1 l1.length c1] w fun e w' => ∃ v0_ : Value, e = .returned (.tuple #[v0_, .bool r2]) ∧ Kd.R k50 50 w' w.heap.size (fun _ => True) v0_ r1 ∧ Below w.heap.size w w' := by
 have hu26 := Try.underlying26
 have hu79 := Try.underlying79
 have HR0_0 := aM hr0_0
 have HC0_0 := aM hc0_0
 clear hr0_0 hc0_0
 have HR1 := aM hr1
 have HC1 := aM hc1
 clear hr1 hc1
 have HB := aM (Below.refl w.heap.size w)
 have H : ((some (([] : List (S50)) : List (S50))).bind fun y214 => ((spec_StockOk.f k l0_0).bind fun t217 => (if t217 = true then ((spec_ItemsOk.f k l1).bind fun t218 => (spec_Picks.j0 k l1 y214 (!t218) l0_0)) else (spec_Picks.j0 k l1 y214 true l0_0)))) = some (r1, r2) := h
 clear h
 obtain ⟨y214, hy214⟩ : ∃ y_ : List (S50), y_ = (([] : List (S50))) := ⟨_, rfl⟩
 replace H : ((spec_StockOk.f k l0_0).bind fun t217 => (if t217 = true then ((spec_ItemsOk.f k l1).bind fun t218 => (spec_Picks.j0 k l1 y214 (!t218) l0_0)) else (spec_Picks.j0 k l1 y214 true l0_0))) = some (r1, r2) := by first | (rw [hy214]; with_reducible exact H) | (have H2_ := (Option.bind_some _ _).symm.trans H; rw [hy214]; with_reducible exact H2_) | (have H2_ := (Option.bind_some _ _).symm.trans H; with_reducible exact H2_) | with_reducible exact H | (rw [hy214]; exact H) | exact H
 have Ny214 := aM hy214
 clear hy214
 have HC3 := aM H
 clear H
 go_enter Try.func54, Try.ntmps54
 go_upto_region 2 with (first | ((with_reducible refine gate_dst (N := 2) rfl ?_); refine bx_ 2 #[.slice A0_0 l0_0.length c0_0] 26 ?_; intro gb213 hg w4 hbox hb; have BK213 := aM (hbox); have GW213 := aM (bz_ w hg qz1); have GE213 := GW213; replace HB := bS_ hb; clear hb hbox hg) | ((with_reducible refine gate_dst (N := 21) rfl ?_); refine Kd.R_lit k50 _ 50 ?hg (N := 21) ?hd (xs := ([] : List (S50))) (inner := []) (ok := fun _ => True) (okp := fun _ => True) ?hr ?hp (fun _ hk => hk) trivial (Below.refl _ _) (Nat.le_refl _) (by simp) ?_; (case hd => rfl); (case hg => rfl); (case hr => exact qz23); (case hp => exact (Reps.none _ _)); intro v215 w5 ho6 hb hg_ hnew_; clear hg_ hnew_; (first | rw [← Ny214.out] at ho6 | (simp only [Int.reduceToNat] at ho6; rw [← Ny214.out] at ho6)); have HO216 := aM (Kd.R_lower ho6 (below_size qz1)); replace BK213 := bB_ BK213 hb; replace HB := bS_ hb; clear hb ho6))
 (try simp only [Act.put, List.setIfInBounds_toArray, List.set_cons_zero, List.set_cons_succ])
 go_cut [29] (fun v29 wc => ∃ (kq : Nat) (x29_2 : Bool), v29 = .bool x29_2 ∧ Aside0 (spec_Picks.j0 kq l1 y214 x29_2 l0_0 = some (r1, r2)) ∧ Aside0 (kq ≤ k) ∧ Aside0 (Kd.R k50 50 wc w.heap.size (fun _ => True) v215 y214) ∧ Aside0 (wc.heap[gb213]? = some (.cells #[(.slice A0_0 l0_0.length c0_0)] 26 (0, 0))) ∧ Aside0 (Below w.heap.size w wc))
 case first =>
  have H := HC3.out
  clear HC3
  replace H := Option.bind_eq_some_iff.mp H
  obtain ⟨t217, A70, H⟩ := H
  replace H : (if t217 = true then ((spec_ItemsOk.f k l1).bind fun t218 => (spec_Picks.j0 k l1 y214 (!t218) l0_0)) else (spec_Picks.j0 k l1 y214 true l0_0)) = some (r1, r2) := H
  have A7 := aM A70
  clear A70
  by_cases c8 : t217 = true
  {
  subst c8
  rw [if_pos rfl] at H
  replace H := Option.bind_eq_some_iff.mp H
  obtain ⟨t218, A90, H⟩ := H
  replace H : (spec_Picks.j0 k l1 y214 (!t218) l0_0) = some (r1, r2) := H
  have A9 := aM A90
  clear A90
  have H' := aM H
  clear H
  obtain ⟨hcz10_0, hfz10_0⟩ := bf_ BK213.out
  go_wp2_with (first | ((with_reducible refine gate_callee (f := 37) rfl ?_); refine goesL_ (some 23) rfl rfl Try.func37 (by kernel_rfl) rfl #[.agg #[.slice A0_0 l0_0.length c0_0]] rfl qz4 ?_; (with_reducible refine (spec_StockOk.calls k _ _ l0_0 true _ ?side1 ?side2 A7.out).mono ?_); (case side1 => exact qz6); (case side2 => exact HC0_0.out); rintro e w11 ⟨rfl, hb⟩; refine ⟨_, rfl, ?_⟩; replace HO216 := aM (Kd.R_below (rr_ HO216.out) hb); replace BK213 := bB_ BK213 hb; replace HB := bS_ hb; (try clear hb)) | (go_at_call 38; (with_reducible refine (spec_ItemsOk.calls k _ _ l1 t218 _ ?side1 ?side2 A9.out).mono ?_); (case side1 => exact qz40); (case side2 => exact HC1.out); rintro e w12 ⟨rfl, hb⟩; replace HO216 := aM (Kd.R_below (rr_ HO216.out) hb); replace BK213 := bB_ BK213 hb; replace HB := bS_ hb; (try clear hb)))
  go_meet
  case rel => exact ⟨_, (!t218), qz5, H', ⟨by first | omega | exact Nat.le_refl _⟩, ⟨rm_ HO216.out⟩, ⟨bk_ BK213.out⟩, ⟨qz1⟩⟩
  }
  {
  replace c8 := Bool.eq_false_iff.mpr c8
  subst c8
  rw [if_neg (show ¬ (false = true) by decide)] at H
  have H' := aM H
  clear H
  obtain ⟨hcz13_0, hfz13_0⟩ := bf_ BK213.out
  go_wp2_with (first | ((with_reducible refine gate_callee (f := 37) rfl ?_); refine goesL_ (some 23) rfl rfl Try.func37 (by kernel_rfl) rfl #[.agg #[.slice A0_0 l0_0.length c0_0]] rfl qz4 ?_; (with_reducible refine (spec_StockOk.calls k _ _ l0_0 false _ ?side1 ?side2 A7.out).mono ?_); (case side1 => exact qz6); (case side2 => exact HC0_0.out); rintro e w14 ⟨rfl, hb⟩; refine ⟨_, rfl, ?_⟩; replace HO216 := aM (Kd.R_below (rr_ HO216.out) hb); replace BK213 := bB_ BK213 hb; replace HB := bS_ hb; (try clear hb)))
  go_meet
  case rel => exact ⟨_, (true), qz5, H', ⟨by first | omega | exact Nat.le_refl _⟩, ⟨rm_ HO216.out⟩, ⟨bk_ BK213.out⟩, ⟨qz1⟩⟩
  }
 case rest =>
  clear HC3
  try clear c1
  try clear p2
  try clear c3
  try clear c5
  try clear c8
  try clear hcz10_0 hfz10_0
  try clear hcz13_0 hfz13_0
  obtain ⟨kq, x29_2, rfl, HA, HJ2, HO_6, BK213, HB⟩ := hcut
  cases kq with
  | zero => exact absurd HA.out (by simp [spec_Picks.j0])
  | succ kj2 =>
   have H := HA.out
   clear HA
   simp only [spec_Picks.j0] at H
   by_cases c15 : x29_2 = true
   {
   subst c15
   rw [if_pos rfl] at H
   simp only [Option.some.injEq, Prod.mk.injEq] at H
   obtain ⟨rfl, rfl⟩ := H
   go_wp2
   go_ret2
   exact ⟨_, qzw, by (with_reducible repeat (first | apply Kd.R_alloc | apply Kd.R_drewN | apply Kd.R_drew)); exact HO_6.out, qz1⟩
   }
   {
   replace c15 := Bool.eq_false_iff.mpr c15
   subst c15
   rw [if_neg (show ¬ (false = true) by decide)] at H
   obtain ⟨y219, hy219⟩ : ∃ y_ : List (S48), y_ = (([] : List (S48))) := ⟨_, rfl⟩
   replace H : (if y219.length + l1.length < 8796093022208 then (if 0 ≤ (l0_0.length : Int) then (if ((l0_0.length : Int) : Int).toNat ≤ 281474976710656 then (spec_Picks.l0 kj2 y214 (y219 ++ l1) (List.replicate ((l0_0.length : Int) : Int).toNat false) (([] : List (S50))) l0_0) else (none)) else (none)) else (none)) = some (r1, r2) := by first | (rw [hy219]; with_reducible exact H) | (have H2_ := (Option.bind_some _ _).symm.trans H; rw [hy219]; with_reducible exact H2_) | (have H2_ := (Option.bind_some _ _).symm.trans H; with_reducible exact H2_) | with_reducible exact H | (rw [hy219]; exact H) | exact H
   have Ny219 := aM hy219
   clear hy219
   by_cases c16 : y219.length + l1.length < 8796093022208
   {
   rw [if_pos c16] at H
   have LMc16 := aM c16
   clear c16
   obtain ⟨y222, hy222⟩ : ∃ y_ : List (S48), y_ = (y219 ++ l1) := ⟨_, rfl⟩
   replace H : (if 0 ≤ (l0_0.length : Int) then (if ((l0_0.length : Int) : Int).toNat ≤ 281474976710656 then (spec_Picks.l0 kj2 y214 y222 (List.replicate ((l0_0.length : Int) : Int).toNat false) (([] : List (S50))) l0_0) else (none)) else (none)) = some (r1, r2) := by first | (rw [hy222]; with_reducible exact H) | (have H2_ := (Option.bind_some _ _).symm.trans H; rw [hy222]; with_reducible exact H2_) | (have H2_ := (Option.bind_some _ _).symm.trans H; with_reducible exact H2_) | with_reducible exact H | (rw [hy222]; exact H) | exact H
   have Ny222 := aM hy222
   clear hy222
   by_cases c17 : 0 ≤ (l0_0.length : Int)
   {
   rw [if_pos c17] at H
   have c17b0 := eq_true c17
   have c17b1 := decide_eq_true c17
   clear c17
   by_cases c18 : ((l0_0.length : Int) : Int).toNat ≤ 281474976710656
   {
   rw [if_pos c18] at H
   have c18b0 := eq_true c18
   have c18b1 := decide_eq_true c18
   clear c18
   obtain ⟨y225, hy225⟩ : ∃ y_ : List Bool, y_ = (List.replicate ((l0_0.length : Int) : Int).toNat false) := ⟨_, rfl⟩
   replace H : (spec_Picks.l0 kj2 y214 y222 y225 (([] : List (S50))) l0_0) = some (r1, r2) := by first | (rw [hy225]; with_reducible exact H) | (have H2_ := (Option.bind_some _ _).symm.trans H; rw [hy225]; with_reducible exact H2_) | (have H2_ := (Option.bind_some _ _).symm.trans H; with_reducible exact H2_) | with_reducible exact H | (rw [hy225]; exact H) | exact H
   have Ny225 := aM hy225
   clear hy225
   obtain ⟨y228, hy228⟩ : ∃ y_ : List (S50), y_ = (([] : List (S50))) := ⟨_, rfl⟩
   replace H : (spec_Picks.l0 kj2 y214 y222 y225 y228 l0_0) = some (r1, r2) := by first | (rw [hy228]; with_reducible exact H) | (have H2_ := (Option.bind_some _ _).symm.trans H; rw [hy228]; with_reducible exact H2_) | (have H2_ := (Option.bind_some _ _).symm.trans H; with_reducible exact H2_) | with_reducible exact H | (rw [hy228]; exact H) | exact H
   have Ny228 := aM hy228
   clear hy228
   have H' := aM H
   clear H
   go_wp2_with (first | ((with_reducible refine gate_dst (N := 31) rfl ?_); refine Kd.R_lit k48 _ 48 ?hg (N := 31) ?hd (xs := ([] : List (S48))) (inner := []) (ok := fun _ => True) (okp := fun _ => True) ?hr ?hp (fun _ hk => hk) trivial (Below.refl _ _) (Nat.le_refl _) (by simp) ?_; (case hd => rfl); (case hg => rfl); (case hr => exact qz23); (case hp => exact (Reps.none _ _)); intro v220 w19 ho20 hb hg_ hnew_; clear hg_ hnew_; (first | rw [← Ny219.out] at ho20 | (simp only [Int.reduceToNat] at ho20; rw [← Ny219.out] at ho20)); replace HO_6 := aM (Kd.R_below (rr_ HO_6.out) hb); have HO221 := aM (Kd.R_lower ho20 (below_size qz1)); replace BK213 := bB_ BK213 hb; replace HB := bS_ hb; clear hb ho20) | ((with_reducible refine gate_builtin (b := .append) (xs := #[.tmp 31, .tmp 32]) rfl ?_); at_builtin; refine Kd.R_append_rows k48 (w0 := w) w.heap.size rfl (.tmp 31) (.tmp 32) 40 48 (.agg #[(.int .i64 0), (.int .i64 0)]) 16 rfl Try.underlying40 info48 rfl (by decide) (by omega) v220 y219 l1 _ _ _ (fun _ => True) (fun _ => False) rfl rfl ?aO ?aR (fun _ _ h => h) (fun _ h => h.elim) ?aF ?aB ?aS ?aL ?_; (case aR => exact qz40); (case aB => exact qz1); (case aF => exact (fun _ _ => trivial)); (case aO => exact (rr_ HO221.out)); (case aS => exact qz46); (case aL => have := LMc16.out; omega); intro v223 w21 ho hb hg hat; rw [← Ny222.out] at ho; replace HO_6 := aM (Kd.R_over' (rr_ HO_6.out) (Kd.R_typed (rr_ HO221.out)) (by decide) hg); replace BK213 := aM (blk_grown (bk_ BK213.out) hg (Kd.R_ne HO221.out BK213.out (by decide))); replace HB := aM (hb); have HO224 := aM (ho); clear HO221; clear ho hb hg hat; obtain ⟨hcz22_0, hfz22_0⟩ := bf_ BK213.out) | ((with_reducible refine gate_dst (N := 37) rfl ?_); refine Kd.R_make Kd.bool _ 4 rfl (N := 37) rfl 106 _ _ rfl (l0_0.length : Int) rfl rfl Try.underlying106 (.bool false) 1 info4 rfl (by decide) (by omega) false (ok := fun _ => True) (okp := fun _ => True) rfl (fun _ hk => hk) trivial (dt_) (Nat.le_trans (Nat.mul_le_mul_right _ (dt_ : (l0_0.length : Int).toNat ≤ 281474976710656)) (by omega)) (Below.refl _ _) (Nat.le_refl _) ?_; intro v226 w23 ho24 hb hg_ hnew_; clear hg_ hnew_; (first | rw [← Ny225.out] at ho24 | (simp only [Int.reduceToNat] at ho24; rw [← Ny225.out] at ho24)); replace HO_6 := aM (Kd.R_below (rr_ HO_6.out) hb); replace HO224 := aM (Kd.R_below (rr_ HO224.out) hb); have HO227 := aM (Kd.R_lower ho24 (below_size qz1)); replace BK213 := bB_ BK213 hb; replace HB := bS_ hb; clear hb ho24) | ((with_reducible refine gate_dst (N := 38) rfl ?_); refine Kd.R_lit k50 _ 50 ?hg (N := 38) ?hd (xs := ([] : List (S50))) (inner := []) (ok := fun _ => True) (okp := fun _ => True) ?hr ?hp (fun _ hk => hk) trivial (Below.refl _ _) (Nat.le_refl _) (by simp) ?_; (case hd => rfl); (case hg => rfl); (case hr => exact qz23); (case hp => exact (Reps.none _ _)); intro v229 w25 ho26 hb hg_ hnew_; clear hg_ hnew_; (first | rw [← Ny228.out] at ho26 | (simp only [Int.reduceToNat] at ho26; rw [← Ny228.out] at ho26)); replace HO224 := aM (Kd.R_below (rr_ HO224.out) hb); replace HO227 := aM (Kd.R_below (rr_ HO227.out) hb); have HO230 := aM (Kd.R_lower (Kd.R_new' ho26 (Kd.R_lt (rr_ HO_6.out))) (below_size qz1)); replace HO_6 := aM (Kd.R_elder' (rr_ HO_6.out) (Kd.R_base ho26) hb); replace BK213 := bB_ BK213 hb; replace HB := bS_ hb; clear hb ho26))
   go_loopg [9] kj2 (fun kq v9 w' => ∃ (x7_2 : List (S48)) (x8_2 : List Bool) (x9_2 : List (S50)), Aside0 (spec_Picks.l0 kq y214 x7_2 x8_2 x9_2 l0_0 = some (r1, r2)) ∧ Aside0 (kq ≤ kj2) ∧ Aside0 (Kd.R k50 50 w' w.heap.size (fun k_ => some k_ ≠ (v9 : Value).ownBlock) v215 y214) ∧ Aside0 (Kd.R k48 48 w' w.heap.size (fun _ => True) v223 x7_2) ∧ Aside0 (Kd.R Kd.bool 4 w' w.heap.size (fun _ => True) v226 x8_2) ∧ Aside0 (Kd.R k50 50 w' w.heap.size (fun k_ => some k_ ≠ (v215 : Value).ownBlock) v9 x9_2) ∧ Aside0 (w'.heap[gb213]? = some (.cells #[(.slice A0_0 l0_0.length c0_0)] 26 (0, 0))) ∧ Aside0 (Below w.heap.size w w'))
   case atStart => exact ⟨(y222), (y225), (y228), H', ⟨Nat.le_refl _⟩, ⟨by (with_reducible repeat (first | apply Kd.R_alloc | apply Kd.R_drewN | apply Kd.R_drew)); exact Kd.R_mono HO_6.out (fun _ hk => hk.2)⟩, ⟨rr_ HO224.out⟩, ⟨rr_ HO227.out⟩, ⟨by (with_reducible repeat (first | apply Kd.R_alloc | apply Kd.R_drewN | apply Kd.R_drew)); exact Kd.R_mono HO230.out (fun _ hk => hk.2)⟩, ⟨bk_ BK213.out⟩, ⟨qz1⟩⟩
   case round =>
    clear H'
    try clear c1
    try clear p2
    try clear c3
    try clear c5
    try clear c8
    try clear c15
    try clear c16
    try clear c17
    try clear c17b0
    try clear c17b1
    try clear c18
    try clear c18b0
    try clear c18b1
    try clear hcz10_0 hfz10_0
    try clear hcz13_0 hfz13_0
    try clear hcz22_0 hfz22_0
    obtain ⟨x7_2, x8_2, x9_2, HA, HK2, HO_6, HO_7, HO_8, HO_9, BK213, HB⟩ := hrel
    cases gk with
    | zero => exact absurd HA.out (by simp [spec_Picks.l0])
    | succ k2 =>
     have H := HA.out
     clear HA
     simp only [spec_Picks.l0] at H
     have H' := aM H
     clear H
     go_wp2
     go_loopg [10, 11] k2 (fun kq v10 v11 w' => ∃ (x10_3 : Int) (x11_3 : Int), v10 = .int .i64 x10_3 ∧ v11 = .int .i64 x11_3 ∧ Aside0 (spec_Picks.l1 kq y214 x7_2 x8_2 x9_2 x10_3 x11_3 l0_0 = some (r1, r2)) ∧ Aside0 (kq ≤ k2) ∧ Aside0 (Kd.R k50 50 w' w.heap.size (fun k_ => some k_ ≠ (u9 : Value).ownBlock) v215 y214) ∧ Aside0 (Kd.R k48 48 w' w.heap.size (fun _ => True) v223 x7_2) ∧ Aside0 (Kd.R Kd.bool 4 w' w.heap.size (fun _ => True) v226 x8_2) ∧ Aside0 (Kd.R k50 50 w' w.heap.size (fun k_ => some k_ ≠ (v215 : Value).ownBlock) u9 x9_2) ∧ Aside0 (w'.heap[gb213]? = some (.cells #[(.slice A0_0 l0_0.length c0_0)] 26 (0, 0))) ∧ Aside0 (Below w.heap.size w w'))
     case atStart => exact ⟨(0), (0), qz5, qz5, H', ⟨Nat.le_refl _⟩, ⟨rr_ HO_6.out⟩, ⟨rr_ HO_7.out⟩, ⟨rr_ HO_8.out⟩, ⟨rr_ HO_9.out⟩, ⟨bk_ BK213.out⟩, ⟨qz1⟩⟩
     case round =>
      clear H'
      try clear c1
      try clear p2
      try clear c3
      try clear c5
      try clear c8
      try clear c15
      try clear c16
      try clear c17
      try clear c17b0
      try clear c17b1
      try clear c18
      try clear c18b0
      try clear c18b1
      try clear hcz10_0 hfz10_0
      try clear hcz13_0 hfz13_0
      try clear hcz22_0 hfz22_0
      obtain ⟨x10_3, x11_3, rfl, rfl, HA, HK3, HO_6, HO_7, HO_8, HO_9, BK213, HB⟩ := hrel
      cases gk with
      | zero => exact absurd HA.out (by simp [spec_Picks.l1])
      | succ k3 =>
       have H := HA.out
       clear HA
       simp only [spec_Picks.l1] at H
       by_cases c27 : x11_3 < (x7_2.length : Int)
       {
       rw [if_pos c27] at H
       have c27b0 := decide_eq_true c27
       clear c27
       by_cases c28 : 0 ≤ x11_3
       {
       rw [if_pos c28] at H
       have c28b0 := decide_eq_true c28
       clear c28
       have H' := aM H
       clear H
       obtain ⟨Ao29, co29, eo29⟩ := Kd.R_slice HO_7.out
       subst eo29
       have p231 : 0 ≤ (x11_3 : Int) := dt_
       have q231 : x11_3 < (x7_2.length : Int) := dt_
       obtain ⟨ad231, e231, hx231_0, hx231_1⟩ := at_T48 (Kd.R_reads' HO_7.out).2.2 x11_3 p231 q231
       cases e231
       replace p231 := eq_true p231
       replace q231 := eq_true q231
       go_wp2
       go_roundg k3
       case measure => have := HJ2.out; have := HK2.out; have := HK3.out; omega
       case rel => exact ⟨(wrap64 (x10_3 + ((rd_T48 x7_2 x11_3).f1))), (wrap64 (x11_3 + 1)), qz5, qz5, H', ⟨by have := HJ2.out; have := HK2.out; have := HK3.out; omega⟩, ⟨rm_ HO_6.out⟩, ⟨rm_ HO_7.out⟩, ⟨rm_ HO_8.out⟩, ⟨rm_ HO_9.out⟩, ⟨bk_ BK213.out⟩, ⟨qz1⟩⟩
       }
       {
       exact an_ c28 H
       }
       }
       {
       rw [if_neg c27] at H
       have c27b0 := decide_eq_false c27
       clear c27
       by_cases c30 : x10_3 = 0
       {
       rw [if_pos c30] at H
       have c30b0 := beq_iff_eq.mpr c30
       have c30b1 := bne_eq_false_iff_eq.mpr c30
       clear c30
       simp only [Option.some.injEq, Prod.mk.injEq] at H
       obtain ⟨rfl, rfl⟩ := H
       obtain ⟨Ao31, co31, eo31⟩ := Kd.R_slice HO_7.out
       subst eo31
       go_wp2
       go_ret2
       exact ⟨_, qzw, by (with_reducible repeat (first | apply Kd.R_alloc | apply Kd.R_drewN | apply Kd.R_drew)); exact Kd.R_mono HO_9.out (fun _ hk => trivial), qz1⟩
       }
       {
       rw [if_neg c30] at H
       have c30b0 := beq_eq_false_iff_ne.mpr c30
       have c30b1 := bne_iff_ne.mpr c30
       have H' := aM H
       clear H
       obtain ⟨Ao32, co32, eo32⟩ := Kd.R_slice HO_7.out
       subst eo32
       go_wp2
       go_loopg [12, 13, 14] k3 (fun kq v12 v13 v14 w' => ∃ (x12_4 : Int) (x13_4 : Int) (x14_4 : Int), v12 = .int .i64 x12_4 ∧ v13 = .int .i64 x13_4 ∧ v14 = .int .i64 x14_4 ∧ Aside0 (spec_Picks.l2 kq y214 x7_2 x8_2 x9_2 x12_4 x13_4 x14_4 l0_0 = some (r1, r2)) ∧ Aside0 (kq ≤ k3) ∧ Aside0 (Kd.R k50 50 w' w.heap.size (fun k_ => some k_ ≠ (u9 : Value).ownBlock) v215 y214) ∧ Aside0 (Kd.R k48 48 w' w.heap.size (fun _ => True) (.slice Ao32 x7_2.length co32) x7_2) ∧ Aside0 (Kd.R Kd.bool 4 w' w.heap.size (fun _ => True) v226 x8_2) ∧ Aside0 (Kd.R k50 50 w' w.heap.size (fun k_ => some k_ ≠ (v215 : Value).ownBlock) u9 x9_2) ∧ Aside0 (w'.heap[gb213]? = some (.cells #[(.slice A0_0 l0_0.length c0_0)] 26 (0, 0))) ∧ Aside0 (Below w.heap.size w w'))
       case atStart => exact ⟨((-1)), (0), (0), qz5, qz5, qz5, H', ⟨Nat.le_refl _⟩, ⟨rr_ HO_6.out⟩, ⟨rr_ HO_7.out⟩, ⟨rr_ HO_8.out⟩, ⟨rr_ HO_9.out⟩, ⟨bk_ BK213.out⟩, ⟨qz1⟩⟩
       case round =>
        clear H'
        try clear c1
        try clear c2
        try clear p2
        try clear q2
        try clear hx2
        try clear c3
        try clear c5
        try clear p6
        try clear c8
        try clear c15
        try clear c16
        try clear c17
        try clear c17b0
        try clear c17b1
        try clear c18
        try clear c18b0
        try clear c18b1
        try clear p23
        try clear q23
        try clear hx23
        try clear c27
        try clear c27b0
        try clear c28
        try clear c28b0
        try clear c30
        try clear c30b0
        try clear c30b1
        try clear hcz10_0 hfz10_0
        try clear hcz13_0 hfz13_0
        try clear hcz22_0 hfz22_0
        try clear hx231_0
        try clear hx231_1
        try clear p231
        try clear q231
        obtain ⟨x12_4, x13_4, x14_4, rfl, rfl, rfl, HA, HK4, HO_6, HO_7, HO_8, HO_9, BK213, HB⟩ := hrel
        cases gk with
        | zero => exact absurd HA.out (by simp [spec_Picks.l2])
        | succ k4 =>
         have H := HA.out
         clear HA
         simp only [spec_Picks.l2] at H
         by_cases c33 : x14_4 < (l0_0.length : Int)
         {
         rw [if_pos c33] at H
         have c33b0 := decide_eq_true c33
         clear c33
         by_cases c34 : 0 ≤ x14_4
         {
         rw [if_pos c34] at H
         have c34b0 := decide_eq_true c34
         clear c34
         replace H := Option.bind_eq_some_iff.mp H
         obtain ⟨⟨t233, t236⟩, A350, H⟩ := H
         replace H : (if x14_4 < (x8_2.length : Int) then (if rdOf false x8_2 x14_4 = true then (spec_Picks.l2 k4 y214 x7_2 x8_2 x9_2 x12_4 x13_4 (wrap64 (x14_4 + 1)) l0_0) else (if t236 > x13_4 then (spec_Picks.l2 k4 y214 x7_2 x8_2 x9_2 x14_4 t236 (wrap64 (x14_4 + 1)) l0_0) else (spec_Picks.l2 k4 y214 x7_2 x8_2 x9_2 x12_4 x13_4 (wrap64 (x14_4 + 1)) l0_0))) else (none)) = some (r1, r2) := H
         have A35 := aM A350
         clear A350
         by_cases c36 : x14_4 < (x8_2.length : Int)
         {
         rw [if_pos c36] at H
         have c36b0 := decide_eq_true c36
         clear c36
         obtain ⟨bq37, hbq37⟩ : ∃ b_ : Bool, b_ = (rdOf false x8_2 x14_4) := ⟨_, rfl⟩
         replace H : (if bq37 = true then (spec_Picks.l2 k4 y214 x7_2 x8_2 x9_2 x12_4 x13_4 (wrap64 (x14_4 + 1)) l0_0) else (if t236 > x13_4 then (spec_Picks.l2 k4 y214 x7_2 x8_2 x9_2 x14_4 t236 (wrap64 (x14_4 + 1)) l0_0) else (spec_Picks.l2 k4 y214 x7_2 x8_2 x9_2 x12_4 x13_4 (wrap64 (x14_4 + 1)) l0_0))) = some (r1, r2) := by rw [← hbq37] at H; exact H
         have Nbq37 := aM hbq37
         clear hbq37
         by_cases c38 : bq37 = true
         {
         subst c38
         rw [if_pos rfl] at H
         have H' := aM H
         clear H
         obtain ⟨hcz39_0, hfz39_0⟩ := bf_ BK213.out
         have p232 : 0 ≤ (x14_4 : Int) := dt_
         have q232 : x14_4 < (l0_0.length : Int) := dt_
         obtain ⟨ad232, A232_2, c232_2, e232, hx232_0, hx232_1, hx232_2, hl232_2, hi232_2⟩ := at_T79 HR0_0.out x14_4 p232 q232
         cases e232
         replace hx232_0 := cB_ hx232_0
         replace hx232_1 := cB_ hx232_1
         replace hx232_2 := cB_ hx232_2
         have HR232_2 := aM hi232_2
         have HC232_2 := aM hl232_2
         clear hi232_2 hl232_2
         replace p232 := eq_true p232
         replace q232 := eq_true q232
         go_wp2_with (first | ((with_reducible refine gate_callee (f := 89) rfl ?_); refine goesL_ (some 69) rfl rfl Try.func89 (by kernel_rfl) rfl #[.agg #[.int .i64 ((rd_T79 l0_0 x14_4).f0), .int .i64 ((rd_T79 l0_0 x14_4).f1), .slice A232_2 ((rd_T79 l0_0 x14_4).f2).length c232_2], .slice Ao32 x7_2.length co32] rfl qz4 ?_; (with_reducible refine (spec_l6Could.calls k4 ((rd_T79 l0_0 x14_4).f0) ((rd_T79 l0_0 x14_4).f1) _ _ ((rd_T79 l0_0 x14_4).f2) _ _ x7_2 t233 t236 _ ?side1 ?side2 ?side3 ?side4 A35.out).mono ?_); (case side1 => exact qz38); (case side2 => exact HC232_2.out); (case side3 => exact qz30); (case side4 => exact (Kd.R_reads' HO_7.out).2.1); rintro e w40 ⟨v234, rfl, ho0, hb⟩; refine ⟨_, rfl, ?_⟩; replace HO_7 := aM (Kd.R_below (rr_ HO_7.out) hb); replace HO_8 := aM (Kd.R_below (rr_ HO_8.out) hb); have HO235 := aM (Kd.R_lower (Kd.R_new' (Kd.R_new' ho0 (Kd.R_lt (rr_ HO_6.out))) (Kd.R_lt (rr_ HO_9.out))) (below_size qz1)); replace HO_6 := aM (Kd.R_elder' (rr_ HO_6.out) (Kd.R_base ho0) hb); replace HO_9 := aM (Kd.R_elder' (rr_ HO_9.out) (Kd.R_base ho0) hb); replace BK213 := bB_ BK213 hb; replace HB := bS_ hb; (try clear hb ho0); obtain ⟨Ao41, co41, eo41⟩ := Kd.R_slice HO_8.out; subst eo41; have p237 : 0 ≤ (x14_4 : Int) := dt_; have q237 : x14_4 < (x8_2.length : Int) := dt_; obtain ⟨ad237, e237, hx237_0⟩ := Kd.at_bool (Kd.R_reads' HO_8.out).2.2 x14_4 p237 q237; (try rw [← Nbq37.out] at hx237_0); cases e237; replace p237 := eq_true p237; replace q237 := eq_true q237))
         go_roundg k4
         case measure => have := HJ2.out; have := HK2.out; have := HK3.out; have := HK4.out; omega
         case rel => exact ⟨(x12_4), (x13_4), (wrap64 (x14_4 + 1)), qz5, qz5, qz5, H', ⟨by have := HJ2.out; have := HK2.out; have := HK3.out; have := HK4.out; omega⟩, ⟨by (with_reducible repeat (first | apply Kd.R_alloc | apply Kd.R_drewN | apply Kd.R_drew)); exact Kd.R_mono HO_6.out (fun _ hk => hk.1)⟩, ⟨rm_ HO_7.out⟩, ⟨rm_ HO_8.out⟩, ⟨by (with_reducible repeat (first | apply Kd.R_alloc | apply Kd.R_drewN | apply Kd.R_drew)); exact Kd.R_mono HO_9.out (fun _ hk => hk.1)⟩, ⟨bk_ BK213.out⟩, ⟨qz1⟩⟩
         }
         {
         replace c38 := Bool.eq_false_iff.mpr c38
         subst c38
         rw [if_neg (show ¬ (false = true) by decide)] at H
         by_cases c42 : t236 > x13_4
         {
         rw [if_pos c42] at H
         have c42b0 := decide_eq_true c42
         clear c42
         have H' := aM H
         clear H
         obtain ⟨hcz43_0, hfz43_0⟩ := bf_ BK213.out
         have p232 : 0 ≤ (x14_4 : Int) := dt_
         have q232 : x14_4 < (l0_0.length : Int) := dt_
         obtain ⟨ad232, A232_2, c232_2, e232, hx232_0, hx232_1, hx232_2, hl232_2, hi232_2⟩ := at_T79 HR0_0.out x14_4 p232 q232
         cases e232
         replace hx232_0 := cB_ hx232_0
         replace hx232_1 := cB_ hx232_1
         replace hx232_2 := cB_ hx232_2
         have HR232_2 := aM hi232_2
         have HC232_2 := aM hl232_2
         clear hi232_2 hl232_2
         replace p232 := eq_true p232
         replace q232 := eq_true q232
         go_wp2_with (first | ((with_reducible refine gate_callee (f := 89) rfl ?_); refine goesL_ (some 69) rfl rfl Try.func89 (by kernel_rfl) rfl #[.agg #[.int .i64 ((rd_T79 l0_0 x14_4).f0), .int .i64 ((rd_T79 l0_0 x14_4).f1), .slice A232_2 ((rd_T79 l0_0 x14_4).f2).length c232_2], .slice Ao32 x7_2.length co32] rfl qz4 ?_; (with_reducible refine (spec_l6Could.calls k4 ((rd_T79 l0_0 x14_4).f0) ((rd_T79 l0_0 x14_4).f1) _ _ ((rd_T79 l0_0 x14_4).f2) _ _ x7_2 t233 t236 _ ?side1 ?side2 ?side3 ?side4 A35.out).mono ?_); (case side1 => exact qz38); (case side2 => exact HC232_2.out); (case side3 => exact qz30); (case side4 => exact (Kd.R_reads' HO_7.out).2.1); rintro e w44 ⟨v234, rfl, ho0, hb⟩; refine ⟨_, rfl, ?_⟩; replace HO_7 := aM (Kd.R_below (rr_ HO_7.out) hb); replace HO_8 := aM (Kd.R_below (rr_ HO_8.out) hb); have HO235 := aM (Kd.R_lower (Kd.R_new' (Kd.R_new' ho0 (Kd.R_lt (rr_ HO_6.out))) (Kd.R_lt (rr_ HO_9.out))) (below_size qz1)); replace HO_6 := aM (Kd.R_elder' (rr_ HO_6.out) (Kd.R_base ho0) hb); replace HO_9 := aM (Kd.R_elder' (rr_ HO_9.out) (Kd.R_base ho0) hb); replace BK213 := bB_ BK213 hb; replace HB := bS_ hb; (try clear hb ho0); obtain ⟨Ao45, co45, eo45⟩ := Kd.R_slice HO_8.out; subst eo45; have p237 : 0 ≤ (x14_4 : Int) := dt_; have q237 : x14_4 < (x8_2.length : Int) := dt_; obtain ⟨ad237, e237, hx237_0⟩ := Kd.at_bool (Kd.R_reads' HO_8.out).2.2 x14_4 p237 q237; (try rw [← Nbq37.out] at hx237_0); cases e237; replace p237 := eq_true p237; replace q237 := eq_true q237))
         go_roundg k4
         case measure => have := HJ2.out; have := HK2.out; have := HK3.out; have := HK4.out; omega
         case rel => exact ⟨(x14_4), (t236), (wrap64 (x14_4 + 1)), qz5, qz5, qz5, H', ⟨by have := HJ2.out; have := HK2.out; have := HK3.out; have := HK4.out; omega⟩, ⟨by (with_reducible repeat (first | apply Kd.R_alloc | apply Kd.R_drewN | apply Kd.R_drew)); exact Kd.R_mono HO_6.out (fun _ hk => hk.1)⟩, ⟨rm_ HO_7.out⟩, ⟨rm_ HO_8.out⟩, ⟨by (with_reducible repeat (first | apply Kd.R_alloc | apply Kd.R_drewN | apply Kd.R_drew)); exact Kd.R_mono HO_9.out (fun _ hk => hk.1)⟩, ⟨bk_ BK213.out⟩, ⟨qz1⟩⟩
         }
         {
         rw [if_neg c42] at H
         have c42b0 := decide_eq_false c42
         clear c42
         have H' := aM H
         clear H
         obtain ⟨hcz46_0, hfz46_0⟩ := bf_ BK213.out
         have p232 : 0 ≤ (x14_4 : Int) := dt_
         have q232 : x14_4 < (l0_0.length : Int) := dt_
         obtain ⟨ad232, A232_2, c232_2, e232, hx232_0, hx232_1, hx232_2, hl232_2, hi232_2⟩ := at_T79 HR0_0.out x14_4 p232 q232
         cases e232
         replace hx232_0 := cB_ hx232_0
         replace hx232_1 := cB_ hx232_1
         replace hx232_2 := cB_ hx232_2
         have HR232_2 := aM hi232_2
         have HC232_2 := aM hl232_2
         clear hi232_2 hl232_2
         replace p232 := eq_true p232
         replace q232 := eq_true q232
         go_wp2_with (first | ((with_reducible refine gate_callee (f := 89) rfl ?_); refine goesL_ (some 69) rfl rfl Try.func89 (by kernel_rfl) rfl #[.agg #[.int .i64 ((rd_T79 l0_0 x14_4).f0), .int .i64 ((rd_T79 l0_0 x14_4).f1), .slice A232_2 ((rd_T79 l0_0 x14_4).f2).length c232_2], .slice Ao32 x7_2.length co32] rfl qz4 ?_; (with_reducible refine (spec_l6Could.calls k4 ((rd_T79 l0_0 x14_4).f0) ((rd_T79 l0_0 x14_4).f1) _ _ ((rd_T79 l0_0 x14_4).f2) _ _ x7_2 t233 t236 _ ?side1 ?side2 ?side3 ?side4 A35.out).mono ?_); (case side1 => exact qz38); (case side2 => exact HC232_2.out); (case side3 => exact qz30); (case side4 => exact (Kd.R_reads' HO_7.out).2.1); rintro e w47 ⟨v234, rfl, ho0, hb⟩; refine ⟨_, rfl, ?_⟩; replace HO_7 := aM (Kd.R_below (rr_ HO_7.out) hb); replace HO_8 := aM (Kd.R_below (rr_ HO_8.out) hb); have HO235 := aM (Kd.R_lower (Kd.R_new' (Kd.R_new' ho0 (Kd.R_lt (rr_ HO_6.out))) (Kd.R_lt (rr_ HO_9.out))) (below_size qz1)); replace HO_6 := aM (Kd.R_elder' (rr_ HO_6.out) (Kd.R_base ho0) hb); replace HO_9 := aM (Kd.R_elder' (rr_ HO_9.out) (Kd.R_base ho0) hb); replace BK213 := bB_ BK213 hb; replace HB := bS_ hb; (try clear hb ho0); obtain ⟨Ao48, co48, eo48⟩ := Kd.R_slice HO_8.out; subst eo48; have p237 : 0 ≤ (x14_4 : Int) := dt_; have q237 : x14_4 < (x8_2.length : Int) := dt_; obtain ⟨ad237, e237, hx237_0⟩ := Kd.at_bool (Kd.R_reads' HO_8.out).2.2 x14_4 p237 q237; (try rw [← Nbq37.out] at hx237_0); cases e237; replace p237 := eq_true p237; replace q237 := eq_true q237))
         go_roundg k4
         case measure => have := HJ2.out; have := HK2.out; have := HK3.out; have := HK4.out; omega
         case rel => exact ⟨(x12_4), (x13_4), (wrap64 (x14_4 + 1)), qz5, qz5, qz5, H', ⟨by have := HJ2.out; have := HK2.out; have := HK3.out; have := HK4.out; omega⟩, ⟨by (with_reducible repeat (first | apply Kd.R_alloc | apply Kd.R_drewN | apply Kd.R_drew)); exact Kd.R_mono HO_6.out (fun _ hk => hk.1)⟩, ⟨rm_ HO_7.out⟩, ⟨rm_ HO_8.out⟩, ⟨by (with_reducible repeat (first | apply Kd.R_alloc | apply Kd.R_drewN | apply Kd.R_drew)); exact Kd.R_mono HO_9.out (fun _ hk => hk.1)⟩, ⟨bk_ BK213.out⟩, ⟨qz1⟩⟩
         }
         }
         }
         {
         exact an_ c36 H
         }
         }
         {
         exact an_ c34 H
         }
         }
         {
         rw [if_neg c33] at H
         have c33b0 := decide_eq_false c33
         clear c33
         by_cases c49 : x12_4 < 0
         {
         rw [if_pos c49] at H
         have c49b0 := decide_eq_true c49
         clear c49
         simp only [Option.some.injEq, Prod.mk.injEq] at H
         obtain ⟨rfl, rfl⟩ := H
         obtain ⟨hcz50_0, hfz50_0⟩ := bf_ BK213.out
         go_wp2
         go_ret2
         exact ⟨_, qzw, by (with_reducible repeat (first | apply Kd.R_alloc | apply Kd.R_drewN | apply Kd.R_drew)); exact Kd.R_mono HO_6.out (fun _ hk => trivial), qz1⟩
         }
         {
         rw [if_neg c49] at H
         have c49b0 := decide_eq_false c49
         clear c49
         by_cases c51 : 0 ≤ x12_4
         {
         rw [if_pos c51] at H
         have c51b0 := decide_eq_true c51
         clear c51
         by_cases c52 : x12_4 < (x8_2.length : Int)
         {
         rw [if_pos c52] at H
         have c52b0 := decide_eq_true c52
         clear c52
         obtain ⟨y238, hy238⟩ : ∃ y_ : List Bool, y_ = (x8_2.set (x12_4 : Int).toNat true) := ⟨_, rfl⟩
         replace H : (if x12_4 < (l0_0.length : Int) then ((spec_l6Could.f k4 ((rd_T79 l0_0 x12_4).f0) ((rd_T79 l0_0 x12_4).f1) ((rd_T79 l0_0 x12_4).f2) x7_2).bind fun bt240 => (if x9_2.length + bt240.1.length < 5864062014805 then (spec_Picks.l3 k4 y214 x7_2 y238 (x9_2 ++ bt240.1) bt240.1 0 l0_0) else (none))) else (none)) = some (r1, r2) := by first | (rw [hy238]; with_reducible exact H) | (have H2_ := (Option.bind_some _ _).symm.trans H; rw [hy238]; with_reducible exact H2_) | (have H2_ := (Option.bind_some _ _).symm.trans H; with_reducible exact H2_) | with_reducible exact H | (rw [hy238]; exact H) | exact H
         have Ny238 := aM hy238
         clear hy238
         by_cases c54 : x12_4 < (l0_0.length : Int)
         {
         rw [if_pos c54] at H
         have c54b0 := decide_eq_true c54
         clear c54
         replace H := Option.bind_eq_some_iff.mp H
         obtain ⟨⟨t240, t243⟩, A550, H⟩ := H
         replace H : (if x9_2.length + t240.length < 5864062014805 then (spec_Picks.l3 k4 y214 x7_2 y238 (x9_2 ++ t240) t240 0 l0_0) else (none)) = some (r1, r2) := H
         have A55 := aM A550
         clear A550
         by_cases c56 : x9_2.length + t240.length < 5864062014805
         {
         rw [if_pos c56] at H
         have LMc56 := aM c56
         clear c56
         obtain ⟨y244, hy244⟩ : ∃ y_ : List (S50), y_ = (x9_2 ++ t240) := ⟨_, rfl⟩
         replace H : (spec_Picks.l3 k4 y214 x7_2 y238 y244 t240 0 l0_0) = some (r1, r2) := by first | (rw [hy244]; with_reducible exact H) | (have H2_ := (Option.bind_some _ _).symm.trans H; rw [hy244]; with_reducible exact H2_) | (have H2_ := (Option.bind_some _ _).symm.trans H; with_reducible exact H2_) | with_reducible exact H | (rw [hy244]; exact H) | exact H
         have Ny244 := aM hy244
         clear hy244
         have H' := aM H
         clear H
         obtain ⟨hcz57_0, hfz57_0⟩ := bf_ BK213.out
         have p53 : 0 ≤ (x12_4 : Int) := dt_
         have q53 : (x12_4 : Int) < ((x8_2.length : Int) : Int) := dt_
         obtain ⟨go53, co53, eo53, gb53, gl53, cl53, HG53⟩ := Kd.R_form HO_8.out (by omega)
         (first | cases eo53 | (injection eo53 with ea_ en_ ec_; (first | subst ea_ | (injection ea_ with ea_; subst ea_)); subst ec_; clear en_))
         have GB53 := aM gb53
         have GG53 := aM HG53
         clear gb53 gl53 HG53
         obtain ⟨hx53_0, hf53_0⟩ := Kd.R_celln false HO_8.out (x12_4 : Int) p53 q53
         replace p53 := eq_true p53
         replace q53 := eq_true q53
         obtain ⟨hy58_, hz58_⟩ := Kd.R_celln false HO_8.out (x12_4 : Int) (dt_) (dt_)
         have HP58 := Kd.R_putg HO_8.out (x12_4 : Int) true
         go_wp2_with (first | ((with_reducible refine gate_store (t := 4) (p := 89) rfl ?_); refine store_event (t := 4) (p := 89) (v := ?vo_w59) (w1 := (wr.setCell ⟨go53, (x12_4 : Int).toNat, none⟩ (.bool true))) ?hg ?ho ?hn ?hr ?_; (case ho => rfl); (case hg => rfl); (case hn => rfl); (case hr => exact qz23); intro w59 hw; have hg : wr.grownBy w59 (some go53) := (by rw [hw]; exact HP58.2); have hp_ : Kd.R Kd.bool 4 w59 w.heap.size (fun _ => True) (.slice (some ⟨go53, 0, none⟩) x8_2.length co53) y238 := (by rw [hw, Ny238.out]; exact HP58.1); clear HP58; replace HO_6 := aM (Kd.R_over' (v := (.slice (some ⟨go53, 0, none⟩) x8_2.length co53)) (rr_ HO_6.out) (Kd.R_typed HO_8.out) (by decide) hg); replace HO_7 := aM (Kd.R_over' (v := (.slice (some ⟨go53, 0, none⟩) x8_2.length co53)) (rr_ HO_7.out) (Kd.R_typed HO_8.out) (by decide) hg); replace HO_9 := aM (Kd.R_over' (v := (.slice (some ⟨go53, 0, none⟩) x8_2.length co53)) (rr_ HO_9.out) (Kd.R_typed HO_8.out) (by decide) hg); replace BK213 := aM (blk_grown (bk_ BK213.out) hg (Kd.R_ne HO_8.out BK213.out (by decide))); replace HO_8 := aM (hp_); replace HB := aM ((by rw [hw]; exact below_set (HB.out) GB53.out : Below w.heap.size w w59)); clear hg hw hp_; obtain ⟨hcz60_0, hfz60_0⟩ := bf_ BK213.out; have p239 : 0 ≤ (x12_4 : Int) := dt_; have q239 : x12_4 < (l0_0.length : Int) := dt_; obtain ⟨ad239, A239_2, c239_2, e239, hx239_0, hx239_1, hx239_2, hl239_2, hi239_2⟩ := at_T79 HR0_0.out x12_4 p239 q239; cases e239; replace hx239_0 := cB_ hx239_0; replace hx239_1 := cB_ hx239_1; replace hx239_2 := cB_ hx239_2; have HR239_2 := aM hi239_2; have HC239_2 := aM hl239_2; clear hi239_2 hl239_2; replace p239 := eq_true p239; replace q239 := eq_true q239) | ((with_reducible refine gate_callee (f := 89) rfl ?_); refine goesL_ (some 97) rfl rfl Try.func89 (by kernel_rfl) rfl #[.agg #[.int .i64 ((rd_T79 l0_0 x12_4).f0), .int .i64 ((rd_T79 l0_0 x12_4).f1), .slice A239_2 ((rd_T79 l0_0 x12_4).f2).length c239_2], .slice Ao32 x7_2.length co32] rfl qz4 ?_; (with_reducible refine (spec_l6Could.calls k4 ((rd_T79 l0_0 x12_4).f0) ((rd_T79 l0_0 x12_4).f1) _ _ ((rd_T79 l0_0 x12_4).f2) _ _ x7_2 t240 t243 _ ?side1 ?side2 ?side3 ?side4 A55.out).mono ?_); (case side1 => repeat (first | exact (Kd.C_below HR239_2.out HB.out) | (with_reducible refine Kd.C_alloc ?_ _) | (with_reducible refine Kd.C_drewN ?_ _) | (with_reducible refine Kd.C_drew ?_))); (case side2 => exact HC239_2.out); (case side3 => exact qz30); (case side4 => exact (Kd.R_reads' HO_7.out).2.1); rintro e w61 ⟨v241, rfl, ho0, hb⟩; refine ⟨_, rfl, ?_⟩; replace HO_7 := aM (Kd.R_below (rr_ HO_7.out) hb); replace HO_8 := aM (Kd.R_below (rr_ HO_8.out) hb); have HO242 := aM (Kd.R_lower (Kd.R_new' (Kd.R_new' ho0 (Kd.R_lt (rr_ HO_6.out))) (Kd.R_lt (rr_ HO_9.out))) (below_size qz1)); replace HO_6 := aM (Kd.R_elder' (rr_ HO_6.out) (Kd.R_base ho0) hb); replace HO_9 := aM (Kd.R_elder' (rr_ HO_9.out) (Kd.R_base ho0) hb); replace BK213 := bB_ BK213 hb; replace HB := bS_ hb; (try clear hb ho0); obtain ⟨Ao63, co63, eo63⟩ := Kd.R_slice HO242.out; subst eo63) | ((with_reducible refine gate_builtin (b := .append) (xs := #[.tmp 100, .tmp 101]) rfl ?_); at_builtin; refine Kd.R_append_rows k50 (w0 := w) w.heap.size rfl (.tmp 100) (.tmp 101) 43 50 (.agg #[(.int .i64 0), (.int .i64 0), (.int .i64 0)]) 24 rfl Try.underlying43 info50 rfl (by decide) (by omega) u9 x9_2 t240 _ _ _ (fun k_ => some k_ ≠ (v215 : Value).ownBlock ∧ some k_ ≠ (.slice Ao63 t240.length co63 : Value).ownBlock) (fun _ => False) rfl rfl ?aO ?aR (fun _ _ h => h) (fun _ h => h.elim) ?aF ?aB ?aS ?aL ?_; (case aR => repeat (first | exact (Kd.R_reads' HO242.out).2.2 | (with_reducible refine Kd.C_alloc ?_ _) | (with_reducible refine Kd.C_drewN ?_ _) | (with_reducible refine Kd.C_drew ?_))); (case aB => exact qz1); (case aF => exact (fun k_ hk => ⟨Kd.fresh' (Kd.R_lt (rr_ HO_6.out)) k_ hk, Kd.fresh' (Kd.R_lt (rr_ HO242.out)) k_ hk⟩)); (case aO => exact (rr_ HO_9.out)); (case aS => exact qz46); (case aL => have := LMc56.out; omega); intro v245 w62 ho hb hg hat; rw [← Ny244.out] at ho; replace HO_6 := aM (Kd.R_after (ok := (fun k_ => some k_ ≠ (.slice Ao63 t240.length co63 : Value).ownBlock)) (by (with_reducible repeat (first | apply Kd.R_alloc | apply Kd.R_drewN | apply Kd.R_drew)); exact Kd.R_mono HO_6.out (fun _ hk => ⟨hk.2, hk.1⟩)) hg hat); replace HO_7 := aM (Kd.R_over' (rr_ HO_7.out) (Kd.R_typed (rr_ HO_9.out)) (by decide) hg); replace HO_8 := aM (Kd.R_over' (rr_ HO_8.out) (Kd.R_typed (rr_ HO_9.out)) (by decide) hg); replace BK213 := aM (blk_grown (bk_ BK213.out) hg (Kd.R_ne HO_9.out BK213.out (by decide))); replace HO242 := aM (Kd.R_after (ok := (fun k_ => some k_ ≠ (v215 : Value).ownBlock)) (by (with_reducible repeat (first | apply Kd.R_alloc | apply Kd.R_drewN | apply Kd.R_drew)); exact Kd.R_mono HO242.out (fun _ hk => ⟨hk.1.2, hk.2⟩)) hg hat); replace HB := aM (hb); have HO246 := aM (ho); clear HO_9; clear ho hb hg hat))
         go_loopg [19] k4 (fun kq v19 w' => ∃ (x7_5 : List (S48)) (x19_5 : Int), v19 = .int .i64 x19_5 ∧ Aside0 (spec_Picks.l3 kq y214 x7_5 y238 y244 t240 x19_5 l0_0 = some (r1, r2)) ∧ Aside0 (kq ≤ k4) ∧ Aside0 (Kd.R k50 50 w' w.heap.size (fun k_ => some k_ ≠ (v245 : Value).ownBlock ∧ some k_ ≠ ((.slice Ao63 t240.length co63) : Value).ownBlock) v215 y214) ∧ Aside0 (Kd.R k48 48 w' w.heap.size (fun _ => True) (.slice Ao32 x7_2.length co32) x7_5) ∧ Aside0 (Kd.R Kd.bool 4 w' w.heap.size (fun _ => True) (.slice (some ⟨go53, 0, none⟩) x8_2.length co53) y238) ∧ Aside0 (Kd.R k50 50 w' w.heap.size (fun k_ => some k_ ≠ (v215 : Value).ownBlock ∧ some k_ ≠ ((.slice Ao63 t240.length co63) : Value).ownBlock) v245 y244) ∧ Aside0 (Kd.R k50 50 w' w.heap.size (fun k_ => some k_ ≠ (v215 : Value).ownBlock ∧ some k_ ≠ (v245 : Value).ownBlock) (.slice Ao63 t240.length co63) t240) ∧ Aside0 (w'.heap[gb213]? = some (.cells #[(.slice (some ad239) l0_0.length c0_0)] 26 (0, 0))) ∧ Aside0 (Below w.heap.size w w'))
         case atStart => exact ⟨(x7_2), (0), qz5, H', ⟨Nat.le_refl _⟩, ⟨by (with_reducible repeat (first | apply Kd.R_alloc | apply Kd.R_drewN | apply Kd.R_drew)); exact Kd.R_mono HO_6.out (fun _ hk => ⟨hk.2, hk.1⟩)⟩, ⟨rr_ HO_7.out⟩, ⟨rr_ HO_8.out⟩, ⟨rr_ HO246.out⟩, ⟨rr_ HO242.out⟩, ⟨bk_ BK213.out⟩, ⟨qz1⟩⟩
         case round =>
          clear H'
          try clear c1
          try clear c2
          try clear p2
          try clear q2
          try clear hx2
          try clear c3
          try clear q3
          try clear c4
          try clear c5
          try clear p5
          try clear q5
          try clear hx5
          try clear hf5
          try clear p6
          try clear c8
          try clear c15
          try clear c16
          try clear c17
          try clear c17b0
          try clear c17b1
          try clear c18
          try clear c18b0
          try clear c18b1
          try clear c23
          try clear p23
          try clear q23
          try clear hx23
          try clear c27
          try clear c27b0
          try clear c28
          try clear c28b0
          try clear c30
          try clear c30b0
          try clear c30b1
          try clear c33
          try clear c33b0
          try clear c34
          try clear c34b0
          try clear c36
          try clear c36b0
          try clear c37
          try clear q37
          try clear c38
          try clear c42
          try clear c42b0
          try clear c49
          try clear c49b0
          try clear c51
          try clear c51b0
          try clear c52
          try clear c52b0
          try clear p53
          try clear q53
          try clear hx53
          try clear hf53
          try clear c54
          try clear c54b0
          try clear c56
          try clear hcz10_0 hfz10_0
          try clear hcz13_0 hfz13_0
          try clear hcz22_0 hfz22_0
          try clear hcz39_0 hfz39_0
          try clear hcz43_0 hfz43_0
          try clear hcz46_0 hfz46_0
          try clear hcz50_0 hfz50_0
          try clear hcz57_0 hfz57_0
          try clear hcz60_0 hfz60_0
          try clear hx231_0
          try clear hx231_1
          try clear hx232_0
          try clear hx232_1
          try clear hx232_2
          try clear hx237_0
          try clear hx239_0
          try clear hx239_1
          try clear hx239_2
          try clear hx53_0
          try clear p231
          try clear p232
          try clear p237
          try clear p239
          try clear q231
          try clear q232
          try clear q237
          try clear q239
          obtain ⟨x7_5, x19_5, rfl, HA, HK5, HO_6, HO_7, HO_8, HO_9, HO_17, BK213, HB⟩ := hrel
          have hl7_5 := (Kd.R_reads' HO_7.out).1
          rw [hl7_5] at HO_7
          (try simp only [hl7_5])
          (try simp only [hl7_5] at BK213)
          (try simp only [hl7_5] at HO_6)
          (try simp only [hl7_5] at HO_8)
          (try simp only [hl7_5] at HO_9)
          (try simp only [hl7_5] at HO_17)
          have hl8_5 := (Kd.R_reads' HO_8.out).1
          rw [hl8_5] at HO_8
          (try simp only [hl8_5])
          (try simp only [hl8_5] at BK213)
          (try simp only [hl8_5] at HO_6)
          (try simp only [hl8_5] at HO_7)
          (try simp only [hl8_5] at HO_9)
          (try simp only [hl8_5] at HO_17)
          cases gk with
          | zero => exact absurd HA.out (by simp [spec_Picks.l3])
          | succ k5 =>
           have H := HA.out
           clear HA
           simp only [spec_Picks.l3] at H
           by_cases c64 : x19_5 < (t240.length : Int)
           {
           rw [if_pos c64] at H
           have c64b0 := decide_eq_true c64
           (try (have c64b0q7_5 := c64b0; simp only [hl7_5] at c64b0q7_5))
           (try (have c64b0q8_5 := c64b0; simp only [hl8_5] at c64b0q8_5))
           clear c64
           have H' := aM H
           clear H
           go_wp2
           go_loopg [20] k5 (fun kq v20 w' => ∃ (x7_6 : List (S48)) (x20_6 : Int), v20 = .int .i64 x20_6 ∧ Aside0 (spec_Picks.l4 kq y214 x7_6 y238 y244 t240 x19_5 x20_6 l0_0 = some (r1, r2)) ∧ Aside0 (kq ≤ k5) ∧ Aside0 (Kd.R k50 50 w' w.heap.size (fun k_ => some k_ ≠ (v245 : Value).ownBlock ∧ some k_ ≠ ((.slice Ao63 t240.length co63) : Value).ownBlock) v215 y214) ∧ Aside0 (Kd.R k48 48 w' w.heap.size (fun _ => True) (.slice Ao32 x7_5.length co32) x7_6) ∧ Aside0 (Kd.R Kd.bool 4 w' w.heap.size (fun _ => True) (.slice (some ⟨go53, 0, none⟩) y238.length co53) y238) ∧ Aside0 (Kd.R k50 50 w' w.heap.size (fun k_ => some k_ ≠ (v215 : Value).ownBlock ∧ some k_ ≠ ((.slice Ao63 t240.length co63) : Value).ownBlock) v245 y244) ∧ Aside0 (Kd.R k50 50 w' w.heap.size (fun k_ => some k_ ≠ (v215 : Value).ownBlock ∧ some k_ ≠ (v245 : Value).ownBlock) (.slice Ao63 t240.length co63) t240) ∧ Aside0 (w'.heap[gb213]? = some (.cells #[(.slice (some ad239) l0_0.length c0_0)] 26 (0, 0))) ∧ Aside0 (Below w.heap.size w w'))
           case atStart => exact ⟨(x7_5), (0), qz5, H', ⟨Nat.le_refl _⟩, ⟨by (try simp only [hl7_5]); (try simp only [hl8_5]); exact rr_ HO_6.out⟩, ⟨by (try simp only [hl7_5]); (try simp only [hl8_5]); exact rr_ HO_7.out⟩, ⟨by (try simp only [hl7_5]); (try simp only [hl8_5]); exact rr_ HO_8.out⟩, ⟨by (try simp only [hl7_5]); (try simp only [hl8_5]); exact rr_ HO_9.out⟩, ⟨by (try simp only [hl7_5]); (try simp only [hl8_5]); exact rr_ HO_17.out⟩, ⟨by (try simp only [hl7_5]); (try simp only [hl8_5]); exact bk_ BK213.out⟩, ⟨qz1⟩⟩
           case round =>
            clear H'
            try clear c1
            try clear c2
            try clear p2
            try clear q2
            try clear hx2
            try clear c3
            try clear q3
            try clear c4
            try clear c5
            try clear p5
            try clear q5
            try clear hx5
            try clear hf5
            try clear c6
            try clear p6
            try clear c8
            try clear c15
            try clear c16
            try clear c17
            try clear c17b0
            try clear c17b1
            try clear c18
            try clear c18b0
            try clear c18b1
            try clear c23
            try clear p23
            try clear q23
            try clear hx23
            try clear c27
            try clear c27b0
            try clear c28
            try clear c28b0
            try clear c30
            try clear c30b0
            try clear c30b1
            try clear c33
            try clear c33b0
            try clear c34
            try clear c34b0
            try clear c36
            try clear c36b0
            try clear c37
            try clear q37
            try clear c38
            try clear c42
            try clear c42b0
            try clear c49
            try clear c49b0
            try clear c51
            try clear c51b0
            try clear c52
            try clear c52b0
            try clear p53
            try clear q53
            try clear hx53
            try clear hf53
            try clear c54
            try clear c54b0
            try clear c56
            try clear c64
            try clear c64b0
            try clear p64
            try clear hcz10_0 hfz10_0
            try clear hcz13_0 hfz13_0
            try clear hcz22_0 hfz22_0
            try clear hcz39_0 hfz39_0
            try clear hcz43_0 hfz43_0
            try clear hcz46_0 hfz46_0
            try clear hcz50_0 hfz50_0
            try clear hcz57_0 hfz57_0
            try clear hcz60_0 hfz60_0
            try clear hx231_0
            try clear hx231_1
            try clear hx232_0
            try clear hx232_1
            try clear hx232_2
            try clear hx237_0
            try clear hx239_0
            try clear hx239_1
            try clear hx239_2
            try clear hx53_0
            try clear p231
            try clear p232
            try clear p237
            try clear p239
            try clear q231
            try clear q232
            try clear q237
            try clear q239
            obtain ⟨x7_6, x20_6, rfl, HA, HK6, HO_6, HO_7, HO_8, HO_9, HO_17, BK213, HB⟩ := hrel
            have hl7_6 := (Kd.R_reads' HO_7.out).1
            rw [hl7_6] at HO_7
            (try simp only [hl7_6])
            (try simp only [hl7_6] at BK213)
            (try simp only [hl7_6] at HO_6)
            (try simp only [hl7_6] at HO_8)
            (try simp only [hl7_6] at HO_9)
            (try simp only [hl7_6] at HO_17)
            cases gk with
            | zero => exact absurd HA.out (by simp [spec_Picks.l4])
            | succ k6 =>
             have H := HA.out
             clear HA
             simp only [spec_Picks.l4] at H
             by_cases c65 : x20_6 < (x7_6.length : Int)
             {
             rw [if_pos c65] at H
             have c65b0 := decide_eq_true c65
             (try (have c65b0q7_5 := c65b0; simp only [hl7_5] at c65b0q7_5))
             (try (have c65b0q8_5 := c65b0; simp only [hl8_5] at c65b0q8_5))
             (try (have c65b0q7_6 := c65b0; simp only [hl7_6] at c65b0q7_6))
             clear c65
             by_cases c66 : 0 ≤ x20_6
             {
             rw [if_pos c66] at H
             have c66b0 := decide_eq_true c66
             clear c66
             by_cases c67 : 0 ≤ x19_5
             {
             rw [if_pos c67] at H
             have c67b0 := decide_eq_true c67
             clear c67
             by_cases c68 : x19_5 < (t240.length : Int)
             {
             rw [if_pos c68] at H
             have c68b0 := decide_eq_true c68
             (try (have c68b0q7_5 := c68b0; simp only [hl7_5] at c68b0q7_5))
             (try (have c68b0q8_5 := c68b0; simp only [hl8_5] at c68b0q8_5))
             (try (have c68b0q7_6 := c68b0; simp only [hl7_6] at c68b0q7_6))
             clear c68
             by_cases c69 : ((rd_T48 x7_6 x20_6).f0) = ((rd_T50 t240 x19_5).f1)
             {
             rw [if_pos c69] at H
             have c69b0 := beq_iff_eq.mpr c69
             have c69b1 := bne_eq_false_iff_eq.mpr c69
             clear c69
             obtain ⟨y251, hy251⟩ : ∃ y_ : List (S48), y_ = (x7_6.set (x20_6 : Int).toNat (⟨(rd_T48 x7_6 x20_6).f0, wrap64 (((rd_T48 x7_6 x20_6).f1) - ((rd_T50 t240 x19_5).f2))⟩ : S48)) := ⟨_, rfl⟩
             replace H : (spec_Picks.l4 k6 y214 y251 y238 y244 t240 x19_5 (wrap64 (x20_6 + 1)) l0_0) = some (r1, r2) := by first | (rw [hy251]; with_reducible exact H) | (have H2_ := (Option.bind_some _ _).symm.trans H; rw [hy251]; with_reducible exact H2_) | (have H2_ := (Option.bind_some _ _).symm.trans H; with_reducible exact H2_) | with_reducible exact H | (rw [hy251]; exact H) | exact H
             have Ny251 := aM hy251
             clear hy251
             have H' := aM H
             clear H
             try go_wp2
             replace HO_6 := aM (Kd.R_drew HO_6.out)
             replace HO_7 := aM (Kd.R_drew HO_7.out)
             replace HO_8 := aM (Kd.R_drew HO_8.out)
             replace HO_9 := aM (Kd.R_drew HO_9.out)
             replace HO_17 := aM (Kd.R_drew HO_17.out)
             replace BK213 := aM (blk_drew BK213.out)
             replace HB := aM (below_drew1 HB.out)
             have p247 : 0 ≤ (x20_6 : Int) := dt_
             have q247 : x20_6 < (x7_6.length : Int) := dt_
             obtain ⟨ad247, e247, hx247_0, hx247_1⟩ := at_T48 (Kd.R_reads' HO_7.out).2.2 x20_6 p247 q247
             cases e247
             replace p247 := eq_true p247
             replace q247 := eq_true q247
             have p248 : 0 ≤ (x19_5 : Int) := dt_
             have q248 : x19_5 < (t240.length : Int) := dt_
             obtain ⟨ad248, e248, hx248_0, hx248_1, hx248_2⟩ := at_T50 (Kd.R_reads' HO_17.out).2.2 x19_5 p248 q248
             cases e248
             replace p248 := eq_true p248
             replace q248 := eq_true q248
             refine start_ (n := 11) (S := fun w' => w'.cell? (ad247.add ((x20_6).toNat * 2)) = some (.int .i64 ((rd_T48 x7_6 x20_6).f0)) ∧ w'.cell? ⟨(ad247.add ((x20_6).toNat * 2)).block, (ad247.add ((x20_6).toNat * 2)).off + 1, none⟩ = some (.int .i64 ((rd_T48 x7_6 x20_6).f1)) ∧ w'.cell? (ad248.add ((x19_5).toNat * 3)) = some (.int .i64 ((rd_T50 t240 x19_5).f0)) ∧ w'.cell? ⟨(ad248.add ((x19_5).toNat * 3)).block, (ad248.add ((x19_5).toNat * 3)).off + 1, none⟩ = some (.int .i64 ((rd_T50 t240 x19_5).f1)) ∧ w'.cell? ⟨(ad248.add ((x19_5).toNat * 3)).block, (ad248.add ((x19_5).toNat * 3)).off + 2, none⟩ = some (.int .i64 ((rd_T50 t240 x19_5).f2))) (ds := []) #[false, false, false, false, false, false, false, false, false, false, false] (by kernel_rfl) rfl rfl ⟨hx247_0, hx247_1, hx248_0, hx248_1, hx248_2⟩ (fun hHeld => ?_); refine with_tabW spec_Picks.tab34 spec_Picks.bits34 (fun HT_ HW_ => ?_)
             generalize wr.drew = w71 at HO_6 HO_7 HO_8 HO_9 HO_17 BK213 HB hx247_0 hx247_1 hx248_0 hx248_1 hx248_2 hHeld ⊢
             refine pI_ 0 115 (bqz 11 1) ?_
             refine jI_ 1 116 ?_
             refine jI_ 2 117 ?_
             refine jI_ 3 118 ?_
             refine jI_ 5 120 ?_
             refine jI_ 6 121 ?_
             refine jI_ 7 122 ?_
             refine jI_ 8 123 ?_
             refine sI5_ 4 119 ?_
             refine sI5_ 9 124 ?_
             refine jI_ 10 125 ?_
             refine done_ (done_of HT_.out (by kernel_rfl)) ?_
             try go_wp2
             replace HO_6 := aM (Kd.R_drew HO_6.out)
             replace HO_7 := aM (Kd.R_drew HO_7.out)
             replace HO_8 := aM (Kd.R_drew HO_8.out)
             replace HO_9 := aM (Kd.R_drew HO_9.out)
             replace HO_17 := aM (Kd.R_drew HO_17.out)
             replace BK213 := aM (blk_drew BK213.out)
             replace HB := aM (below_drew1 HB.out)
             have p249 : 0 ≤ (x20_6 : Int) := dt_
             have q249 : x20_6 < (x7_6.length : Int) := dt_
             obtain ⟨ad249, e249, hx249_0, hx249_1⟩ := at_T48 (Kd.R_reads' HO_7.out).2.2 x20_6 p249 q249
             obtain rfl : ad247 = ad249 := (by injection e249)
             replace p249 := eq_true p249
             replace q249 := eq_true q249
             have p250 : 0 ≤ (x19_5 : Int) := dt_
             have q250 : x19_5 < (t240.length : Int) := dt_
             obtain ⟨ad250, e250, hx250_0, hx250_1, hx250_2⟩ := at_T50 (Kd.R_reads' HO_17.out).2.2 x19_5 p250 q250
             obtain rfl : ad248 = ad250 := (by injection e250)
             replace p250 := eq_true p250
             replace q250 := eq_true q250
             have p70 : 0 ≤ (x20_6 : Int) := dt_
             have q70 : (x20_6 : Int) < ((x7_6.length : Int) : Int) := dt_
             obtain ⟨go70, co70, eo70, gb70, gl70, cl70, HG70⟩ := Kd.R_form HO_7.out (by omega)
             (first | cases eo70 | (injection eo70 with ea_ en_ ec_; (first | subst ea_ | (injection ea_ with ea_; subst ea_)); subst ec_; clear en_))
             have GB70 := aM gb70
             have GG70 := aM HG70
             clear gb70 gl70 HG70
             (first | simp only [add_plain] at hx247_0 | skip)
             (first | simp only [add_plain] at hx247_1 | skip)
             (first | simp only [add_plain] at hx249_0 | skip)
             (first | simp only [add_plain] at hx249_1 | skip)
             obtain ⟨ce70, hcl70, hM70, hcc70, hfr70⟩ := Kd.R_elem HO_7.out z48 (x20_6 : Int) p70 q70
             obtain rfl := k48_openM hM70
             have hx70_0 : World.cell? _ ⟨go70, (x20_6 : Int).toNat * 2, none⟩ = some (.int .i64 ((rd_T48 x7_6 x20_6).f0)) := hcc70 0 _ rfl
             have hx70_1 : World.cell? _ ⟨go70, (x20_6 : Int).toNat * 2 + 1, none⟩ = some (.int .i64 ((rd_T48 x7_6 x20_6).f1)) := hcc70 1 _ rfl
             have hf70_0 : World.frozen? _ ⟨go70, (x20_6 : Int).toNat * 2, none⟩ = false := hfr70 0
             have hf70_1 : World.frozen? _ ⟨go70, (x20_6 : Int).toNat * 2 + 1, none⟩ = false := hfr70 1
             clear hcl70 hcc70 hfr70; (try clear hM70)
             replace p70 := eq_true p70
             replace q70 := eq_true q70
             obtain ⟨ce73, hcl73, hM73, hcc73, hfr73⟩ := Kd.R_elem HO_7.out z48 (x20_6 : Int) (dt_) (by have h_ : (x20_6 : Int) < ((x7_6.length : Int) : Int) := dt_; first | exact h_ | (have e_ := (Kd.R_reads' HO_7.out).1; omega) | simpa using h_)
             obtain rfl := k48_openM hM73
             have HP73 := (Kd.R_seg HO_7.out (x20_6 : Int) (dt_) (by have h_ : (x20_6 : Int) < ((x7_6.length : Int) : Int) := dt_; first | exact h_ | (have e_ := (Kd.R_reads' HO_7.out).1; omega) | simpa using h_) (seg := [.int .i64 (wrap64 (((rd_T48 x7_6 x20_6).f1) - ((rd_T50 t240 x19_5).f2)))]) (j := 1) hcl73 hcc73 (show 2 ≤ 2 from by decide) (x' := (⟨(rd_T48 x7_6 x20_6).f0, wrap64 (((rd_T48 x7_6 x20_6).f1) - ((rd_T50 t240 x19_5).f2))⟩ : S48)) (k48_mkM _ _ _ (⟨(rd_T48 x7_6 x20_6).f0, wrap64 (((rd_T48 x7_6 x20_6).f1) - ((rd_T50 t240 x19_5).f2))⟩ : S48) ) (fun _ hk => hk)).1
             rw [← Ny251.out] at HP73
             have HQ73 := aM HP73
             clear hcl73 hcc73 hfr73; (try clear hM73); clear HP73
             refine start_ (n := 16) (S := fun w' => w'.cell? ⟨go70, ((x20_6).toNat * 2), none⟩ = some (.int .i64 ((rd_T48 x7_6 x20_6).f0)) ∧ w'.cell? ⟨go70, ((x20_6).toNat * 2) + 1, none⟩ = some (.int .i64 ((rd_T48 x7_6 x20_6).f1)) ∧ w'.cell? (ad248.add ((x19_5).toNat * 3)) = some (.int .i64 ((rd_T50 t240 x19_5).f0)) ∧ w'.cell? ⟨(ad248.add ((x19_5).toNat * 3)).block, (ad248.add ((x19_5).toNat * 3)).off + 1, none⟩ = some (.int .i64 ((rd_T50 t240 x19_5).f1)) ∧ w'.cell? ⟨(ad248.add ((x19_5).toNat * 3)).block, (ad248.add ((x19_5).toNat * 3)).off + 2, none⟩ = some (.int .i64 ((rd_T50 t240 x19_5).f2))) (ds := [15]) #[false, false, false, false, false, false, false, false, false, false, false, false, false, false, false, false] (by kernel_rfl) rfl rfl ⟨hx249_0, hx249_1, hx250_0, hx250_1, hx250_2⟩ (fun hHeld => ?_); refine with_tabW spec_Picks.tab35 spec_Picks.bits35 (fun HT_ HW_ => ?_)
             generalize w71.drew = w72 at HO_6 HO_7 HO_8 HO_9 HO_17 BK213 HB GG70 HQ73 hf70_0 hf70_1 hx247_0 hx247_1 hx249_0 hx249_1 hx250_0 hx250_1 hx250_2 hx70_0 hx70_1 hHeld ⊢
             refine pI_ 0 126 (bqz 16 1) ?_
             refine jI_ 1 127 ?_
             refine jI_ 2 128 ?_
             refine jI_ 3 129 ?_
             refine jI_ 4 130 ?_
             refine jI_ 5 131 ?_
             refine jI_ 7 133 ?_
             refine jI_ 8 134 ?_
             refine jI_ 9 135 ?_
             refine jI_ 10 136 ?_
             refine sI5_ 6 132 ?_
             refine sI5_ 11 137 ?_
             refine jI_ 12 138 ?_
             refine jI_ 13 139 ?_
             refine jI_ 14 140 ?_
             refine last_ (i := 15) (N := none) (bqz 16 65535) rfl rfl qzc (by decide) (fun K hK => ?_)
             refine sk_ ?_
             refine hK.out _ _ ?_
             clear hK K
             refine done_ (done_of HT_.out (by kernel_rfl)) ?_
             try go_wp2
             (try simp only [← hl7_6])
             go_roundg k6
             case measure => have := HJ2.out; have := HK2.out; have := HK3.out; have := HK4.out; have := HK5.out; have := HK6.out; omega
             case rel => exact ⟨(y251), (wrap64 (x20_6 + 1)), qz5, H', ⟨by have := HJ2.out; have := HK2.out; have := HK3.out; have := HK4.out; have := HK5.out; have := HK6.out; omega⟩, ⟨by (try simp only [hl7_5]); (try simp only [hl8_5]); (try simp only [hl7_6]); (with_reducible repeat (first | apply Kd.R_alloc | apply Kd.R_drewN | apply Kd.R_drew)); exact Kd.R_mono (Kd.R_far (p := ⟨go70, (x20_6 : Int).toNat * 2 + 1, none⟩) (Kd.R_types HO_6.out GG70.out (by decide)) (fun _ hk => hk.2) (.int .i64 (wrap64 (((rd_T48 x7_6 x20_6).f1) - ((rd_T50 t240 x19_5).f2))))) (fun _ hk => ⟨hk.1.1, hk.1.2⟩)⟩, ⟨by (try simp only [hl7_5]); (try simp only [hl8_5]); (try simp only [hl7_6]); exact rr_ HQ73.out⟩, ⟨by (try simp only [hl7_5]); (try simp only [hl8_5]); (try simp only [hl7_6]); (with_reducible repeat (first | apply Kd.R_alloc | apply Kd.R_drewN | apply Kd.R_drew)); exact Kd.R_mono (Kd.R_far (p := ⟨go70, (x20_6 : Int).toNat * 2 + 1, none⟩) (Kd.R_types HO_8.out GG70.out (by decide)) (fun _ hk => hk.2) (.int .i64 (wrap64 (((rd_T48 x7_6 x20_6).f1) - ((rd_T50 t240 x19_5).f2))))) (fun _ hk => trivial)⟩, ⟨by (try simp only [hl7_5]); (try simp only [hl8_5]); (try simp only [hl7_6]); (with_reducible repeat (first | apply Kd.R_alloc | apply Kd.R_drewN | apply Kd.R_drew)); exact Kd.R_mono (Kd.R_far (p := ⟨go70, (x20_6 : Int).toNat * 2 + 1, none⟩) (Kd.R_types HO_9.out GG70.out (by decide)) (fun _ hk => hk.2) (.int .i64 (wrap64 (((rd_T48 x7_6 x20_6).f1) - ((rd_T50 t240 x19_5).f2))))) (fun _ hk => ⟨hk.1.1, hk.1.2⟩)⟩, ⟨by (try simp only [hl7_5]); (try simp only [hl8_5]); (try simp only [hl7_6]); (with_reducible repeat (first | apply Kd.R_alloc | apply Kd.R_drewN | apply Kd.R_drew)); exact Kd.R_mono (Kd.R_far (p := ⟨go70, (x20_6 : Int).toNat * 2 + 1, none⟩) (Kd.R_types HO_17.out GG70.out (by decide)) (fun _ hk => hk.2) (.int .i64 (wrap64 (((rd_T48 x7_6 x20_6).f1) - ((rd_T50 t240 x19_5).f2))))) (fun _ hk => ⟨hk.1.1, hk.1.2⟩)⟩, ⟨by (try simp only [hl7_5]); (try simp only [hl8_5]); (try simp only [hl7_6]); (with_reducible repeat (first | refine blk_drewN ?_ _ | refine blk_drew ?_ | refine blk_alloc ?_ _)); refine blk_far ?_ (by have h_ := Kd.R_ne HO_7.out BK213.out (by decide); intro e_; exact h_ (by rw [e_]; rfl)) _; exact bk_ BK213.out⟩, ⟨qz1⟩⟩
             }
             {
             rw [if_neg c69] at H
             have c69b0 := beq_eq_false_iff_ne.mpr c69
             have c69b1 := bne_iff_ne.mpr c69
             have H' := aM H
             clear H
             try go_wp2
             replace HO_6 := aM (Kd.R_drew HO_6.out)
             replace HO_7 := aM (Kd.R_drew HO_7.out)
             replace HO_8 := aM (Kd.R_drew HO_8.out)
             replace HO_9 := aM (Kd.R_drew HO_9.out)
             replace HO_17 := aM (Kd.R_drew HO_17.out)
             replace BK213 := aM (blk_drew BK213.out)
             replace HB := aM (below_drew1 HB.out)
             have p247 : 0 ≤ (x20_6 : Int) := dt_
             have q247 : x20_6 < (x7_6.length : Int) := dt_
             obtain ⟨ad247, e247, hx247_0, hx247_1⟩ := at_T48 (Kd.R_reads' HO_7.out).2.2 x20_6 p247 q247
             cases e247
             replace p247 := eq_true p247
             replace q247 := eq_true q247
             have p248 : 0 ≤ (x19_5 : Int) := dt_
             have q248 : x19_5 < (t240.length : Int) := dt_
             obtain ⟨ad248, e248, hx248_0, hx248_1, hx248_2⟩ := at_T50 (Kd.R_reads' HO_17.out).2.2 x19_5 p248 q248
             cases e248
             replace p248 := eq_true p248
             replace q248 := eq_true q248
             refine start_ (n := 11) (S := fun w' => w'.cell? (ad247.add ((x20_6).toNat * 2)) = some (.int .i64 ((rd_T48 x7_6 x20_6).f0)) ∧ w'.cell? ⟨(ad247.add ((x20_6).toNat * 2)).block, (ad247.add ((x20_6).toNat * 2)).off + 1, none⟩ = some (.int .i64 ((rd_T48 x7_6 x20_6).f1)) ∧ w'.cell? (ad248.add ((x19_5).toNat * 3)) = some (.int .i64 ((rd_T50 t240 x19_5).f0)) ∧ w'.cell? ⟨(ad248.add ((x19_5).toNat * 3)).block, (ad248.add ((x19_5).toNat * 3)).off + 1, none⟩ = some (.int .i64 ((rd_T50 t240 x19_5).f1)) ∧ w'.cell? ⟨(ad248.add ((x19_5).toNat * 3)).block, (ad248.add ((x19_5).toNat * 3)).off + 2, none⟩ = some (.int .i64 ((rd_T50 t240 x19_5).f2))) (ds := []) #[false, false, false, false, false, false, false, false, false, false, false] (by kernel_rfl) rfl rfl ⟨hx247_0, hx247_1, hx248_0, hx248_1, hx248_2⟩ (fun hHeld => ?_); refine with_tabW spec_Picks.tab34 spec_Picks.bits34 (fun HT_ HW_ => ?_)
             generalize wr.drew = w74 at HO_6 HO_7 HO_8 HO_9 HO_17 BK213 HB hx247_0 hx247_1 hx248_0 hx248_1 hx248_2 hHeld ⊢
             refine pI_ 0 115 (bqz 11 1) ?_
             refine jI_ 1 116 ?_
             refine jI_ 2 117 ?_
             refine jI_ 3 118 ?_
             refine jI_ 5 120 ?_
             refine jI_ 6 121 ?_
             refine jI_ 7 122 ?_
             refine jI_ 8 123 ?_
             refine sI5_ 4 119 ?_
             refine sI5_ 9 124 ?_
             refine jI_ 10 125 ?_
             refine done_ (done_of HT_.out (by kernel_rfl)) ?_
             try go_wp2
             (try simp only [← hl7_6])
             go_roundg k6
             case measure => have := HJ2.out; have := HK2.out; have := HK3.out; have := HK4.out; have := HK5.out; have := HK6.out; omega
             case rel => exact ⟨(x7_6), (wrap64 (x20_6 + 1)), qz5, H', ⟨by have := HJ2.out; have := HK2.out; have := HK3.out; have := HK4.out; have := HK5.out; have := HK6.out; omega⟩, ⟨by (try simp only [hl7_5]); (try simp only [hl8_5]); (try simp only [hl7_6]); exact rm_ HO_6.out⟩, ⟨by (try simp only [hl7_5]); (try simp only [hl8_5]); (try simp only [hl7_6]); exact rm_ HO_7.out⟩, ⟨by (try simp only [hl7_5]); (try simp only [hl8_5]); (try simp only [hl7_6]); exact rm_ HO_8.out⟩, ⟨by (try simp only [hl7_5]); (try simp only [hl8_5]); (try simp only [hl7_6]); exact rm_ HO_9.out⟩, ⟨by (try simp only [hl7_5]); (try simp only [hl8_5]); (try simp only [hl7_6]); exact rm_ HO_17.out⟩, ⟨by (try simp only [hl7_5]); (try simp only [hl8_5]); (try simp only [hl7_6]); exact bk_ BK213.out⟩, ⟨qz1⟩⟩
             }
             }
             {
             exact an_ c68 H
             }
             }
             {
             exact an_ c67 H
             }
             }
             {
             exact an_ c66 H
             }
             }
             {
             rw [if_neg c65] at H
             have c65b0 := decide_eq_false c65
             (try (have c65b0q7_5 := c65b0; simp only [hl7_5] at c65b0q7_5))
             (try (have c65b0q8_5 := c65b0; simp only [hl8_5] at c65b0q8_5))
             (try (have c65b0q7_6 := c65b0; simp only [hl7_6] at c65b0q7_6))
             clear c65
             have H' := aM H
             clear H
             go_wp2
             (try simp only [← hl7_5, ← hl8_5, ← hl7_6])
             go_roundg k6
             case measure => have := HJ2.out; have := HK2.out; have := HK3.out; have := HK4.out; have := HK5.out; have := HK6.out; omega
             case rel => exact ⟨(x7_6), (wrap64 (x19_5 + 1)), qz5, H', ⟨by have := HJ2.out; have := HK2.out; have := HK3.out; have := HK4.out; have := HK5.out; have := HK6.out; omega⟩, ⟨by (try simp only [hl7_5]); (try simp only [hl8_5]); (try simp only [hl7_6]); exact rm_ HO_6.out⟩, ⟨by (try simp only [hl7_5]); (try simp only [hl8_5]); (try simp only [hl7_6]); exact rm_ HO_7.out⟩, ⟨by (try simp only [hl7_5]); (try simp only [hl8_5]); (try simp only [hl7_6]); exact rm_ HO_8.out⟩, ⟨by (try simp only [hl7_5]); (try simp only [hl8_5]); (try simp only [hl7_6]); exact rm_ HO_9.out⟩, ⟨by (try simp only [hl7_5]); (try simp only [hl8_5]); (try simp only [hl7_6]); exact rm_ HO_17.out⟩, ⟨by (try simp only [hl7_5]); (try simp only [hl8_5]); (try simp only [hl7_6]); exact bk_ BK213.out⟩, ⟨qz1⟩⟩
             }
           }
           {
           rw [if_neg c64] at H
           have c64b0 := decide_eq_false c64
           (try (have c64b0q7_5 := c64b0; simp only [hl7_5] at c64b0q7_5))
           (try (have c64b0q8_5 := c64b0; simp only [hl8_5] at c64b0q8_5))
           clear c64
           have H' := aM H
           clear H
           go_wp2
           (try simp only [← hl7_5, ← hl8_5])
           go_roundg k5
           case measure => have := HJ2.out; have := HK2.out; have := HK3.out; have := HK4.out; have := HK5.out; omega
           case rel => exact ⟨(x7_5), (y238), (y244), H', ⟨by have := HJ2.out; have := HK2.out; have := HK3.out; have := HK4.out; have := HK5.out; omega⟩, ⟨by (try simp only [hl7_5]); (try simp only [hl8_5]); (with_reducible repeat (first | apply Kd.R_alloc | apply Kd.R_drewN | apply Kd.R_drew)); exact Kd.R_mono HO_6.out (fun _ hk => hk.1)⟩, ⟨by (try simp only [hl7_5]); (try simp only [hl8_5]); exact rm_ HO_7.out⟩, ⟨by (try simp only [hl7_5]); (try simp only [hl8_5]); exact rm_ HO_8.out⟩, ⟨by (try simp only [hl7_5]); (try simp only [hl8_5]); (with_reducible repeat (first | apply Kd.R_alloc | apply Kd.R_drewN | apply Kd.R_drew)); exact Kd.R_mono HO_9.out (fun _ hk => hk.1)⟩, ⟨by (try simp only [hl7_5]); (try simp only [hl8_5]); exact bk_ BK213.out⟩, ⟨qz1⟩⟩
           }
         }
         {
         exact an_ c56 H
         }
         }
         {
         exact an_ c54 H
         }
         }
         {
         exact an_ c52 H
         }
         }
         {
         exact an_ c51 H
         }
         }
         }
       }
       }
   }
   {
   exact an_ c18 H
   }
   }
   {
   exact an_ c17 H
   }
   }
   {
   exact an_ c16 H

   }
   }
end Go.Proofs.Yteajnkondkfmgaa.PFnEach
