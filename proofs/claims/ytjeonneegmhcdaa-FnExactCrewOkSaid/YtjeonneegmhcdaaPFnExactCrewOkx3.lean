-- Made by a program of this session out of the translation. Lean checks it.
import Derived.Test.YtjeonneegmhcdaaPFnExactCrewOkx0
import Derived.Test.YtjeonneegmhcdaaPFnExactCrewOkx1
import Derived.Test.YtjeonneegmhcdaaPFnExactCrewOkx2
namespace Go.Proofs.Ytjeonneegmhcdaa.PFnExactCrewOk
open Go.RowKit Go.Proofs.YtjeonneegmhcdaaW.PrintWords Go.Proofs.YtjeonneegmhcdaaW.PrintLast Go.Proofs.YtjeonneegmhcdaaW.PrintMore
attribute [local go_sem] max2_int min2_int max_two min_two max_three min_three max_four min_four   -- for this text's walks alone
set_option linter.unusedVariables false
set_option linter.unusedSimpArgs false

/-! ### impl_CrewOk: function 52 -/
mutual
def impl_CrewOk.j0 : Nat → List (S34) → Bool → Int → Int → List Int → Option (Bool)
  | 0, _, _, _, _, _ => none
  | k + 1, x1, x16, x135000, x135001, x135002 => if x16 = true then (some false) else (impl_CrewOk.l0 k x1 x1 (x1.length : Int) 0 x135000 x135001 x135002)
def impl_CrewOk.l0 : Nat → List (S34) → List (S34) → Int → Int → Int → Int → List Int → Option (Bool)
  | 0, _, _, _, _, _, _, _ => none
  | k + 1, x1, x17, x18, x19, x135000, x135001, x135002 => if x19 < x18 then (if 0 ≤ x19 then (if x19 < (x17.length : Int) then ((impl_in.f ((rd_T34 x17 x19).f0) 1 99).bind fun t138 => (if t138 = true then (if x19 > 0 then (if 0 ≤ (wrap64 (x19 - 1)) then (if (wrap64 (x19 - 1)) < (x1.length : Int) then (if ((rd_T34 x1 (wrap64 (x19 - 1))).f0) ≥ ((rd_T34 x17 x19).f0) then (impl_CrewOk.j2 k x1 x19 x17 x18 x19 true x135000 x135001 x135002 ((rd_T34 x17 x19).f0) ((rd_T34 x17 x19).f1) ((rd_T34 x17 x19).f2) ((rd_T34 x17 x19).f3) ((rd_T34 x17 x19).f4)) else ((impl_standsOk.f k x135000 x135001 x135002 ((rd_T34 x17 x19).f0) ((rd_T34 x17 x19).f1) ((rd_T34 x17 x19).f2) ((rd_T34 x17 x19).f3) ((rd_T34 x17 x19).f4)).bind fun t140 => (if t140 = true then ((impl_in.f ((rd_T34 x17 x19).f4) 0 1000000).bind fun t141 => (impl_CrewOk.j2 k x1 x19 x17 x18 x19 (!t141) x135000 x135001 x135002 ((rd_T34 x17 x19).f0) ((rd_T34 x17 x19).f1) ((rd_T34 x17 x19).f2) ((rd_T34 x17 x19).f3) ((rd_T34 x17 x19).f4))) else (impl_CrewOk.j2 k x1 x19 x17 x18 x19 true x135000 x135001 x135002 ((rd_T34 x17 x19).f0) ((rd_T34 x17 x19).f1) ((rd_T34 x17 x19).f2) ((rd_T34 x17 x19).f3) ((rd_T34 x17 x19).f4))))) else (none)) else (none)) else ((impl_standsOk.f k x135000 x135001 x135002 ((rd_T34 x17 x19).f0) ((rd_T34 x17 x19).f1) ((rd_T34 x17 x19).f2) ((rd_T34 x17 x19).f3) ((rd_T34 x17 x19).f4)).bind fun t142 => (if t142 = true then ((impl_in.f ((rd_T34 x17 x19).f4) 0 1000000).bind fun t143 => (impl_CrewOk.j2 k x1 x19 x17 x18 x19 (!t143) x135000 x135001 x135002 ((rd_T34 x17 x19).f0) ((rd_T34 x17 x19).f1) ((rd_T34 x17 x19).f2) ((rd_T34 x17 x19).f3) ((rd_T34 x17 x19).f4))) else (impl_CrewOk.j2 k x1 x19 x17 x18 x19 true x135000 x135001 x135002 ((rd_T34 x17 x19).f0) ((rd_T34 x17 x19).f1) ((rd_T34 x17 x19).f2) ((rd_T34 x17 x19).f3) ((rd_T34 x17 x19).f4))))) else (impl_CrewOk.j2 k x1 x19 x17 x18 x19 true x135000 x135001 x135002 ((rd_T34 x17 x19).f0) ((rd_T34 x17 x19).f1) ((rd_T34 x17 x19).f2) ((rd_T34 x17 x19).f3) ((rd_T34 x17 x19).f4)))) else (none)) else (none)) else (some true)
def impl_CrewOk.j2 : Nat → List (S34) → Int → List (S34) → Int → Int → Bool → Int → Int → List Int → Int → Int → Int → Bool → Int → Option (Bool)
  | 0, _, _, _, _, _, _, _, _, _, _, _, _, _, _ => none
  | k + 1, x1, x5, x17, x18, x19, x54, x135000, x135001, x135002, x138000, x138001, x138002, x138003, x138004 => if x54 = true then (some false) else (if 0 ≤ x5 then (if x5 ≤ (x1.length : Int) then ((some (x1.take (x5 : Int).toNat : List (S34))).bind fun y144 => (impl_CrewOk.l1 k x1 x17 x18 x19 y144 (y144.length : Int) 0 x135000 x135001 x135002 x138000 x138001 x138002 x138003 x138004)) else (none)) else (none))
def impl_CrewOk.l1 : Nat → List (S34) → List (S34) → Int → Int → List (S34) → Int → Int → Int → Int → List Int → Int → Int → Int → Bool → Int → Option (Bool)
  | 0, _, _, _, _, _, _, _, _, _, _, _, _, _, _, _ => none
  | k + 1, x1, x17, x18, x19, x57, x58, x59, x135000, x135001, x135002, x138000, x138001, x138002, x138003, x138004 => if x59 < x58 then (if 0 ≤ x59 then (if x59 < (x57.length : Int) then (if ((rd_T34 x57 x59).f1) = x138001 then (some false) else (impl_CrewOk.l1 k x1 x17 x18 x19 x57 x58 (wrap64 (x59 + 1)) x135000 x135001 x135002 x138000 x138001 x138002 x138003 x138004)) else (none)) else (none)) else (impl_CrewOk.l0 k x1 x17 x18 (wrap64 (x19 + 1)) x135000 x135001 x135002)
end
def impl_CrewOk.f (k : Nat) (a0_0 : Int) (a0_1 : Int) (l0_2 : List Int) (l1 : List (S34)) : Option (Bool) := (impl_FloorOk.f k a0_0 a0_1 l0_2).bind fun t135 => (if t135 = true then (impl_CrewOk.j0 k l1 (decide ((l1.length : Int) > 20)) a0_0 a0_1 l0_2) else (impl_CrewOk.j0 k l1 true a0_0 a0_1 l0_2))
theorem impl_CrewOk.mono_l : ∀ k, (∀ y0 y1 y2 y3 y4, LeO (impl_CrewOk.j0 k y0 y1 y2 y3 y4) (impl_CrewOk.j0 (k + 1) y0 y1 y2 y3 y4)) ∧ (∀ y0 y1 y2 y3 y4 y5 y6, LeO (impl_CrewOk.l0 k y0 y1 y2 y3 y4 y5 y6) (impl_CrewOk.l0 (k + 1) y0 y1 y2 y3 y4 y5 y6)) ∧ (∀ y0 y1 y2 y3 y4 y5 y6 y7 y8 y9 y10 y11 y12 y13, LeO (impl_CrewOk.j2 k y0 y1 y2 y3 y4 y5 y6 y7 y8 y9 y10 y11 y12 y13) (impl_CrewOk.j2 (k + 1) y0 y1 y2 y3 y4 y5 y6 y7 y8 y9 y10 y11 y12 y13)) ∧ (∀ y0 y1 y2 y3 y4 y5 y6 y7 y8 y9 y10 y11 y12 y13 y14, LeO (impl_CrewOk.l1 k y0 y1 y2 y3 y4 y5 y6 y7 y8 y9 y10 y11 y12 y13 y14) (impl_CrewOk.l1 (k + 1) y0 y1 y2 y3 y4 y5 y6 y7 y8 y9 y10 y11 y12 y13 y14))
  | 0 => ⟨fun _ _ _ _ _ r h => by simp [impl_CrewOk.j0] at h, fun _ _ _ _ _ _ _ r h => by simp [impl_CrewOk.l0] at h, fun _ _ _ _ _ _ _ _ _ _ _ _ _ _ r h => by simp [impl_CrewOk.j2] at h, fun _ _ _ _ _ _ _ _ _ _ _ _ _ _ _ r h => by simp [impl_CrewOk.l1] at h⟩
  | k + 1 => by
    obtain ⟨ih0, ih1, ih2, ih3⟩ := impl_CrewOk.mono_l k
    refine ⟨?_, ?_, ?_, ?_⟩
    {
    intro y0 y1 y2 y3 y4
    unfold impl_CrewOk.j0
    repeat' first
    | (with_reducible exact ih0 _ _ _ _ _)
    | (with_reducible exact ih1 _ _ _ _ _ _ _)
    | (with_reducible exact ih2 _ _ _ _ _ _ _ _ _ _ _ _ _ _)
    | (with_reducible exact ih3 _ _ _ _ _ _ _ _ _ _ _ _ _ _ _)
    | (with_reducible exact impl_FloorOk.mono _ _ _ _)
    | (with_reducible exact impl_standsOk.mono _ _ _ _ _ _ _ _ _)
    | (with_reducible exact LeO.refl _)
    | (with_reducible exact LeO.none _)
    | (with_reducible refine LeO.ite ?_ ?_)
    | (with_reducible refine LeO.bind ?_ (fun _ => ?_))
    | exact ih0 _ _ _ _ _
    | exact ih1 _ _ _ _ _ _ _
    | exact ih2 _ _ _ _ _ _ _ _ _ _ _ _ _ _
    | exact ih3 _ _ _ _ _ _ _ _ _ _ _ _ _ _ _
    | exact impl_FloorOk.mono _ _ _ _
    | exact impl_standsOk.mono _ _ _ _ _ _ _ _ _
    | exact LeO.none _
    | refine LeO.ite ?_ ?_
    | refine LeO.bind ?_ (fun _ => ?_)
    }
    {
    intro y0 y1 y2 y3 y4 y5 y6
    unfold impl_CrewOk.l0
    repeat' first
    | (with_reducible exact ih0 _ _ _ _ _)
    | (with_reducible exact ih1 _ _ _ _ _ _ _)
    | (with_reducible exact ih2 _ _ _ _ _ _ _ _ _ _ _ _ _ _)
    | (with_reducible exact ih3 _ _ _ _ _ _ _ _ _ _ _ _ _ _ _)
    | (with_reducible exact impl_FloorOk.mono _ _ _ _)
    | (with_reducible exact impl_standsOk.mono _ _ _ _ _ _ _ _ _)
    | (with_reducible exact LeO.refl _)
    | (with_reducible exact LeO.none _)
    | (with_reducible refine LeO.ite ?_ ?_)
    | (with_reducible refine LeO.bind ?_ (fun _ => ?_))
    | exact ih0 _ _ _ _ _
    | exact ih1 _ _ _ _ _ _ _
    | exact ih2 _ _ _ _ _ _ _ _ _ _ _ _ _ _
    | exact ih3 _ _ _ _ _ _ _ _ _ _ _ _ _ _ _
    | exact impl_FloorOk.mono _ _ _ _
    | exact impl_standsOk.mono _ _ _ _ _ _ _ _ _
    | exact LeO.none _
    | refine LeO.ite ?_ ?_
    | refine LeO.bind ?_ (fun _ => ?_)
    }
    {
    intro y0 y1 y2 y3 y4 y5 y6 y7 y8 y9 y10 y11 y12 y13
    unfold impl_CrewOk.j2
    repeat' first
    | (with_reducible exact ih0 _ _ _ _ _)
    | (with_reducible exact ih1 _ _ _ _ _ _ _)
    | (with_reducible exact ih2 _ _ _ _ _ _ _ _ _ _ _ _ _ _)
    | (with_reducible exact ih3 _ _ _ _ _ _ _ _ _ _ _ _ _ _ _)
    | (with_reducible exact impl_FloorOk.mono _ _ _ _)
    | (with_reducible exact impl_standsOk.mono _ _ _ _ _ _ _ _ _)
    | (with_reducible exact LeO.refl _)
    | (with_reducible exact LeO.none _)
    | (with_reducible refine LeO.ite ?_ ?_)
    | (with_reducible refine LeO.bind ?_ (fun _ => ?_))
    | exact ih0 _ _ _ _ _
    | exact ih1 _ _ _ _ _ _ _
    | exact ih2 _ _ _ _ _ _ _ _ _ _ _ _ _ _
    | exact ih3 _ _ _ _ _ _ _ _ _ _ _ _ _ _ _
    | exact impl_FloorOk.mono _ _ _ _
    | exact impl_standsOk.mono _ _ _ _ _ _ _ _ _
    | exact LeO.none _
    | refine LeO.ite ?_ ?_
    | refine LeO.bind ?_ (fun _ => ?_)
    }
    {
    intro y0 y1 y2 y3 y4 y5 y6 y7 y8 y9 y10 y11 y12 y13 y14
    unfold impl_CrewOk.l1
    repeat' first
    | (with_reducible exact ih0 _ _ _ _ _)
    | (with_reducible exact ih1 _ _ _ _ _ _ _)
    | (with_reducible exact ih2 _ _ _ _ _ _ _ _ _ _ _ _ _ _)
    | (with_reducible exact ih3 _ _ _ _ _ _ _ _ _ _ _ _ _ _ _)
    | (with_reducible exact impl_FloorOk.mono _ _ _ _)
    | (with_reducible exact impl_standsOk.mono _ _ _ _ _ _ _ _ _)
    | (with_reducible exact LeO.refl _)
    | (with_reducible exact LeO.none _)
    | (with_reducible refine LeO.ite ?_ ?_)
    | (with_reducible refine LeO.bind ?_ (fun _ => ?_))
    | exact ih0 _ _ _ _ _
    | exact ih1 _ _ _ _ _ _ _
    | exact ih2 _ _ _ _ _ _ _ _ _ _ _ _ _ _
    | exact ih3 _ _ _ _ _ _ _ _ _ _ _ _ _ _ _
    | exact impl_FloorOk.mono _ _ _ _
    | exact impl_standsOk.mono _ _ _ _ _ _ _ _ _
    | exact LeO.none _
    | refine LeO.ite ?_ ?_
    | refine LeO.bind ?_ (fun _ => ?_)
    }
theorem impl_CrewOk.mono : ∀ a0 a1 a2 a3 k, LeO (impl_CrewOk.f k a0 a1 a2 a3) (impl_CrewOk.f (k + 1) a0 a1 a2 a3) := by
  intro a0 a1 a2 a3 k
  obtain ⟨ih0, ih1, ih2, ih3⟩ := impl_CrewOk.mono_l k
  unfold impl_CrewOk.f
  repeat' first
      | (with_reducible exact ih0 _ _ _ _ _)
      | (with_reducible exact ih1 _ _ _ _ _ _ _)
      | (with_reducible exact ih2 _ _ _ _ _ _ _ _ _ _ _ _ _ _)
      | (with_reducible exact ih3 _ _ _ _ _ _ _ _ _ _ _ _ _ _ _)
      | (with_reducible exact impl_FloorOk.mono _ _ _ _)
      | (with_reducible exact impl_standsOk.mono _ _ _ _ _ _ _ _ _)
      | (with_reducible exact LeO.refl _)
      | (with_reducible exact LeO.none _)
      | (with_reducible refine LeO.ite ?_ ?_)
      | (with_reducible refine LeO.bind ?_ (fun _ => ?_))
      | exact ih0 _ _ _ _ _
      | exact ih1 _ _ _ _ _ _ _
      | exact ih2 _ _ _ _ _ _ _ _ _ _ _ _ _ _
      | exact ih3 _ _ _ _ _ _ _ _ _ _ _ _ _ _ _
      | exact impl_FloorOk.mono _ _ _ _
      | exact impl_standsOk.mono _ _ _ _ _ _ _ _ _
      | exact LeO.none _
      | refine LeO.ite ?_ ?_
      | refine LeO.bind ?_ (fun _ => ?_)
def impl_CrewOk.T6 : Bool × List (List Nat × List Nat) := (true, [([], []), ([0], [0]), ([1], [1]), ([2], [2]), ([3, 2], [3]), ([4], [4]), ([5, 4], [4, 5]), ([6, 4, 4], [4, 6]), ([7], [7]), ([7], [7]), ([9, 7], [7, 9]), ([8, 10, 7], [7, 8, 10]), ([11, 7], [7, 11]), ([12, 7], [7, 12]), ([7], [7]), ([14, 7], [7, 14]), ([13, 15, 7], [7, 13, 15]), ([7, 16, 4], [4, 7, 16]), ([4, 17], [4, 17]), ([18, 7], [18]), ([19], [19]), ([19], [19]), ([20, 21, 19, 19], [19, 20, 21]), ([22, 19], [19, 22]), ([19, 23], [19, 23]), ([24, 22], [24]), ([25], [25]), ([26, 25], [25, 26]), ([27, 25, 25], [25, 27]), ([28, 25], [25, 28]), ([25, 29], [25, 29])])
def impl_CrewOk.B6 : List Nat := [0, 1, 3, 7, 15, 31, 63, 127, 255, 255, 767, 2047, 4095, 8191, 255, 16639, 65535, 131071, 262143, 524287, 1048575, 1048575, 4194303, 8388607, 16777215, 33554431, 67108863, 134217727, 268435455, 536870911, 1073741823]
theorem impl_CrewOk.tab6 : rtab .any (opsOf Try.f52 6) = impl_CrewOk.T6 := by kernel_rfl
theorem impl_CrewOk.bits6 : waitsOk impl_CrewOk.T6.2 impl_CrewOk.B6 = true := by kernel_rfl
set_option maxHeartbeats 8000000 in
set_option maxRecDepth 100000 in
theorem impl_CrewOk.calls (k : Nat) (a0_0 : Int) (a0_1 : Int) (A0_2 : Option Addr) (c0_2 : Nat) (l0_2 : List Int) (A1 : Option Addr) (c1 : Nat) (l1 : List (S34)) (r : Bool) (w : World) (hr0_2 : Kd.C (Kd.int .i64) w A0_2 l0_2.length l0_2) (hc0_2 : l0_2.length ≤ c0_2) (hr1 : Kd.C k34 w A1 l1.length l1) (hc1 : l1.length ≤ c1) (h : impl_CrewOk.f k a0_0 a0_1 l0_2 l1 = some r) :
    Calls Try.prog 52 #[.agg #[.int .i64 a0_0, .int .i64 a0_1, .slice A0_2 l0_2.length c0_2], .slice A1 l1.length c1] w fun e w' => e = .returned (.bool r) ∧ Below w.heap.size w w' := by
  have hu26 := Try.underlying26
  have hu34 := Try.underlying34
  have HR0_2 := Aside0.mk hr0_2
  have HC0_2 := Aside0.mk hc0_2
  clear hr0_2 hc0_2
  have HR1 := Aside0.mk hr1
  have HC1 := Aside0.mk hc1
  clear hr1 hc1
  have HB := Aside0.mk (Below.refl w.heap.size w)
  have H : ((impl_FloorOk.f k a0_0 a0_1 l0_2).bind fun t135 => (if t135 = true then (impl_CrewOk.j0 k l1 (decide ((l1.length : Int) > 20)) a0_0 a0_1 l0_2) else (impl_CrewOk.j0 k l1 true a0_0 a0_1 l0_2))) = some r := h
  clear h
  have HC3 := Aside0.mk H
  clear H
  go_enter Try.func52, Try.ntmps52
  go_upto_region 1 with (first | ((with_reducible refine gate_dst (N := 2) rfl ?_); (try (refine gate_guard (by rfl) ?_; dsimp only)); refine box_event ?hg (N := 2) ?hd (cs := #[.int .i64 a0_0, .int .i64 a0_1, .slice A0_2 l0_2.length c0_2]) (t := 26) ?hr ?_; (case hd => rfl); (case hg => rfl); (case hr => first | (go_simp; done) | (go_simp; rfl)); intro gb134 hg w4 hbox hb; have n0_ := Aside0.mk (below_step qz1 hb); have n1_ := Aside0.mk (hbox); have n2_ := Aside0.mk ((by rw [hg]; exact (below_size qz1) : w.heap.size ≤ gb134)); have n3_ := Aside0.mk ((by rw [hg]; exact (below_size qz1) : w.heap.size ≤ gb134)); clear HB; have HB := n0_; have BK134 := n1_; have GW134 := n2_; have GE134 := n3_; clear n0_ n1_ n2_ n3_; clear hb hbox hg))
  (try simp only [Act.put, List.setIfInBounds_toArray, List.set_cons_zero, List.set_cons_succ])
  go_cut [16] (fun v16 wc => ∃ (kq : Nat) (x16_2 : Bool), v16 = .bool x16_2 ∧ Aside0 (impl_CrewOk.j0 kq l1 x16_2 a0_0 a0_1 l0_2 = some r) ∧ Aside0 (kq ≤ k) ∧ Aside0 (wc.heap[gb134]? = some (.cells #[.int .i64 a0_0, .int .i64 a0_1, (.slice A0_2 l0_2.length c0_2)] 26 (0, 0))) ∧ Aside0 (Below w.heap.size w wc))
  case first =>
    have H := HC3.out
    clear HC3
    replace H := Option.bind_eq_some_iff.mp H
    obtain ⟨t135, A50, H⟩ := H
    replace H : (if t135 = true then (impl_CrewOk.j0 k l1 (decide ((l1.length : Int) > 20)) a0_0 a0_1 l0_2) else (impl_CrewOk.j0 k l1 true a0_0 a0_1 l0_2)) = some r := H
    have A5 := Aside0.mk A50
    clear A50
    by_cases c6 : t135 = true
    {
    subst c6
    have H1 : (impl_CrewOk.j0 k l1 (decide ((l1.length : Int) > 20)) a0_0 a0_1 l0_2) = some r := by rw [if_pos rfl] at H; exact H
    clear H
    have H := H1
    clear H1
    have H' := Aside0.mk H
    clear H
    have hcz7_0 : w4.cell? ⟨gb134, 0, none⟩ = some (.int .i64 a0_0) := (blk_cell BK134.out 0).trans rfl
    have hcz7_1 : w4.cell? ⟨gb134, 1, none⟩ = some (.int .i64 a0_1) := (blk_cell BK134.out 1).trans rfl
    have hcz7_2 : w4.cell? ⟨gb134, 2, none⟩ = some (.slice A0_2 l0_2.length c0_2) := (blk_cell BK134.out 2).trans rfl
    have hfz7_0 := blk_frozen BK134.out 0
    have hfz7_1 := blk_frozen BK134.out 1
    have hfz7_2 := blk_frozen BK134.out 2
    go_wp2_with (first | ((with_reducible refine gate_callee (f := 65) rfl ?_); refine goesL_ (some 10) rfl rfl Try.func65 (by kernel_rfl) rfl #[.agg #[.int .i64 a0_0, .int .i64 a0_1, .slice A0_2 l0_2.length c0_2]] rfl qz2 ?_; (with_reducible refine (impl_FloorOk.calls k a0_0 a0_1 _ _ l0_2 true _ ?side1 ?side2 A5.out).mono ?_); (case side1 => repeat (first | exact (Kd.C_below HR0_2.out HB.out) | (with_reducible refine Kd.C_alloc ?_ _) | (with_reducible refine Kd.C_drewN ?_ _) | (with_reducible refine Kd.C_drew ?_))); (case side2 => exact HC0_2.out); rintro e w8 ⟨rfl, hb⟩; refine ⟨_, rfl, ?_⟩; have n0_ := Aside0.mk (blk_below (g := gb134) (o := .cells #[.int .i64 a0_0, .int .i64 a0_1, .slice A0_2 l0_2.length c0_2] 26 (0, 0)) qz16 hb); have n1_ := Aside0.mk (below_step (by repeat (first | (with_reducible first | exact HB.out | apply below_alloc | apply pw_below_drewN | apply below_drew1 | refine below_set ?_ GE134.out) | exact HB.out)) hb); clear BK134; clear HB; have BK134 := n0_; have HB := n1_; clear n0_ n1_; (try clear hb); (try clear hb2); (try clear hk); (try clear hi)))
    go_meet
    case rel => exact ⟨_, (decide ((l1.length : Int) > 20)), qz14, H', ⟨by first | omega | exact Nat.le_refl _⟩, ⟨by (with_reducible repeat (first | refine blk_drewN ?_ _ | refine blk_drew ?_ | refine blk_alloc ?_ _)); exact BK134.out⟩, ⟨by repeat (first | (with_reducible first | exact HB.out | apply below_alloc | apply pw_below_drewN | apply below_drew1 | refine below_set ?_ GE134.out) | exact HB.out)⟩⟩
    }
    {
    replace c6 := Bool.eq_false_iff.mpr c6
    subst c6
    have H1 : (impl_CrewOk.j0 k l1 true a0_0 a0_1 l0_2) = some r := by rw [if_neg (show ¬ (false = true) by decide)] at H; exact H
    clear H
    have H := H1
    clear H1
    have H' := Aside0.mk H
    clear H
    have hcz9_0 : w4.cell? ⟨gb134, 0, none⟩ = some (.int .i64 a0_0) := (blk_cell BK134.out 0).trans rfl
    have hcz9_1 : w4.cell? ⟨gb134, 1, none⟩ = some (.int .i64 a0_1) := (blk_cell BK134.out 1).trans rfl
    have hcz9_2 : w4.cell? ⟨gb134, 2, none⟩ = some (.slice A0_2 l0_2.length c0_2) := (blk_cell BK134.out 2).trans rfl
    have hfz9_0 := blk_frozen BK134.out 0
    have hfz9_1 := blk_frozen BK134.out 1
    have hfz9_2 := blk_frozen BK134.out 2
    go_wp2_with (first | ((with_reducible refine gate_callee (f := 65) rfl ?_); refine goesL_ (some 10) rfl rfl Try.func65 (by kernel_rfl) rfl #[.agg #[.int .i64 a0_0, .int .i64 a0_1, .slice A0_2 l0_2.length c0_2]] rfl qz2 ?_; (with_reducible refine (impl_FloorOk.calls k a0_0 a0_1 _ _ l0_2 false _ ?side1 ?side2 A5.out).mono ?_); (case side1 => repeat (first | exact (Kd.C_below HR0_2.out HB.out) | (with_reducible refine Kd.C_alloc ?_ _) | (with_reducible refine Kd.C_drewN ?_ _) | (with_reducible refine Kd.C_drew ?_))); (case side2 => exact HC0_2.out); rintro e w10 ⟨rfl, hb⟩; refine ⟨_, rfl, ?_⟩; have n0_ := Aside0.mk (blk_below (g := gb134) (o := .cells #[.int .i64 a0_0, .int .i64 a0_1, .slice A0_2 l0_2.length c0_2] 26 (0, 0)) qz16 hb); have n1_ := Aside0.mk (below_step (by repeat (first | (with_reducible first | exact HB.out | apply below_alloc | apply pw_below_drewN | apply below_drew1 | refine below_set ?_ GE134.out) | exact HB.out)) hb); clear BK134; clear HB; have BK134 := n0_; have HB := n1_; clear n0_ n1_; (try clear hb); (try clear hb2); (try clear hk); (try clear hi)))
    go_meet
    case rel => exact ⟨_, (true), qz14, H', ⟨by first | omega | exact Nat.le_refl _⟩, ⟨by (with_reducible repeat (first | refine blk_drewN ?_ _ | refine blk_drew ?_ | refine blk_alloc ?_ _)); exact BK134.out⟩, ⟨by repeat (first | (with_reducible first | exact HB.out | apply below_alloc | apply pw_below_drewN | apply below_drew1 | refine below_set ?_ GE134.out) | exact HB.out)⟩⟩
    }
  case rest =>
    clear HC3
    try clear c1
    try clear p2
    try clear c5
    try clear c6
    try clear hcz7_0
    try clear hcz7_1
    try clear hcz7_2
    try clear hcz9_0
    try clear hcz9_1
    try clear hcz9_2
    try clear hfz7_0
    try clear hfz7_1
    try clear hfz7_2
    try clear hfz9_0
    try clear hfz9_1
    try clear hfz9_2
    obtain ⟨kq, x16_2, rfl, HA, HJ2, BK134, HB⟩ := hcut
    cases kq with
    | zero => exact absurd HA.out (by simp [impl_CrewOk.j0])
    | succ kj2 =>
      have H := HA.out
      clear HA
      simp only [impl_CrewOk.j0] at H
      by_cases c11 : x16_2 = true
      {
      subst c11
      have H1 : (some false) = some r := by rw [if_pos rfl] at H; exact H
      clear H
      have H := H1
      clear H1
      obtain rfl := Option.some.inj H
      simp only [Option.some.injEq, Prod.mk.injEq] at H
      obtain ⟨rfl⟩ := H
      go_wp2
      go_ret
      exact ⟨by first | rfl | (simp [errW_none, errW_some] <;> rfl) | (simp [*, errW_none, errW_some] <;> rfl), by repeat (first | (with_reducible first | exact HB.out | apply below_alloc | apply pw_below_drewN | apply below_drew1 | refine below_set ?_ GE134.out) | exact HB.out)⟩
      }
      {
      replace c11 := Bool.eq_false_iff.mpr c11
      subst c11
      have H1 : (impl_CrewOk.l0 kj2 l1 l1 (l1.length : Int) 0 a0_0 a0_1 l0_2) = some r := by rw [if_neg (show ¬ (false = true) by decide)] at H; exact H
      clear H
      have H := H1
      clear H1
      have H' := Aside0.mk H
      clear H
      go_wp2
      go_loopg [19] kj2 (fun kq v19 w' => ∃ (x19_2 : Int), v19 = .int .i64 x19_2 ∧ Aside0 (impl_CrewOk.l0 kq l1 l1 (l1.length : Int) x19_2 a0_0 a0_1 l0_2 = some r) ∧ Aside0 (kq ≤ kj2) ∧ Aside0 (w'.heap[gb134]? = some (.cells #[.int .i64 a0_0, .int .i64 a0_1, (.slice A0_2 l0_2.length c0_2)] 26 (0, 0))) ∧ Aside0 (Below w.heap.size w w'))
      case atStart => exact ⟨(0), qz14, H', ⟨Nat.le_refl _⟩, ⟨by (with_reducible repeat (first | refine blk_drewN ?_ _ | refine blk_drew ?_ | refine blk_alloc ?_ _)); exact BK134.out⟩, ⟨by repeat (first | (with_reducible first | exact HB.out | apply below_alloc | apply pw_below_drewN | apply below_drew1 | refine below_set ?_ GE134.out) | exact HB.out)⟩⟩
      case round =>
        clear H'
        try clear c1
        try clear p2
        try clear c5
        try clear c6
        try clear c11
        try clear hcz7_0
        try clear hcz7_1
        try clear hcz7_2
        try clear hcz9_0
        try clear hcz9_1
        try clear hcz9_2
        try clear hfz7_0
        try clear hfz7_1
        try clear hfz7_2
        try clear hfz9_0
        try clear hfz9_1
        try clear hfz9_2
        try clear p2
        obtain ⟨x19_2, rfl, HA, HK2, BK134, HB⟩ := hrel
        cases gk with
        | zero => exact absurd HA.out (by simp [impl_CrewOk.l0])
        | succ k2 =>
          have H := HA.out
          clear HA
          simp only [impl_CrewOk.l0] at H
          by_cases c12 : x19_2 < (l1.length : Int)
          {
          rw [if_pos c12] at H
          have c12b0 : decide (x19_2 < (l1.length : Int)) = true := decide_eq_true c12
          clear c12
          by_cases c13 : 0 ≤ x19_2
          {
          rw [if_pos c13] at H
          have c13b0 : decide (0 ≤ x19_2) = true := decide_eq_true c13
          clear c13
          by_cases c14 : x19_2 < (l1.length : Int)
          {
          rw [if_pos c14] at H
          have c14b0 : decide (x19_2 < (l1.length : Int)) = true := decide_eq_true c14
          clear c14
          have HC15 := Aside0.mk H
          clear H
          have p136 : 0 ≤ (x19_2 : Int) := of_decide_eq_true qz7
          have q136 : x19_2 < (l1.length : Int) := of_decide_eq_true qz7
          obtain ⟨ad136, e136, hx136_0, hx136_1, hx136_2, hx136_3, hx136_4⟩ := at_T34 HR1.out x19_2 p136 q136
          cases e136
          replace hx136_0 := (HB.out.cell (World.block_lt_of_cell? w _ hx136_0)).trans hx136_0
          replace hx136_1 := (HB.out.cell (World.block_lt_of_cell? w _ hx136_1)).trans hx136_1
          replace hx136_2 := (HB.out.cell (World.block_lt_of_cell? w _ hx136_2)).trans hx136_2
          replace hx136_3 := (HB.out.cell (World.block_lt_of_cell? w _ hx136_3)).trans hx136_3
          replace hx136_4 := (HB.out.cell (World.block_lt_of_cell? w _ hx136_4)).trans hx136_4
          replace p136 := eq_true p136
          replace q136 := eq_true q136
          go_upto_region 6 with (first | ((with_reducible refine gate_dst (N := 6) rfl ?_); (try (refine gate_guard (by rfl) ?_; dsimp only)); refine box_event ?hg (N := 6) ?hd (cs := #[.int .i64 0, .int .i64 0, .int .i64 0, .bool false, .int .i64 0]) (t := 34) ?hr ?_; (case hd => rfl); (case hg => rfl); (case hr => first | (go_simp; done) | (go_simp; rfl)); intro gb137 hg w16 hbox hb; have n0_ := Aside0.mk (blk_below (g := gb134) (o := .cells #[.int .i64 a0_0, .int .i64 a0_1, .slice A0_2 l0_2.length c0_2] 26 (0, 0)) qz16 hb); have n1_ := Aside0.mk (below_step (by repeat (first | (with_reducible first | exact HB.out | apply below_alloc | apply pw_below_drewN | apply below_drew1 | refine below_set ?_ GE134.out) | exact HB.out)) hb); have n2_ := Aside0.mk (hbox); have n3_ := Aside0.mk ((by rw [hg]; exact (below_size (by repeat (first | (with_reducible first | exact HB.out | apply below_alloc | apply pw_below_drewN | apply below_drew1 | refine below_set ?_ GE134.out) | exact HB.out))) : w.heap.size ≤ gb137)); have n4_ := Aside0.mk ((by rw [hg]; exact (below_size (by repeat (first | (with_reducible first | exact HB.out | apply below_alloc | apply pw_below_drewN | apply below_drew1 | refine below_set ?_ GE134.out) | exact HB.out))) : w.heap.size ≤ gb137)); have n5_ := Aside0.mk ((by rw [hg]; exact Nat.ne_of_lt (blk_lt (g := gb134) (o := .cells #[.int .i64 a0_0, .int .i64 a0_1, .slice A0_2 l0_2.length c0_2] 26 (0, 0)) qz16) : gb134 ≠ gb137)); have n6_ := Aside0.mk ((by rw [hg]; exact Nat.ne_of_gt (blk_lt (g := gb134) (o := .cells #[.int .i64 a0_0, .int .i64 a0_1, .slice A0_2 l0_2.length c0_2] 26 (0, 0)) qz16) : gb137 ≠ gb134)); clear BK134; clear HB; have BK134 := n0_; have HB := n1_; have BK137 := n2_; have GW137 := n3_; have GE137 := n4_; have NB134_137 := n5_; have NB137_134 := n6_; clear n0_ n1_ n2_ n3_ n4_ n5_ n6_; clear hb hbox hg; have hnb17 := NB137_134.out; have hnc17 := NB134_137.out; have hcz18_0 : w16.cell? ⟨gb137, 0, none⟩ = some (.int .i64 0) := (blk_cell BK137.out 0).trans rfl; have hcz18_1 : w16.cell? ⟨gb137, 1, none⟩ = some (.int .i64 0) := (blk_cell BK137.out 1).trans rfl; have hcz18_2 : w16.cell? ⟨gb137, 2, none⟩ = some (.int .i64 0) := (blk_cell BK137.out 2).trans rfl; have hcz18_3 : w16.cell? ⟨gb137, 3, none⟩ = some (.bool false) := (blk_cell BK137.out 3).trans rfl; have hcz18_4 : w16.cell? ⟨gb137, 4, none⟩ = some (.int .i64 0) := (blk_cell BK137.out 4).trans rfl; have hfz18_0 := blk_frozen BK137.out 0; have hfz18_1 := blk_frozen BK137.out 1; have hfz18_2 := blk_frozen BK137.out 2; have hfz18_3 := blk_frozen BK137.out 3; have hfz18_4 := blk_frozen BK137.out 4))
          (try simp only [Act.put, List.setIfInBounds_toArray, List.set_cons_zero, List.set_cons_succ])
          go_cut [54] (fun v54 wc => ∃ (kq : Nat) (x54_14 : Bool), v54 = .bool x54_14 ∧ Aside0 (impl_CrewOk.j2 kq l1 x19_2 l1 (l1.length : Int) x19_2 x54_14 a0_0 a0_1 l0_2 ((rd_T34 l1 x19_2).f0) ((rd_T34 l1 x19_2).f1) ((rd_T34 l1 x19_2).f2) ((rd_T34 l1 x19_2).f3) ((rd_T34 l1 x19_2).f4) = some r) ∧ Aside0 (kq ≤ k2) ∧ Aside0 (wc.heap[gb134]? = some (.cells #[.int .i64 a0_0, .int .i64 a0_1, (.slice A0_2 l0_2.length c0_2)] 26 (0, 0))) ∧ Aside0 (wc.heap[gb137]? = some (.cells #[.int .i64 ((rd_T34 l1 x19_2).f0), .int .i64 ((rd_T34 l1 x19_2).f1), .int .i64 ((rd_T34 l1 x19_2).f2), .bool ((rd_T34 l1 x19_2).f3), .int .i64 ((rd_T34 l1 x19_2).f4)] 34 (0, 0))) ∧ Aside0 (Below w.heap.size w wc))
          case first =>
            have H := HC15.out
            clear HC15
            replace H := Option.bind_eq_some_iff.mp H
            obtain ⟨t138, A190, H⟩ := H
            replace H : (if t138 = true then (if x19_2 > 0 then (if 0 ≤ (wrap64 (x19_2 - 1)) then (if (wrap64 (x19_2 - 1)) < (l1.length : Int) then (if ((rd_T34 l1 (wrap64 (x19_2 - 1))).f0) ≥ ((rd_T34 l1 x19_2).f0) then (impl_CrewOk.j2 k2 l1 x19_2 l1 (l1.length : Int) x19_2 true a0_0 a0_1 l0_2 ((rd_T34 l1 x19_2).f0) ((rd_T34 l1 x19_2).f1) ((rd_T34 l1 x19_2).f2) ((rd_T34 l1 x19_2).f3) ((rd_T34 l1 x19_2).f4)) else ((impl_standsOk.f k2 a0_0 a0_1 l0_2 ((rd_T34 l1 x19_2).f0) ((rd_T34 l1 x19_2).f1) ((rd_T34 l1 x19_2).f2) ((rd_T34 l1 x19_2).f3) ((rd_T34 l1 x19_2).f4)).bind fun t140 => (if t140 = true then ((impl_in.f ((rd_T34 l1 x19_2).f4) 0 1000000).bind fun t141 => (impl_CrewOk.j2 k2 l1 x19_2 l1 (l1.length : Int) x19_2 (!t141) a0_0 a0_1 l0_2 ((rd_T34 l1 x19_2).f0) ((rd_T34 l1 x19_2).f1) ((rd_T34 l1 x19_2).f2) ((rd_T34 l1 x19_2).f3) ((rd_T34 l1 x19_2).f4))) else (impl_CrewOk.j2 k2 l1 x19_2 l1 (l1.length : Int) x19_2 true a0_0 a0_1 l0_2 ((rd_T34 l1 x19_2).f0) ((rd_T34 l1 x19_2).f1) ((rd_T34 l1 x19_2).f2) ((rd_T34 l1 x19_2).f3) ((rd_T34 l1 x19_2).f4))))) else (none)) else (none)) else ((impl_standsOk.f k2 a0_0 a0_1 l0_2 ((rd_T34 l1 x19_2).f0) ((rd_T34 l1 x19_2).f1) ((rd_T34 l1 x19_2).f2) ((rd_T34 l1 x19_2).f3) ((rd_T34 l1 x19_2).f4)).bind fun t142 => (if t142 = true then ((impl_in.f ((rd_T34 l1 x19_2).f4) 0 1000000).bind fun t143 => (impl_CrewOk.j2 k2 l1 x19_2 l1 (l1.length : Int) x19_2 (!t143) a0_0 a0_1 l0_2 ((rd_T34 l1 x19_2).f0) ((rd_T34 l1 x19_2).f1) ((rd_T34 l1 x19_2).f2) ((rd_T34 l1 x19_2).f3) ((rd_T34 l1 x19_2).f4))) else (impl_CrewOk.j2 k2 l1 x19_2 l1 (l1.length : Int) x19_2 true a0_0 a0_1 l0_2 ((rd_T34 l1 x19_2).f0) ((rd_T34 l1 x19_2).f1) ((rd_T34 l1 x19_2).f2) ((rd_T34 l1 x19_2).f3) ((rd_T34 l1 x19_2).f4))))) else (impl_CrewOk.j2 k2 l1 x19_2 l1 (l1.length : Int) x19_2 true a0_0 a0_1 l0_2 ((rd_T34 l1 x19_2).f0) ((rd_T34 l1 x19_2).f1) ((rd_T34 l1 x19_2).f2) ((rd_T34 l1 x19_2).f3) ((rd_T34 l1 x19_2).f4))) = some r := H
            have A19 := Aside0.mk A190
            clear A190
            by_cases c20 : t138 = true
            {
            subst c20
            have H1 : (if x19_2 > 0 then (if 0 ≤ (wrap64 (x19_2 - 1)) then (if (wrap64 (x19_2 - 1)) < (l1.length : Int) then (if ((rd_T34 l1 (wrap64 (x19_2 - 1))).f0) ≥ ((rd_T34 l1 x19_2).f0) then (impl_CrewOk.j2 k2 l1 x19_2 l1 (l1.length : Int) x19_2 true a0_0 a0_1 l0_2 ((rd_T34 l1 x19_2).f0) ((rd_T34 l1 x19_2).f1) ((rd_T34 l1 x19_2).f2) ((rd_T34 l1 x19_2).f3) ((rd_T34 l1 x19_2).f4)) else ((impl_standsOk.f k2 a0_0 a0_1 l0_2 ((rd_T34 l1 x19_2).f0) ((rd_T34 l1 x19_2).f1) ((rd_T34 l1 x19_2).f2) ((rd_T34 l1 x19_2).f3) ((rd_T34 l1 x19_2).f4)).bind fun t140 => (if t140 = true then ((impl_in.f ((rd_T34 l1 x19_2).f4) 0 1000000).bind fun t141 => (impl_CrewOk.j2 k2 l1 x19_2 l1 (l1.length : Int) x19_2 (!t141) a0_0 a0_1 l0_2 ((rd_T34 l1 x19_2).f0) ((rd_T34 l1 x19_2).f1) ((rd_T34 l1 x19_2).f2) ((rd_T34 l1 x19_2).f3) ((rd_T34 l1 x19_2).f4))) else (impl_CrewOk.j2 k2 l1 x19_2 l1 (l1.length : Int) x19_2 true a0_0 a0_1 l0_2 ((rd_T34 l1 x19_2).f0) ((rd_T34 l1 x19_2).f1) ((rd_T34 l1 x19_2).f2) ((rd_T34 l1 x19_2).f3) ((rd_T34 l1 x19_2).f4))))) else (none)) else (none)) else ((impl_standsOk.f k2 a0_0 a0_1 l0_2 ((rd_T34 l1 x19_2).f0) ((rd_T34 l1 x19_2).f1) ((rd_T34 l1 x19_2).f2) ((rd_T34 l1 x19_2).f3) ((rd_T34 l1 x19_2).f4)).bind fun t142 => (if t142 = true then ((impl_in.f ((rd_T34 l1 x19_2).f4) 0 1000000).bind fun t143 => (impl_CrewOk.j2 k2 l1 x19_2 l1 (l1.length : Int) x19_2 (!t143) a0_0 a0_1 l0_2 ((rd_T34 l1 x19_2).f0) ((rd_T34 l1 x19_2).f1) ((rd_T34 l1 x19_2).f2) ((rd_T34 l1 x19_2).f3) ((rd_T34 l1 x19_2).f4))) else (impl_CrewOk.j2 k2 l1 x19_2 l1 (l1.length : Int) x19_2 true a0_0 a0_1 l0_2 ((rd_T34 l1 x19_2).f0) ((rd_T34 l1 x19_2).f1) ((rd_T34 l1 x19_2).f2) ((rd_T34 l1 x19_2).f3) ((rd_T34 l1 x19_2).f4))))) = some r := by rw [if_pos rfl] at H; exact H
            clear H
            have H := H1
            clear H1
            by_cases c21 : x19_2 > 0
            {
            rw [if_pos c21] at H
            have c21b0 : decide (0 < x19_2) = true := decide_eq_true c21
            clear c21
            (first | rw [c21b0] | (simp only [i64_w, i32_w]; rw [c21b0]) | rw [@decide_eq_true _ _ (of_decide_eq_true c21b0)] | rw [@decide_eq_true _ _ (of_decide_eq_true c21b1)] | skip)
            obtain ⟨ji22, hji22⟩ : ∃ j_ : Int, (wrap64 (x19_2 - 1)) = j_ := ⟨_, rfl⟩
            replace H : (if 0 ≤ (ji22) then (if (ji22) < (l1.length : Int) then (if ((rd_T34 l1 (ji22)).f0) ≥ ((rd_T34 l1 x19_2).f0) then (impl_CrewOk.j2 k2 l1 x19_2 l1 (l1.length : Int) x19_2 true a0_0 a0_1 l0_2 ((rd_T34 l1 x19_2).f0) ((rd_T34 l1 x19_2).f1) ((rd_T34 l1 x19_2).f2) ((rd_T34 l1 x19_2).f3) ((rd_T34 l1 x19_2).f4)) else ((impl_standsOk.f k2 a0_0 a0_1 l0_2 ((rd_T34 l1 x19_2).f0) ((rd_T34 l1 x19_2).f1) ((rd_T34 l1 x19_2).f2) ((rd_T34 l1 x19_2).f3) ((rd_T34 l1 x19_2).f4)).bind fun t140 => (if t140 = true then ((impl_in.f ((rd_T34 l1 x19_2).f4) 0 1000000).bind fun t141 => (impl_CrewOk.j2 k2 l1 x19_2 l1 (l1.length : Int) x19_2 (!t141) a0_0 a0_1 l0_2 ((rd_T34 l1 x19_2).f0) ((rd_T34 l1 x19_2).f1) ((rd_T34 l1 x19_2).f2) ((rd_T34 l1 x19_2).f3) ((rd_T34 l1 x19_2).f4))) else (impl_CrewOk.j2 k2 l1 x19_2 l1 (l1.length : Int) x19_2 true a0_0 a0_1 l0_2 ((rd_T34 l1 x19_2).f0) ((rd_T34 l1 x19_2).f1) ((rd_T34 l1 x19_2).f2) ((rd_T34 l1 x19_2).f3) ((rd_T34 l1 x19_2).f4))))) else (none)) else (none)) = some r := by first | (rw [hji22] at H; exact H) | (simp only [hji22] at H ⊢; exact H)
            (try rw [hji22] at A19)
            have hji22w : (IntKind.i64.wrap (x19_2 - 1)) = ji22 := (i64_w _).trans hji22
            by_cases c23 : 0 ≤ (ji22)
            {
            rw [if_pos c23] at H
            have c23b0 : decide (0 ≤ (ji22)) = true := decide_eq_true c23
            clear c23
            by_cases c24 : (ji22) < (l1.length : Int)
            {
            rw [if_pos c24] at H
            have c24b0 : decide ((ji22) < (l1.length : Int)) = true := decide_eq_true c24
            clear c24
            by_cases c25 : ((rd_T34 l1 (ji22)).f0) ≥ ((rd_T34 l1 x19_2).f0)
            {
            rw [if_pos c25] at H
            have c25b0 : decide (((rd_T34 l1 x19_2).f0) ≤ ((rd_T34 l1 (ji22)).f0)) = true := decide_eq_true c25
            clear c25
            have H' := Aside0.mk H
            clear H
            try go_wp2
            generalize hq_ : (((((w16.setCell ⟨gb137, 0, none⟩ (.int .i64 ((rd_T34 l1 x19_2).f0))).setCell ⟨gb137, 1, none⟩ (.int .i64 ((rd_T34 l1 x19_2).f1))).setCell ⟨gb137, 2, none⟩ (.int .i64 ((rd_T34 l1 x19_2).f2))).setCell ⟨gb137, 3, none⟩ (.bool ((rd_T34 l1 x19_2).f3))).setCell ⟨gb137, 4, none⟩ (.int .i64 ((rd_T34 l1 x19_2).f4))) = w26
            have n0_ : Aside0 (w26.heap[gb134]? = some (.cells #[.int .i64 a0_0, .int .i64 a0_1, .slice A0_2 l0_2.length c0_2] 26 (0, 0))) := ⟨by rw [← hq_]; exact qz5⟩
            have n1_ : Aside0 (w26.heap[gb137]? = some (.cells #[.int .i64 ((rd_T34 l1 x19_2).f0), .int .i64 ((rd_T34 l1 x19_2).f1), .int .i64 ((rd_T34 l1 x19_2).f2), .bool ((rd_T34 l1 x19_2).f3), .int .i64 ((rd_T34 l1 x19_2).f4)] 34 (0, 0))) := ⟨by rw [← hq_]; exact (by (with_reducible repeat (first | refine blk_drewN ?_ _ | refine blk_drew ?_ | refine blk_alloc ?_ _)); refine blk_put (cs := #[.int .i64 ((rd_T34 l1 x19_2).f0), .int .i64 ((rd_T34 l1 x19_2).f1), .int .i64 ((rd_T34 l1 x19_2).f2), .bool ((rd_T34 l1 x19_2).f3), .int .i64 0]) ?_ 4 _ rfl; (with_reducible repeat (first | refine blk_drewN ?_ _ | refine blk_drew ?_ | refine blk_alloc ?_ _)); refine blk_put (cs := #[.int .i64 ((rd_T34 l1 x19_2).f0), .int .i64 ((rd_T34 l1 x19_2).f1), .int .i64 ((rd_T34 l1 x19_2).f2), .bool false, .int .i64 0]) ?_ 3 _ rfl; (with_reducible repeat (first | refine blk_drewN ?_ _ | refine blk_drew ?_ | refine blk_alloc ?_ _)); refine blk_put (cs := #[.int .i64 ((rd_T34 l1 x19_2).f0), .int .i64 ((rd_T34 l1 x19_2).f1), .int .i64 0, .bool false, .int .i64 0]) ?_ 2 _ rfl; (with_reducible repeat (first | refine blk_drewN ?_ _ | refine blk_drew ?_ | refine blk_alloc ?_ _)); refine blk_put (cs := #[.int .i64 ((rd_T34 l1 x19_2).f0), .int .i64 0, .int .i64 0, .bool false, .int .i64 0]) ?_ 1 _ rfl; (with_reducible repeat (first | refine blk_drewN ?_ _ | refine blk_drew ?_ | refine blk_alloc ?_ _)); refine blk_put (cs := #[.int .i64 0, .int .i64 0, .int .i64 0, .bool false, .int .i64 0]) ?_ 0 _ rfl; (with_reducible repeat (first | refine blk_drewN ?_ _ | refine blk_drew ?_ | refine blk_alloc ?_ _)); exact BK137.out)⟩
            have n2_ : Aside0 (Below w.heap.size w w26) := ⟨by rw [← hq_]; exact qz6⟩
            (try clear BK134)
            (try clear BK137)
            (try clear HB)
            clear hq_
            have BK134 := n0_
            have BK137 := n1_
            have HB := n2_
            clear n0_ n1_ n2_
            have n0_ := Aside0.mk (blk_drew BK134.out)
            have n1_ := Aside0.mk (blk_drew BK137.out)
            have n2_ := Aside0.mk (below_drew1 HB.out)
            clear BK134
            clear BK137
            clear HB
            have BK134 := n0_
            have BK137 := n1_
            have HB := n2_
            clear n0_ n1_ n2_
            have p139 : 0 ≤ ((ji22) : Int) := of_decide_eq_true qz7
            have q139 : (ji22) < (l1.length : Int) := of_decide_eq_true qz7
            obtain ⟨ad139, e139, hx139_0, hx139_1, hx139_2, hx139_3, hx139_4⟩ := at_T34 HR1.out (ji22) p139 q139
            have hw139_4 := hx139_4
            have hw139_3 := hx139_3
            have hw139_2 := hx139_2
            have hw139_1 := hx139_1
            have hw139_0 := hx139_0
            obtain rfl : ad136 = ad139 := (by injection e139)
            replace hx139_0 := (HB.out.cell (World.block_lt_of_cell? w _ hx139_0)).trans hx139_0
            replace hx139_1 := (HB.out.cell (World.block_lt_of_cell? w _ hx139_1)).trans hx139_1
            replace hx139_2 := (HB.out.cell (World.block_lt_of_cell? w _ hx139_2)).trans hx139_2
            replace hx139_3 := (HB.out.cell (World.block_lt_of_cell? w _ hx139_3)).trans hx139_3
            replace hx139_4 := (HB.out.cell (World.block_lt_of_cell? w _ hx139_4)).trans hx139_4
            replace p139 := eq_true p139
            replace q139 := eq_true q139
            refine start_ (n := 31) (S := fun w' => w'.cell? ⟨gb137, 0, none⟩ = some (.int .i64 ((rd_T34 l1 x19_2).f0)) ∧ w'.cell? ⟨gb137, 1, none⟩ = some (.int .i64 ((rd_T34 l1 x19_2).f1)) ∧ w'.cell? ⟨gb137, 2, none⟩ = some (.int .i64 ((rd_T34 l1 x19_2).f2)) ∧ w'.cell? ⟨gb137, 3, none⟩ = some (.bool ((rd_T34 l1 x19_2).f3)) ∧ w'.cell? ⟨gb137, 4, none⟩ = some (.int .i64 ((rd_T34 l1 x19_2).f4)) ∧ w'.cell? (ad136.add (((ji22)).toNat * 5)) = some (.int .i64 ((rd_T34 l1 (ji22)).f0)) ∧ w'.cell? ⟨(ad136.add (((ji22)).toNat * 5)).block, (ad136.add (((ji22)).toNat * 5)).off + 1, none⟩ = some (.int .i64 ((rd_T34 l1 (ji22)).f1)) ∧ w'.cell? ⟨(ad136.add (((ji22)).toNat * 5)).block, (ad136.add (((ji22)).toNat * 5)).off + 2, none⟩ = some (.int .i64 ((rd_T34 l1 (ji22)).f2)) ∧ w'.cell? ⟨(ad136.add (((ji22)).toNat * 5)).block, (ad136.add (((ji22)).toNat * 5)).off + 3, none⟩ = some (.bool ((rd_T34 l1 (ji22)).f3)) ∧ w'.cell? ⟨(ad136.add (((ji22)).toNat * 5)).block, (ad136.add (((ji22)).toNat * 5)).off + 4, none⟩ = some (.int .i64 ((rd_T34 l1 (ji22)).f4))) (ds := []) #[false, false, false, false, false, false, false, false, false, false, false, false, false, false, false, false, false, false, false, false, false, false, false, false, false, false, false, false, false, false, false] (by kernel_rfl) rfl rfl ⟨(blk_cell BK137.out 0).trans rfl, (blk_cell BK137.out 1).trans rfl, (blk_cell BK137.out 2).trans rfl, (blk_cell BK137.out 3).trans rfl, (blk_cell BK137.out 4).trans rfl, ((HB.out.cell (World.block_lt_of_cell? w _ hw139_0)).trans hw139_0), ((HB.out.cell (World.block_lt_of_cell? w _ hw139_1)).trans hw139_1), ((HB.out.cell (World.block_lt_of_cell? w _ hw139_2)).trans hw139_2), ((HB.out.cell (World.block_lt_of_cell? w _ hw139_3)).trans hw139_3), ((HB.out.cell (World.block_lt_of_cell? w _ hw139_4)).trans hw139_4)⟩ (fun hHeld => ?_); refine with_tabW impl_CrewOk.tab6 impl_CrewOk.bits6 (fun HT_ HW_ => ?_)
            generalize w26.drew = w27 at BK134 BK137 HB hx139_0 hx139_1 hx139_2 hx139_3 hx139_4 hHeld ⊢
            refine pure_ (i := 0) (N := some 24) (v := ?_) (a' := ?_) (bqz 31 1) rfl rfl qza qzd (Or.inl ⟨by rfl, ?_⟩) ?_ ?_
            rotate_left
            {
            intro w'
            go_simp
            with_reducible rfl
            }
            rotate_left
            {
            simp only [qzs]
            rfl
            }
            refine take_ (i := 1) (N := some 25) (v := ?_) (a' := ?_) (bqz 31 3) rfl rfl qzb qzd (Or.inl ⟨by rfl, ?_⟩) hHeld ?_ ?_
            rotate_left
            {
            rintro w' ⟨s0, s1, s2, s3, s4, s5, s6, s7, s8, s9⟩
            go_simp
            with_reducible rfl
            }
            rotate_left
            {
            simp only [qzs]
            rfl
            }
            refine one_ (i := 2) (N := some 26) (bqz 31 7) rfl rfl qzc (by decide) (fun K hK => ?_)
            refine goes_ Try.func92 (by kernel_rfl) rfl #[.int .i64 ((rd_T34 l1 x19_2).f0), .int .i64 1, .int .i64 99] (by rfl) rfl rfl qz2 ?_
            with_reducible refine (impl_in.calls ((rd_T34 l1 x19_2).f0) 1 99 true _ A19.out).mono ?_
            rintro e w' ⟨rfl, ⟨nd, rfl⟩⟩
            refine ⟨_, rfl, ?_⟩
            refine hK.out _ _ ⟨(blk_cell BK137.out 0).trans rfl, (blk_cell BK137.out 1).trans rfl, (blk_cell BK137.out 2).trans rfl, (blk_cell BK137.out 3).trans rfl, (blk_cell BK137.out 4).trans rfl, ((HB.out.cell (World.block_lt_of_cell? w _ hw139_0)).trans hw139_0), ((HB.out.cell (World.block_lt_of_cell? w _ hw139_1)).trans hw139_1), ((HB.out.cell (World.block_lt_of_cell? w _ hw139_2)).trans hw139_2), ((HB.out.cell (World.block_lt_of_cell? w _ hw139_3)).trans hw139_3), ((HB.out.cell (World.block_lt_of_cell? w _ hw139_4)).trans hw139_4)⟩ (fun hHeld => ?_)
            clear hK K
            refine norm_ (a' := ?_) ?_ ?_
            rotate_left
            {
            show Act.put _ (some 26) _ = _
            simp only [qzs]
            rfl
            }
            refine pure_ (i := 3) (N := some 27) (v := ?_) (a' := ?_) (bqz 31 15) rfl rfl qza qzd (Or.inl ⟨by rfl, ?_⟩) ?_ ?_
            rotate_left
            {
            intro w'
            go_simp
            with_reducible rfl
            }
            rotate_left
            {
            simp only [qzs]
            rfl
            }
            refine pure_ (i := 4) (N := some 28) (v := ?_) (a' := ?_) (bqz 31 31) rfl rfl qza qzd (Or.inl ⟨by rfl, ?_⟩) ?_ ?_
            rotate_left
            {
            intro w'
            go_simp
            with_reducible rfl
            }
            rotate_left
            {
            simp only [qzs]
            rfl
            }
            refine pure_ (i := 5) (N := some 29) (v := ?_) (a' := ?_) (bqz 31 63) rfl rfl qza qzd (Or.inl ⟨by rfl, ?_⟩) ?_ ?_
            rotate_left
            {
            intro w'
            go_simp
            with_reducible rfl
            }
            rotate_left
            {
            simp only [qzs]
            rfl
            }
            refine pure_ (i := 6) (N := some 30) (v := ?_) (a' := ?_) (bqz 31 127) rfl rfl qza qzd (Or.inl ⟨by rfl, ?_⟩) ?_ ?_
            rotate_left
            {
            intro w'
            go_simp
            with_reducible rfl
            }
            rotate_left
            {
            simp only [qzs]
            rfl
            }
            refine pure_ (i := 7) (N := some 31) (v := ?_) (a' := ?_) (bqz 31 255) rfl rfl qza qzd (Or.inl ⟨by rfl, ?_⟩) ?_ ?_
            rotate_left
            {
            intro w'
            go_simp
            with_reducible rfl
            }
            rotate_left
            {
            simp only [qzs]
            rfl
            }
            refine pure_ (i := 8) (N := some 32) (v := ?_) (a' := ?_) (bqz 31 511) rfl rfl qza qzd (Or.inl ⟨by rfl, ?_⟩) ?_ ?_
            rotate_left
            {
            intro w'
            go_simp
            with_reducible rfl
            }
            rotate_left
            {
            simp only [qzs]
            rfl
            }
            refine pure_ (i := 9) (N := some 33) (v := ?_) (a' := ?_) (bqz 31 1023) rfl rfl qza qzd (Or.inl ⟨by rfl, ?_⟩) ?_ ?_
            rotate_left
            {
            intro w'
            go_simp
            with_reducible rfl
            }
            rotate_left
            {
            simp only [qzs]
            rfl
            }
            refine pure_ (i := 10) (N := some 34) (v := ?_) (a' := ?_) (bqz 31 2047) rfl rfl qza qzd (Or.inl ⟨by rfl, ?_⟩) ?_ ?_
            rotate_left
            {
            intro w'
            go_simp
            with_reducible rfl
            }
            rotate_left
            {
            simp only [qzs]
            rfl
            }
            refine pure_ (i := 11) (N := some 35) (v := ?_) (a' := ?_) (bqz 31 4095) rfl rfl qza qzd (Or.inl ⟨by rfl, ?_⟩) ?_ ?_
            rotate_left
            {
            intro w'
            go_simp
            with_reducible rfl
            }
            rotate_left
            {
            simp only [qzs]
            rfl
            }
            refine pure_ (i := 12) (N := some 36) (v := ?_) (a' := ?_) (bqz 31 8191) rfl rfl qza qzd (Or.inl ⟨by rfl, ?_⟩) ?_ ?_
            rotate_left
            {
            intro w'
            go_simp
            with_reducible rfl
            }
            rotate_left
            {
            simp only [qzs]
            rfl
            }
            refine pure_ (i := 14) (N := some 38) (v := ?_) (a' := ?_) (bqz 31 24575) rfl rfl qza qzd (Or.inl ⟨by rfl, ?_⟩) ?_ ?_
            rotate_left
            {
            intro w'
            go_simp
            with_reducible rfl
            }
            rotate_left
            {
            simp only [qzs]
            rfl
            }
            refine take_ (i := 13) (N := some 37) (v := ?_) (a' := ?_) (bqz 31 32767) rfl rfl qzb qzd (Or.inl ⟨by rfl, ?_⟩) hHeld ?_ ?_
            rotate_left
            {
            rintro w' ⟨s0, s1, s2, s3, s4, s5, s6, s7, s8, s9⟩
            go_simp
            with_reducible rfl
            }
            rotate_left
            {
            simp only [qzs]
            rfl
            }
            refine take_ (i := 15) (N := some 39) (v := ?_) (a' := ?_) (bqz 31 65535) rfl rfl qzb qzd (Or.inl ⟨by rfl, ?_⟩) hHeld ?_ ?_
            rotate_left
            {
            rintro w' ⟨s0, s1, s2, s3, s4, s5, s6, s7, s8, s9⟩
            go_simp
            with_reducible rfl
            }
            rotate_left
            {
            simp only [qzs]
            rfl
            }
            refine pure_ (i := 16) (N := some 40) (v := ?_) (a' := ?_) (bqz 31 131071) rfl rfl qza qzd (Or.inl ⟨by rfl, ?_⟩) ?_ ?_
            rotate_left
            {
            intro w'
            go_simp
            with_reducible rfl
            }
            rotate_left
            {
            simp only [qzs]
            rfl
            }
            refine pure_ (i := 17) (N := some 41) (v := ?_) (a' := ?_) (bqz 31 262143) rfl rfl qza qzd (Or.inl ⟨by rfl, ?_⟩) ?_ ?_
            rotate_left
            {
            intro w'
            go_simp
            with_reducible rfl
            }
            rotate_left
            {
            simp only [qzs]
            rfl
            }
            refine pure_ (i := 18) (N := some 42) (v := ?_) (a' := ?_) (bqz 31 524287) rfl rfl qza qzd (Or.inl ⟨by rfl, ?_⟩) ?_ ?_
            rotate_left
            {
            intro w'
            go_simp
            with_reducible rfl
            }
            rotate_left
            {
            simp only [qzs]
            rfl
            }
            refine pure_ (i := 19) (N := some 43) (v := ?_) (a' := ?_) (bqz 31 1048575) rfl rfl qza qzd (Or.inl ⟨by rfl, ?_⟩) ?_ ?_
            rotate_left
            {
            intro w'
            go_simp
            with_reducible rfl
            }
            rotate_left
            {
            simp only [qzs]
            rfl
            }
            refine pure_ (i := 20) (N := some 44) (v := undef) (a' := ?_) (bqz 31 2097151) rfl rfl qza qzd (Or.inr ⟨by rfl, rfl⟩) ?_ ?_
            rotate_left
            {
            simp only [qzs]
            rfl
            }
            refine pure_ (i := 21) (N := some 45) (v := undef) (a' := ?_) (bqz 31 4194303) rfl rfl qza qzd (Or.inr ⟨by rfl, rfl⟩) ?_ ?_
            rotate_left
            {
            simp only [qzs]
            rfl
            }
            refine pure_ (i := 22) (N := some 46) (v := undef) (a' := ?_) (bqz 31 8388607) rfl rfl qza qzd (Or.inr ⟨by rfl, rfl⟩) ?_ ?_
            rotate_left
            {
            simp only [qzs]
            rfl
            }
            refine pure_ (i := 23) (N := some 47) (v := undef) (a' := ?_) (bqz 31 16777215) rfl rfl qza qzd (Or.inr ⟨by rfl, rfl⟩) ?_ ?_
            rotate_left
            {
            simp only [qzs]
            rfl
            }
            refine pure_ (i := 24) (N := some 48) (v := ?_) (a' := ?_) (bqz 31 33554431) rfl rfl qza qzd (Or.inl ⟨by rfl, ?_⟩) ?_ ?_
            rotate_left
            {
            intro w'
            go_simp
            with_reducible rfl
            }
            rotate_left
            {
            simp only [qzs]
            rfl
            }
            refine pure_ (i := 25) (N := some 49) (v := ?_) (a' := ?_) (bqz 31 67108863) rfl rfl qza qzd (Or.inl ⟨by rfl, ?_⟩) ?_ ?_
            rotate_left
            {
            intro w'
            go_simp
            with_reducible rfl
            }
            rotate_left
            {
            simp only [qzs]
            rfl
            }
            refine pure_ (i := 26) (N := some 50) (v := undef) (a' := ?_) (bqz 31 134217727) rfl rfl qza qzd (Or.inr ⟨by rfl, rfl⟩) ?_ ?_
            rotate_left
            {
            simp only [qzs]
            rfl
            }
            refine pure_ (i := 27) (N := some 51) (v := undef) (a' := ?_) (bqz 31 268435455) rfl rfl qza qzd (Or.inr ⟨by rfl, rfl⟩) ?_ ?_
            rotate_left
            {
            simp only [qzs]
            rfl
            }
            refine pure_ (i := 28) (N := some 52) (v := undef) (a' := ?_) (bqz 31 536870911) rfl rfl qza qzd (Or.inr ⟨by rfl, rfl⟩) ?_ ?_
            rotate_left
            {
            simp only [qzs]
            rfl
            }
            refine pure_ (i := 29) (N := some 53) (v := undef) (a' := ?_) (bqz 31 1073741823) rfl rfl qza qzd (Or.inr ⟨by rfl, rfl⟩) ?_ ?_
            rotate_left
            {
            simp only [qzs]
            rfl
            }
            refine pure_ (i := 30) (N := some 54) (v := ?_) (a' := ?_) (bqz 31 2147483647) rfl rfl qza qzd (Or.inl ⟨by rfl, ?_⟩) ?_ ?_
            rotate_left
            {
            intro w'
            go_simp
            with_reducible rfl
            }
            rotate_left
            {
            simp only [qzs]
            rfl
            }
            refine done_ (done_of HT_.out (by kernel_rfl)) ?_
            try go_wp2
            go_meet
            case rel => exact ⟨_, (true), qz14, H', ⟨by have := HJ2.out; have := HK2.out; first | omega | exact Nat.le_refl _⟩, ⟨by (with_reducible repeat (first | refine blk_drewN ?_ _ | refine blk_drew ?_ | refine blk_alloc ?_ _)); exact BK134.out⟩, ⟨by (with_reducible repeat (first | refine blk_drewN ?_ _ | refine blk_drew ?_ | refine blk_alloc ?_ _)); exact BK137.out⟩, ⟨by repeat (first | (with_reducible first | exact HB.out | apply below_alloc | apply pw_below_drewN | apply below_drew1 | refine below_set ?_ GE134.out | refine below_set ?_ GE137.out) | exact HB.out)⟩⟩
            }
            {
            rw [if_neg c25] at H
            have c25b0 : decide (((rd_T34 l1 x19_2).f0) ≤ ((rd_T34 l1 (ji22)).f0)) = false := decide_eq_false c25
            clear c25
            replace H := Option.bind_eq_some_iff.mp H
            obtain ⟨t140, A280, H⟩ := H
            replace H : (if t140 = true then ((impl_in.f ((rd_T34 l1 x19_2).f4) 0 1000000).bind fun t141 => (impl_CrewOk.j2 k2 l1 x19_2 l1 (l1.length : Int) x19_2 (!t141) a0_0 a0_1 l0_2 ((rd_T34 l1 x19_2).f0) ((rd_T34 l1 x19_2).f1) ((rd_T34 l1 x19_2).f2) ((rd_T34 l1 x19_2).f3) ((rd_T34 l1 x19_2).f4))) else (impl_CrewOk.j2 k2 l1 x19_2 l1 (l1.length : Int) x19_2 true a0_0 a0_1 l0_2 ((rd_T34 l1 x19_2).f0) ((rd_T34 l1 x19_2).f1) ((rd_T34 l1 x19_2).f2) ((rd_T34 l1 x19_2).f3) ((rd_T34 l1 x19_2).f4))) = some r := H
            have A28 := Aside0.mk A280
            clear A280
            by_cases c29 : t140 = true
            {
            subst c29
            have H1 : ((impl_in.f ((rd_T34 l1 x19_2).f4) 0 1000000).bind fun t141 => (impl_CrewOk.j2 k2 l1 x19_2 l1 (l1.length : Int) x19_2 (!t141) a0_0 a0_1 l0_2 ((rd_T34 l1 x19_2).f0) ((rd_T34 l1 x19_2).f1) ((rd_T34 l1 x19_2).f2) ((rd_T34 l1 x19_2).f3) ((rd_T34 l1 x19_2).f4))) = some r := by rw [if_pos rfl] at H; exact H
            clear H
            have H := H1
            clear H1
            replace H := Option.bind_eq_some_iff.mp H
            obtain ⟨t141, A300, H⟩ := H
            replace H : (impl_CrewOk.j2 k2 l1 x19_2 l1 (l1.length : Int) x19_2 (!t141) a0_0 a0_1 l0_2 ((rd_T34 l1 x19_2).f0) ((rd_T34 l1 x19_2).f1) ((rd_T34 l1 x19_2).f2) ((rd_T34 l1 x19_2).f3) ((rd_T34 l1 x19_2).f4)) = some r := H
            have A30 := Aside0.mk A300
            clear A300
            have H' := Aside0.mk H
            clear H
            try go_wp2
            generalize hq_ : (((((w16.setCell ⟨gb137, 0, none⟩ (.int .i64 ((rd_T34 l1 x19_2).f0))).setCell ⟨gb137, 1, none⟩ (.int .i64 ((rd_T34 l1 x19_2).f1))).setCell ⟨gb137, 2, none⟩ (.int .i64 ((rd_T34 l1 x19_2).f2))).setCell ⟨gb137, 3, none⟩ (.bool ((rd_T34 l1 x19_2).f3))).setCell ⟨gb137, 4, none⟩ (.int .i64 ((rd_T34 l1 x19_2).f4))) = w31
            have n0_ : Aside0 (w31.heap[gb134]? = some (.cells #[.int .i64 a0_0, .int .i64 a0_1, .slice A0_2 l0_2.length c0_2] 26 (0, 0))) := ⟨by rw [← hq_]; exact qz5⟩
            have n1_ : Aside0 (w31.heap[gb137]? = some (.cells #[.int .i64 ((rd_T34 l1 x19_2).f0), .int .i64 ((rd_T34 l1 x19_2).f1), .int .i64 ((rd_T34 l1 x19_2).f2), .bool ((rd_T34 l1 x19_2).f3), .int .i64 ((rd_T34 l1 x19_2).f4)] 34 (0, 0))) := ⟨by rw [← hq_]; exact (by (with_reducible repeat (first | refine blk_drewN ?_ _ | refine blk_drew ?_ | refine blk_alloc ?_ _)); refine blk_put (cs := #[.int .i64 ((rd_T34 l1 x19_2).f0), .int .i64 ((rd_T34 l1 x19_2).f1), .int .i64 ((rd_T34 l1 x19_2).f2), .bool ((rd_T34 l1 x19_2).f3), .int .i64 0]) ?_ 4 _ rfl; (with_reducible repeat (first | refine blk_drewN ?_ _ | refine blk_drew ?_ | refine blk_alloc ?_ _)); refine blk_put (cs := #[.int .i64 ((rd_T34 l1 x19_2).f0), .int .i64 ((rd_T34 l1 x19_2).f1), .int .i64 ((rd_T34 l1 x19_2).f2), .bool false, .int .i64 0]) ?_ 3 _ rfl; (with_reducible repeat (first | refine blk_drewN ?_ _ | refine blk_drew ?_ | refine blk_alloc ?_ _)); refine blk_put (cs := #[.int .i64 ((rd_T34 l1 x19_2).f0), .int .i64 ((rd_T34 l1 x19_2).f1), .int .i64 0, .bool false, .int .i64 0]) ?_ 2 _ rfl; (with_reducible repeat (first | refine blk_drewN ?_ _ | refine blk_drew ?_ | refine blk_alloc ?_ _)); refine blk_put (cs := #[.int .i64 ((rd_T34 l1 x19_2).f0), .int .i64 0, .int .i64 0, .bool false, .int .i64 0]) ?_ 1 _ rfl; (with_reducible repeat (first | refine blk_drewN ?_ _ | refine blk_drew ?_ | refine blk_alloc ?_ _)); refine blk_put (cs := #[.int .i64 0, .int .i64 0, .int .i64 0, .bool false, .int .i64 0]) ?_ 0 _ rfl; (with_reducible repeat (first | refine blk_drewN ?_ _ | refine blk_drew ?_ | refine blk_alloc ?_ _)); exact BK137.out)⟩
            have n2_ : Aside0 (Below w.heap.size w w31) := ⟨by rw [← hq_]; exact qz6⟩
            (try clear BK134)
            (try clear BK137)
            (try clear HB)
            clear hq_
            have BK134 := n0_
            have BK137 := n1_
            have HB := n2_
            clear n0_ n1_ n2_
            have n0_ := Aside0.mk (blk_drew BK134.out)
            have n1_ := Aside0.mk (blk_drew BK137.out)
            have n2_ := Aside0.mk (below_drew1 HB.out)
            clear BK134
            clear BK137
            clear HB
            have BK134 := n0_
            have BK137 := n1_
            have HB := n2_
            clear n0_ n1_ n2_
            have p139 : 0 ≤ ((ji22) : Int) := of_decide_eq_true qz7
            have q139 : (ji22) < (l1.length : Int) := of_decide_eq_true qz7
            obtain ⟨ad139, e139, hx139_0, hx139_1, hx139_2, hx139_3, hx139_4⟩ := at_T34 HR1.out (ji22) p139 q139
            have hw139_4 := hx139_4
            have hw139_3 := hx139_3
            have hw139_2 := hx139_2
            have hw139_1 := hx139_1
            have hw139_0 := hx139_0
            obtain rfl : ad136 = ad139 := (by injection e139)
            replace hx139_0 := (HB.out.cell (World.block_lt_of_cell? w _ hx139_0)).trans hx139_0
            replace hx139_1 := (HB.out.cell (World.block_lt_of_cell? w _ hx139_1)).trans hx139_1
            replace hx139_2 := (HB.out.cell (World.block_lt_of_cell? w _ hx139_2)).trans hx139_2
            replace hx139_3 := (HB.out.cell (World.block_lt_of_cell? w _ hx139_3)).trans hx139_3
            replace hx139_4 := (HB.out.cell (World.block_lt_of_cell? w _ hx139_4)).trans hx139_4
            replace p139 := eq_true p139
            replace q139 := eq_true q139
            refine start_ (n := 31) (S := fun w' => w'.cell? ⟨gb137, 0, none⟩ = some (.int .i64 ((rd_T34 l1 x19_2).f0)) ∧ w'.cell? ⟨gb137, 1, none⟩ = some (.int .i64 ((rd_T34 l1 x19_2).f1)) ∧ w'.cell? ⟨gb137, 2, none⟩ = some (.int .i64 ((rd_T34 l1 x19_2).f2)) ∧ w'.cell? ⟨gb137, 3, none⟩ = some (.bool ((rd_T34 l1 x19_2).f3)) ∧ w'.cell? ⟨gb137, 4, none⟩ = some (.int .i64 ((rd_T34 l1 x19_2).f4)) ∧ w'.cell? ⟨gb134, 0, none⟩ = some (.int .i64 a0_0) ∧ w'.cell? ⟨gb134, 1, none⟩ = some (.int .i64 a0_1) ∧ w'.cell? ⟨gb134, 2, none⟩ = some (.slice A0_2 l0_2.length c0_2) ∧ w'.cell? (ad136.add (((ji22)).toNat * 5)) = some (.int .i64 ((rd_T34 l1 (ji22)).f0)) ∧ w'.cell? ⟨(ad136.add (((ji22)).toNat * 5)).block, (ad136.add (((ji22)).toNat * 5)).off + 1, none⟩ = some (.int .i64 ((rd_T34 l1 (ji22)).f1)) ∧ w'.cell? ⟨(ad136.add (((ji22)).toNat * 5)).block, (ad136.add (((ji22)).toNat * 5)).off + 2, none⟩ = some (.int .i64 ((rd_T34 l1 (ji22)).f2)) ∧ w'.cell? ⟨(ad136.add (((ji22)).toNat * 5)).block, (ad136.add (((ji22)).toNat * 5)).off + 3, none⟩ = some (.bool ((rd_T34 l1 (ji22)).f3)) ∧ w'.cell? ⟨(ad136.add (((ji22)).toNat * 5)).block, (ad136.add (((ji22)).toNat * 5)).off + 4, none⟩ = some (.int .i64 ((rd_T34 l1 (ji22)).f4))) (ds := []) #[false, false, false, false, false, false, false, false, false, false, false, false, false, false, false, false, false, false, false, false, false, false, false, false, false, false, false, false, false, false, false] (by kernel_rfl) rfl rfl ⟨(blk_cell BK137.out 0).trans rfl, (blk_cell BK137.out 1).trans rfl, (blk_cell BK137.out 2).trans rfl, (blk_cell BK137.out 3).trans rfl, (blk_cell BK137.out 4).trans rfl, (blk_cell BK134.out 0).trans rfl, (blk_cell BK134.out 1).trans rfl, (blk_cell BK134.out 2).trans rfl, ((HB.out.cell (World.block_lt_of_cell? w _ hw139_0)).trans hw139_0), ((HB.out.cell (World.block_lt_of_cell? w _ hw139_1)).trans hw139_1), ((HB.out.cell (World.block_lt_of_cell? w _ hw139_2)).trans hw139_2), ((HB.out.cell (World.block_lt_of_cell? w _ hw139_3)).trans hw139_3), ((HB.out.cell (World.block_lt_of_cell? w _ hw139_4)).trans hw139_4)⟩ (fun hHeld => ?_); refine with_tabW impl_CrewOk.tab6 impl_CrewOk.bits6 (fun HT_ HW_ => ?_)
            generalize w31.drew = w32 at BK134 BK137 HB hx139_0 hx139_1 hx139_2 hx139_3 hx139_4 hHeld ⊢
            refine pure_ (i := 0) (N := some 24) (v := ?_) (a' := ?_) (bqz 31 1) rfl rfl qza qzd (Or.inl ⟨by rfl, ?_⟩) ?_ ?_
            rotate_left
            {
            intro w'
            go_simp
            with_reducible rfl
            }
            rotate_left
            {
            simp only [qzs]
            rfl
            }
            refine take_ (i := 1) (N := some 25) (v := ?_) (a' := ?_) (bqz 31 3) rfl rfl qzb qzd (Or.inl ⟨by rfl, ?_⟩) hHeld ?_ ?_
            rotate_left
            {
            rintro w' ⟨s0, s1, s2, s3, s4, s5, s6, s7, s8, s9, s10, s11, s12⟩
            go_simp
            with_reducible rfl
            }
            rotate_left
            {
            simp only [qzs]
            rfl
            }
            refine one_ (i := 2) (N := some 26) (bqz 31 7) rfl rfl qzc (by decide) (fun K hK => ?_)
            refine goes_ Try.func92 (by kernel_rfl) rfl #[.int .i64 ((rd_T34 l1 x19_2).f0), .int .i64 1, .int .i64 99] (by rfl) rfl rfl qz2 ?_
            with_reducible refine (impl_in.calls ((rd_T34 l1 x19_2).f0) 1 99 true _ A19.out).mono ?_
            rintro e w' ⟨rfl, ⟨nd, rfl⟩⟩
            refine ⟨_, rfl, ?_⟩
            refine hK.out _ _ ⟨(blk_cell BK137.out 0).trans rfl, (blk_cell BK137.out 1).trans rfl, (blk_cell BK137.out 2).trans rfl, (blk_cell BK137.out 3).trans rfl, (blk_cell BK137.out 4).trans rfl, (blk_cell BK134.out 0).trans rfl, (blk_cell BK134.out 1).trans rfl, (blk_cell BK134.out 2).trans rfl, ((HB.out.cell (World.block_lt_of_cell? w _ hw139_0)).trans hw139_0), ((HB.out.cell (World.block_lt_of_cell? w _ hw139_1)).trans hw139_1), ((HB.out.cell (World.block_lt_of_cell? w _ hw139_2)).trans hw139_2), ((HB.out.cell (World.block_lt_of_cell? w _ hw139_3)).trans hw139_3), ((HB.out.cell (World.block_lt_of_cell? w _ hw139_4)).trans hw139_4)⟩ (fun hHeld => ?_)
            clear hK K
            refine norm_ (a' := ?_) ?_ ?_
            rotate_left
            {
            show Act.put _ (some 26) _ = _
            simp only [qzs]
            rfl
            }
            refine pure_ (i := 3) (N := some 27) (v := ?_) (a' := ?_) (bqz 31 15) rfl rfl qza qzd (Or.inl ⟨by rfl, ?_⟩) ?_ ?_
            rotate_left
            {
            intro w'
            go_simp
            with_reducible rfl
            }
            rotate_left
            {
            simp only [qzs]
            rfl
            }
            refine pure_ (i := 4) (N := some 28) (v := ?_) (a' := ?_) (bqz 31 31) rfl rfl qza qzd (Or.inl ⟨by rfl, ?_⟩) ?_ ?_
            rotate_left
            {
            intro w'
            go_simp
            with_reducible rfl
            }
            rotate_left
            {
            simp only [qzs]
            rfl
            }
            refine pure_ (i := 5) (N := some 29) (v := ?_) (a' := ?_) (bqz 31 63) rfl rfl qza qzd (Or.inl ⟨by rfl, ?_⟩) ?_ ?_
            rotate_left
            {
            intro w'
            go_simp
            with_reducible rfl
            }
            rotate_left
            {
            simp only [qzs]
            rfl
            }
            refine pure_ (i := 6) (N := some 30) (v := ?_) (a' := ?_) (bqz 31 127) rfl rfl qza qzd (Or.inl ⟨by rfl, ?_⟩) ?_ ?_
            rotate_left
            {
            intro w'
            go_simp
            with_reducible rfl
            }
            rotate_left
            {
            simp only [qzs]
            rfl
            }
            refine pure_ (i := 7) (N := some 31) (v := ?_) (a' := ?_) (bqz 31 255) rfl rfl qza qzd (Or.inl ⟨by rfl, ?_⟩) ?_ ?_
            rotate_left
            {
            intro w'
            go_simp
            with_reducible rfl
            }
            rotate_left
            {
            simp only [qzs]
            rfl
            }
            refine pure_ (i := 8) (N := some 32) (v := ?_) (a' := ?_) (bqz 31 511) rfl rfl qza qzd (Or.inl ⟨by rfl, ?_⟩) ?_ ?_
            rotate_left
            {
            intro w'
            go_simp
            with_reducible rfl
            }
            rotate_left
            {
            simp only [qzs]
            rfl
            }
            refine pure_ (i := 9) (N := some 33) (v := ?_) (a' := ?_) (bqz 31 1023) rfl rfl qza qzd (Or.inl ⟨by rfl, ?_⟩) ?_ ?_
            rotate_left
            {
            intro w'
            go_simp
            with_reducible rfl
            }
            rotate_left
            {
            simp only [qzs]
            rfl
            }
            refine pure_ (i := 10) (N := some 34) (v := ?_) (a' := ?_) (bqz 31 2047) rfl rfl qza qzd (Or.inl ⟨by rfl, ?_⟩) ?_ ?_
            rotate_left
            {
            intro w'
            go_simp
            with_reducible rfl
            }
            rotate_left
            {
            simp only [qzs]
            rfl
            }
            refine pure_ (i := 11) (N := some 35) (v := ?_) (a' := ?_) (bqz 31 4095) rfl rfl qza qzd (Or.inl ⟨by rfl, ?_⟩) ?_ ?_
            rotate_left
            {
            intro w'
            go_simp
            with_reducible rfl
            }
            rotate_left
            {
            simp only [qzs]
            rfl
            }
            refine pure_ (i := 12) (N := some 36) (v := ?_) (a' := ?_) (bqz 31 8191) rfl rfl qza qzd (Or.inl ⟨by rfl, ?_⟩) ?_ ?_
            rotate_left
            {
            intro w'
            go_simp
            with_reducible rfl
            }
            rotate_left
            {
            simp only [qzs]
            rfl
            }
            refine pure_ (i := 14) (N := some 38) (v := ?_) (a' := ?_) (bqz 31 24575) rfl rfl qza qzd (Or.inl ⟨by rfl, ?_⟩) ?_ ?_
            rotate_left
            {
            intro w'
            go_simp
            with_reducible rfl
            }
            rotate_left
            {
            simp only [qzs]
            rfl
            }
            refine take_ (i := 13) (N := some 37) (v := ?_) (a' := ?_) (bqz 31 32767) rfl rfl qzb qzd (Or.inl ⟨by rfl, ?_⟩) hHeld ?_ ?_
            rotate_left
            {
            rintro w' ⟨s0, s1, s2, s3, s4, s5, s6, s7, s8, s9, s10, s11, s12⟩
            go_simp
            with_reducible rfl
            }
            rotate_left
            {
            simp only [qzs]
            rfl
            }
            refine take_ (i := 15) (N := some 39) (v := ?_) (a' := ?_) (bqz 31 65535) rfl rfl qzb qzd (Or.inl ⟨by rfl, ?_⟩) hHeld ?_ ?_
            rotate_left
            {
            rintro w' ⟨s0, s1, s2, s3, s4, s5, s6, s7, s8, s9, s10, s11, s12⟩
            go_simp
            with_reducible rfl
            }
            rotate_left
            {
            simp only [qzs]
            rfl
            }
            refine pure_ (i := 16) (N := some 40) (v := ?_) (a' := ?_) (bqz 31 131071) rfl rfl qza qzd (Or.inl ⟨by rfl, ?_⟩) ?_ ?_
            rotate_left
            {
            intro w'
            go_simp
            with_reducible rfl
            }
            rotate_left
            {
            simp only [qzs]
            rfl
            }
            refine pure_ (i := 17) (N := some 41) (v := ?_) (a' := ?_) (bqz 31 262143) rfl rfl qza qzd (Or.inl ⟨by rfl, ?_⟩) ?_ ?_
            rotate_left
            {
            intro w'
            go_simp
            with_reducible rfl
            }
            rotate_left
            {
            simp only [qzs]
            rfl
            }
            refine pure_ (i := 18) (N := some 42) (v := ?_) (a' := ?_) (bqz 31 524287) rfl rfl qza qzd (Or.inl ⟨by rfl, ?_⟩) ?_ ?_
            rotate_left
            {
            intro w'
            go_simp
            with_reducible rfl
            }
            rotate_left
            {
            simp only [qzs]
            rfl
            }
            refine pure_ (i := 19) (N := some 43) (v := ?_) (a' := ?_) (bqz 31 1048575) rfl rfl qza qzd (Or.inl ⟨by rfl, ?_⟩) ?_ ?_
            rotate_left
            {
            intro w'
            go_simp
            with_reducible rfl
            }
            rotate_left
            {
            simp only [qzs]
            rfl
            }
            refine take_ (i := 20) (N := some 44) (v := ?_) (a' := ?_) (bqz 31 2097151) rfl rfl qzb qzd (Or.inl ⟨by rfl, ?_⟩) hHeld ?_ ?_
            rotate_left
            {
            rintro w' ⟨s0, s1, s2, s3, s4, s5, s6, s7, s8, s9, s10, s11, s12⟩
            go_simp
            with_reducible rfl
            }
            rotate_left
            {
            simp only [qzs]
            rfl
            }
            refine take_ (i := 21) (N := some 45) (v := ?_) (a' := ?_) (bqz 31 4194303) rfl rfl qzb qzd (Or.inl ⟨by rfl, ?_⟩) hHeld ?_ ?_
            rotate_left
            {
            rintro w' ⟨s0, s1, s2, s3, s4, s5, s6, s7, s8, s9, s10, s11, s12⟩
            go_simp
            with_reducible rfl
            }
            rotate_left
            {
            simp only [qzs]
            rfl
            }
            refine one_ (i := 22) (N := some 46) (bqz 31 8388607) rfl rfl qzc (by decide) (fun K hK => ?_)
            refine goes_ Try.func101 (by kernel_rfl) rfl #[.agg #[.int .i64 a0_0, .int .i64 a0_1, .slice A0_2 l0_2.length c0_2], .agg #[.int .i64 ((rd_T34 l1 x19_2).f0), .int .i64 ((rd_T34 l1 x19_2).f1), .int .i64 ((rd_T34 l1 x19_2).f2), .bool ((rd_T34 l1 x19_2).f3), .int .i64 ((rd_T34 l1 x19_2).f4)]] (by rfl) rfl rfl qz2 ?_
            with_reducible refine (impl_standsOk.calls k2 a0_0 a0_1 _ _ l0_2 ((rd_T34 l1 x19_2).f0) ((rd_T34 l1 x19_2).f1) ((rd_T34 l1 x19_2).f2) ((rd_T34 l1 x19_2).f3) ((rd_T34 l1 x19_2).f4) true _ ?side1 ?side2 A28.out).mono ?_
            (case side1 => repeat (first | exact (Kd.C_below HR0_2.out qz6) | (with_reducible refine Kd.C_alloc ?_ _) | (with_reducible refine Kd.C_drewN ?_ _) | (with_reducible refine Kd.C_drew ?_)))
            (case side2 => exact HC0_2.out)
            rintro e w33 ⟨rfl, hb⟩
            refine ⟨_, rfl, ?_⟩
            have n0_ := Aside0.mk (blk_below (g := gb134) (o := .cells #[.int .i64 a0_0, .int .i64 a0_1, .slice A0_2 l0_2.length c0_2] 26 (0, 0)) qz16 hb)
            have n1_ := Aside0.mk (blk_below (g := gb137) (o := .cells #[.int .i64 ((rd_T34 l1 x19_2).f0), .int .i64 ((rd_T34 l1 x19_2).f1), .int .i64 ((rd_T34 l1 x19_2).f2), .bool ((rd_T34 l1 x19_2).f3), .int .i64 ((rd_T34 l1 x19_2).f4)] 34 (0, 0)) (by (with_reducible repeat (first | refine blk_drewN ?_ _ | refine blk_drew ?_ | refine blk_alloc ?_ _)); exact BK137.out) hb)
            have n2_ := Aside0.mk (below_step qz6 hb)
            clear BK134
            clear BK137
            clear HB
            have BK134 := n0_
            have BK137 := n1_
            have HB := n2_
            clear n0_ n1_ n2_
            (try clear hb)
            (try clear hb2)
            (try clear hk)
            (try clear hi)
            refine hK.out _ _ ⟨(blk_cell BK137.out 0).trans rfl, (blk_cell BK137.out 1).trans rfl, (blk_cell BK137.out 2).trans rfl, (blk_cell BK137.out 3).trans rfl, (blk_cell BK137.out 4).trans rfl, (blk_cell BK134.out 0).trans rfl, (blk_cell BK134.out 1).trans rfl, (blk_cell BK134.out 2).trans rfl, ((HB.out.cell (World.block_lt_of_cell? w _ hw139_0)).trans hw139_0), ((HB.out.cell (World.block_lt_of_cell? w _ hw139_1)).trans hw139_1), ((HB.out.cell (World.block_lt_of_cell? w _ hw139_2)).trans hw139_2), ((HB.out.cell (World.block_lt_of_cell? w _ hw139_3)).trans hw139_3), ((HB.out.cell (World.block_lt_of_cell? w _ hw139_4)).trans hw139_4)⟩ (fun hHeld => ?_)
            clear hK K
            refine norm_ (a' := ?_) ?_ ?_
            rotate_left
            {
            show Act.put _ (some 46) _ = _
            simp only [qzs]
            rfl
            }
            refine pure_ (i := 23) (N := some 47) (v := ?_) (a' := ?_) (bqz 31 16777215) rfl rfl qza qzd (Or.inl ⟨by rfl, ?_⟩) ?_ ?_
            rotate_left
            {
            intro w'
            go_simp
            with_reducible rfl
            }
            rotate_left
            {
            simp only [qzs]
            rfl
            }
            refine pure_ (i := 24) (N := some 48) (v := ?_) (a' := ?_) (bqz 31 33554431) rfl rfl qza qzd (Or.inl ⟨by rfl, ?_⟩) ?_ ?_
            rotate_left
            {
            intro w'
            go_simp
            with_reducible rfl
            }
            rotate_left
            {
            simp only [qzs]
            rfl
            }
            refine pure_ (i := 25) (N := some 49) (v := ?_) (a' := ?_) (bqz 31 67108863) rfl rfl qza qzd (Or.inl ⟨by rfl, ?_⟩) ?_ ?_
            rotate_left
            {
            intro w'
            go_simp
            with_reducible rfl
            }
            rotate_left
            {
            simp only [qzs]
            rfl
            }
            refine pure_ (i := 26) (N := some 50) (v := ?_) (a' := ?_) (bqz 31 134217727) rfl rfl qza qzd (Or.inl ⟨by rfl, ?_⟩) ?_ ?_
            rotate_left
            {
            intro w'
            go_simp
            with_reducible rfl
            }
            rotate_left
            {
            simp only [qzs]
            rfl
            }
            refine take_ (i := 27) (N := some 51) (v := ?_) (a' := ?_) (bqz 31 268435455) rfl rfl qzb qzd (Or.inl ⟨by rfl, ?_⟩) hHeld ?_ ?_
            rotate_left
            {
            rintro w' ⟨s0, s1, s2, s3, s4, s5, s6, s7, s8, s9, s10, s11, s12⟩
            go_simp
            with_reducible rfl
            }
            rotate_left
            {
            simp only [qzs]
            rfl
            }
            refine one_ (i := 28) (N := some 52) (bqz 31 536870911) rfl rfl qzc (by decide) (fun K hK => ?_)
            refine goes_ Try.func92 (by kernel_rfl) rfl #[.int .i64 ((rd_T34 l1 x19_2).f4), .int .i64 0, .int .i64 1000000] (by rfl) rfl rfl qz2 ?_
            with_reducible refine (impl_in.calls ((rd_T34 l1 x19_2).f4) 0 1000000 t141 _ A30.out).mono ?_
            rintro e w' ⟨rfl, ⟨nd, rfl⟩⟩
            refine ⟨_, rfl, ?_⟩
            refine hK.out _ _ ⟨(blk_cell BK137.out 0).trans rfl, (blk_cell BK137.out 1).trans rfl, (blk_cell BK137.out 2).trans rfl, (blk_cell BK137.out 3).trans rfl, (blk_cell BK137.out 4).trans rfl, (blk_cell BK134.out 0).trans rfl, (blk_cell BK134.out 1).trans rfl, (blk_cell BK134.out 2).trans rfl, ((HB.out.cell (World.block_lt_of_cell? w _ hw139_0)).trans hw139_0), ((HB.out.cell (World.block_lt_of_cell? w _ hw139_1)).trans hw139_1), ((HB.out.cell (World.block_lt_of_cell? w _ hw139_2)).trans hw139_2), ((HB.out.cell (World.block_lt_of_cell? w _ hw139_3)).trans hw139_3), ((HB.out.cell (World.block_lt_of_cell? w _ hw139_4)).trans hw139_4)⟩ (fun hHeld => ?_)
            clear hK K
            refine norm_ (a' := ?_) ?_ ?_
            rotate_left
            {
            show Act.put _ (some 52) _ = _
            simp only [qzs]
            rfl
            }
            refine pure_ (i := 29) (N := some 53) (v := ?_) (a' := ?_) (bqz 31 1073741823) rfl rfl qza qzd (Or.inl ⟨by rfl, ?_⟩) ?_ ?_
            rotate_left
            {
            intro w'
            go_simp
            with_reducible rfl
            }
            rotate_left
            {
            simp only [qzs]
            rfl
            }
            refine pure_ (i := 30) (N := some 54) (v := ?_) (a' := ?_) (bqz 31 2147483647) rfl rfl qza qzd (Or.inl ⟨by rfl, ?_⟩) ?_ ?_
            rotate_left
            {
            intro w'
            go_simp
            with_reducible rfl
            }
            rotate_left
            {
            simp only [qzs]
            rfl
            }
            refine done_ (done_of HT_.out (by kernel_rfl)) ?_
            try go_wp2
            go_meet
            case rel => exact ⟨_, (!t141), qz14, H', ⟨by have := HJ2.out; have := HK2.out; first | omega | exact Nat.le_refl _⟩, ⟨by (with_reducible repeat (first | refine blk_drewN ?_ _ | refine blk_drew ?_ | refine blk_alloc ?_ _)); exact BK134.out⟩, ⟨by (with_reducible repeat (first | refine blk_drewN ?_ _ | refine blk_drew ?_ | refine blk_alloc ?_ _)); exact BK137.out⟩, ⟨by repeat (first | (with_reducible first | exact HB.out | apply below_alloc | apply pw_below_drewN | apply below_drew1 | refine below_set ?_ GE134.out | refine below_set ?_ GE137.out) | exact HB.out)⟩⟩
            }
            {
            replace c29 := Bool.eq_false_iff.mpr c29
            subst c29
            have H1 : (impl_CrewOk.j2 k2 l1 x19_2 l1 (l1.length : Int) x19_2 true a0_0 a0_1 l0_2 ((rd_T34 l1 x19_2).f0) ((rd_T34 l1 x19_2).f1) ((rd_T34 l1 x19_2).f2) ((rd_T34 l1 x19_2).f3) ((rd_T34 l1 x19_2).f4)) = some r := by rw [if_neg (show ¬ (false = true) by decide)] at H; exact H
            clear H
            have H := H1
            clear H1
            have H' := Aside0.mk H
            clear H
            try go_wp2
            generalize hq_ : (((((w16.setCell ⟨gb137, 0, none⟩ (.int .i64 ((rd_T34 l1 x19_2).f0))).setCell ⟨gb137, 1, none⟩ (.int .i64 ((rd_T34 l1 x19_2).f1))).setCell ⟨gb137, 2, none⟩ (.int .i64 ((rd_T34 l1 x19_2).f2))).setCell ⟨gb137, 3, none⟩ (.bool ((rd_T34 l1 x19_2).f3))).setCell ⟨gb137, 4, none⟩ (.int .i64 ((rd_T34 l1 x19_2).f4))) = w34
            have n0_ : Aside0 (w34.heap[gb134]? = some (.cells #[.int .i64 a0_0, .int .i64 a0_1, .slice A0_2 l0_2.length c0_2] 26 (0, 0))) := ⟨by rw [← hq_]; exact qz5⟩
            have n1_ : Aside0 (w34.heap[gb137]? = some (.cells #[.int .i64 ((rd_T34 l1 x19_2).f0), .int .i64 ((rd_T34 l1 x19_2).f1), .int .i64 ((rd_T34 l1 x19_2).f2), .bool ((rd_T34 l1 x19_2).f3), .int .i64 ((rd_T34 l1 x19_2).f4)] 34 (0, 0))) := ⟨by rw [← hq_]; exact (by (with_reducible repeat (first | refine blk_drewN ?_ _ | refine blk_drew ?_ | refine blk_alloc ?_ _)); refine blk_put (cs := #[.int .i64 ((rd_T34 l1 x19_2).f0), .int .i64 ((rd_T34 l1 x19_2).f1), .int .i64 ((rd_T34 l1 x19_2).f2), .bool ((rd_T34 l1 x19_2).f3), .int .i64 0]) ?_ 4 _ rfl; (with_reducible repeat (first | refine blk_drewN ?_ _ | refine blk_drew ?_ | refine blk_alloc ?_ _)); refine blk_put (cs := #[.int .i64 ((rd_T34 l1 x19_2).f0), .int .i64 ((rd_T34 l1 x19_2).f1), .int .i64 ((rd_T34 l1 x19_2).f2), .bool false, .int .i64 0]) ?_ 3 _ rfl; (with_reducible repeat (first | refine blk_drewN ?_ _ | refine blk_drew ?_ | refine blk_alloc ?_ _)); refine blk_put (cs := #[.int .i64 ((rd_T34 l1 x19_2).f0), .int .i64 ((rd_T34 l1 x19_2).f1), .int .i64 0, .bool false, .int .i64 0]) ?_ 2 _ rfl; (with_reducible repeat (first | refine blk_drewN ?_ _ | refine blk_drew ?_ | refine blk_alloc ?_ _)); refine blk_put (cs := #[.int .i64 ((rd_T34 l1 x19_2).f0), .int .i64 0, .int .i64 0, .bool false, .int .i64 0]) ?_ 1 _ rfl; (with_reducible repeat (first | refine blk_drewN ?_ _ | refine blk_drew ?_ | refine blk_alloc ?_ _)); refine blk_put (cs := #[.int .i64 0, .int .i64 0, .int .i64 0, .bool false, .int .i64 0]) ?_ 0 _ rfl; (with_reducible repeat (first | refine blk_drewN ?_ _ | refine blk_drew ?_ | refine blk_alloc ?_ _)); exact BK137.out)⟩
            have n2_ : Aside0 (Below w.heap.size w w34) := ⟨by rw [← hq_]; exact qz6⟩
            (try clear BK134)
            (try clear BK137)
            (try clear HB)
            clear hq_
            have BK134 := n0_
            have BK137 := n1_
            have HB := n2_
            clear n0_ n1_ n2_
            have n0_ := Aside0.mk (blk_drew BK134.out)
            have n1_ := Aside0.mk (blk_drew BK137.out)
            have n2_ := Aside0.mk (below_drew1 HB.out)
            clear BK134
            clear BK137
            clear HB
            have BK134 := n0_
            have BK137 := n1_
            have HB := n2_
            clear n0_ n1_ n2_
            have p139 : 0 ≤ ((ji22) : Int) := of_decide_eq_true qz7
            have q139 : (ji22) < (l1.length : Int) := of_decide_eq_true qz7
            obtain ⟨ad139, e139, hx139_0, hx139_1, hx139_2, hx139_3, hx139_4⟩ := at_T34 HR1.out (ji22) p139 q139
            have hw139_4 := hx139_4
            have hw139_3 := hx139_3
            have hw139_2 := hx139_2
            have hw139_1 := hx139_1
            have hw139_0 := hx139_0
            obtain rfl : ad136 = ad139 := (by injection e139)
            replace hx139_0 := (HB.out.cell (World.block_lt_of_cell? w _ hx139_0)).trans hx139_0
            replace hx139_1 := (HB.out.cell (World.block_lt_of_cell? w _ hx139_1)).trans hx139_1
            replace hx139_2 := (HB.out.cell (World.block_lt_of_cell? w _ hx139_2)).trans hx139_2
            replace hx139_3 := (HB.out.cell (World.block_lt_of_cell? w _ hx139_3)).trans hx139_3
            replace hx139_4 := (HB.out.cell (World.block_lt_of_cell? w _ hx139_4)).trans hx139_4
            replace p139 := eq_true p139
            replace q139 := eq_true q139
            refine start_ (n := 31) (S := fun w' => w'.cell? ⟨gb137, 0, none⟩ = some (.int .i64 ((rd_T34 l1 x19_2).f0)) ∧ w'.cell? ⟨gb137, 1, none⟩ = some (.int .i64 ((rd_T34 l1 x19_2).f1)) ∧ w'.cell? ⟨gb137, 2, none⟩ = some (.int .i64 ((rd_T34 l1 x19_2).f2)) ∧ w'.cell? ⟨gb137, 3, none⟩ = some (.bool ((rd_T34 l1 x19_2).f3)) ∧ w'.cell? ⟨gb137, 4, none⟩ = some (.int .i64 ((rd_T34 l1 x19_2).f4)) ∧ w'.cell? ⟨gb134, 0, none⟩ = some (.int .i64 a0_0) ∧ w'.cell? ⟨gb134, 1, none⟩ = some (.int .i64 a0_1) ∧ w'.cell? ⟨gb134, 2, none⟩ = some (.slice A0_2 l0_2.length c0_2) ∧ w'.cell? (ad136.add (((ji22)).toNat * 5)) = some (.int .i64 ((rd_T34 l1 (ji22)).f0)) ∧ w'.cell? ⟨(ad136.add (((ji22)).toNat * 5)).block, (ad136.add (((ji22)).toNat * 5)).off + 1, none⟩ = some (.int .i64 ((rd_T34 l1 (ji22)).f1)) ∧ w'.cell? ⟨(ad136.add (((ji22)).toNat * 5)).block, (ad136.add (((ji22)).toNat * 5)).off + 2, none⟩ = some (.int .i64 ((rd_T34 l1 (ji22)).f2)) ∧ w'.cell? ⟨(ad136.add (((ji22)).toNat * 5)).block, (ad136.add (((ji22)).toNat * 5)).off + 3, none⟩ = some (.bool ((rd_T34 l1 (ji22)).f3)) ∧ w'.cell? ⟨(ad136.add (((ji22)).toNat * 5)).block, (ad136.add (((ji22)).toNat * 5)).off + 4, none⟩ = some (.int .i64 ((rd_T34 l1 (ji22)).f4))) (ds := []) #[false, false, false, false, false, false, false, false, false, false, false, false, false, false, false, false, false, false, false, false, false, false, false, false, false, false, false, false, false, false, false] (by kernel_rfl) rfl rfl ⟨(blk_cell BK137.out 0).trans rfl, (blk_cell BK137.out 1).trans rfl, (blk_cell BK137.out 2).trans rfl, (blk_cell BK137.out 3).trans rfl, (blk_cell BK137.out 4).trans rfl, (blk_cell BK134.out 0).trans rfl, (blk_cell BK134.out 1).trans rfl, (blk_cell BK134.out 2).trans rfl, ((HB.out.cell (World.block_lt_of_cell? w _ hw139_0)).trans hw139_0), ((HB.out.cell (World.block_lt_of_cell? w _ hw139_1)).trans hw139_1), ((HB.out.cell (World.block_lt_of_cell? w _ hw139_2)).trans hw139_2), ((HB.out.cell (World.block_lt_of_cell? w _ hw139_3)).trans hw139_3), ((HB.out.cell (World.block_lt_of_cell? w _ hw139_4)).trans hw139_4)⟩ (fun hHeld => ?_); refine with_tabW impl_CrewOk.tab6 impl_CrewOk.bits6 (fun HT_ HW_ => ?_)
            generalize w34.drew = w35 at BK134 BK137 HB hx139_0 hx139_1 hx139_2 hx139_3 hx139_4 hHeld ⊢
            refine pure_ (i := 0) (N := some 24) (v := ?_) (a' := ?_) (bqz 31 1) rfl rfl qza qzd (Or.inl ⟨by rfl, ?_⟩) ?_ ?_
            rotate_left
            {
            intro w'
            go_simp
            with_reducible rfl
            }
            rotate_left
            {
            simp only [qzs]
            rfl
            }
            refine take_ (i := 1) (N := some 25) (v := ?_) (a' := ?_) (bqz 31 3) rfl rfl qzb qzd (Or.inl ⟨by rfl, ?_⟩) hHeld ?_ ?_
            rotate_left
            {
            rintro w' ⟨s0, s1, s2, s3, s4, s5, s6, s7, s8, s9, s10, s11, s12⟩
            go_simp
            with_reducible rfl
            }
            rotate_left
            {
            simp only [qzs]
            rfl
            }
            refine one_ (i := 2) (N := some 26) (bqz 31 7) rfl rfl qzc (by decide) (fun K hK => ?_)
            refine goes_ Try.func92 (by kernel_rfl) rfl #[.int .i64 ((rd_T34 l1 x19_2).f0), .int .i64 1, .int .i64 99] (by rfl) rfl rfl qz2 ?_
            with_reducible refine (impl_in.calls ((rd_T34 l1 x19_2).f0) 1 99 true _ A19.out).mono ?_
            rintro e w' ⟨rfl, ⟨nd, rfl⟩⟩
            refine ⟨_, rfl, ?_⟩
            refine hK.out _ _ ⟨(blk_cell BK137.out 0).trans rfl, (blk_cell BK137.out 1).trans rfl, (blk_cell BK137.out 2).trans rfl, (blk_cell BK137.out 3).trans rfl, (blk_cell BK137.out 4).trans rfl, (blk_cell BK134.out 0).trans rfl, (blk_cell BK134.out 1).trans rfl, (blk_cell BK134.out 2).trans rfl, ((HB.out.cell (World.block_lt_of_cell? w _ hw139_0)).trans hw139_0), ((HB.out.cell (World.block_lt_of_cell? w _ hw139_1)).trans hw139_1), ((HB.out.cell (World.block_lt_of_cell? w _ hw139_2)).trans hw139_2), ((HB.out.cell (World.block_lt_of_cell? w _ hw139_3)).trans hw139_3), ((HB.out.cell (World.block_lt_of_cell? w _ hw139_4)).trans hw139_4)⟩ (fun hHeld => ?_)
            clear hK K
            refine norm_ (a' := ?_) ?_ ?_
            rotate_left
            {
            show Act.put _ (some 26) _ = _
            simp only [qzs]
            rfl
            }
            refine pure_ (i := 3) (N := some 27) (v := ?_) (a' := ?_) (bqz 31 15) rfl rfl qza qzd (Or.inl ⟨by rfl, ?_⟩) ?_ ?_
            rotate_left
            {
            intro w'
            go_simp
            with_reducible rfl
            }
            rotate_left
            {
            simp only [qzs]
            rfl
            }
            refine pure_ (i := 4) (N := some 28) (v := ?_) (a' := ?_) (bqz 31 31) rfl rfl qza qzd (Or.inl ⟨by rfl, ?_⟩) ?_ ?_
            rotate_left
            {
            intro w'
            go_simp
            with_reducible rfl
            }
            rotate_left
            {
            simp only [qzs]
            rfl
            }
            refine pure_ (i := 5) (N := some 29) (v := ?_) (a' := ?_) (bqz 31 63) rfl rfl qza qzd (Or.inl ⟨by rfl, ?_⟩) ?_ ?_
            rotate_left
            {
            intro w'
            go_simp
            with_reducible rfl
            }
            rotate_left
            {
            simp only [qzs]
            rfl
            }
            refine pure_ (i := 6) (N := some 30) (v := ?_) (a' := ?_) (bqz 31 127) rfl rfl qza qzd (Or.inl ⟨by rfl, ?_⟩) ?_ ?_
            rotate_left
            {
            intro w'
            go_simp
            with_reducible rfl
            }
            rotate_left
            {
            simp only [qzs]
            rfl
            }
            refine pure_ (i := 7) (N := some 31) (v := ?_) (a' := ?_) (bqz 31 255) rfl rfl qza qzd (Or.inl ⟨by rfl, ?_⟩) ?_ ?_
            rotate_left
            {
            intro w'
            go_simp
            with_reducible rfl
            }
            rotate_left
            {
            simp only [qzs]
            rfl
            }
            refine pure_ (i := 8) (N := some 32) (v := ?_) (a' := ?_) (bqz 31 511) rfl rfl qza qzd (Or.inl ⟨by rfl, ?_⟩) ?_ ?_
            rotate_left
            {
            intro w'
            go_simp
            with_reducible rfl
            }
            rotate_left
            {
            simp only [qzs]
            rfl
            }
            refine pure_ (i := 9) (N := some 33) (v := ?_) (a' := ?_) (bqz 31 1023) rfl rfl qza qzd (Or.inl ⟨by rfl, ?_⟩) ?_ ?_
            rotate_left
            {
            intro w'
            go_simp
            with_reducible rfl
            }
            rotate_left
            {
            simp only [qzs]
            rfl
            }
            refine pure_ (i := 10) (N := some 34) (v := ?_) (a' := ?_) (bqz 31 2047) rfl rfl qza qzd (Or.inl ⟨by rfl, ?_⟩) ?_ ?_
            rotate_left
            {
            intro w'
            go_simp
            with_reducible rfl
            }
            rotate_left
            {
            simp only [qzs]
            rfl
            }
            refine pure_ (i := 11) (N := some 35) (v := ?_) (a' := ?_) (bqz 31 4095) rfl rfl qza qzd (Or.inl ⟨by rfl, ?_⟩) ?_ ?_
            rotate_left
            {
            intro w'
            go_simp
            with_reducible rfl
            }
            rotate_left
            {
            simp only [qzs]
            rfl
            }
            refine pure_ (i := 12) (N := some 36) (v := ?_) (a' := ?_) (bqz 31 8191) rfl rfl qza qzd (Or.inl ⟨by rfl, ?_⟩) ?_ ?_
            rotate_left
            {
            intro w'
            go_simp
            with_reducible rfl
            }
            rotate_left
            {
            simp only [qzs]
            rfl
            }
            refine pure_ (i := 14) (N := some 38) (v := ?_) (a' := ?_) (bqz 31 24575) rfl rfl qza qzd (Or.inl ⟨by rfl, ?_⟩) ?_ ?_
            rotate_left
            {
            intro w'
            go_simp
            with_reducible rfl
            }
            rotate_left
            {
            simp only [qzs]
            rfl
            }
            refine take_ (i := 13) (N := some 37) (v := ?_) (a' := ?_) (bqz 31 32767) rfl rfl qzb qzd (Or.inl ⟨by rfl, ?_⟩) hHeld ?_ ?_
            rotate_left
            {
            rintro w' ⟨s0, s1, s2, s3, s4, s5, s6, s7, s8, s9, s10, s11, s12⟩
            go_simp
            with_reducible rfl
            }
            rotate_left
            {
            simp only [qzs]
            rfl
            }
            refine take_ (i := 15) (N := some 39) (v := ?_) (a' := ?_) (bqz 31 65535) rfl rfl qzb qzd (Or.inl ⟨by rfl, ?_⟩) hHeld ?_ ?_
            rotate_left
            {
            rintro w' ⟨s0, s1, s2, s3, s4, s5, s6, s7, s8, s9, s10, s11, s12⟩
            go_simp
            with_reducible rfl
            }
            rotate_left
            {
            simp only [qzs]
            rfl
            }
            refine pure_ (i := 16) (N := some 40) (v := ?_) (a' := ?_) (bqz 31 131071) rfl rfl qza qzd (Or.inl ⟨by rfl, ?_⟩) ?_ ?_
            rotate_left
            {
            intro w'
            go_simp
            with_reducible rfl
            }
            rotate_left
            {
            simp only [qzs]
            rfl
            }
            refine pure_ (i := 17) (N := some 41) (v := ?_) (a' := ?_) (bqz 31 262143) rfl rfl qza qzd (Or.inl ⟨by rfl, ?_⟩) ?_ ?_
            rotate_left
            {
            intro w'
            go_simp
            with_reducible rfl
            }
            rotate_left
            {
            simp only [qzs]
            rfl
            }
            refine pure_ (i := 18) (N := some 42) (v := ?_) (a' := ?_) (bqz 31 524287) rfl rfl qza qzd (Or.inl ⟨by rfl, ?_⟩) ?_ ?_
            rotate_left
            {
            intro w'
            go_simp
            with_reducible rfl
            }
            rotate_left
            {
            simp only [qzs]
            rfl
            }
            refine pure_ (i := 19) (N := some 43) (v := ?_) (a' := ?_) (bqz 31 1048575) rfl rfl qza qzd (Or.inl ⟨by rfl, ?_⟩) ?_ ?_
            rotate_left
            {
            intro w'
            go_simp
            with_reducible rfl
            }
            rotate_left
            {
            simp only [qzs]
            rfl
            }
            refine take_ (i := 20) (N := some 44) (v := ?_) (a' := ?_) (bqz 31 2097151) rfl rfl qzb qzd (Or.inl ⟨by rfl, ?_⟩) hHeld ?_ ?_
            rotate_left
            {
            rintro w' ⟨s0, s1, s2, s3, s4, s5, s6, s7, s8, s9, s10, s11, s12⟩
            go_simp
            with_reducible rfl
            }
            rotate_left
            {
            simp only [qzs]
            rfl
            }
            refine take_ (i := 21) (N := some 45) (v := ?_) (a' := ?_) (bqz 31 4194303) rfl rfl qzb qzd (Or.inl ⟨by rfl, ?_⟩) hHeld ?_ ?_
            rotate_left
            {
            rintro w' ⟨s0, s1, s2, s3, s4, s5, s6, s7, s8, s9, s10, s11, s12⟩
            go_simp
            with_reducible rfl
            }
            rotate_left
            {
            simp only [qzs]
            rfl
            }
            refine one_ (i := 22) (N := some 46) (bqz 31 8388607) rfl rfl qzc (by decide) (fun K hK => ?_)
            refine goes_ Try.func101 (by kernel_rfl) rfl #[.agg #[.int .i64 a0_0, .int .i64 a0_1, .slice A0_2 l0_2.length c0_2], .agg #[.int .i64 ((rd_T34 l1 x19_2).f0), .int .i64 ((rd_T34 l1 x19_2).f1), .int .i64 ((rd_T34 l1 x19_2).f2), .bool ((rd_T34 l1 x19_2).f3), .int .i64 ((rd_T34 l1 x19_2).f4)]] (by rfl) rfl rfl qz2 ?_
            with_reducible refine (impl_standsOk.calls k2 a0_0 a0_1 _ _ l0_2 ((rd_T34 l1 x19_2).f0) ((rd_T34 l1 x19_2).f1) ((rd_T34 l1 x19_2).f2) ((rd_T34 l1 x19_2).f3) ((rd_T34 l1 x19_2).f4) false _ ?side1 ?side2 A28.out).mono ?_
            (case side1 => repeat (first | exact (Kd.C_below HR0_2.out qz6) | (with_reducible refine Kd.C_alloc ?_ _) | (with_reducible refine Kd.C_drewN ?_ _) | (with_reducible refine Kd.C_drew ?_)))
            (case side2 => exact HC0_2.out)
            rintro e w36 ⟨rfl, hb⟩
            refine ⟨_, rfl, ?_⟩
            have n0_ := Aside0.mk (blk_below (g := gb134) (o := .cells #[.int .i64 a0_0, .int .i64 a0_1, .slice A0_2 l0_2.length c0_2] 26 (0, 0)) qz16 hb)
            have n1_ := Aside0.mk (blk_below (g := gb137) (o := .cells #[.int .i64 ((rd_T34 l1 x19_2).f0), .int .i64 ((rd_T34 l1 x19_2).f1), .int .i64 ((rd_T34 l1 x19_2).f2), .bool ((rd_T34 l1 x19_2).f3), .int .i64 ((rd_T34 l1 x19_2).f4)] 34 (0, 0)) (by (with_reducible repeat (first | refine blk_drewN ?_ _ | refine blk_drew ?_ | refine blk_alloc ?_ _)); exact BK137.out) hb)
            have n2_ := Aside0.mk (below_step qz6 hb)
            clear BK134
            clear BK137
            clear HB
            have BK134 := n0_
            have BK137 := n1_
            have HB := n2_
            clear n0_ n1_ n2_
            (try clear hb)
            (try clear hb2)
            (try clear hk)
            (try clear hi)
            refine hK.out _ _ ⟨(blk_cell BK137.out 0).trans rfl, (blk_cell BK137.out 1).trans rfl, (blk_cell BK137.out 2).trans rfl, (blk_cell BK137.out 3).trans rfl, (blk_cell BK137.out 4).trans rfl, (blk_cell BK134.out 0).trans rfl, (blk_cell BK134.out 1).trans rfl, (blk_cell BK134.out 2).trans rfl, ((HB.out.cell (World.block_lt_of_cell? w _ hw139_0)).trans hw139_0), ((HB.out.cell (World.block_lt_of_cell? w _ hw139_1)).trans hw139_1), ((HB.out.cell (World.block_lt_of_cell? w _ hw139_2)).trans hw139_2), ((HB.out.cell (World.block_lt_of_cell? w _ hw139_3)).trans hw139_3), ((HB.out.cell (World.block_lt_of_cell? w _ hw139_4)).trans hw139_4)⟩ (fun hHeld => ?_)
            clear hK K
            refine norm_ (a' := ?_) ?_ ?_
            rotate_left
            {
            show Act.put _ (some 46) _ = _
            simp only [qzs]
            rfl
            }
            refine pure_ (i := 23) (N := some 47) (v := ?_) (a' := ?_) (bqz 31 16777215) rfl rfl qza qzd (Or.inl ⟨by rfl, ?_⟩) ?_ ?_
            rotate_left
            {
            intro w'
            go_simp
            with_reducible rfl
            }
            rotate_left
            {
            simp only [qzs]
            rfl
            }
            refine pure_ (i := 24) (N := some 48) (v := ?_) (a' := ?_) (bqz 31 33554431) rfl rfl qza qzd (Or.inl ⟨by rfl, ?_⟩) ?_ ?_
            rotate_left
            {
            intro w'
            go_simp
            with_reducible rfl
            }
            rotate_left
            {
            simp only [qzs]
            rfl
            }
            refine pure_ (i := 25) (N := some 49) (v := ?_) (a' := ?_) (bqz 31 67108863) rfl rfl qza qzd (Or.inl ⟨by rfl, ?_⟩) ?_ ?_
            rotate_left
            {
            intro w'
            go_simp
            with_reducible rfl
            }
            rotate_left
            {
            simp only [qzs]
            rfl
            }
            refine pure_ (i := 26) (N := some 50) (v := undef) (a' := ?_) (bqz 31 134217727) rfl rfl qza qzd (Or.inr ⟨by rfl, rfl⟩) ?_ ?_
            rotate_left
            {
            simp only [qzs]
            rfl
            }
            refine pure_ (i := 27) (N := some 51) (v := undef) (a' := ?_) (bqz 31 268435455) rfl rfl qza qzd (Or.inr ⟨by rfl, rfl⟩) ?_ ?_
            rotate_left
            {
            simp only [qzs]
            rfl
            }
            refine pure_ (i := 28) (N := some 52) (v := undef) (a' := ?_) (bqz 31 536870911) rfl rfl qza qzd (Or.inr ⟨by rfl, rfl⟩) ?_ ?_
            rotate_left
            {
            simp only [qzs]
            rfl
            }
            refine pure_ (i := 29) (N := some 53) (v := undef) (a' := ?_) (bqz 31 1073741823) rfl rfl qza qzd (Or.inr ⟨by rfl, rfl⟩) ?_ ?_
            rotate_left
            {
            simp only [qzs]
            rfl
            }
            refine pure_ (i := 30) (N := some 54) (v := ?_) (a' := ?_) (bqz 31 2147483647) rfl rfl qza qzd (Or.inl ⟨by rfl, ?_⟩) ?_ ?_
            rotate_left
            {
            intro w'
            go_simp
            with_reducible rfl
            }
            rotate_left
            {
            simp only [qzs]
            rfl
            }
            refine done_ (done_of HT_.out (by kernel_rfl)) ?_
            try go_wp2
            go_meet
            case rel => exact ⟨_, (true), qz14, H', ⟨by have := HJ2.out; have := HK2.out; first | omega | exact Nat.le_refl _⟩, ⟨by (with_reducible repeat (first | refine blk_drewN ?_ _ | refine blk_drew ?_ | refine blk_alloc ?_ _)); exact BK134.out⟩, ⟨by (with_reducible repeat (first | refine blk_drewN ?_ _ | refine blk_drew ?_ | refine blk_alloc ?_ _)); exact BK137.out⟩, ⟨by repeat (first | (with_reducible first | exact HB.out | apply below_alloc | apply pw_below_drewN | apply below_drew1 | refine below_set ?_ GE134.out | refine below_set ?_ GE137.out) | exact HB.out)⟩⟩
            }
            }
            }
            {
            rw [if_neg c24] at H
            exact absurd H (by simp)
            }
            }
            {
            rw [if_neg c23] at H
            exact absurd H (by simp)
            }
            }
            {
            rw [if_neg c21] at H
            have c21b0 : decide (0 < x19_2) = false := decide_eq_false c21
            clear c21
            (first | rw [c21b0] | (simp only [i64_w, i32_w]; rw [c21b0]) | rw [@decide_eq_false _ _ (of_decide_eq_false c21b0)] | rw [@decide_eq_false _ _ (of_decide_eq_false c21b1)] | skip)
            replace H := Option.bind_eq_some_iff.mp H
            obtain ⟨t142, A370, H⟩ := H
            replace H : (if t142 = true then ((impl_in.f ((rd_T34 l1 x19_2).f4) 0 1000000).bind fun t143 => (impl_CrewOk.j2 k2 l1 x19_2 l1 (l1.length : Int) x19_2 (!t143) a0_0 a0_1 l0_2 ((rd_T34 l1 x19_2).f0) ((rd_T34 l1 x19_2).f1) ((rd_T34 l1 x19_2).f2) ((rd_T34 l1 x19_2).f3) ((rd_T34 l1 x19_2).f4))) else (impl_CrewOk.j2 k2 l1 x19_2 l1 (l1.length : Int) x19_2 true a0_0 a0_1 l0_2 ((rd_T34 l1 x19_2).f0) ((rd_T34 l1 x19_2).f1) ((rd_T34 l1 x19_2).f2) ((rd_T34 l1 x19_2).f3) ((rd_T34 l1 x19_2).f4))) = some r := H
            have A37 := Aside0.mk A370
            clear A370
            by_cases c38 : t142 = true
            {
            subst c38
            have H1 : ((impl_in.f ((rd_T34 l1 x19_2).f4) 0 1000000).bind fun t143 => (impl_CrewOk.j2 k2 l1 x19_2 l1 (l1.length : Int) x19_2 (!t143) a0_0 a0_1 l0_2 ((rd_T34 l1 x19_2).f0) ((rd_T34 l1 x19_2).f1) ((rd_T34 l1 x19_2).f2) ((rd_T34 l1 x19_2).f3) ((rd_T34 l1 x19_2).f4))) = some r := by rw [if_pos rfl] at H; exact H
            clear H
            have H := H1
            clear H1
            replace H := Option.bind_eq_some_iff.mp H
            obtain ⟨t143, A390, H⟩ := H
            replace H : (impl_CrewOk.j2 k2 l1 x19_2 l1 (l1.length : Int) x19_2 (!t143) a0_0 a0_1 l0_2 ((rd_T34 l1 x19_2).f0) ((rd_T34 l1 x19_2).f1) ((rd_T34 l1 x19_2).f2) ((rd_T34 l1 x19_2).f3) ((rd_T34 l1 x19_2).f4)) = some r := H
            have A39 := Aside0.mk A390
            clear A390
            have H' := Aside0.mk H
            clear H
            try go_wp2
            generalize hq_ : (((((w16.setCell ⟨gb137, 0, none⟩ (.int .i64 ((rd_T34 l1 x19_2).f0))).setCell ⟨gb137, 1, none⟩ (.int .i64 ((rd_T34 l1 x19_2).f1))).setCell ⟨gb137, 2, none⟩ (.int .i64 ((rd_T34 l1 x19_2).f2))).setCell ⟨gb137, 3, none⟩ (.bool ((rd_T34 l1 x19_2).f3))).setCell ⟨gb137, 4, none⟩ (.int .i64 ((rd_T34 l1 x19_2).f4))) = w40
            have n0_ : Aside0 (w40.heap[gb134]? = some (.cells #[.int .i64 a0_0, .int .i64 a0_1, .slice A0_2 l0_2.length c0_2] 26 (0, 0))) := ⟨by rw [← hq_]; exact qz5⟩
            have n1_ : Aside0 (w40.heap[gb137]? = some (.cells #[.int .i64 ((rd_T34 l1 x19_2).f0), .int .i64 ((rd_T34 l1 x19_2).f1), .int .i64 ((rd_T34 l1 x19_2).f2), .bool ((rd_T34 l1 x19_2).f3), .int .i64 ((rd_T34 l1 x19_2).f4)] 34 (0, 0))) := ⟨by rw [← hq_]; exact (by (with_reducible repeat (first | refine blk_drewN ?_ _ | refine blk_drew ?_ | refine blk_alloc ?_ _)); refine blk_put (cs := #[.int .i64 ((rd_T34 l1 x19_2).f0), .int .i64 ((rd_T34 l1 x19_2).f1), .int .i64 ((rd_T34 l1 x19_2).f2), .bool ((rd_T34 l1 x19_2).f3), .int .i64 0]) ?_ 4 _ rfl; (with_reducible repeat (first | refine blk_drewN ?_ _ | refine blk_drew ?_ | refine blk_alloc ?_ _)); refine blk_put (cs := #[.int .i64 ((rd_T34 l1 x19_2).f0), .int .i64 ((rd_T34 l1 x19_2).f1), .int .i64 ((rd_T34 l1 x19_2).f2), .bool false, .int .i64 0]) ?_ 3 _ rfl; (with_reducible repeat (first | refine blk_drewN ?_ _ | refine blk_drew ?_ | refine blk_alloc ?_ _)); refine blk_put (cs := #[.int .i64 ((rd_T34 l1 x19_2).f0), .int .i64 ((rd_T34 l1 x19_2).f1), .int .i64 0, .bool false, .int .i64 0]) ?_ 2 _ rfl; (with_reducible repeat (first | refine blk_drewN ?_ _ | refine blk_drew ?_ | refine blk_alloc ?_ _)); refine blk_put (cs := #[.int .i64 ((rd_T34 l1 x19_2).f0), .int .i64 0, .int .i64 0, .bool false, .int .i64 0]) ?_ 1 _ rfl; (with_reducible repeat (first | refine blk_drewN ?_ _ | refine blk_drew ?_ | refine blk_alloc ?_ _)); refine blk_put (cs := #[.int .i64 0, .int .i64 0, .int .i64 0, .bool false, .int .i64 0]) ?_ 0 _ rfl; (with_reducible repeat (first | refine blk_drewN ?_ _ | refine blk_drew ?_ | refine blk_alloc ?_ _)); exact BK137.out)⟩
            have n2_ : Aside0 (Below w.heap.size w w40) := ⟨by rw [← hq_]; exact qz6⟩
            (try clear BK134)
            (try clear BK137)
            (try clear HB)
            clear hq_
            have BK134 := n0_
            have BK137 := n1_
            have HB := n2_
            clear n0_ n1_ n2_
            have n0_ := Aside0.mk (blk_drew BK134.out)
            have n1_ := Aside0.mk (blk_drew BK137.out)
            have n2_ := Aside0.mk (below_drew1 HB.out)
            clear BK134
            clear BK137
            clear HB
            have BK134 := n0_
            have BK137 := n1_
            have HB := n2_
            clear n0_ n1_ n2_
            refine start_ (n := 31) (S := fun w' => w'.cell? ⟨gb137, 0, none⟩ = some (.int .i64 ((rd_T34 l1 x19_2).f0)) ∧ w'.cell? ⟨gb137, 1, none⟩ = some (.int .i64 ((rd_T34 l1 x19_2).f1)) ∧ w'.cell? ⟨gb137, 2, none⟩ = some (.int .i64 ((rd_T34 l1 x19_2).f2)) ∧ w'.cell? ⟨gb137, 3, none⟩ = some (.bool ((rd_T34 l1 x19_2).f3)) ∧ w'.cell? ⟨gb137, 4, none⟩ = some (.int .i64 ((rd_T34 l1 x19_2).f4)) ∧ w'.cell? ⟨gb134, 0, none⟩ = some (.int .i64 a0_0) ∧ w'.cell? ⟨gb134, 1, none⟩ = some (.int .i64 a0_1) ∧ w'.cell? ⟨gb134, 2, none⟩ = some (.slice A0_2 l0_2.length c0_2)) (ds := []) #[false, false, false, false, false, false, false, false, false, false, false, false, false, false, false, false, false, false, false, false, false, false, false, false, false, false, false, false, false, false, false] (by kernel_rfl) rfl rfl ⟨(blk_cell BK137.out 0).trans rfl, (blk_cell BK137.out 1).trans rfl, (blk_cell BK137.out 2).trans rfl, (blk_cell BK137.out 3).trans rfl, (blk_cell BK137.out 4).trans rfl, (blk_cell BK134.out 0).trans rfl, (blk_cell BK134.out 1).trans rfl, (blk_cell BK134.out 2).trans rfl⟩ (fun hHeld => ?_); refine with_tabW impl_CrewOk.tab6 impl_CrewOk.bits6 (fun HT_ HW_ => ?_)
            generalize w40.drew = w41 at BK134 BK137 HB hHeld ⊢
            refine pure_ (i := 0) (N := some 24) (v := ?_) (a' := ?_) (bqz 31 1) rfl rfl qza qzd (Or.inl ⟨by rfl, ?_⟩) ?_ ?_
            rotate_left
            {
            intro w'
            go_simp
            with_reducible rfl
            }
            rotate_left
            {
            simp only [qzs]
            rfl
            }
            refine take_ (i := 1) (N := some 25) (v := ?_) (a' := ?_) (bqz 31 3) rfl rfl qzb qzd (Or.inl ⟨by rfl, ?_⟩) hHeld ?_ ?_
            rotate_left
            {
            rintro w' ⟨s0, s1, s2, s3, s4, s5, s6, s7⟩
            go_simp
            with_reducible rfl
            }
            rotate_left
            {
            simp only [qzs]
            rfl
            }
            refine one_ (i := 2) (N := some 26) (bqz 31 7) rfl rfl qzc (by decide) (fun K hK => ?_)
            refine goes_ Try.func92 (by kernel_rfl) rfl #[.int .i64 ((rd_T34 l1 x19_2).f0), .int .i64 1, .int .i64 99] (by rfl) rfl rfl qz2 ?_
            with_reducible refine (impl_in.calls ((rd_T34 l1 x19_2).f0) 1 99 true _ A19.out).mono ?_
            rintro e w' ⟨rfl, ⟨nd, rfl⟩⟩
            refine ⟨_, rfl, ?_⟩
            refine hK.out _ _ ⟨(blk_cell BK137.out 0).trans rfl, (blk_cell BK137.out 1).trans rfl, (blk_cell BK137.out 2).trans rfl, (blk_cell BK137.out 3).trans rfl, (blk_cell BK137.out 4).trans rfl, (blk_cell BK134.out 0).trans rfl, (blk_cell BK134.out 1).trans rfl, (blk_cell BK134.out 2).trans rfl⟩ (fun hHeld => ?_)
            clear hK K
            refine norm_ (a' := ?_) ?_ ?_
            rotate_left
            {
            show Act.put _ (some 26) _ = _
            simp only [qzs]
            rfl
            }
            refine pure_ (i := 3) (N := some 27) (v := ?_) (a' := ?_) (bqz 31 15) rfl rfl qza qzd (Or.inl ⟨by rfl, ?_⟩) ?_ ?_
            rotate_left
            {
            intro w'
            go_simp
            with_reducible rfl
            }
            rotate_left
            {
            simp only [qzs]
            rfl
            }
            refine pure_ (i := 4) (N := some 28) (v := ?_) (a' := ?_) (bqz 31 31) rfl rfl qza qzd (Or.inl ⟨by rfl, ?_⟩) ?_ ?_
            rotate_left
            {
            intro w'
            go_simp
            with_reducible rfl
            }
            rotate_left
            {
            simp only [qzs]
            rfl
            }
            refine pure_ (i := 5) (N := some 29) (v := ?_) (a' := ?_) (bqz 31 63) rfl rfl qza qzd (Or.inl ⟨by rfl, ?_⟩) ?_ ?_
            rotate_left
            {
            intro w'
            go_simp
            with_reducible rfl
            }
            rotate_left
            {
            simp only [qzs]
            rfl
            }
            refine pure_ (i := 6) (N := some 30) (v := ?_) (a' := ?_) (bqz 31 127) rfl rfl qza qzd (Or.inl ⟨by rfl, ?_⟩) ?_ ?_
            rotate_left
            {
            intro w'
            go_simp
            with_reducible rfl
            }
            rotate_left
            {
            simp only [qzs]
            rfl
            }
            refine pure_ (i := 7) (N := some 31) (v := ?_) (a' := ?_) (bqz 31 255) rfl rfl qza qzd (Or.inl ⟨by rfl, ?_⟩) ?_ ?_
            rotate_left
            {
            intro w'
            go_simp
            with_reducible rfl
            }
            rotate_left
            {
            simp only [qzs]
            rfl
            }
            refine pure_ (i := 8) (N := some 32) (v := undef) (a' := ?_) (bqz 31 511) rfl rfl qza qzd (Or.inr ⟨by rfl, rfl⟩) ?_ ?_
            rotate_left
            {
            simp only [qzs]
            rfl
            }
            refine pure_ (i := 9) (N := some 33) (v := undef) (a' := ?_) (bqz 31 1023) rfl rfl qza qzd (Or.inr ⟨by rfl, rfl⟩) ?_ ?_
            rotate_left
            {
            simp only [qzs]
            rfl
            }
            refine pure_ (i := 10) (N := some 34) (v := undef) (a' := ?_) (bqz 31 2047) rfl rfl qza qzd (Or.inr ⟨by rfl, rfl⟩) ?_ ?_
            rotate_left
            {
            simp only [qzs]
            rfl
            }
            refine pure_ (i := 11) (N := some 35) (v := undef) (a' := ?_) (bqz 31 4095) rfl rfl qza qzd (Or.inr ⟨by rfl, rfl⟩) ?_ ?_
            rotate_left
            {
            simp only [qzs]
            rfl
            }
            refine pure_ (i := 12) (N := some 36) (v := undef) (a' := ?_) (bqz 31 8191) rfl rfl qza qzd (Or.inr ⟨by rfl, rfl⟩) ?_ ?_
            rotate_left
            {
            simp only [qzs]
            rfl
            }
            refine pure_ (i := 13) (N := some 37) (v := undef) (a' := ?_) (bqz 31 16383) rfl rfl qza qzd (Or.inr ⟨by rfl, rfl⟩) ?_ ?_
            rotate_left
            {
            simp only [qzs]
            rfl
            }
            refine pure_ (i := 14) (N := some 38) (v := undef) (a' := ?_) (bqz 31 32767) rfl rfl qza qzd (Or.inr ⟨by rfl, rfl⟩) ?_ ?_
            rotate_left
            {
            simp only [qzs]
            rfl
            }
            refine pure_ (i := 15) (N := some 39) (v := undef) (a' := ?_) (bqz 31 65535) rfl rfl qza qzd (Or.inr ⟨by rfl, rfl⟩) ?_ ?_
            rotate_left
            {
            simp only [qzs]
            rfl
            }
            refine pure_ (i := 16) (N := some 40) (v := undef) (a' := ?_) (bqz 31 131071) rfl rfl qza qzd (Or.inr ⟨by rfl, rfl⟩) ?_ ?_
            rotate_left
            {
            simp only [qzs]
            rfl
            }
            refine pure_ (i := 17) (N := some 41) (v := ?_) (a' := ?_) (bqz 31 262143) rfl rfl qza qzd (Or.inl ⟨by rfl, ?_⟩) ?_ ?_
            rotate_left
            {
            intro w'
            go_simp
            with_reducible rfl
            }
            rotate_left
            {
            simp only [qzs]
            rfl
            }
            refine pure_ (i := 18) (N := some 42) (v := ?_) (a' := ?_) (bqz 31 524287) rfl rfl qza qzd (Or.inl ⟨by rfl, ?_⟩) ?_ ?_
            rotate_left
            {
            intro w'
            go_simp
            with_reducible rfl
            }
            rotate_left
            {
            simp only [qzs]
            rfl
            }
            refine pure_ (i := 19) (N := some 43) (v := ?_) (a' := ?_) (bqz 31 1048575) rfl rfl qza qzd (Or.inl ⟨by rfl, ?_⟩) ?_ ?_
            rotate_left
            {
            intro w'
            go_simp
            with_reducible rfl
            }
            rotate_left
            {
            simp only [qzs]
            rfl
            }
            refine take_ (i := 20) (N := some 44) (v := ?_) (a' := ?_) (bqz 31 2097151) rfl rfl qzb qzd (Or.inl ⟨by rfl, ?_⟩) hHeld ?_ ?_
            rotate_left
            {
            rintro w' ⟨s0, s1, s2, s3, s4, s5, s6, s7⟩
            go_simp
            with_reducible rfl
            }
            rotate_left
            {
            simp only [qzs]
            rfl
            }
            refine take_ (i := 21) (N := some 45) (v := ?_) (a' := ?_) (bqz 31 4194303) rfl rfl qzb qzd (Or.inl ⟨by rfl, ?_⟩) hHeld ?_ ?_
            rotate_left
            {
            rintro w' ⟨s0, s1, s2, s3, s4, s5, s6, s7⟩
            go_simp
            with_reducible rfl
            }
            rotate_left
            {
            simp only [qzs]
            rfl
            }
            refine one_ (i := 22) (N := some 46) (bqz 31 8388607) rfl rfl qzc (by decide) (fun K hK => ?_)
            refine goes_ Try.func101 (by kernel_rfl) rfl #[.agg #[.int .i64 a0_0, .int .i64 a0_1, .slice A0_2 l0_2.length c0_2], .agg #[.int .i64 ((rd_T34 l1 x19_2).f0), .int .i64 ((rd_T34 l1 x19_2).f1), .int .i64 ((rd_T34 l1 x19_2).f2), .bool ((rd_T34 l1 x19_2).f3), .int .i64 ((rd_T34 l1 x19_2).f4)]] (by rfl) rfl rfl qz2 ?_
            with_reducible refine (impl_standsOk.calls k2 a0_0 a0_1 _ _ l0_2 ((rd_T34 l1 x19_2).f0) ((rd_T34 l1 x19_2).f1) ((rd_T34 l1 x19_2).f2) ((rd_T34 l1 x19_2).f3) ((rd_T34 l1 x19_2).f4) true _ ?side1 ?side2 A37.out).mono ?_
            (case side1 => repeat (first | exact (Kd.C_below HR0_2.out qz6) | (with_reducible refine Kd.C_alloc ?_ _) | (with_reducible refine Kd.C_drewN ?_ _) | (with_reducible refine Kd.C_drew ?_)))
            (case side2 => exact HC0_2.out)
            rintro e w42 ⟨rfl, hb⟩
            refine ⟨_, rfl, ?_⟩
            have n0_ := Aside0.mk (blk_below (g := gb134) (o := .cells #[.int .i64 a0_0, .int .i64 a0_1, .slice A0_2 l0_2.length c0_2] 26 (0, 0)) qz16 hb)
            have n1_ := Aside0.mk (blk_below (g := gb137) (o := .cells #[.int .i64 ((rd_T34 l1 x19_2).f0), .int .i64 ((rd_T34 l1 x19_2).f1), .int .i64 ((rd_T34 l1 x19_2).f2), .bool ((rd_T34 l1 x19_2).f3), .int .i64 ((rd_T34 l1 x19_2).f4)] 34 (0, 0)) (by (with_reducible repeat (first | refine blk_drewN ?_ _ | refine blk_drew ?_ | refine blk_alloc ?_ _)); exact BK137.out) hb)
            have n2_ := Aside0.mk (below_step qz6 hb)
            clear BK134
            clear BK137
            clear HB
            have BK134 := n0_
            have BK137 := n1_
            have HB := n2_
            clear n0_ n1_ n2_
            (try clear hb)
            (try clear hb2)
            (try clear hk)
            (try clear hi)
            refine hK.out _ _ ⟨(blk_cell BK137.out 0).trans rfl, (blk_cell BK137.out 1).trans rfl, (blk_cell BK137.out 2).trans rfl, (blk_cell BK137.out 3).trans rfl, (blk_cell BK137.out 4).trans rfl, (blk_cell BK134.out 0).trans rfl, (blk_cell BK134.out 1).trans rfl, (blk_cell BK134.out 2).trans rfl⟩ (fun hHeld => ?_)
            clear hK K
            refine norm_ (a' := ?_) ?_ ?_
            rotate_left
            {
            show Act.put _ (some 46) _ = _
            simp only [qzs]
            rfl
            }
            refine pure_ (i := 23) (N := some 47) (v := ?_) (a' := ?_) (bqz 31 16777215) rfl rfl qza qzd (Or.inl ⟨by rfl, ?_⟩) ?_ ?_
            rotate_left
            {
            intro w'
            go_simp
            with_reducible rfl
            }
            rotate_left
            {
            simp only [qzs]
            rfl
            }
            refine pure_ (i := 24) (N := some 48) (v := ?_) (a' := ?_) (bqz 31 33554431) rfl rfl qza qzd (Or.inl ⟨by rfl, ?_⟩) ?_ ?_
            rotate_left
            {
            intro w'
            go_simp
            with_reducible rfl
            }
            rotate_left
            {
            simp only [qzs]
            rfl
            }
            refine pure_ (i := 25) (N := some 49) (v := ?_) (a' := ?_) (bqz 31 67108863) rfl rfl qza qzd (Or.inl ⟨by rfl, ?_⟩) ?_ ?_
            rotate_left
            {
            intro w'
            go_simp
            with_reducible rfl
            }
            rotate_left
            {
            simp only [qzs]
            rfl
            }
            refine pure_ (i := 26) (N := some 50) (v := ?_) (a' := ?_) (bqz 31 134217727) rfl rfl qza qzd (Or.inl ⟨by rfl, ?_⟩) ?_ ?_
            rotate_left
            {
            intro w'
            go_simp
            with_reducible rfl
            }
            rotate_left
            {
            simp only [qzs]
            rfl
            }
            refine take_ (i := 27) (N := some 51) (v := ?_) (a' := ?_) (bqz 31 268435455) rfl rfl qzb qzd (Or.inl ⟨by rfl, ?_⟩) hHeld ?_ ?_
            rotate_left
            {
            rintro w' ⟨s0, s1, s2, s3, s4, s5, s6, s7⟩
            go_simp
            with_reducible rfl
            }
            rotate_left
            {
            simp only [qzs]
            rfl
            }
            refine one_ (i := 28) (N := some 52) (bqz 31 536870911) rfl rfl qzc (by decide) (fun K hK => ?_)
            refine goes_ Try.func92 (by kernel_rfl) rfl #[.int .i64 ((rd_T34 l1 x19_2).f4), .int .i64 0, .int .i64 1000000] (by rfl) rfl rfl qz2 ?_
            with_reducible refine (impl_in.calls ((rd_T34 l1 x19_2).f4) 0 1000000 t143 _ A39.out).mono ?_
            rintro e w' ⟨rfl, ⟨nd, rfl⟩⟩
            refine ⟨_, rfl, ?_⟩
            refine hK.out _ _ ⟨(blk_cell BK137.out 0).trans rfl, (blk_cell BK137.out 1).trans rfl, (blk_cell BK137.out 2).trans rfl, (blk_cell BK137.out 3).trans rfl, (blk_cell BK137.out 4).trans rfl, (blk_cell BK134.out 0).trans rfl, (blk_cell BK134.out 1).trans rfl, (blk_cell BK134.out 2).trans rfl⟩ (fun hHeld => ?_)
            clear hK K
            refine norm_ (a' := ?_) ?_ ?_
            rotate_left
            {
            show Act.put _ (some 52) _ = _
            simp only [qzs]
            rfl
            }
            refine pure_ (i := 29) (N := some 53) (v := ?_) (a' := ?_) (bqz 31 1073741823) rfl rfl qza qzd (Or.inl ⟨by rfl, ?_⟩) ?_ ?_
            rotate_left
            {
            intro w'
            go_simp
            with_reducible rfl
            }
            rotate_left
            {
            simp only [qzs]
            rfl
            }
            refine pure_ (i := 30) (N := some 54) (v := ?_) (a' := ?_) (bqz 31 2147483647) rfl rfl qza qzd (Or.inl ⟨by rfl, ?_⟩) ?_ ?_
            rotate_left
            {
            intro w'
            go_simp
            with_reducible rfl
            }
            rotate_left
            {
            simp only [qzs]
            rfl
            }
            refine done_ (done_of HT_.out (by kernel_rfl)) ?_
            try go_wp2
            go_meet
            case rel => exact ⟨_, (!t143), qz14, H', ⟨by have := HJ2.out; have := HK2.out; first | omega | exact Nat.le_refl _⟩, ⟨by (with_reducible repeat (first | refine blk_drewN ?_ _ | refine blk_drew ?_ | refine blk_alloc ?_ _)); exact BK134.out⟩, ⟨by (with_reducible repeat (first | refine blk_drewN ?_ _ | refine blk_drew ?_ | refine blk_alloc ?_ _)); exact BK137.out⟩, ⟨by repeat (first | (with_reducible first | exact HB.out | apply below_alloc | apply pw_below_drewN | apply below_drew1 | refine below_set ?_ GE134.out | refine below_set ?_ GE137.out) | exact HB.out)⟩⟩
            }
            {
            replace c38 := Bool.eq_false_iff.mpr c38
            subst c38
            have H1 : (impl_CrewOk.j2 k2 l1 x19_2 l1 (l1.length : Int) x19_2 true a0_0 a0_1 l0_2 ((rd_T34 l1 x19_2).f0) ((rd_T34 l1 x19_2).f1) ((rd_T34 l1 x19_2).f2) ((rd_T34 l1 x19_2).f3) ((rd_T34 l1 x19_2).f4)) = some r := by rw [if_neg (show ¬ (false = true) by decide)] at H; exact H
            clear H
            have H := H1
            clear H1
            have H' := Aside0.mk H
            clear H
            try go_wp2
            generalize hq_ : (((((w16.setCell ⟨gb137, 0, none⟩ (.int .i64 ((rd_T34 l1 x19_2).f0))).setCell ⟨gb137, 1, none⟩ (.int .i64 ((rd_T34 l1 x19_2).f1))).setCell ⟨gb137, 2, none⟩ (.int .i64 ((rd_T34 l1 x19_2).f2))).setCell ⟨gb137, 3, none⟩ (.bool ((rd_T34 l1 x19_2).f3))).setCell ⟨gb137, 4, none⟩ (.int .i64 ((rd_T34 l1 x19_2).f4))) = w43
            have n0_ : Aside0 (w43.heap[gb134]? = some (.cells #[.int .i64 a0_0, .int .i64 a0_1, .slice A0_2 l0_2.length c0_2] 26 (0, 0))) := ⟨by rw [← hq_]; exact qz5⟩
            have n1_ : Aside0 (w43.heap[gb137]? = some (.cells #[.int .i64 ((rd_T34 l1 x19_2).f0), .int .i64 ((rd_T34 l1 x19_2).f1), .int .i64 ((rd_T34 l1 x19_2).f2), .bool ((rd_T34 l1 x19_2).f3), .int .i64 ((rd_T34 l1 x19_2).f4)] 34 (0, 0))) := ⟨by rw [← hq_]; exact (by (with_reducible repeat (first | refine blk_drewN ?_ _ | refine blk_drew ?_ | refine blk_alloc ?_ _)); refine blk_put (cs := #[.int .i64 ((rd_T34 l1 x19_2).f0), .int .i64 ((rd_T34 l1 x19_2).f1), .int .i64 ((rd_T34 l1 x19_2).f2), .bool ((rd_T34 l1 x19_2).f3), .int .i64 0]) ?_ 4 _ rfl; (with_reducible repeat (first | refine blk_drewN ?_ _ | refine blk_drew ?_ | refine blk_alloc ?_ _)); refine blk_put (cs := #[.int .i64 ((rd_T34 l1 x19_2).f0), .int .i64 ((rd_T34 l1 x19_2).f1), .int .i64 ((rd_T34 l1 x19_2).f2), .bool false, .int .i64 0]) ?_ 3 _ rfl; (with_reducible repeat (first | refine blk_drewN ?_ _ | refine blk_drew ?_ | refine blk_alloc ?_ _)); refine blk_put (cs := #[.int .i64 ((rd_T34 l1 x19_2).f0), .int .i64 ((rd_T34 l1 x19_2).f1), .int .i64 0, .bool false, .int .i64 0]) ?_ 2 _ rfl; (with_reducible repeat (first | refine blk_drewN ?_ _ | refine blk_drew ?_ | refine blk_alloc ?_ _)); refine blk_put (cs := #[.int .i64 ((rd_T34 l1 x19_2).f0), .int .i64 0, .int .i64 0, .bool false, .int .i64 0]) ?_ 1 _ rfl; (with_reducible repeat (first | refine blk_drewN ?_ _ | refine blk_drew ?_ | refine blk_alloc ?_ _)); refine blk_put (cs := #[.int .i64 0, .int .i64 0, .int .i64 0, .bool false, .int .i64 0]) ?_ 0 _ rfl; (with_reducible repeat (first | refine blk_drewN ?_ _ | refine blk_drew ?_ | refine blk_alloc ?_ _)); exact BK137.out)⟩
            have n2_ : Aside0 (Below w.heap.size w w43) := ⟨by rw [← hq_]; exact qz6⟩
            (try clear BK134)
            (try clear BK137)
            (try clear HB)
            clear hq_
            have BK134 := n0_
            have BK137 := n1_
            have HB := n2_
            clear n0_ n1_ n2_
            have n0_ := Aside0.mk (blk_drew BK134.out)
            have n1_ := Aside0.mk (blk_drew BK137.out)
            have n2_ := Aside0.mk (below_drew1 HB.out)
            clear BK134
            clear BK137
            clear HB
            have BK134 := n0_
            have BK137 := n1_
            have HB := n2_
            clear n0_ n1_ n2_
            refine start_ (n := 31) (S := fun w' => w'.cell? ⟨gb137, 0, none⟩ = some (.int .i64 ((rd_T34 l1 x19_2).f0)) ∧ w'.cell? ⟨gb137, 1, none⟩ = some (.int .i64 ((rd_T34 l1 x19_2).f1)) ∧ w'.cell? ⟨gb137, 2, none⟩ = some (.int .i64 ((rd_T34 l1 x19_2).f2)) ∧ w'.cell? ⟨gb137, 3, none⟩ = some (.bool ((rd_T34 l1 x19_2).f3)) ∧ w'.cell? ⟨gb137, 4, none⟩ = some (.int .i64 ((rd_T34 l1 x19_2).f4)) ∧ w'.cell? ⟨gb134, 0, none⟩ = some (.int .i64 a0_0) ∧ w'.cell? ⟨gb134, 1, none⟩ = some (.int .i64 a0_1) ∧ w'.cell? ⟨gb134, 2, none⟩ = some (.slice A0_2 l0_2.length c0_2)) (ds := []) #[false, false, false, false, false, false, false, false, false, false, false, false, false, false, false, false, false, false, false, false, false, false, false, false, false, false, false, false, false, false, false] (by kernel_rfl) rfl rfl ⟨(blk_cell BK137.out 0).trans rfl, (blk_cell BK137.out 1).trans rfl, (blk_cell BK137.out 2).trans rfl, (blk_cell BK137.out 3).trans rfl, (blk_cell BK137.out 4).trans rfl, (blk_cell BK134.out 0).trans rfl, (blk_cell BK134.out 1).trans rfl, (blk_cell BK134.out 2).trans rfl⟩ (fun hHeld => ?_); refine with_tabW impl_CrewOk.tab6 impl_CrewOk.bits6 (fun HT_ HW_ => ?_)
            generalize w43.drew = w44 at BK134 BK137 HB hHeld ⊢
            refine pure_ (i := 0) (N := some 24) (v := ?_) (a' := ?_) (bqz 31 1) rfl rfl qza qzd (Or.inl ⟨by rfl, ?_⟩) ?_ ?_
            rotate_left
            {
            intro w'
            go_simp
            with_reducible rfl
            }
            rotate_left
            {
            simp only [qzs]
            rfl
            }
            refine take_ (i := 1) (N := some 25) (v := ?_) (a' := ?_) (bqz 31 3) rfl rfl qzb qzd (Or.inl ⟨by rfl, ?_⟩) hHeld ?_ ?_
            rotate_left
            {
            rintro w' ⟨s0, s1, s2, s3, s4, s5, s6, s7⟩
            go_simp
            with_reducible rfl
            }
            rotate_left
            {
            simp only [qzs]
            rfl
            }
            refine one_ (i := 2) (N := some 26) (bqz 31 7) rfl rfl qzc (by decide) (fun K hK => ?_)
            refine goes_ Try.func92 (by kernel_rfl) rfl #[.int .i64 ((rd_T34 l1 x19_2).f0), .int .i64 1, .int .i64 99] (by rfl) rfl rfl qz2 ?_
            with_reducible refine (impl_in.calls ((rd_T34 l1 x19_2).f0) 1 99 true _ A19.out).mono ?_
            rintro e w' ⟨rfl, ⟨nd, rfl⟩⟩
            refine ⟨_, rfl, ?_⟩
            refine hK.out _ _ ⟨(blk_cell BK137.out 0).trans rfl, (blk_cell BK137.out 1).trans rfl, (blk_cell BK137.out 2).trans rfl, (blk_cell BK137.out 3).trans rfl, (blk_cell BK137.out 4).trans rfl, (blk_cell BK134.out 0).trans rfl, (blk_cell BK134.out 1).trans rfl, (blk_cell BK134.out 2).trans rfl⟩ (fun hHeld => ?_)
            clear hK K
            refine norm_ (a' := ?_) ?_ ?_
            rotate_left
            {
            show Act.put _ (some 26) _ = _
            simp only [qzs]
            rfl
            }
            refine pure_ (i := 3) (N := some 27) (v := ?_) (a' := ?_) (bqz 31 15) rfl rfl qza qzd (Or.inl ⟨by rfl, ?_⟩) ?_ ?_
            rotate_left
            {
            intro w'
            go_simp
            with_reducible rfl
            }
            rotate_left
            {
            simp only [qzs]
            rfl
            }
            refine pure_ (i := 4) (N := some 28) (v := ?_) (a' := ?_) (bqz 31 31) rfl rfl qza qzd (Or.inl ⟨by rfl, ?_⟩) ?_ ?_
            rotate_left
            {
            intro w'
            go_simp
            with_reducible rfl
            }
            rotate_left
            {
            simp only [qzs]
            rfl
            }
            refine pure_ (i := 5) (N := some 29) (v := ?_) (a' := ?_) (bqz 31 63) rfl rfl qza qzd (Or.inl ⟨by rfl, ?_⟩) ?_ ?_
            rotate_left
            {
            intro w'
            go_simp
            with_reducible rfl
            }
            rotate_left
            {
            simp only [qzs]
            rfl
            }
            refine pure_ (i := 6) (N := some 30) (v := ?_) (a' := ?_) (bqz 31 127) rfl rfl qza qzd (Or.inl ⟨by rfl, ?_⟩) ?_ ?_
            rotate_left
            {
            intro w'
            go_simp
            with_reducible rfl
            }
            rotate_left
            {
            simp only [qzs]
            rfl
            }
            refine pure_ (i := 7) (N := some 31) (v := ?_) (a' := ?_) (bqz 31 255) rfl rfl qza qzd (Or.inl ⟨by rfl, ?_⟩) ?_ ?_
            rotate_left
            {
            intro w'
            go_simp
            with_reducible rfl
            }
            rotate_left
            {
            simp only [qzs]
            rfl
            }
            refine pure_ (i := 8) (N := some 32) (v := undef) (a' := ?_) (bqz 31 511) rfl rfl qza qzd (Or.inr ⟨by rfl, rfl⟩) ?_ ?_
            rotate_left
            {
            simp only [qzs]
            rfl
            }
            refine pure_ (i := 9) (N := some 33) (v := undef) (a' := ?_) (bqz 31 1023) rfl rfl qza qzd (Or.inr ⟨by rfl, rfl⟩) ?_ ?_
            rotate_left
            {
            simp only [qzs]
            rfl
            }
            refine pure_ (i := 10) (N := some 34) (v := undef) (a' := ?_) (bqz 31 2047) rfl rfl qza qzd (Or.inr ⟨by rfl, rfl⟩) ?_ ?_
            rotate_left
            {
            simp only [qzs]
            rfl
            }
            refine pure_ (i := 11) (N := some 35) (v := undef) (a' := ?_) (bqz 31 4095) rfl rfl qza qzd (Or.inr ⟨by rfl, rfl⟩) ?_ ?_
            rotate_left
            {
            simp only [qzs]
            rfl
            }
            refine pure_ (i := 12) (N := some 36) (v := undef) (a' := ?_) (bqz 31 8191) rfl rfl qza qzd (Or.inr ⟨by rfl, rfl⟩) ?_ ?_
            rotate_left
            {
            simp only [qzs]
            rfl
            }
            refine pure_ (i := 13) (N := some 37) (v := undef) (a' := ?_) (bqz 31 16383) rfl rfl qza qzd (Or.inr ⟨by rfl, rfl⟩) ?_ ?_
            rotate_left
            {
            simp only [qzs]
            rfl
            }
            refine pure_ (i := 14) (N := some 38) (v := undef) (a' := ?_) (bqz 31 32767) rfl rfl qza qzd (Or.inr ⟨by rfl, rfl⟩) ?_ ?_
            rotate_left
            {
            simp only [qzs]
            rfl
            }
            refine pure_ (i := 15) (N := some 39) (v := undef) (a' := ?_) (bqz 31 65535) rfl rfl qza qzd (Or.inr ⟨by rfl, rfl⟩) ?_ ?_
            rotate_left
            {
            simp only [qzs]
            rfl
            }
            refine pure_ (i := 16) (N := some 40) (v := undef) (a' := ?_) (bqz 31 131071) rfl rfl qza qzd (Or.inr ⟨by rfl, rfl⟩) ?_ ?_
            rotate_left
            {
            simp only [qzs]
            rfl
            }
            refine pure_ (i := 17) (N := some 41) (v := ?_) (a' := ?_) (bqz 31 262143) rfl rfl qza qzd (Or.inl ⟨by rfl, ?_⟩) ?_ ?_
            rotate_left
            {
            intro w'
            go_simp
            with_reducible rfl
            }
            rotate_left
            {
            simp only [qzs]
            rfl
            }
            refine pure_ (i := 18) (N := some 42) (v := ?_) (a' := ?_) (bqz 31 524287) rfl rfl qza qzd (Or.inl ⟨by rfl, ?_⟩) ?_ ?_
            rotate_left
            {
            intro w'
            go_simp
            with_reducible rfl
            }
            rotate_left
            {
            simp only [qzs]
            rfl
            }
            refine pure_ (i := 19) (N := some 43) (v := ?_) (a' := ?_) (bqz 31 1048575) rfl rfl qza qzd (Or.inl ⟨by rfl, ?_⟩) ?_ ?_
            rotate_left
            {
            intro w'
            go_simp
            with_reducible rfl
            }
            rotate_left
            {
            simp only [qzs]
            rfl
            }
            refine take_ (i := 20) (N := some 44) (v := ?_) (a' := ?_) (bqz 31 2097151) rfl rfl qzb qzd (Or.inl ⟨by rfl, ?_⟩) hHeld ?_ ?_
            rotate_left
            {
            rintro w' ⟨s0, s1, s2, s3, s4, s5, s6, s7⟩
            go_simp
            with_reducible rfl
            }
            rotate_left
            {
            simp only [qzs]
            rfl
            }
            refine take_ (i := 21) (N := some 45) (v := ?_) (a' := ?_) (bqz 31 4194303) rfl rfl qzb qzd (Or.inl ⟨by rfl, ?_⟩) hHeld ?_ ?_
            rotate_left
            {
            rintro w' ⟨s0, s1, s2, s3, s4, s5, s6, s7⟩
            go_simp
            with_reducible rfl
            }
            rotate_left
            {
            simp only [qzs]
            rfl
            }
            refine one_ (i := 22) (N := some 46) (bqz 31 8388607) rfl rfl qzc (by decide) (fun K hK => ?_)
            refine goes_ Try.func101 (by kernel_rfl) rfl #[.agg #[.int .i64 a0_0, .int .i64 a0_1, .slice A0_2 l0_2.length c0_2], .agg #[.int .i64 ((rd_T34 l1 x19_2).f0), .int .i64 ((rd_T34 l1 x19_2).f1), .int .i64 ((rd_T34 l1 x19_2).f2), .bool ((rd_T34 l1 x19_2).f3), .int .i64 ((rd_T34 l1 x19_2).f4)]] (by rfl) rfl rfl qz2 ?_
            with_reducible refine (impl_standsOk.calls k2 a0_0 a0_1 _ _ l0_2 ((rd_T34 l1 x19_2).f0) ((rd_T34 l1 x19_2).f1) ((rd_T34 l1 x19_2).f2) ((rd_T34 l1 x19_2).f3) ((rd_T34 l1 x19_2).f4) false _ ?side1 ?side2 A37.out).mono ?_
            (case side1 => repeat (first | exact (Kd.C_below HR0_2.out qz6) | (with_reducible refine Kd.C_alloc ?_ _) | (with_reducible refine Kd.C_drewN ?_ _) | (with_reducible refine Kd.C_drew ?_)))
            (case side2 => exact HC0_2.out)
            rintro e w45 ⟨rfl, hb⟩
            refine ⟨_, rfl, ?_⟩
            have n0_ := Aside0.mk (blk_below (g := gb134) (o := .cells #[.int .i64 a0_0, .int .i64 a0_1, .slice A0_2 l0_2.length c0_2] 26 (0, 0)) qz16 hb)
            have n1_ := Aside0.mk (blk_below (g := gb137) (o := .cells #[.int .i64 ((rd_T34 l1 x19_2).f0), .int .i64 ((rd_T34 l1 x19_2).f1), .int .i64 ((rd_T34 l1 x19_2).f2), .bool ((rd_T34 l1 x19_2).f3), .int .i64 ((rd_T34 l1 x19_2).f4)] 34 (0, 0)) (by (with_reducible repeat (first | refine blk_drewN ?_ _ | refine blk_drew ?_ | refine blk_alloc ?_ _)); exact BK137.out) hb)
            have n2_ := Aside0.mk (below_step qz6 hb)
            clear BK134
            clear BK137
            clear HB
            have BK134 := n0_
            have BK137 := n1_
            have HB := n2_
            clear n0_ n1_ n2_
            (try clear hb)
            (try clear hb2)
            (try clear hk)
            (try clear hi)
            refine hK.out _ _ ⟨(blk_cell BK137.out 0).trans rfl, (blk_cell BK137.out 1).trans rfl, (blk_cell BK137.out 2).trans rfl, (blk_cell BK137.out 3).trans rfl, (blk_cell BK137.out 4).trans rfl, (blk_cell BK134.out 0).trans rfl, (blk_cell BK134.out 1).trans rfl, (blk_cell BK134.out 2).trans rfl⟩ (fun hHeld => ?_)
            clear hK K
            refine norm_ (a' := ?_) ?_ ?_
            rotate_left
            {
            show Act.put _ (some 46) _ = _
            simp only [qzs]
            rfl
            }
            refine pure_ (i := 23) (N := some 47) (v := ?_) (a' := ?_) (bqz 31 16777215) rfl rfl qza qzd (Or.inl ⟨by rfl, ?_⟩) ?_ ?_
            rotate_left
            {
            intro w'
            go_simp
            with_reducible rfl
            }
            rotate_left
            {
            simp only [qzs]
            rfl
            }
            refine pure_ (i := 24) (N := some 48) (v := ?_) (a' := ?_) (bqz 31 33554431) rfl rfl qza qzd (Or.inl ⟨by rfl, ?_⟩) ?_ ?_
            rotate_left
            {
            intro w'
            go_simp
            with_reducible rfl
            }
            rotate_left
            {
            simp only [qzs]
            rfl
            }
            refine pure_ (i := 25) (N := some 49) (v := ?_) (a' := ?_) (bqz 31 67108863) rfl rfl qza qzd (Or.inl ⟨by rfl, ?_⟩) ?_ ?_
            rotate_left
            {
            intro w'
            go_simp
            with_reducible rfl
            }
            rotate_left
            {
            simp only [qzs]
            rfl
            }
            refine pure_ (i := 26) (N := some 50) (v := undef) (a' := ?_) (bqz 31 134217727) rfl rfl qza qzd (Or.inr ⟨by rfl, rfl⟩) ?_ ?_
            rotate_left
            {
            simp only [qzs]
            rfl
            }
            refine pure_ (i := 27) (N := some 51) (v := undef) (a' := ?_) (bqz 31 268435455) rfl rfl qza qzd (Or.inr ⟨by rfl, rfl⟩) ?_ ?_
            rotate_left
            {
            simp only [qzs]
            rfl
            }
            refine pure_ (i := 28) (N := some 52) (v := undef) (a' := ?_) (bqz 31 536870911) rfl rfl qza qzd (Or.inr ⟨by rfl, rfl⟩) ?_ ?_
            rotate_left
            {
            simp only [qzs]
            rfl
            }
            refine pure_ (i := 29) (N := some 53) (v := undef) (a' := ?_) (bqz 31 1073741823) rfl rfl qza qzd (Or.inr ⟨by rfl, rfl⟩) ?_ ?_
            rotate_left
            {
            simp only [qzs]
            rfl
            }
            refine pure_ (i := 30) (N := some 54) (v := ?_) (a' := ?_) (bqz 31 2147483647) rfl rfl qza qzd (Or.inl ⟨by rfl, ?_⟩) ?_ ?_
            rotate_left
            {
            intro w'
            go_simp
            with_reducible rfl
            }
            rotate_left
            {
            simp only [qzs]
            rfl
            }
            refine done_ (done_of HT_.out (by kernel_rfl)) ?_
            try go_wp2
            go_meet
            case rel => exact ⟨_, (true), qz14, H', ⟨by have := HJ2.out; have := HK2.out; first | omega | exact Nat.le_refl _⟩, ⟨by (with_reducible repeat (first | refine blk_drewN ?_ _ | refine blk_drew ?_ | refine blk_alloc ?_ _)); exact BK134.out⟩, ⟨by (with_reducible repeat (first | refine blk_drewN ?_ _ | refine blk_drew ?_ | refine blk_alloc ?_ _)); exact BK137.out⟩, ⟨by repeat (first | (with_reducible first | exact HB.out | apply below_alloc | apply pw_below_drewN | apply below_drew1 | refine below_set ?_ GE134.out | refine below_set ?_ GE137.out) | exact HB.out)⟩⟩
            }
            }
            }
            {
            replace c20 := Bool.eq_false_iff.mpr c20
            subst c20
            have H1 : (impl_CrewOk.j2 k2 l1 x19_2 l1 (l1.length : Int) x19_2 true a0_0 a0_1 l0_2 ((rd_T34 l1 x19_2).f0) ((rd_T34 l1 x19_2).f1) ((rd_T34 l1 x19_2).f2) ((rd_T34 l1 x19_2).f3) ((rd_T34 l1 x19_2).f4)) = some r := by rw [if_neg (show ¬ (false = true) by decide)] at H; exact H
            clear H
            have H := H1
            clear H1
            have H' := Aside0.mk H
            clear H
            try go_wp2
            generalize hq_ : (((((w16.setCell ⟨gb137, 0, none⟩ (.int .i64 ((rd_T34 l1 x19_2).f0))).setCell ⟨gb137, 1, none⟩ (.int .i64 ((rd_T34 l1 x19_2).f1))).setCell ⟨gb137, 2, none⟩ (.int .i64 ((rd_T34 l1 x19_2).f2))).setCell ⟨gb137, 3, none⟩ (.bool ((rd_T34 l1 x19_2).f3))).setCell ⟨gb137, 4, none⟩ (.int .i64 ((rd_T34 l1 x19_2).f4))) = w46
            have n0_ : Aside0 (w46.heap[gb134]? = some (.cells #[.int .i64 a0_0, .int .i64 a0_1, .slice A0_2 l0_2.length c0_2] 26 (0, 0))) := ⟨by rw [← hq_]; exact qz5⟩
            have n1_ : Aside0 (w46.heap[gb137]? = some (.cells #[.int .i64 ((rd_T34 l1 x19_2).f0), .int .i64 ((rd_T34 l1 x19_2).f1), .int .i64 ((rd_T34 l1 x19_2).f2), .bool ((rd_T34 l1 x19_2).f3), .int .i64 ((rd_T34 l1 x19_2).f4)] 34 (0, 0))) := ⟨by rw [← hq_]; exact (by (with_reducible repeat (first | refine blk_drewN ?_ _ | refine blk_drew ?_ | refine blk_alloc ?_ _)); refine blk_put (cs := #[.int .i64 ((rd_T34 l1 x19_2).f0), .int .i64 ((rd_T34 l1 x19_2).f1), .int .i64 ((rd_T34 l1 x19_2).f2), .bool ((rd_T34 l1 x19_2).f3), .int .i64 0]) ?_ 4 _ rfl; (with_reducible repeat (first | refine blk_drewN ?_ _ | refine blk_drew ?_ | refine blk_alloc ?_ _)); refine blk_put (cs := #[.int .i64 ((rd_T34 l1 x19_2).f0), .int .i64 ((rd_T34 l1 x19_2).f1), .int .i64 ((rd_T34 l1 x19_2).f2), .bool false, .int .i64 0]) ?_ 3 _ rfl; (with_reducible repeat (first | refine blk_drewN ?_ _ | refine blk_drew ?_ | refine blk_alloc ?_ _)); refine blk_put (cs := #[.int .i64 ((rd_T34 l1 x19_2).f0), .int .i64 ((rd_T34 l1 x19_2).f1), .int .i64 0, .bool false, .int .i64 0]) ?_ 2 _ rfl; (with_reducible repeat (first | refine blk_drewN ?_ _ | refine blk_drew ?_ | refine blk_alloc ?_ _)); refine blk_put (cs := #[.int .i64 ((rd_T34 l1 x19_2).f0), .int .i64 0, .int .i64 0, .bool false, .int .i64 0]) ?_ 1 _ rfl; (with_reducible repeat (first | refine blk_drewN ?_ _ | refine blk_drew ?_ | refine blk_alloc ?_ _)); refine blk_put (cs := #[.int .i64 0, .int .i64 0, .int .i64 0, .bool false, .int .i64 0]) ?_ 0 _ rfl; (with_reducible repeat (first | refine blk_drewN ?_ _ | refine blk_drew ?_ | refine blk_alloc ?_ _)); exact BK137.out)⟩
            have n2_ : Aside0 (Below w.heap.size w w46) := ⟨by rw [← hq_]; exact qz6⟩
            (try clear BK134)
            (try clear BK137)
            (try clear HB)
            clear hq_
            have BK134 := n0_
            have BK137 := n1_
            have HB := n2_
            clear n0_ n1_ n2_
            have n0_ := Aside0.mk (blk_drew BK134.out)
            have n1_ := Aside0.mk (blk_drew BK137.out)
            have n2_ := Aside0.mk (below_drew1 HB.out)
            clear BK134
            clear BK137
            clear HB
            have BK134 := n0_
            have BK137 := n1_
            have HB := n2_
            clear n0_ n1_ n2_
            refine start_ (n := 31) (S := fun w' => w'.cell? ⟨gb137, 0, none⟩ = some (.int .i64 ((rd_T34 l1 x19_2).f0)) ∧ w'.cell? ⟨gb137, 1, none⟩ = some (.int .i64 ((rd_T34 l1 x19_2).f1)) ∧ w'.cell? ⟨gb137, 2, none⟩ = some (.int .i64 ((rd_T34 l1 x19_2).f2)) ∧ w'.cell? ⟨gb137, 3, none⟩ = some (.bool ((rd_T34 l1 x19_2).f3)) ∧ w'.cell? ⟨gb137, 4, none⟩ = some (.int .i64 ((rd_T34 l1 x19_2).f4))) (ds := []) #[false, false, false, false, false, false, false, false, false, false, false, false, false, false, false, false, false, false, false, false, false, false, false, false, false, false, false, false, false, false, false] (by kernel_rfl) rfl rfl ⟨(blk_cell BK137.out 0).trans rfl, (blk_cell BK137.out 1).trans rfl, (blk_cell BK137.out 2).trans rfl, (blk_cell BK137.out 3).trans rfl, (blk_cell BK137.out 4).trans rfl⟩ (fun hHeld => ?_); refine with_tabW impl_CrewOk.tab6 impl_CrewOk.bits6 (fun HT_ HW_ => ?_)
            generalize w46.drew = w47 at BK134 BK137 HB hHeld ⊢
            refine pure_ (i := 0) (N := some 24) (v := ?_) (a' := ?_) (bqz 31 1) rfl rfl qza qzd (Or.inl ⟨by rfl, ?_⟩) ?_ ?_
            rotate_left
            {
            intro w'
            go_simp
            with_reducible rfl
            }
            rotate_left
            {
            simp only [qzs]
            rfl
            }
            refine take_ (i := 1) (N := some 25) (v := ?_) (a' := ?_) (bqz 31 3) rfl rfl qzb qzd (Or.inl ⟨by rfl, ?_⟩) hHeld ?_ ?_
            rotate_left
            {
            rintro w' ⟨s0, s1, s2, s3, s4⟩
            go_simp
            with_reducible rfl
            }
            rotate_left
            {
            simp only [qzs]
            rfl
            }
            refine one_ (i := 2) (N := some 26) (bqz 31 7) rfl rfl qzc (by decide) (fun K hK => ?_)
            refine goes_ Try.func92 (by kernel_rfl) rfl #[.int .i64 ((rd_T34 l1 x19_2).f0), .int .i64 1, .int .i64 99] (by rfl) rfl rfl qz2 ?_
            with_reducible refine (impl_in.calls ((rd_T34 l1 x19_2).f0) 1 99 false _ A19.out).mono ?_
            rintro e w' ⟨rfl, ⟨nd, rfl⟩⟩
            refine ⟨_, rfl, ?_⟩
            refine hK.out _ _ ⟨(blk_cell BK137.out 0).trans rfl, (blk_cell BK137.out 1).trans rfl, (blk_cell BK137.out 2).trans rfl, (blk_cell BK137.out 3).trans rfl, (blk_cell BK137.out 4).trans rfl⟩ (fun hHeld => ?_)
            clear hK K
            refine norm_ (a' := ?_) ?_ ?_
            rotate_left
            {
            show Act.put _ (some 26) _ = _
            simp only [qzs]
            rfl
            }
            refine pure_ (i := 3) (N := some 27) (v := ?_) (a' := ?_) (bqz 31 15) rfl rfl qza qzd (Or.inl ⟨by rfl, ?_⟩) ?_ ?_
            rotate_left
            {
            intro w'
            go_simp
            with_reducible rfl
            }
            rotate_left
            {
            simp only [qzs]
            rfl
            }
            refine pure_ (i := 4) (N := some 28) (v := ?_) (a' := ?_) (bqz 31 31) rfl rfl qza qzd (Or.inl ⟨by rfl, ?_⟩) ?_ ?_
            rotate_left
            {
            intro w'
            go_simp
            with_reducible rfl
            }
            rotate_left
            {
            simp only [qzs]
            rfl
            }
            refine pure_ (i := 5) (N := some 29) (v := undef) (a' := ?_) (bqz 31 63) rfl rfl qza qzd (Or.inr ⟨by rfl, rfl⟩) ?_ ?_
            rotate_left
            {
            simp only [qzs]
            rfl
            }
            refine pure_ (i := 6) (N := some 30) (v := undef) (a' := ?_) (bqz 31 127) rfl rfl qza qzd (Or.inr ⟨by rfl, rfl⟩) ?_ ?_
            rotate_left
            {
            simp only [qzs]
            rfl
            }
            refine pure_ (i := 7) (N := some 31) (v := undef) (a' := ?_) (bqz 31 255) rfl rfl qza qzd (Or.inr ⟨by rfl, rfl⟩) ?_ ?_
            rotate_left
            {
            simp only [qzs]
            rfl
            }
            refine pure_ (i := 8) (N := some 32) (v := undef) (a' := ?_) (bqz 31 511) rfl rfl qza qzd (Or.inr ⟨by rfl, rfl⟩) ?_ ?_
            rotate_left
            {
            simp only [qzs]
            rfl
            }
            refine pure_ (i := 9) (N := some 33) (v := undef) (a' := ?_) (bqz 31 1023) rfl rfl qza qzd (Or.inr ⟨by rfl, rfl⟩) ?_ ?_
            rotate_left
            {
            simp only [qzs]
            rfl
            }
            refine pure_ (i := 10) (N := some 34) (v := undef) (a' := ?_) (bqz 31 2047) rfl rfl qza qzd (Or.inr ⟨by rfl, rfl⟩) ?_ ?_
            rotate_left
            {
            simp only [qzs]
            rfl
            }
            refine pure_ (i := 11) (N := some 35) (v := undef) (a' := ?_) (bqz 31 4095) rfl rfl qza qzd (Or.inr ⟨by rfl, rfl⟩) ?_ ?_
            rotate_left
            {
            simp only [qzs]
            rfl
            }
            refine pure_ (i := 12) (N := some 36) (v := undef) (a' := ?_) (bqz 31 8191) rfl rfl qza qzd (Or.inr ⟨by rfl, rfl⟩) ?_ ?_
            rotate_left
            {
            simp only [qzs]
            rfl
            }
            refine pure_ (i := 13) (N := some 37) (v := undef) (a' := ?_) (bqz 31 16383) rfl rfl qza qzd (Or.inr ⟨by rfl, rfl⟩) ?_ ?_
            rotate_left
            {
            simp only [qzs]
            rfl
            }
            refine pure_ (i := 14) (N := some 38) (v := undef) (a' := ?_) (bqz 31 32767) rfl rfl qza qzd (Or.inr ⟨by rfl, rfl⟩) ?_ ?_
            rotate_left
            {
            simp only [qzs]
            rfl
            }
            refine pure_ (i := 15) (N := some 39) (v := undef) (a' := ?_) (bqz 31 65535) rfl rfl qza qzd (Or.inr ⟨by rfl, rfl⟩) ?_ ?_
            rotate_left
            {
            simp only [qzs]
            rfl
            }
            refine pure_ (i := 16) (N := some 40) (v := undef) (a' := ?_) (bqz 31 131071) rfl rfl qza qzd (Or.inr ⟨by rfl, rfl⟩) ?_ ?_
            rotate_left
            {
            simp only [qzs]
            rfl
            }
            refine pure_ (i := 17) (N := some 41) (v := undef) (a' := ?_) (bqz 31 262143) rfl rfl qza qzd (Or.inr ⟨by rfl, rfl⟩) ?_ ?_
            rotate_left
            {
            simp only [qzs]
            rfl
            }
            refine pure_ (i := 18) (N := some 42) (v := ?_) (a' := ?_) (bqz 31 524287) rfl rfl qza qzd (Or.inl ⟨by rfl, ?_⟩) ?_ ?_
            rotate_left
            {
            intro w'
            go_simp
            with_reducible rfl
            }
            rotate_left
            {
            simp only [qzs]
            rfl
            }
            refine pure_ (i := 19) (N := some 43) (v := ?_) (a' := ?_) (bqz 31 1048575) rfl rfl qza qzd (Or.inl ⟨by rfl, ?_⟩) ?_ ?_
            rotate_left
            {
            intro w'
            go_simp
            with_reducible rfl
            }
            rotate_left
            {
            simp only [qzs]
            rfl
            }
            refine pure_ (i := 20) (N := some 44) (v := undef) (a' := ?_) (bqz 31 2097151) rfl rfl qza qzd (Or.inr ⟨by rfl, rfl⟩) ?_ ?_
            rotate_left
            {
            simp only [qzs]
            rfl
            }
            refine pure_ (i := 21) (N := some 45) (v := undef) (a' := ?_) (bqz 31 4194303) rfl rfl qza qzd (Or.inr ⟨by rfl, rfl⟩) ?_ ?_
            rotate_left
            {
            simp only [qzs]
            rfl
            }
            refine pure_ (i := 22) (N := some 46) (v := undef) (a' := ?_) (bqz 31 8388607) rfl rfl qza qzd (Or.inr ⟨by rfl, rfl⟩) ?_ ?_
            rotate_left
            {
            simp only [qzs]
            rfl
            }
            refine pure_ (i := 23) (N := some 47) (v := undef) (a' := ?_) (bqz 31 16777215) rfl rfl qza qzd (Or.inr ⟨by rfl, rfl⟩) ?_ ?_
            rotate_left
            {
            simp only [qzs]
            rfl
            }
            refine pure_ (i := 24) (N := some 48) (v := ?_) (a' := ?_) (bqz 31 33554431) rfl rfl qza qzd (Or.inl ⟨by rfl, ?_⟩) ?_ ?_
            rotate_left
            {
            intro w'
            go_simp
            with_reducible rfl
            }
            rotate_left
            {
            simp only [qzs]
            rfl
            }
            refine pure_ (i := 25) (N := some 49) (v := ?_) (a' := ?_) (bqz 31 67108863) rfl rfl qza qzd (Or.inl ⟨by rfl, ?_⟩) ?_ ?_
            rotate_left
            {
            intro w'
            go_simp
            with_reducible rfl
            }
            rotate_left
            {
            simp only [qzs]
            rfl
            }
            refine pure_ (i := 26) (N := some 50) (v := undef) (a' := ?_) (bqz 31 134217727) rfl rfl qza qzd (Or.inr ⟨by rfl, rfl⟩) ?_ ?_
            rotate_left
            {
            simp only [qzs]
            rfl
            }
            refine pure_ (i := 27) (N := some 51) (v := undef) (a' := ?_) (bqz 31 268435455) rfl rfl qza qzd (Or.inr ⟨by rfl, rfl⟩) ?_ ?_
            rotate_left
            {
            simp only [qzs]
            rfl
            }
            refine pure_ (i := 28) (N := some 52) (v := undef) (a' := ?_) (bqz 31 536870911) rfl rfl qza qzd (Or.inr ⟨by rfl, rfl⟩) ?_ ?_
            rotate_left
            {
            simp only [qzs]
            rfl
            }
            refine pure_ (i := 29) (N := some 53) (v := undef) (a' := ?_) (bqz 31 1073741823) rfl rfl qza qzd (Or.inr ⟨by rfl, rfl⟩) ?_ ?_
            rotate_left
            {
            simp only [qzs]
            rfl
            }
            refine pure_ (i := 30) (N := some 54) (v := ?_) (a' := ?_) (bqz 31 2147483647) rfl rfl qza qzd (Or.inl ⟨by rfl, ?_⟩) ?_ ?_
            rotate_left
            {
            intro w'
            go_simp
            with_reducible rfl
            }
            rotate_left
            {
            simp only [qzs]
            rfl
            }
            refine done_ (done_of HT_.out (by kernel_rfl)) ?_
            try go_wp2
            go_meet
            case rel => exact ⟨_, (true), qz14, H', ⟨by have := HJ2.out; have := HK2.out; first | omega | exact Nat.le_refl _⟩, ⟨by (with_reducible repeat (first | refine blk_drewN ?_ _ | refine blk_drew ?_ | refine blk_alloc ?_ _)); exact BK134.out⟩, ⟨by (with_reducible repeat (first | refine blk_drewN ?_ _ | refine blk_drew ?_ | refine blk_alloc ?_ _)); exact BK137.out⟩, ⟨by repeat (first | (with_reducible first | exact HB.out | apply below_alloc | apply pw_below_drewN | apply below_drew1 | refine below_set ?_ GE134.out | refine below_set ?_ GE137.out) | exact HB.out)⟩⟩
            }
          case rest =>
            clear HC15
            try clear c1
            try clear c2
            try clear p2
            try clear c3
            try clear c9
            try clear c10
            try clear c20
            try clear c38
            obtain ⟨kq, x54_14, rfl, HA, HJ14, BK134, BK137, HB⟩ := hcut
            cases kq with
            | zero => exact absurd HA.out (by simp [impl_CrewOk.j2])
            | succ kj14 =>
              have H := HA.out
              clear HA
              simp only [impl_CrewOk.j2] at H
              by_cases c48 : x54_14 = true
              {
              subst c48
              have H1 : (some false) = some r := by rw [if_pos rfl] at H; exact H
              clear H
              have H := H1
              clear H1
              obtain rfl := Option.some.inj H
              simp only [Option.some.injEq, Prod.mk.injEq] at H
              obtain ⟨rfl⟩ := H
              go_wp2
              go_ret
              exact ⟨by first | rfl | (simp [errW_none, errW_some] <;> rfl) | (simp [*, errW_none, errW_some] <;> rfl), by repeat (first | (with_reducible first | exact HB.out | apply below_alloc | apply pw_below_drewN | apply below_drew1 | refine below_set ?_ GE134.out | refine below_set ?_ GE137.out) | exact HB.out)⟩
              }
              {
              replace c48 := Bool.eq_false_iff.mpr c48
              subst c48
              have H1 : (if 0 ≤ x19_2 then (if x19_2 ≤ (l1.length : Int) then ((some (l1.take (x19_2 : Int).toNat : List (S34))).bind fun y144 => (impl_CrewOk.l1 kj14 l1 l1 (l1.length : Int) x19_2 y144 (y144.length : Int) 0 a0_0 a0_1 l0_2 ((rd_T34 l1 x19_2).f0) ((rd_T34 l1 x19_2).f1) ((rd_T34 l1 x19_2).f2) ((rd_T34 l1 x19_2).f3) ((rd_T34 l1 x19_2).f4))) else (none)) else (none)) = some r := by rw [if_neg (show ¬ (false = true) by decide)] at H; exact H
              clear H
              have H := H1
              clear H1
              by_cases c49 : 0 ≤ x19_2
              {
              rw [if_pos c49] at H
              have c49b0 := eq_true c49
              have c49b1 : decide (0 ≤ x19_2) = true := decide_eq_true c49
              clear c49
              by_cases c50 : x19_2 ≤ (l1.length : Int)
              {
              rw [if_pos c50] at H
              have c50b0 := eq_true c50
              have c50b1 : decide (x19_2 ≤ (l1.length : Int)) = true := decide_eq_true c50
              clear c50
              obtain ⟨y144, hy144⟩ : ∃ y_ : List (S34), y_ = (l1.take (x19_2 : Int).toNat) := ⟨_, rfl⟩
              replace H : (impl_CrewOk.l1 kj14 l1 l1 (l1.length : Int) x19_2 y144 (y144.length : Int) 0 a0_0 a0_1 l0_2 ((rd_T34 l1 x19_2).f0) ((rd_T34 l1 x19_2).f1) ((rd_T34 l1 x19_2).f2) ((rd_T34 l1 x19_2).f3) ((rd_T34 l1 x19_2).f4)) = some r := by first | (rw [hy144]; with_reducible exact H) | (have H2_ := (Option.bind_some _ _).symm.trans H; rw [hy144]; with_reducible exact H2_) | (have H2_ := (Option.bind_some _ _).symm.trans H; with_reducible exact H2_) | with_reducible exact H | (rw [hy144]; exact H) | exact H
              have Ny144 := Aside0.mk hy144
              clear hy144
              have H' := Aside0.mk H
              clear H
              have q51 : (x19_2 : Int) ≤ ((l1.length : Int) : Int) := of_decide_eq_true qz7
              obtain ⟨i051, hi051, _, hsz51, _⟩ := info_parts info34
              have hroom51 : l1.length ≤ c1 := HC1.out
              have hC51 : Kd.C k34 _ (some ad136) l1.length l1 := HR1.out
              have hcut51 := cut_to (P := Try.prog) 27 34 .i64 Try.underlying27 hi051 (some ad136) l1.length c1 x19_2 (of_decide_eq_true qz7) q51 hroom51
              have hr51 := Kd.C_take (m := (x19_2 : Int).toNat) hC51 (by omega)
              have hy51 : y144.length = (x19_2 : Int).toNat := (by rw [Ny144.out, List.length_take]; omega)
              rw [← Ny144.out] at hr51
              rw [← hy51] at hcut51
              have HR147 := Aside0.mk hr51
              have HC147 := Aside0.mk (show y144.length ≤ c1 from by omega)
              clear hr51 hC51 hroom51 hi051 hsz51
              have KY51 := Aside0.mk hy51
              clear hy51
              replace q51 := eq_true q51
              go_wp2
              go_loopg [59] kj14 (fun kq v59 w' => ∃ (x59_4 : Int), v59 = .int .i64 x59_4 ∧ Aside0 (impl_CrewOk.l1 kq l1 l1 (l1.length : Int) x19_2 y144 (y144.length : Int) x59_4 a0_0 a0_1 l0_2 ((rd_T34 l1 x19_2).f0) ((rd_T34 l1 x19_2).f1) ((rd_T34 l1 x19_2).f2) ((rd_T34 l1 x19_2).f3) ((rd_T34 l1 x19_2).f4) = some r) ∧ Aside0 (kq ≤ kj14) ∧ Aside0 (w'.heap[gb134]? = some (.cells #[.int .i64 a0_0, .int .i64 a0_1, (.slice A0_2 l0_2.length c0_2)] 26 (0, 0))) ∧ Aside0 (w'.heap[gb137]? = some (.cells #[.int .i64 ((rd_T34 l1 x19_2).f0), .int .i64 ((rd_T34 l1 x19_2).f1), .int .i64 ((rd_T34 l1 x19_2).f2), .bool ((rd_T34 l1 x19_2).f3), .int .i64 ((rd_T34 l1 x19_2).f4)] 34 (0, 0))) ∧ Aside0 (Below w.heap.size w w'))
              case atStart => exact ⟨(0), qz14, H', ⟨Nat.le_refl _⟩, ⟨by (with_reducible repeat (first | refine blk_drewN ?_ _ | refine blk_drew ?_ | refine blk_alloc ?_ _)); exact BK134.out⟩, ⟨by (with_reducible repeat (first | refine blk_drewN ?_ _ | refine blk_drew ?_ | refine blk_alloc ?_ _)); exact BK137.out⟩, ⟨by repeat (first | (with_reducible first | exact HB.out | apply below_alloc | apply pw_below_drewN | apply below_drew1 | refine below_set ?_ GE134.out | refine below_set ?_ GE137.out) | exact HB.out)⟩⟩
              case round =>
                clear H'
                try clear c1
                try clear c2
                try clear p2
                try clear c3
                try clear c4
                try clear c5
                try clear q5
                try clear c9
                try clear c10
                try clear c20
                try clear c38
                try clear c48
                try clear c49
                try clear c49b0
                try clear c49b1
                try clear c50
                try clear c50b0
                try clear c50b1
                try clear q51
                try clear p2
                try clear q51
                obtain ⟨x59_4, rfl, HA, HK4, BK134, BK137, HB⟩ := hrel
                cases gk with
                | zero => exact absurd HA.out (by simp [impl_CrewOk.l1])
                | succ k4 =>
                  have H := HA.out
                  clear HA
                  simp only [impl_CrewOk.l1] at H
                  by_cases c52 : x59_4 < (y144.length : Int)
                  {
                  rw [if_pos c52] at H
                  have c52b0 : decide (x59_4 < (y144.length : Int)) = true := decide_eq_true c52
                  clear c52
                  by_cases c53 : 0 ≤ x59_4
                  {
                  rw [if_pos c53] at H
                  have c53b0 : decide (0 ≤ x59_4) = true := decide_eq_true c53
                  clear c53
                  by_cases c54 : x59_4 < (y144.length : Int)
                  {
                  rw [if_pos c54] at H
                  have c54b0 : decide (x59_4 < (y144.length : Int)) = true := decide_eq_true c54
                  clear c54
                  by_cases c55 : ((rd_T34 y144 x59_4).f1) = ((rd_T34 l1 x19_2).f1)
                  {
                  rw [if_pos c55] at H
                  have c55b0 : (((rd_T34 y144 x59_4).f1) == ((rd_T34 l1 x19_2).f1)) = true := beq_iff_eq.mpr c55
                  have c55b1 : (((rd_T34 y144 x59_4).f1) != ((rd_T34 l1 x19_2).f1)) = false := bne_eq_false_iff_eq.mpr c55
                  clear c55
                  obtain rfl := Option.some.inj H
                  simp only [Option.some.injEq, Prod.mk.injEq] at H
                  obtain ⟨rfl⟩ := H
                  have p148 : 0 ≤ (x59_4 : Int) := of_decide_eq_true qz7
                  have q148 : x59_4 < (y144.length : Int) := of_decide_eq_true qz7
                  obtain ⟨ad148, e148, hx148_0, hx148_1, hx148_2, hx148_3, hx148_4⟩ := at_T34 HR147.out x59_4 p148 q148
                  obtain rfl : ad136 = ad148 := (by injection e148)
                  replace hx148_0 := (HB.out.cell (World.block_lt_of_cell? w _ hx148_0)).trans hx148_0
                  replace hx148_1 := (HB.out.cell (World.block_lt_of_cell? w _ hx148_1)).trans hx148_1
                  replace hx148_2 := (HB.out.cell (World.block_lt_of_cell? w _ hx148_2)).trans hx148_2
                  replace hx148_3 := (HB.out.cell (World.block_lt_of_cell? w _ hx148_3)).trans hx148_3
                  replace hx148_4 := (HB.out.cell (World.block_lt_of_cell? w _ hx148_4)).trans hx148_4
                  replace p148 := eq_true p148
                  replace q148 := eq_true q148
                  go_wp2_with (first | ((with_reducible refine gate_dst (N := 8) rfl ?_); (try (refine gate_guard (by rfl) ?_; dsimp only)); refine box_event ?hg (N := 8) ?hd (cs := #[.int .i64 0, .int .i64 0, .int .i64 0, .bool false, .int .i64 0]) (t := 34) ?hr ?_; (case hd => rfl); (case hg => rfl); (case hr => first | (go_simp; done) | (go_simp; rfl)); intro gb149 hg w56 hbox hb; have n0_ := Aside0.mk (blk_below (g := gb134) (o := .cells #[.int .i64 a0_0, .int .i64 a0_1, .slice A0_2 l0_2.length c0_2] 26 (0, 0)) qz16 hb); have n1_ := Aside0.mk (blk_below (g := gb137) (o := .cells #[.int .i64 ((rd_T34 l1 x19_2).f0), .int .i64 ((rd_T34 l1 x19_2).f1), .int .i64 ((rd_T34 l1 x19_2).f2), .bool ((rd_T34 l1 x19_2).f3), .int .i64 ((rd_T34 l1 x19_2).f4)] 34 (0, 0)) (by (with_reducible repeat (first | refine blk_drewN ?_ _ | refine blk_drew ?_ | refine blk_alloc ?_ _)); exact BK137.out) hb); have n2_ := Aside0.mk (below_step qz6 hb); have n3_ := Aside0.mk (hbox); have n4_ := Aside0.mk ((by rw [hg]; exact (below_size qz6) : w.heap.size ≤ gb149)); have n5_ := Aside0.mk ((by rw [hg]; exact (below_size qz6) : w.heap.size ≤ gb149)); have n6_ := Aside0.mk ((by rw [hg]; exact Nat.ne_of_lt (blk_lt (g := gb134) (o := .cells #[.int .i64 a0_0, .int .i64 a0_1, .slice A0_2 l0_2.length c0_2] 26 (0, 0)) qz16) : gb134 ≠ gb149)); have n7_ := Aside0.mk ((by rw [hg]; exact Nat.ne_of_gt (blk_lt (g := gb134) (o := .cells #[.int .i64 a0_0, .int .i64 a0_1, .slice A0_2 l0_2.length c0_2] 26 (0, 0)) qz16) : gb149 ≠ gb134)); have n8_ := Aside0.mk ((by rw [hg]; exact Nat.ne_of_lt (blk_lt (g := gb137) (o := .cells #[.int .i64 ((rd_T34 l1 x19_2).f0), .int .i64 ((rd_T34 l1 x19_2).f1), .int .i64 ((rd_T34 l1 x19_2).f2), .bool ((rd_T34 l1 x19_2).f3), .int .i64 ((rd_T34 l1 x19_2).f4)] 34 (0, 0)) (by (with_reducible repeat (first | refine blk_drewN ?_ _ | refine blk_drew ?_ | refine blk_alloc ?_ _)); exact BK137.out)) : gb137 ≠ gb149)); have n9_ := Aside0.mk ((by rw [hg]; exact Nat.ne_of_gt (blk_lt (g := gb137) (o := .cells #[.int .i64 ((rd_T34 l1 x19_2).f0), .int .i64 ((rd_T34 l1 x19_2).f1), .int .i64 ((rd_T34 l1 x19_2).f2), .bool ((rd_T34 l1 x19_2).f3), .int .i64 ((rd_T34 l1 x19_2).f4)] 34 (0, 0)) (by (with_reducible repeat (first | refine blk_drewN ?_ _ | refine blk_drew ?_ | refine blk_alloc ?_ _)); exact BK137.out)) : gb149 ≠ gb137)); clear BK134; clear BK137; clear HB; have BK134 := n0_; have BK137 := n1_; have HB := n2_; have BK149 := n3_; have GW149 := n4_; have GE149 := n5_; have NB134_149 := n6_; have NB149_134 := n7_; have NB137_149 := n8_; have NB149_137 := n9_; clear n0_ n1_ n2_ n3_ n4_ n5_ n6_ n7_ n8_ n9_; clear hb hbox hg; have hnb57 := NB149_134.out; have hnc57 := NB134_149.out; have hnb58 := NB149_137.out; have hnc58 := NB137_149.out; have hcz59_0 : w56.cell? ⟨gb149, 0, none⟩ = some (.int .i64 0) := (blk_cell BK149.out 0).trans rfl; have hcz59_1 : w56.cell? ⟨gb149, 1, none⟩ = some (.int .i64 0) := (blk_cell BK149.out 1).trans rfl; have hcz59_2 : w56.cell? ⟨gb149, 2, none⟩ = some (.int .i64 0) := (blk_cell BK149.out 2).trans rfl; have hcz59_3 : w56.cell? ⟨gb149, 3, none⟩ = some (.bool false) := (blk_cell BK149.out 3).trans rfl; have hcz59_4 : w56.cell? ⟨gb149, 4, none⟩ = some (.int .i64 0) := (blk_cell BK149.out 4).trans rfl; have hfz59_0 := blk_frozen BK149.out 0; have hfz59_1 := blk_frozen BK149.out 1; have hfz59_2 := blk_frozen BK149.out 2; have hfz59_3 := blk_frozen BK149.out 3; have hfz59_4 := blk_frozen BK149.out 4; have hnb60 := NB137_134.out; have hnc60 := NB134_137.out; have hcz61_0 : w56.cell? ⟨gb137, 0, none⟩ = some (.int .i64 ((rd_T34 l1 x19_2).f0)) := (blk_cell BK137.out 0).trans rfl; have hcz61_1 : w56.cell? ⟨gb137, 1, none⟩ = some (.int .i64 ((rd_T34 l1 x19_2).f1)) := (blk_cell BK137.out 1).trans rfl; have hcz61_2 : w56.cell? ⟨gb137, 2, none⟩ = some (.int .i64 ((rd_T34 l1 x19_2).f2)) := (blk_cell BK137.out 2).trans rfl; have hcz61_3 : w56.cell? ⟨gb137, 3, none⟩ = some (.bool ((rd_T34 l1 x19_2).f3)) := (blk_cell BK137.out 3).trans rfl; have hcz61_4 : w56.cell? ⟨gb137, 4, none⟩ = some (.int .i64 ((rd_T34 l1 x19_2).f4)) := (blk_cell BK137.out 4).trans rfl; have hfz61_0 := blk_frozen BK137.out 0; have hfz61_1 := blk_frozen BK137.out 1; have hfz61_2 := blk_frozen BK137.out 2; have hfz61_3 := blk_frozen BK137.out 3; have hfz61_4 := blk_frozen BK137.out 4))
                  go_ret
                  exact ⟨by first | rfl | (simp [errW_none, errW_some] <;> rfl) | (simp [*, errW_none, errW_some] <;> rfl), by repeat (first | (with_reducible first | exact HB.out | apply below_alloc | apply pw_below_drewN | apply below_drew1 | refine below_set ?_ GE134.out | refine below_set ?_ GE137.out | refine below_set ?_ GE149.out) | exact HB.out)⟩
                  }
                  {
                  rw [if_neg c55] at H
                  have c55b0 : (((rd_T34 y144 x59_4).f1) == ((rd_T34 l1 x19_2).f1)) = false := beq_eq_false_iff_ne.mpr c55
                  have c55b1 : (((rd_T34 y144 x59_4).f1) != ((rd_T34 l1 x19_2).f1)) = true := bne_iff_ne.mpr c55
                  have H' := Aside0.mk H
                  clear H
                  have p148 : 0 ≤ (x59_4 : Int) := of_decide_eq_true qz7
                  have q148 : x59_4 < (y144.length : Int) := of_decide_eq_true qz7
                  obtain ⟨ad148, e148, hx148_0, hx148_1, hx148_2, hx148_3, hx148_4⟩ := at_T34 HR147.out x59_4 p148 q148
                  obtain rfl : ad136 = ad148 := (by injection e148)
                  replace hx148_0 := (HB.out.cell (World.block_lt_of_cell? w _ hx148_0)).trans hx148_0
                  replace hx148_1 := (HB.out.cell (World.block_lt_of_cell? w _ hx148_1)).trans hx148_1
                  replace hx148_2 := (HB.out.cell (World.block_lt_of_cell? w _ hx148_2)).trans hx148_2
                  replace hx148_3 := (HB.out.cell (World.block_lt_of_cell? w _ hx148_3)).trans hx148_3
                  replace hx148_4 := (HB.out.cell (World.block_lt_of_cell? w _ hx148_4)).trans hx148_4
                  replace p148 := eq_true p148
                  replace q148 := eq_true q148
                  go_wp2_with (first | ((with_reducible refine gate_dst (N := 8) rfl ?_); (try (refine gate_guard (by rfl) ?_; dsimp only)); refine box_event ?hg (N := 8) ?hd (cs := #[.int .i64 0, .int .i64 0, .int .i64 0, .bool false, .int .i64 0]) (t := 34) ?hr ?_; (case hd => rfl); (case hg => rfl); (case hr => first | (go_simp; done) | (go_simp; rfl)); intro gb149 hg w62 hbox hb; have n0_ := Aside0.mk (blk_below (g := gb134) (o := .cells #[.int .i64 a0_0, .int .i64 a0_1, .slice A0_2 l0_2.length c0_2] 26 (0, 0)) qz16 hb); have n1_ := Aside0.mk (blk_below (g := gb137) (o := .cells #[.int .i64 ((rd_T34 l1 x19_2).f0), .int .i64 ((rd_T34 l1 x19_2).f1), .int .i64 ((rd_T34 l1 x19_2).f2), .bool ((rd_T34 l1 x19_2).f3), .int .i64 ((rd_T34 l1 x19_2).f4)] 34 (0, 0)) (by (with_reducible repeat (first | refine blk_drewN ?_ _ | refine blk_drew ?_ | refine blk_alloc ?_ _)); exact BK137.out) hb); have n2_ := Aside0.mk (below_step qz6 hb); have n3_ := Aside0.mk (hbox); have n4_ := Aside0.mk ((by rw [hg]; exact (below_size qz6) : w.heap.size ≤ gb149)); have n5_ := Aside0.mk ((by rw [hg]; exact (below_size qz6) : w.heap.size ≤ gb149)); have n6_ := Aside0.mk ((by rw [hg]; exact Nat.ne_of_lt (blk_lt (g := gb134) (o := .cells #[.int .i64 a0_0, .int .i64 a0_1, .slice A0_2 l0_2.length c0_2] 26 (0, 0)) qz16) : gb134 ≠ gb149)); have n7_ := Aside0.mk ((by rw [hg]; exact Nat.ne_of_gt (blk_lt (g := gb134) (o := .cells #[.int .i64 a0_0, .int .i64 a0_1, .slice A0_2 l0_2.length c0_2] 26 (0, 0)) qz16) : gb149 ≠ gb134)); have n8_ := Aside0.mk ((by rw [hg]; exact Nat.ne_of_lt (blk_lt (g := gb137) (o := .cells #[.int .i64 ((rd_T34 l1 x19_2).f0), .int .i64 ((rd_T34 l1 x19_2).f1), .int .i64 ((rd_T34 l1 x19_2).f2), .bool ((rd_T34 l1 x19_2).f3), .int .i64 ((rd_T34 l1 x19_2).f4)] 34 (0, 0)) (by (with_reducible repeat (first | refine blk_drewN ?_ _ | refine blk_drew ?_ | refine blk_alloc ?_ _)); exact BK137.out)) : gb137 ≠ gb149)); have n9_ := Aside0.mk ((by rw [hg]; exact Nat.ne_of_gt (blk_lt (g := gb137) (o := .cells #[.int .i64 ((rd_T34 l1 x19_2).f0), .int .i64 ((rd_T34 l1 x19_2).f1), .int .i64 ((rd_T34 l1 x19_2).f2), .bool ((rd_T34 l1 x19_2).f3), .int .i64 ((rd_T34 l1 x19_2).f4)] 34 (0, 0)) (by (with_reducible repeat (first | refine blk_drewN ?_ _ | refine blk_drew ?_ | refine blk_alloc ?_ _)); exact BK137.out)) : gb149 ≠ gb137)); clear BK134; clear BK137; clear HB; have BK134 := n0_; have BK137 := n1_; have HB := n2_; have BK149 := n3_; have GW149 := n4_; have GE149 := n5_; have NB134_149 := n6_; have NB149_134 := n7_; have NB137_149 := n8_; have NB149_137 := n9_; clear n0_ n1_ n2_ n3_ n4_ n5_ n6_ n7_ n8_ n9_; clear hb hbox hg; have hnb63 := NB149_134.out; have hnc63 := NB134_149.out; have hnb64 := NB149_137.out; have hnc64 := NB137_149.out; have hcz65_0 : w62.cell? ⟨gb149, 0, none⟩ = some (.int .i64 0) := (blk_cell BK149.out 0).trans rfl; have hcz65_1 : w62.cell? ⟨gb149, 1, none⟩ = some (.int .i64 0) := (blk_cell BK149.out 1).trans rfl; have hcz65_2 : w62.cell? ⟨gb149, 2, none⟩ = some (.int .i64 0) := (blk_cell BK149.out 2).trans rfl; have hcz65_3 : w62.cell? ⟨gb149, 3, none⟩ = some (.bool false) := (blk_cell BK149.out 3).trans rfl; have hcz65_4 : w62.cell? ⟨gb149, 4, none⟩ = some (.int .i64 0) := (blk_cell BK149.out 4).trans rfl; have hfz65_0 := blk_frozen BK149.out 0; have hfz65_1 := blk_frozen BK149.out 1; have hfz65_2 := blk_frozen BK149.out 2; have hfz65_3 := blk_frozen BK149.out 3; have hfz65_4 := blk_frozen BK149.out 4; have hnb66 := NB137_134.out; have hnc66 := NB134_137.out; have hcz67_0 : w62.cell? ⟨gb137, 0, none⟩ = some (.int .i64 ((rd_T34 l1 x19_2).f0)) := (blk_cell BK137.out 0).trans rfl; have hcz67_1 : w62.cell? ⟨gb137, 1, none⟩ = some (.int .i64 ((rd_T34 l1 x19_2).f1)) := (blk_cell BK137.out 1).trans rfl; have hcz67_2 : w62.cell? ⟨gb137, 2, none⟩ = some (.int .i64 ((rd_T34 l1 x19_2).f2)) := (blk_cell BK137.out 2).trans rfl; have hcz67_3 : w62.cell? ⟨gb137, 3, none⟩ = some (.bool ((rd_T34 l1 x19_2).f3)) := (blk_cell BK137.out 3).trans rfl; have hcz67_4 : w62.cell? ⟨gb137, 4, none⟩ = some (.int .i64 ((rd_T34 l1 x19_2).f4)) := (blk_cell BK137.out 4).trans rfl; have hfz67_0 := blk_frozen BK137.out 0; have hfz67_1 := blk_frozen BK137.out 1; have hfz67_2 := blk_frozen BK137.out 2; have hfz67_3 := blk_frozen BK137.out 3; have hfz67_4 := blk_frozen BK137.out 4))
                  go_roundg k4
                  case measure => have := HJ2.out; have := HK2.out; have := HJ14.out; have := HK4.out; omega
                  case rel => exact ⟨(wrap64 (x59_4 + 1)), qz14, H', ⟨by have := HJ2.out; have := HK2.out; have := HJ14.out; have := HK4.out; omega⟩, ⟨by (with_reducible repeat (first | refine blk_drewN ?_ _ | refine blk_drew ?_ | refine blk_alloc ?_ _)); refine blk_far ?_ NB134_149.out _; (with_reducible repeat (first | refine blk_drewN ?_ _ | refine blk_drew ?_ | refine blk_alloc ?_ _)); refine blk_far ?_ NB134_149.out _; (with_reducible repeat (first | refine blk_drewN ?_ _ | refine blk_drew ?_ | refine blk_alloc ?_ _)); refine blk_far ?_ NB134_149.out _; (with_reducible repeat (first | refine blk_drewN ?_ _ | refine blk_drew ?_ | refine blk_alloc ?_ _)); refine blk_far ?_ NB134_149.out _; (with_reducible repeat (first | refine blk_drewN ?_ _ | refine blk_drew ?_ | refine blk_alloc ?_ _)); refine blk_far ?_ NB134_149.out _; (with_reducible repeat (first | refine blk_drewN ?_ _ | refine blk_drew ?_ | refine blk_alloc ?_ _)); exact BK134.out⟩, ⟨by (with_reducible repeat (first | refine blk_drewN ?_ _ | refine blk_drew ?_ | refine blk_alloc ?_ _)); refine blk_far ?_ NB137_149.out _; (with_reducible repeat (first | refine blk_drewN ?_ _ | refine blk_drew ?_ | refine blk_alloc ?_ _)); refine blk_far ?_ NB137_149.out _; (with_reducible repeat (first | refine blk_drewN ?_ _ | refine blk_drew ?_ | refine blk_alloc ?_ _)); refine blk_far ?_ NB137_149.out _; (with_reducible repeat (first | refine blk_drewN ?_ _ | refine blk_drew ?_ | refine blk_alloc ?_ _)); refine blk_far ?_ NB137_149.out _; (with_reducible repeat (first | refine blk_drewN ?_ _ | refine blk_drew ?_ | refine blk_alloc ?_ _)); refine blk_far ?_ NB137_149.out _; (with_reducible repeat (first | refine blk_drewN ?_ _ | refine blk_drew ?_ | refine blk_alloc ?_ _)); exact BK137.out⟩, ⟨by repeat (first | (with_reducible first | exact HB.out | apply below_alloc | apply pw_below_drewN | apply below_drew1 | refine below_set ?_ GE134.out | refine below_set ?_ GE137.out | refine below_set ?_ GE149.out) | exact HB.out)⟩⟩
                  }
                  }
                  {
                  rw [if_neg c54] at H
                  exact absurd H (by simp)
                  }
                  }
                  {
                  rw [if_neg c53] at H
                  exact absurd H (by simp)
                  }
                  }
                  {
                  rw [if_neg c52] at H
                  have c52b0 : decide (x59_4 < (y144.length : Int)) = false := decide_eq_false c52
                  clear c52
                  have H' := Aside0.mk H
                  clear H
                  go_wp2
                  go_roundg k4
                  case measure => have := HJ2.out; have := HK2.out; have := HJ14.out; have := HK4.out; omega
                  case rel => exact ⟨(wrap64 (x19_2 + 1)), qz14, H', ⟨by have := HJ2.out; have := HK2.out; have := HJ14.out; have := HK4.out; omega⟩, ⟨by (with_reducible repeat (first | refine blk_drewN ?_ _ | refine blk_drew ?_ | refine blk_alloc ?_ _)); exact BK134.out⟩, ⟨by repeat (first | (with_reducible first | exact HB.out | apply below_alloc | apply pw_below_drewN | apply below_drew1 | refine below_set ?_ GE134.out | refine below_set ?_ GE137.out) | exact HB.out)⟩⟩
                  }
              }
              {
              rw [if_neg c50] at H
              exact absurd H (by simp)
              }
              }
              {
              rw [if_neg c49] at H
              exact absurd H (by simp)
              }
              }
          }
          {
          rw [if_neg c14] at H
          exact absurd H (by simp)
          }
          }
          {
          rw [if_neg c13] at H
          exact absurd H (by simp)
          }
          }
          {
          rw [if_neg c12] at H
          have c12b0 : decide (x19_2 < (l1.length : Int)) = false := decide_eq_false c12
          clear c12
          obtain rfl := Option.some.inj H
          simp only [Option.some.injEq, Prod.mk.injEq] at H
          obtain ⟨rfl⟩ := H
          go_wp2
          go_ret
          exact ⟨by first | rfl | (simp [errW_none, errW_some] <;> rfl) | (simp [*, errW_none, errW_some] <;> rfl), by repeat (first | (with_reducible first | exact HB.out | apply below_alloc | apply pw_below_drewN | apply below_drew1 | refine below_set ?_ GE134.out) | exact HB.out)⟩

          }
      }
end Go.Proofs.Ytjeonneegmhcdaa.PFnExactCrewOk
