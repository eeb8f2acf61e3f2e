-- Made by a program of this session out of the translation. Lean checks it.
import Derived.Test.YtjeonneegmhcdaaPFnExactCrewOkx0
import Derived.Test.YtjeonneegmhcdaaPFnExactCrewOkx4
namespace Go.Proofs.Ytjeonneegmhcdaa.PFnExactCrewOk
open Go.RowKit Go.Proofs.YtjeonneegmhcdaaW.PrintWords Go.Proofs.YtjeonneegmhcdaaW.PrintLast Go.Proofs.YtjeonneegmhcdaaW.PrintMore
attribute [local go_sem] max2_int min2_int max_two min_two max_three min_three max_four min_four   -- for this text's walks alone
set_option linter.unusedVariables false
set_option linter.unusedSimpArgs false

/-! ### spec_CrewOk: function 59 -/
mutual
def spec_CrewOk.j0 : Nat → List (S34) → Bool → Int → Int → List Int → Option (Bool)
  | 0, _, _, _, _, _ => none
  | k + 1, x1, x15, x159000, x159001, x159002 => if x15 = true then (some false) else (spec_CrewOk.l0 k x1 0 x159000 x159001 x159002)
def spec_CrewOk.l0 : Nat → List (S34) → Int → Int → Int → List Int → Option (Bool)
  | 0, _, _, _, _, _ => none
  | k + 1, x1, x5, x159000, x159001, x159002 => if x5 < (x1.length : Int) then (if 0 ≤ x5 then ((spec_l1In.f ((rd_T34 x1 x5).f0) 1 99).bind fun t162 => (if t162 = true then ((spec_l7Free.f x159000 x159001 x159002 ((rd_T34 x1 x5).f1)).bind fun t163 => (if t163 = true then (if ((rd_T34 x1 x5).f2) = (-1) then ((spec_l1In.f ((rd_T34 x1 x5).f4) 0 1000000).bind fun t164 => (if t164 = true then (if x5 > 0 then (if 0 ≤ (wrap64 (x5 - 1)) then (if (wrap64 (x5 - 1)) < (x1.length : Int) then (spec_CrewOk.j2 k x1 x5 (decide (((rd_T34 x1 (wrap64 (x5 - 1))).f0) ≥ ((rd_T34 x1 x5).f0))) x159000 x159001 x159002 ((rd_T34 x1 x5).f0) ((rd_T34 x1 x5).f1) ((rd_T34 x1 x5).f2) ((rd_T34 x1 x5).f3) ((rd_T34 x1 x5).f4)) else (none)) else (none)) else (spec_CrewOk.j2 k x1 x5 false x159000 x159001 x159002 ((rd_T34 x1 x5).f0) ((rd_T34 x1 x5).f1) ((rd_T34 x1 x5).f2) ((rd_T34 x1 x5).f3) ((rd_T34 x1 x5).f4))) else (spec_CrewOk.j2 k x1 x5 true x159000 x159001 x159002 ((rd_T34 x1 x5).f0) ((rd_T34 x1 x5).f1) ((rd_T34 x1 x5).f2) ((rd_T34 x1 x5).f3) ((rd_T34 x1 x5).f4)))) else ((spec_l7Free.f x159000 x159001 x159002 ((rd_T34 x1 x5).f2)).bind fun t166 => (if t166 = true then ((spec_l1In.f ((rd_T34 x1 x5).f4) 0 1000000).bind fun t167 => (if t167 = true then (if x5 > 0 then (if 0 ≤ (wrap64 (x5 - 1)) then (if (wrap64 (x5 - 1)) < (x1.length : Int) then (spec_CrewOk.j2 k x1 x5 (decide (((rd_T34 x1 (wrap64 (x5 - 1))).f0) ≥ ((rd_T34 x1 x5).f0))) x159000 x159001 x159002 ((rd_T34 x1 x5).f0) ((rd_T34 x1 x5).f1) ((rd_T34 x1 x5).f2) ((rd_T34 x1 x5).f3) ((rd_T34 x1 x5).f4)) else (none)) else (none)) else (spec_CrewOk.j2 k x1 x5 false x159000 x159001 x159002 ((rd_T34 x1 x5).f0) ((rd_T34 x1 x5).f1) ((rd_T34 x1 x5).f2) ((rd_T34 x1 x5).f3) ((rd_T34 x1 x5).f4))) else (spec_CrewOk.j2 k x1 x5 true x159000 x159001 x159002 ((rd_T34 x1 x5).f0) ((rd_T34 x1 x5).f1) ((rd_T34 x1 x5).f2) ((rd_T34 x1 x5).f3) ((rd_T34 x1 x5).f4)))) else (spec_CrewOk.j2 k x1 x5 true x159000 x159001 x159002 ((rd_T34 x1 x5).f0) ((rd_T34 x1 x5).f1) ((rd_T34 x1 x5).f2) ((rd_T34 x1 x5).f3) ((rd_T34 x1 x5).f4))))) else (spec_CrewOk.j2 k x1 x5 true x159000 x159001 x159002 ((rd_T34 x1 x5).f0) ((rd_T34 x1 x5).f1) ((rd_T34 x1 x5).f2) ((rd_T34 x1 x5).f3) ((rd_T34 x1 x5).f4)))) else (spec_CrewOk.j2 k x1 x5 true x159000 x159001 x159002 ((rd_T34 x1 x5).f0) ((rd_T34 x1 x5).f1) ((rd_T34 x1 x5).f2) ((rd_T34 x1 x5).f3) ((rd_T34 x1 x5).f4)))) else (none)) else (some true)
def spec_CrewOk.j2 : Nat → List (S34) → Int → Bool → Int → Int → List Int → Int → Int → Int → Bool → Int → Option (Bool)
  | 0, _, _, _, _, _, _, _, _, _, _, _ => none
  | k + 1, x1, x5, x69, x159000, x159001, x159002, x162000, x162001, x162002, x162003, x162004 => if x69 = true then (some false) else (spec_CrewOk.l1 k x1 x5 0 x159000 x159001 x159002 x162000 x162001 x162002 x162003 x162004)
def spec_CrewOk.l1 : Nat → List (S34) → Int → Int → Int → Int → List Int → Int → Int → Int → Bool → Int → Option (Bool)
  | 0, _, _, _, _, _, _, _, _, _, _, _ => none
  | k + 1, x1, x5, x7, x159000, x159001, x159002, x162000, x162001, x162002, x162003, x162004 => if x7 < x5 then (if 0 ≤ x7 then (if x7 < (x1.length : Int) then (if ((rd_T34 x1 x7).f1) = x162001 then (some false) else (spec_CrewOk.l1 k x1 x5 (wrap64 (x7 + 1)) x159000 x159001 x159002 x162000 x162001 x162002 x162003 x162004)) else (none)) else (none)) else (spec_CrewOk.l0 k x1 (wrap64 (x5 + 1)) x159000 x159001 x159002)
end
def spec_CrewOk.f (k : Nat) (a0_0 : Int) (a0_1 : Int) (l0_2 : List Int) (l1 : List (S34)) : Option (Bool) := (spec_FloorOk.f k a0_0 a0_1 l0_2).bind fun t159 => (if t159 = true then (spec_CrewOk.j0 k l1 (decide ((l1.length : Int) > 20)) a0_0 a0_1 l0_2) else (spec_CrewOk.j0 k l1 true a0_0 a0_1 l0_2))
theorem spec_CrewOk.mono_l : ∀ k, (∀ y0 y1 y2 y3 y4, LeO (spec_CrewOk.j0 k y0 y1 y2 y3 y4) (spec_CrewOk.j0 (k + 1) y0 y1 y2 y3 y4)) ∧ (∀ y0 y1 y2 y3 y4, LeO (spec_CrewOk.l0 k y0 y1 y2 y3 y4) (spec_CrewOk.l0 (k + 1) y0 y1 y2 y3 y4)) ∧ (∀ y0 y1 y2 y3 y4 y5 y6 y7 y8 y9 y10, LeO (spec_CrewOk.j2 k y0 y1 y2 y3 y4 y5 y6 y7 y8 y9 y10) (spec_CrewOk.j2 (k + 1) y0 y1 y2 y3 y4 y5 y6 y7 y8 y9 y10)) ∧ (∀ y0 y1 y2 y3 y4 y5 y6 y7 y8 y9 y10, LeO (spec_CrewOk.l1 k y0 y1 y2 y3 y4 y5 y6 y7 y8 y9 y10) (spec_CrewOk.l1 (k + 1) y0 y1 y2 y3 y4 y5 y6 y7 y8 y9 y10))
  | 0 => ⟨fun _ _ _ _ _ r h => by simp [spec_CrewOk.j0] at h, fun _ _ _ _ _ r h => by simp [spec_CrewOk.l0] at h, fun _ _ _ _ _ _ _ _ _ _ _ r h => by simp [spec_CrewOk.j2] at h, fun _ _ _ _ _ _ _ _ _ _ _ r h => by simp [spec_CrewOk.l1] at h⟩
  | k + 1 => by
    obtain ⟨ih0, ih1, ih2, ih3⟩ := spec_CrewOk.mono_l k
    refine ⟨?_, ?_, ?_, ?_⟩
    {
    intro y0 y1 y2 y3 y4
    unfold spec_CrewOk.j0
    repeat' first
    | (with_reducible exact ih0 _ _ _ _ _)
    | (with_reducible exact ih1 _ _ _ _ _)
    | (with_reducible exact ih2 _ _ _ _ _ _ _ _ _ _ _)
    | (with_reducible exact ih3 _ _ _ _ _ _ _ _ _ _ _)
    | (with_reducible exact spec_FloorOk.mono _ _ _ _)
    | (with_reducible exact LeO.refl _)
    | (with_reducible exact LeO.none _)
    | (with_reducible refine LeO.ite ?_ ?_)
    | (with_reducible refine LeO.bind ?_ (fun _ => ?_))
    | exact ih0 _ _ _ _ _
    | exact ih1 _ _ _ _ _
    | exact ih2 _ _ _ _ _ _ _ _ _ _ _
    | exact ih3 _ _ _ _ _ _ _ _ _ _ _
    | exact spec_FloorOk.mono _ _ _ _
    | exact LeO.none _
    | refine LeO.ite ?_ ?_
    | refine LeO.bind ?_ (fun _ => ?_)
    }
    {
    intro y0 y1 y2 y3 y4
    unfold spec_CrewOk.l0
    repeat' first
    | (with_reducible exact ih0 _ _ _ _ _)
    | (with_reducible exact ih1 _ _ _ _ _)
    | (with_reducible exact ih2 _ _ _ _ _ _ _ _ _ _ _)
    | (with_reducible exact ih3 _ _ _ _ _ _ _ _ _ _ _)
    | (with_reducible exact spec_FloorOk.mono _ _ _ _)
    | (with_reducible exact LeO.refl _)
    | (with_reducible exact LeO.none _)
    | (with_reducible refine LeO.ite ?_ ?_)
    | (with_reducible refine LeO.bind ?_ (fun _ => ?_))
    | exact ih0 _ _ _ _ _
    | exact ih1 _ _ _ _ _
    | exact ih2 _ _ _ _ _ _ _ _ _ _ _
    | exact ih3 _ _ _ _ _ _ _ _ _ _ _
    | exact spec_FloorOk.mono _ _ _ _
    | exact LeO.none _
    | refine LeO.ite ?_ ?_
    | refine LeO.bind ?_ (fun _ => ?_)
    }
    {
    intro y0 y1 y2 y3 y4 y5 y6 y7 y8 y9 y10
    unfold spec_CrewOk.j2
    repeat' first
    | (with_reducible exact ih0 _ _ _ _ _)
    | (with_reducible exact ih1 _ _ _ _ _)
    | (with_reducible exact ih2 _ _ _ _ _ _ _ _ _ _ _)
    | (with_reducible exact ih3 _ _ _ _ _ _ _ _ _ _ _)
    | (with_reducible exact spec_FloorOk.mono _ _ _ _)
    | (with_reducible exact LeO.refl _)
    | (with_reducible exact LeO.none _)
    | (with_reducible refine LeO.ite ?_ ?_)
    | (with_reducible refine LeO.bind ?_ (fun _ => ?_))
    | exact ih0 _ _ _ _ _
    | exact ih1 _ _ _ _ _
    | exact ih2 _ _ _ _ _ _ _ _ _ _ _
    | exact ih3 _ _ _ _ _ _ _ _ _ _ _
    | exact spec_FloorOk.mono _ _ _ _
    | exact LeO.none _
    | refine LeO.ite ?_ ?_
    | refine LeO.bind ?_ (fun _ => ?_)
    }
    {
    intro y0 y1 y2 y3 y4 y5 y6 y7 y8 y9 y10
    unfold spec_CrewOk.l1
    repeat' first
    | (with_reducible exact ih0 _ _ _ _ _)
    | (with_reducible exact ih1 _ _ _ _ _)
    | (with_reducible exact ih2 _ _ _ _ _ _ _ _ _ _ _)
    | (with_reducible exact ih3 _ _ _ _ _ _ _ _ _ _ _)
    | (with_reducible exact spec_FloorOk.mono _ _ _ _)
    | (with_reducible exact LeO.refl _)
    | (with_reducible exact LeO.none _)
    | (with_reducible refine LeO.ite ?_ ?_)
    | (with_reducible refine LeO.bind ?_ (fun _ => ?_))
    | exact ih0 _ _ _ _ _
    | exact ih1 _ _ _ _ _
    | exact ih2 _ _ _ _ _ _ _ _ _ _ _
    | exact ih3 _ _ _ _ _ _ _ _ _ _ _
    | exact spec_FloorOk.mono _ _ _ _
    | exact LeO.none _
    | refine LeO.ite ?_ ?_
    | refine LeO.bind ?_ (fun _ => ?_)
    }
theorem spec_CrewOk.mono : ∀ a0 a1 a2 a3 k, LeO (spec_CrewOk.f k a0 a1 a2 a3) (spec_CrewOk.f (k + 1) a0 a1 a2 a3) := by
  intro a0 a1 a2 a3 k
  obtain ⟨ih0, ih1, ih2, ih3⟩ := spec_CrewOk.mono_l k
  unfold spec_CrewOk.f
  repeat' first
      | (with_reducible exact ih0 _ _ _ _ _)
      | (with_reducible exact ih1 _ _ _ _ _)
      | (with_reducible exact ih2 _ _ _ _ _ _ _ _ _ _ _)
      | (with_reducible exact ih3 _ _ _ _ _ _ _ _ _ _ _)
      | (with_reducible exact spec_FloorOk.mono _ _ _ _)
      | (with_reducible exact LeO.refl _)
      | (with_reducible exact LeO.none _)
      | (with_reducible refine LeO.ite ?_ ?_)
      | (with_reducible refine LeO.bind ?_ (fun _ => ?_))
      | exact ih0 _ _ _ _ _
      | exact ih1 _ _ _ _ _
      | exact ih2 _ _ _ _ _ _ _ _ _ _ _
      | exact ih3 _ _ _ _ _ _ _ _ _ _ _
      | exact spec_FloorOk.mono _ _ _ _
      | exact LeO.none _
      | refine LeO.ite ?_ ?_
      | refine LeO.bind ?_ (fun _ => ?_)
def spec_CrewOk.T7 : Bool × List (List Nat × List Nat) := (true, [([], []), ([0], [0]), ([1], [1]), ([2], [2]), ([3, 2], [3]), ([4], [4]), ([4], [4]), ([6, 4], [4, 6]), ([5, 7, 4, 4], [4, 5, 7]), ([8, 4], [4, 8]), ([4, 9], [4, 9]), ([10, 8], [10]), ([11], [11]), ([12, 11], [11, 12]), ([13, 11], [11, 13]), ([14, 11, 11], [11, 14]), ([15], [15]), ([15], [15]), ([17, 15], [15, 17]), ([16, 18, 15, 15], [15, 16, 18]), ([19, 15], [15, 19]), ([15, 20, 11], [11, 15, 20]), ([11, 21], [11, 21]), ([22, 19], [22]), ([23], [23]), ([24, 23], [23, 24]), ([25, 23, 23], [23, 25]), ([26, 23], [23, 26]), ([23, 27], [23, 27]), ([28, 26], [28]), ([29], [29]), ([30, 29], [29, 30]), ([31, 29, 29], [29, 31]), ([32], [32]), ([32], [32]), ([34, 32], [32, 34]), ([33, 35, 32], [32, 33, 35]), ([36, 32], [32, 36]), ([37, 32], [32, 37]), ([32], [32]), ([39, 32], [32, 39]), ([38, 40, 32], [32, 38, 40]), ([32, 41, 29], [29, 32, 41]), ([29, 42], [29, 42])])
def spec_CrewOk.B7 : List Nat := [0, 1, 3, 7, 15, 31, 31, 95, 255, 511, 1023, 2047, 4095, 8191, 16383, 32767, 65535, 65535, 196607, 524287, 1048575, 2097151, 4194303, 8388607, 16777215, 33554431, 67108863, 134217727, 268435455, 536870911, 1073741823, 2147483647, 4294967295, 8589934591, 8589934591, 25769803775, 68719476735, 137438953471, 274877906943, 8589934591, 558345748479, 2199023255551, 4398046511103, 8796093022207]
theorem spec_CrewOk.tab7 : rtab .any (opsOf Try.f59 7) = spec_CrewOk.T7 := by kernel_rfl
theorem spec_CrewOk.bits7 : waitsOk spec_CrewOk.T7.2 spec_CrewOk.B7 = true := by kernel_rfl
def spec_CrewOk.T12 : Bool × List (List Nat × List Nat) := (true, [([], []), ([], []), ([0, 1], [0, 1]), ([2], [2]), ([3], [3]), ([], []), ([5], [5]), ([4, 6], [4, 6])])
def spec_CrewOk.B12 : List Nat := [0, 0, 3, 7, 15, 0, 32, 127]
theorem spec_CrewOk.tab12 : rtab .any (opsOf Try.f59 12) = spec_CrewOk.T12 := by kernel_rfl
theorem spec_CrewOk.bits12 : waitsOk spec_CrewOk.T12.2 spec_CrewOk.B12 = true := by kernel_rfl
set_option maxHeartbeats 8000000 in
set_option maxRecDepth 100000 in
theorem spec_CrewOk.calls (k : Nat) (a0_0 : Int) (a0_1 : Int) (A0_2 : Option Addr) (c0_2 : Nat) (l0_2 : List Int) (A1 : Option Addr) (c1 : Nat) (l1 : List (S34)) (r : Bool) (w : World) (hr0_2 : Kd.C (Kd.int .i64) w A0_2 l0_2.length l0_2) (hc0_2 : l0_2.length ≤ c0_2) (hr1 : Kd.C k34 w A1 l1.length l1) (hc1 : l1.length ≤ c1) (h : spec_CrewOk.f k a0_0 a0_1 l0_2 l1 = some r) :
    Calls Try.prog 59 #[.agg #[.int .i64 a0_0, .int .i64 a0_1, .slice A0_2 l0_2.length c0_2], .slice A1 l1.length c1] w fun e w' => e = .returned (.bool r) ∧ Below w.heap.size w w' := by
  have hu26 := Try.underlying26
  have hu34 := Try.underlying34
  have HR0_2 := Aside0.mk hr0_2
  have HC0_2 := Aside0.mk hc0_2
  clear hr0_2 hc0_2
  have HR1 := Aside0.mk hr1
  have HC1 := Aside0.mk hc1
  clear hr1 hc1
  have HB := Aside0.mk (Below.refl w.heap.size w)
  have H : ((spec_FloorOk.f k a0_0 a0_1 l0_2).bind fun t159 => (if t159 = true then (spec_CrewOk.j0 k l1 (decide ((l1.length : Int) > 20)) a0_0 a0_1 l0_2) else (spec_CrewOk.j0 k l1 true a0_0 a0_1 l0_2))) = some r := h
  clear h
  have HC3 := Aside0.mk H
  clear H
  go_enter Try.func59, Try.ntmps59
  go_upto_region 1 with (first | ((with_reducible refine gate_dst (N := 2) rfl ?_); (try (refine gate_guard (by rfl) ?_; dsimp only)); refine box_event ?hg (N := 2) ?hd (cs := #[.int .i64 a0_0, .int .i64 a0_1, .slice A0_2 l0_2.length c0_2]) (t := 26) ?hr ?_; (case hd => rfl); (case hg => rfl); (case hr => first | (go_simp; done) | (go_simp; rfl)); intro gb158 hg w4 hbox hb; have n0_ := Aside0.mk (below_step qz1 hb); have n1_ := Aside0.mk (hbox); have n2_ := Aside0.mk ((by rw [hg]; exact (below_size qz1) : w.heap.size ≤ gb158)); have n3_ := Aside0.mk ((by rw [hg]; exact (below_size qz1) : w.heap.size ≤ gb158)); clear HB; have HB := n0_; have BK158 := n1_; have GW158 := n2_; have GE158 := n3_; clear n0_ n1_ n2_ n3_; clear hb hbox hg))
  (try simp only [Act.put, List.setIfInBounds_toArray, List.set_cons_zero, List.set_cons_succ])
  go_cut [15] (fun v15 wc => ∃ (kq : Nat) (x15_2 : Bool), v15 = .bool x15_2 ∧ Aside0 (spec_CrewOk.j0 kq l1 x15_2 a0_0 a0_1 l0_2 = some r) ∧ Aside0 (kq ≤ k) ∧ Aside0 (wc.heap[gb158]? = some (.cells #[.int .i64 a0_0, .int .i64 a0_1, (.slice A0_2 l0_2.length c0_2)] 26 (0, 0))) ∧ Aside0 (Below w.heap.size w wc))
  case first =>
    have H := HC3.out
    clear HC3
    replace H := Option.bind_eq_some_iff.mp H
    obtain ⟨t159, A50, H⟩ := H
    replace H : (if t159 = true then (spec_CrewOk.j0 k l1 (decide ((l1.length : Int) > 20)) a0_0 a0_1 l0_2) else (spec_CrewOk.j0 k l1 true a0_0 a0_1 l0_2)) = some r := H
    have A5 := Aside0.mk A50
    clear A50
    by_cases c6 : t159 = true
    {
    subst c6
    have H1 : (spec_CrewOk.j0 k l1 (decide ((l1.length : Int) > 20)) a0_0 a0_1 l0_2) = some r := by rw [if_pos rfl] at H; exact H
    clear H
    have H := H1
    clear H1
    have H' := Aside0.mk H
    clear H
    have hcz7_0 : w4.cell? ⟨gb158, 0, none⟩ = some (.int .i64 a0_0) := (blk_cell BK158.out 0).trans rfl
    have hcz7_1 : w4.cell? ⟨gb158, 1, none⟩ = some (.int .i64 a0_1) := (blk_cell BK158.out 1).trans rfl
    have hcz7_2 : w4.cell? ⟨gb158, 2, none⟩ = some (.slice A0_2 l0_2.length c0_2) := (blk_cell BK158.out 2).trans rfl
    have hfz7_0 := blk_frozen BK158.out 0
    have hfz7_1 := blk_frozen BK158.out 1
    have hfz7_2 := blk_frozen BK158.out 2
    go_wp2_with (first | ((with_reducible refine gate_callee (f := 88) rfl ?_); refine goesL_ (some 9) rfl rfl Try.func88 (by kernel_rfl) rfl #[.agg #[.int .i64 a0_0, .int .i64 a0_1, .slice A0_2 l0_2.length c0_2]] rfl qz2 ?_; (with_reducible refine (spec_FloorOk.calls k a0_0 a0_1 _ _ l0_2 true _ ?side1 ?side2 A5.out).mono ?_); (case side1 => repeat (first | exact (Kd.C_below HR0_2.out HB.out) | (with_reducible refine Kd.C_alloc ?_ _) | (with_reducible refine Kd.C_drewN ?_ _) | (with_reducible refine Kd.C_drew ?_))); (case side2 => exact HC0_2.out); rintro e w8 ⟨rfl, hb⟩; refine ⟨_, rfl, ?_⟩; have n0_ := Aside0.mk (blk_below (g := gb158) (o := .cells #[.int .i64 a0_0, .int .i64 a0_1, .slice A0_2 l0_2.length c0_2] 26 (0, 0)) qz11 hb); have n1_ := Aside0.mk (below_step (by repeat (first | (with_reducible first | exact HB.out | apply below_alloc | apply pw_below_drewN | apply below_drew1 | refine below_set ?_ GE158.out) | exact HB.out)) hb); clear BK158; clear HB; have BK158 := n0_; have HB := n1_; clear n0_ n1_; (try clear hb); (try clear hb2); (try clear hk); (try clear hi)))
    go_meet
    case rel => exact ⟨_, (decide ((l1.length : Int) > 20)), qz14, H', ⟨by first | omega | exact Nat.le_refl _⟩, ⟨by (with_reducible repeat (first | refine blk_drewN ?_ _ | refine blk_drew ?_ | refine blk_alloc ?_ _)); exact BK158.out⟩, ⟨by repeat (first | (with_reducible first | exact HB.out | apply below_alloc | apply pw_below_drewN | apply below_drew1 | refine below_set ?_ GE158.out) | exact HB.out)⟩⟩
    }
    {
    replace c6 := Bool.eq_false_iff.mpr c6
    subst c6
    have H1 : (spec_CrewOk.j0 k l1 true a0_0 a0_1 l0_2) = some r := by rw [if_neg (show ¬ (false = true) by decide)] at H; exact H
    clear H
    have H := H1
    clear H1
    have H' := Aside0.mk H
    clear H
    have hcz9_0 : w4.cell? ⟨gb158, 0, none⟩ = some (.int .i64 a0_0) := (blk_cell BK158.out 0).trans rfl
    have hcz9_1 : w4.cell? ⟨gb158, 1, none⟩ = some (.int .i64 a0_1) := (blk_cell BK158.out 1).trans rfl
    have hcz9_2 : w4.cell? ⟨gb158, 2, none⟩ = some (.slice A0_2 l0_2.length c0_2) := (blk_cell BK158.out 2).trans rfl
    have hfz9_0 := blk_frozen BK158.out 0
    have hfz9_1 := blk_frozen BK158.out 1
    have hfz9_2 := blk_frozen BK158.out 2
    go_wp2_with (first | ((with_reducible refine gate_callee (f := 88) rfl ?_); refine goesL_ (some 9) rfl rfl Try.func88 (by kernel_rfl) rfl #[.agg #[.int .i64 a0_0, .int .i64 a0_1, .slice A0_2 l0_2.length c0_2]] rfl qz2 ?_; (with_reducible refine (spec_FloorOk.calls k a0_0 a0_1 _ _ l0_2 false _ ?side1 ?side2 A5.out).mono ?_); (case side1 => repeat (first | exact (Kd.C_below HR0_2.out HB.out) | (with_reducible refine Kd.C_alloc ?_ _) | (with_reducible refine Kd.C_drewN ?_ _) | (with_reducible refine Kd.C_drew ?_))); (case side2 => exact HC0_2.out); rintro e w10 ⟨rfl, hb⟩; refine ⟨_, rfl, ?_⟩; have n0_ := Aside0.mk (blk_below (g := gb158) (o := .cells #[.int .i64 a0_0, .int .i64 a0_1, .slice A0_2 l0_2.length c0_2] 26 (0, 0)) qz11 hb); have n1_ := Aside0.mk (below_step (by repeat (first | (with_reducible first | exact HB.out | apply below_alloc | apply pw_below_drewN | apply below_drew1 | refine below_set ?_ GE158.out) | exact HB.out)) hb); clear BK158; clear HB; have BK158 := n0_; have HB := n1_; clear n0_ n1_; (try clear hb); (try clear hb2); (try clear hk); (try clear hi)))
    go_meet
    case rel => exact ⟨_, (true), qz14, H', ⟨by first | omega | exact Nat.le_refl _⟩, ⟨by (with_reducible repeat (first | refine blk_drewN ?_ _ | refine blk_drew ?_ | refine blk_alloc ?_ _)); exact BK158.out⟩, ⟨by repeat (first | (with_reducible first | exact HB.out | apply below_alloc | apply pw_below_drewN | apply below_drew1 | refine below_set ?_ GE158.out) | exact HB.out)⟩⟩
    }
  case rest =>
    clear HC3
    try clear c1
    try clear p2
    try clear c5
    try clear c6
    try clear c8
    try clear hcz7_0
    try clear hcz7_1
    try clear hcz7_2
    try clear hcz9_0
    try clear hcz9_1
    try clear hcz9_2
    try clear hfz7_0
    try clear hfz7_1
    try clear hfz7_2
    try clear hfz9_0
    try clear hfz9_1
    try clear hfz9_2
    obtain ⟨kq, x15_2, rfl, HA, HJ2, BK158, HB⟩ := hcut
    cases kq with
    | zero => exact absurd HA.out (by simp [spec_CrewOk.j0])
    | succ kj2 =>
      have H := HA.out
      clear HA
      simp only [spec_CrewOk.j0] at H
      by_cases c11 : x15_2 = true
      {
      subst c11
      have H1 : (some false) = some r := by rw [if_pos rfl] at H; exact H
      clear H
      have H := H1
      clear H1
      obtain rfl := Option.some.inj H
      simp only [Option.some.injEq, Prod.mk.injEq] at H
      obtain ⟨rfl⟩ := H
      go_wp2
      go_ret
      exact ⟨by first | rfl | (simp [errW_none, errW_some] <;> rfl) | (simp [*, errW_none, errW_some] <;> rfl), by repeat (first | (with_reducible first | exact HB.out | apply below_alloc | apply pw_below_drewN | apply below_drew1 | refine below_set ?_ GE158.out) | exact HB.out)⟩
      }
      {
      replace c11 := Bool.eq_false_iff.mpr c11
      subst c11
      have H1 : (spec_CrewOk.l0 kj2 l1 0 a0_0 a0_1 l0_2) = some r := by rw [if_neg (show ¬ (false = true) by decide)] at H; exact H
      clear H
      have H := H1
      clear H1
      have H' := Aside0.mk H
      clear H
      go_wp2
      go_loopg [5] kj2 (fun kq v5 w' => ∃ (x5_2 : Int), v5 = .int .i64 x5_2 ∧ Aside0 (spec_CrewOk.l0 kq l1 x5_2 a0_0 a0_1 l0_2 = some r) ∧ Aside0 (kq ≤ kj2) ∧ Aside0 (w'.heap[gb158]? = some (.cells #[.int .i64 a0_0, .int .i64 a0_1, (.slice A0_2 l0_2.length c0_2)] 26 (0, 0))) ∧ Aside0 (Below w.heap.size w w'))
      case atStart => exact ⟨(0), qz14, H', ⟨Nat.le_refl _⟩, ⟨by (with_reducible repeat (first | refine blk_drewN ?_ _ | refine blk_drew ?_ | refine blk_alloc ?_ _)); exact BK158.out⟩, ⟨by repeat (first | (with_reducible first | exact HB.out | apply below_alloc | apply pw_below_drewN | apply below_drew1 | refine below_set ?_ GE158.out) | exact HB.out)⟩⟩
      case round =>
        clear H'
        try clear c1
        try clear p2
        try clear c5
        try clear c6
        try clear c8
        try clear c11
        try clear hcz7_0
        try clear hcz7_1
        try clear hcz7_2
        try clear hcz9_0
        try clear hcz9_1
        try clear hcz9_2
        try clear hfz7_0
        try clear hfz7_1
        try clear hfz7_2
        try clear hfz9_0
        try clear hfz9_1
        try clear hfz9_2
        try clear p2
        obtain ⟨x5_2, rfl, HA, HK2, BK158, HB⟩ := hrel
        cases gk with
        | zero => exact absurd HA.out (by simp [spec_CrewOk.l0])
        | succ k2 =>
          have H := HA.out
          clear HA
          simp only [spec_CrewOk.l0] at H
          by_cases c12 : x5_2 < (l1.length : Int)
          {
          rw [if_pos c12] at H
          have c12b0 : decide (x5_2 < (l1.length : Int)) = true := decide_eq_true c12
          clear c12
          by_cases c13 : 0 ≤ x5_2
          {
          rw [if_pos c13] at H
          have c13b0 : decide (0 ≤ x5_2) = true := decide_eq_true c13
          clear c13
          have HC14 := Aside0.mk H
          clear H
          have p160 : 0 ≤ (x5_2 : Int) := of_decide_eq_true qz7
          have q160 : x5_2 < (l1.length : Int) := of_decide_eq_true qz7
          obtain ⟨ad160, e160, hx160_0, hx160_1, hx160_2, hx160_3, hx160_4⟩ := at_T34 HR1.out x5_2 p160 q160
          cases e160
          replace hx160_0 := (HB.out.cell (World.block_lt_of_cell? w _ hx160_0)).trans hx160_0
          replace hx160_1 := (HB.out.cell (World.block_lt_of_cell? w _ hx160_1)).trans hx160_1
          replace hx160_2 := (HB.out.cell (World.block_lt_of_cell? w _ hx160_2)).trans hx160_2
          replace hx160_3 := (HB.out.cell (World.block_lt_of_cell? w _ hx160_3)).trans hx160_3
          replace hx160_4 := (HB.out.cell (World.block_lt_of_cell? w _ hx160_4)).trans hx160_4
          replace p160 := eq_true p160
          replace q160 := eq_true q160
          go_upto_region 7 with (first | ((with_reducible refine gate_dst (N := 6) rfl ?_); (try (refine gate_guard (by rfl) ?_; dsimp only)); refine box_event ?hg (N := 6) ?hd (cs := #[.int .i64 0, .int .i64 0, .int .i64 0, .bool false, .int .i64 0]) (t := 34) ?hr ?_; (case hd => rfl); (case hg => rfl); (case hr => first | (go_simp; done) | (go_simp; rfl)); intro gb161 hg w15 hbox hb; have n0_ := Aside0.mk (blk_below (g := gb158) (o := .cells #[.int .i64 a0_0, .int .i64 a0_1, .slice A0_2 l0_2.length c0_2] 26 (0, 0)) qz11 hb); have n1_ := Aside0.mk (below_step (by repeat (first | (with_reducible first | exact HB.out | apply below_alloc | apply pw_below_drewN | apply below_drew1 | refine below_set ?_ GE158.out) | exact HB.out)) hb); have n2_ := Aside0.mk (hbox); have n3_ := Aside0.mk ((by rw [hg]; exact (below_size (by repeat (first | (with_reducible first | exact HB.out | apply below_alloc | apply pw_below_drewN | apply below_drew1 | refine below_set ?_ GE158.out) | exact HB.out))) : w.heap.size ≤ gb161)); have n4_ := Aside0.mk ((by rw [hg]; exact (below_size (by repeat (first | (with_reducible first | exact HB.out | apply below_alloc | apply pw_below_drewN | apply below_drew1 | refine below_set ?_ GE158.out) | exact HB.out))) : w.heap.size ≤ gb161)); have n5_ := Aside0.mk ((by rw [hg]; exact Nat.ne_of_lt (blk_lt (g := gb158) (o := .cells #[.int .i64 a0_0, .int .i64 a0_1, .slice A0_2 l0_2.length c0_2] 26 (0, 0)) qz11) : gb158 ≠ gb161)); have n6_ := Aside0.mk ((by rw [hg]; exact Nat.ne_of_gt (blk_lt (g := gb158) (o := .cells #[.int .i64 a0_0, .int .i64 a0_1, .slice A0_2 l0_2.length c0_2] 26 (0, 0)) qz11) : gb161 ≠ gb158)); clear BK158; clear HB; have BK158 := n0_; have HB := n1_; have BK161 := n2_; have GW161 := n3_; have GE161 := n4_; have NB158_161 := n5_; have NB161_158 := n6_; clear n0_ n1_ n2_ n3_ n4_ n5_ n6_; clear hb hbox hg; have hnb16 := NB161_158.out; have hnc16 := NB158_161.out; have hcz17_0 : w15.cell? ⟨gb161, 0, none⟩ = some (.int .i64 0) := (blk_cell BK161.out 0).trans rfl; have hcz17_1 : w15.cell? ⟨gb161, 1, none⟩ = some (.int .i64 0) := (blk_cell BK161.out 1).trans rfl; have hcz17_2 : w15.cell? ⟨gb161, 2, none⟩ = some (.int .i64 0) := (blk_cell BK161.out 2).trans rfl; have hcz17_3 : w15.cell? ⟨gb161, 3, none⟩ = some (.bool false) := (blk_cell BK161.out 3).trans rfl; have hcz17_4 : w15.cell? ⟨gb161, 4, none⟩ = some (.int .i64 0) := (blk_cell BK161.out 4).trans rfl; have hfz17_0 := blk_frozen BK161.out 0; have hfz17_1 := blk_frozen BK161.out 1; have hfz17_2 := blk_frozen BK161.out 2; have hfz17_3 := blk_frozen BK161.out 3; have hfz17_4 := blk_frozen BK161.out 4))
          (try simp only [Act.put, List.setIfInBounds_toArray, List.set_cons_zero, List.set_cons_succ])
          go_cut [69] (fun v69 wc => ∃ (kq : Nat) (x69_13 : Bool), v69 = .bool x69_13 ∧ Aside0 (spec_CrewOk.j2 kq l1 x5_2 x69_13 a0_0 a0_1 l0_2 ((rd_T34 l1 x5_2).f0) ((rd_T34 l1 x5_2).f1) ((rd_T34 l1 x5_2).f2) ((rd_T34 l1 x5_2).f3) ((rd_T34 l1 x5_2).f4) = some r) ∧ Aside0 (kq ≤ k2) ∧ Aside0 (wc.heap[gb158]? = some (.cells #[.int .i64 a0_0, .int .i64 a0_1, (.slice A0_2 l0_2.length c0_2)] 26 (0, 0))) ∧ Aside0 (wc.heap[gb161]? = some (.cells #[.int .i64 ((rd_T34 l1 x5_2).f0), .int .i64 ((rd_T34 l1 x5_2).f1), .int .i64 ((rd_T34 l1 x5_2).f2), .bool ((rd_T34 l1 x5_2).f3), .int .i64 ((rd_T34 l1 x5_2).f4)] 34 (0, 0))) ∧ Aside0 (Below w.heap.size w wc))
          case first =>
            have H := HC14.out
            clear HC14
            replace H := Option.bind_eq_some_iff.mp H
            obtain ⟨t162, A180, H⟩ := H
            replace H : (if t162 = true then ((spec_l7Free.f a0_0 a0_1 l0_2 ((rd_T34 l1 x5_2).f1)).bind fun t163 => (if t163 = true then (if ((rd_T34 l1 x5_2).f2) = (-1) then ((spec_l1In.f ((rd_T34 l1 x5_2).f4) 0 1000000).bind fun t164 => (if t164 = true then (if x5_2 > 0 then (if 0 ≤ (wrap64 (x5_2 - 1)) then (if (wrap64 (x5_2 - 1)) < (l1.length : Int) then (spec_CrewOk.j2 k2 l1 x5_2 (decide (((rd_T34 l1 (wrap64 (x5_2 - 1))).f0) ≥ ((rd_T34 l1 x5_2).f0))) a0_0 a0_1 l0_2 ((rd_T34 l1 x5_2).f0) ((rd_T34 l1 x5_2).f1) ((rd_T34 l1 x5_2).f2) ((rd_T34 l1 x5_2).f3) ((rd_T34 l1 x5_2).f4)) else (none)) else (none)) else (spec_CrewOk.j2 k2 l1 x5_2 false a0_0 a0_1 l0_2 ((rd_T34 l1 x5_2).f0) ((rd_T34 l1 x5_2).f1) ((rd_T34 l1 x5_2).f2) ((rd_T34 l1 x5_2).f3) ((rd_T34 l1 x5_2).f4))) else (spec_CrewOk.j2 k2 l1 x5_2 true a0_0 a0_1 l0_2 ((rd_T34 l1 x5_2).f0) ((rd_T34 l1 x5_2).f1) ((rd_T34 l1 x5_2).f2) ((rd_T34 l1 x5_2).f3) ((rd_T34 l1 x5_2).f4)))) else ((spec_l7Free.f a0_0 a0_1 l0_2 ((rd_T34 l1 x5_2).f2)).bind fun t166 => (if t166 = true then ((spec_l1In.f ((rd_T34 l1 x5_2).f4) 0 1000000).bind fun t167 => (if t167 = true then (if x5_2 > 0 then (if 0 ≤ (wrap64 (x5_2 - 1)) then (if (wrap64 (x5_2 - 1)) < (l1.length : Int) then (spec_CrewOk.j2 k2 l1 x5_2 (decide (((rd_T34 l1 (wrap64 (x5_2 - 1))).f0) ≥ ((rd_T34 l1 x5_2).f0))) a0_0 a0_1 l0_2 ((rd_T34 l1 x5_2).f0) ((rd_T34 l1 x5_2).f1) ((rd_T34 l1 x5_2).f2) ((rd_T34 l1 x5_2).f3) ((rd_T34 l1 x5_2).f4)) else (none)) else (none)) else (spec_CrewOk.j2 k2 l1 x5_2 false a0_0 a0_1 l0_2 ((rd_T34 l1 x5_2).f0) ((rd_T34 l1 x5_2).f1) ((rd_T34 l1 x5_2).f2) ((rd_T34 l1 x5_2).f3) ((rd_T34 l1 x5_2).f4))) else (spec_CrewOk.j2 k2 l1 x5_2 true a0_0 a0_1 l0_2 ((rd_T34 l1 x5_2).f0) ((rd_T34 l1 x5_2).f1) ((rd_T34 l1 x5_2).f2) ((rd_T34 l1 x5_2).f3) ((rd_T34 l1 x5_2).f4)))) else (spec_CrewOk.j2 k2 l1 x5_2 true a0_0 a0_1 l0_2 ((rd_T34 l1 x5_2).f0) ((rd_T34 l1 x5_2).f1) ((rd_T34 l1 x5_2).f2) ((rd_T34 l1 x5_2).f3) ((rd_T34 l1 x5_2).f4))))) else (spec_CrewOk.j2 k2 l1 x5_2 true a0_0 a0_1 l0_2 ((rd_T34 l1 x5_2).f0) ((rd_T34 l1 x5_2).f1) ((rd_T34 l1 x5_2).f2) ((rd_T34 l1 x5_2).f3) ((rd_T34 l1 x5_2).f4)))) else (spec_CrewOk.j2 k2 l1 x5_2 true a0_0 a0_1 l0_2 ((rd_T34 l1 x5_2).f0) ((rd_T34 l1 x5_2).f1) ((rd_T34 l1 x5_2).f2) ((rd_T34 l1 x5_2).f3) ((rd_T34 l1 x5_2).f4))) = some r := H
            have A18 := Aside0.mk A180
            clear A180
            by_cases c19 : t162 = true
            {
            subst c19
            have H1 : ((spec_l7Free.f a0_0 a0_1 l0_2 ((rd_T34 l1 x5_2).f1)).bind fun t163 => (if t163 = true then (if ((rd_T34 l1 x5_2).f2) = (-1) then ((spec_l1In.f ((rd_T34 l1 x5_2).f4) 0 1000000).bind fun t164 => (if t164 = true then (if x5_2 > 0 then (if 0 ≤ (wrap64 (x5_2 - 1)) then (if (wrap64 (x5_2 - 1)) < (l1.length : Int) then (spec_CrewOk.j2 k2 l1 x5_2 (decide (((rd_T34 l1 (wrap64 (x5_2 - 1))).f0) ≥ ((rd_T34 l1 x5_2).f0))) a0_0 a0_1 l0_2 ((rd_T34 l1 x5_2).f0) ((rd_T34 l1 x5_2).f1) ((rd_T34 l1 x5_2).f2) ((rd_T34 l1 x5_2).f3) ((rd_T34 l1 x5_2).f4)) else (none)) else (none)) else (spec_CrewOk.j2 k2 l1 x5_2 false a0_0 a0_1 l0_2 ((rd_T34 l1 x5_2).f0) ((rd_T34 l1 x5_2).f1) ((rd_T34 l1 x5_2).f2) ((rd_T34 l1 x5_2).f3) ((rd_T34 l1 x5_2).f4))) else (spec_CrewOk.j2 k2 l1 x5_2 true a0_0 a0_1 l0_2 ((rd_T34 l1 x5_2).f0) ((rd_T34 l1 x5_2).f1) ((rd_T34 l1 x5_2).f2) ((rd_T34 l1 x5_2).f3) ((rd_T34 l1 x5_2).f4)))) else ((spec_l7Free.f a0_0 a0_1 l0_2 ((rd_T34 l1 x5_2).f2)).bind fun t166 => (if t166 = true then ((spec_l1In.f ((rd_T34 l1 x5_2).f4) 0 1000000).bind fun t167 => (if t167 = true then (if x5_2 > 0 then (if 0 ≤ (wrap64 (x5_2 - 1)) then (if (wrap64 (x5_2 - 1)) < (l1.length : Int) then (spec_CrewOk.j2 k2 l1 x5_2 (decide (((rd_T34 l1 (wrap64 (x5_2 - 1))).f0) ≥ ((rd_T34 l1 x5_2).f0))) a0_0 a0_1 l0_2 ((rd_T34 l1 x5_2).f0) ((rd_T34 l1 x5_2).f1) ((rd_T34 l1 x5_2).f2) ((rd_T34 l1 x5_2).f3) ((rd_T34 l1 x5_2).f4)) else (none)) else (none)) else (spec_CrewOk.j2 k2 l1 x5_2 false a0_0 a0_1 l0_2 ((rd_T34 l1 x5_2).f0) ((rd_T34 l1 x5_2).f1) ((rd_T34 l1 x5_2).f2) ((rd_T34 l1 x5_2).f3) ((rd_T34 l1 x5_2).f4))) else (spec_CrewOk.j2 k2 l1 x5_2 true a0_0 a0_1 l0_2 ((rd_T34 l1 x5_2).f0) ((rd_T34 l1 x5_2).f1) ((rd_T34 l1 x5_2).f2) ((rd_T34 l1 x5_2).f3) ((rd_T34 l1 x5_2).f4)))) else (spec_CrewOk.j2 k2 l1 x5_2 true a0_0 a0_1 l0_2 ((rd_T34 l1 x5_2).f0) ((rd_T34 l1 x5_2).f1) ((rd_T34 l1 x5_2).f2) ((rd_T34 l1 x5_2).f3) ((rd_T34 l1 x5_2).f4))))) else (spec_CrewOk.j2 k2 l1 x5_2 true a0_0 a0_1 l0_2 ((rd_T34 l1 x5_2).f0) ((rd_T34 l1 x5_2).f1) ((rd_T34 l1 x5_2).f2) ((rd_T34 l1 x5_2).f3) ((rd_T34 l1 x5_2).f4)))) = some r := by rw [if_pos rfl] at H; exact H
            clear H
            have H := H1
            clear H1
            replace H := Option.bind_eq_some_iff.mp H
            obtain ⟨t163, A200, H⟩ := H
            replace H : (if t163 = true then (if ((rd_T34 l1 x5_2).f2) = (-1) then ((spec_l1In.f ((rd_T34 l1 x5_2).f4) 0 1000000).bind fun t164 => (if t164 = true then (if x5_2 > 0 then (if 0 ≤ (wrap64 (x5_2 - 1)) then (if (wrap64 (x5_2 - 1)) < (l1.length : Int) then (spec_CrewOk.j2 k2 l1 x5_2 (decide (((rd_T34 l1 (wrap64 (x5_2 - 1))).f0) ≥ ((rd_T34 l1 x5_2).f0))) a0_0 a0_1 l0_2 ((rd_T34 l1 x5_2).f0) ((rd_T34 l1 x5_2).f1) ((rd_T34 l1 x5_2).f2) ((rd_T34 l1 x5_2).f3) ((rd_T34 l1 x5_2).f4)) else (none)) else (none)) else (spec_CrewOk.j2 k2 l1 x5_2 false a0_0 a0_1 l0_2 ((rd_T34 l1 x5_2).f0) ((rd_T34 l1 x5_2).f1) ((rd_T34 l1 x5_2).f2) ((rd_T34 l1 x5_2).f3) ((rd_T34 l1 x5_2).f4))) else (spec_CrewOk.j2 k2 l1 x5_2 true a0_0 a0_1 l0_2 ((rd_T34 l1 x5_2).f0) ((rd_T34 l1 x5_2).f1) ((rd_T34 l1 x5_2).f2) ((rd_T34 l1 x5_2).f3) ((rd_T34 l1 x5_2).f4)))) else ((spec_l7Free.f a0_0 a0_1 l0_2 ((rd_T34 l1 x5_2).f2)).bind fun t166 => (if t166 = true then ((spec_l1In.f ((rd_T34 l1 x5_2).f4) 0 1000000).bind fun t167 => (if t167 = true then (if x5_2 > 0 then (if 0 ≤ (wrap64 (x5_2 - 1)) then (if (wrap64 (x5_2 - 1)) < (l1.length : Int) then (spec_CrewOk.j2 k2 l1 x5_2 (decide (((rd_T34 l1 (wrap64 (x5_2 - 1))).f0) ≥ ((rd_T34 l1 x5_2).f0))) a0_0 a0_1 l0_2 ((rd_T34 l1 x5_2).f0) ((rd_T34 l1 x5_2).f1) ((rd_T34 l1 x5_2).f2) ((rd_T34 l1 x5_2).f3) ((rd_T34 l1 x5_2).f4)) else (none)) else (none)) else (spec_CrewOk.j2 k2 l1 x5_2 false a0_0 a0_1 l0_2 ((rd_T34 l1 x5_2).f0) ((rd_T34 l1 x5_2).f1) ((rd_T34 l1 x5_2).f2) ((rd_T34 l1 x5_2).f3) ((rd_T34 l1 x5_2).f4))) else (spec_CrewOk.j2 k2 l1 x5_2 true a0_0 a0_1 l0_2 ((rd_T34 l1 x5_2).f0) ((rd_T34 l1 x5_2).f1) ((rd_T34 l1 x5_2).f2) ((rd_T34 l1 x5_2).f3) ((rd_T34 l1 x5_2).f4)))) else (spec_CrewOk.j2 k2 l1 x5_2 true a0_0 a0_1 l0_2 ((rd_T34 l1 x5_2).f0) ((rd_T34 l1 x5_2).f1) ((rd_T34 l1 x5_2).f2) ((rd_T34 l1 x5_2).f3) ((rd_T34 l1 x5_2).f4))))) else (spec_CrewOk.j2 k2 l1 x5_2 true a0_0 a0_1 l0_2 ((rd_T34 l1 x5_2).f0) ((rd_T34 l1 x5_2).f1) ((rd_T34 l1 x5_2).f2) ((rd_T34 l1 x5_2).f3) ((rd_T34 l1 x5_2).f4))) = some r := H
            have A20 := Aside0.mk A200
            clear A200
            by_cases c21 : t163 = true
            {
            subst c21
            have H1 : (if ((rd_T34 l1 x5_2).f2) = (-1) then ((spec_l1In.f ((rd_T34 l1 x5_2).f4) 0 1000000).bind fun t164 => (if t164 = true then (if x5_2 > 0 then (if 0 ≤ (wrap64 (x5_2 - 1)) then (if (wrap64 (x5_2 - 1)) < (l1.length : Int) then (spec_CrewOk.j2 k2 l1 x5_2 (decide (((rd_T34 l1 (wrap64 (x5_2 - 1))).f0) ≥ ((rd_T34 l1 x5_2).f0))) a0_0 a0_1 l0_2 ((rd_T34 l1 x5_2).f0) ((rd_T34 l1 x5_2).f1) ((rd_T34 l1 x5_2).f2) ((rd_T34 l1 x5_2).f3) ((rd_T34 l1 x5_2).f4)) else (none)) else (none)) else (spec_CrewOk.j2 k2 l1 x5_2 false a0_0 a0_1 l0_2 ((rd_T34 l1 x5_2).f0) ((rd_T34 l1 x5_2).f1) ((rd_T34 l1 x5_2).f2) ((rd_T34 l1 x5_2).f3) ((rd_T34 l1 x5_2).f4))) else (spec_CrewOk.j2 k2 l1 x5_2 true a0_0 a0_1 l0_2 ((rd_T34 l1 x5_2).f0) ((rd_T34 l1 x5_2).f1) ((rd_T34 l1 x5_2).f2) ((rd_T34 l1 x5_2).f3) ((rd_T34 l1 x5_2).f4)))) else ((spec_l7Free.f a0_0 a0_1 l0_2 ((rd_T34 l1 x5_2).f2)).bind fun t166 => (if t166 = true then ((spec_l1In.f ((rd_T34 l1 x5_2).f4) 0 1000000).bind fun t167 => (if t167 = true then (if x5_2 > 0 then (if 0 ≤ (wrap64 (x5_2 - 1)) then (if (wrap64 (x5_2 - 1)) < (l1.length : Int) then (spec_CrewOk.j2 k2 l1 x5_2 (decide (((rd_T34 l1 (wrap64 (x5_2 - 1))).f0) ≥ ((rd_T34 l1 x5_2).f0))) a0_0 a0_1 l0_2 ((rd_T34 l1 x5_2).f0) ((rd_T34 l1 x5_2).f1) ((rd_T34 l1 x5_2).f2) ((rd_T34 l1 x5_2).f3) ((rd_T34 l1 x5_2).f4)) else (none)) else (none)) else (spec_CrewOk.j2 k2 l1 x5_2 false a0_0 a0_1 l0_2 ((rd_T34 l1 x5_2).f0) ((rd_T34 l1 x5_2).f1) ((rd_T34 l1 x5_2).f2) ((rd_T34 l1 x5_2).f3) ((rd_T34 l1 x5_2).f4))) else (spec_CrewOk.j2 k2 l1 x5_2 true a0_0 a0_1 l0_2 ((rd_T34 l1 x5_2).f0) ((rd_T34 l1 x5_2).f1) ((rd_T34 l1 x5_2).f2) ((rd_T34 l1 x5_2).f3) ((rd_T34 l1 x5_2).f4)))) else (spec_CrewOk.j2 k2 l1 x5_2 true a0_0 a0_1 l0_2 ((rd_T34 l1 x5_2).f0) ((rd_T34 l1 x5_2).f1) ((rd_T34 l1 x5_2).f2) ((rd_T34 l1 x5_2).f3) ((rd_T34 l1 x5_2).f4))))) = some r := by rw [if_pos rfl] at H; exact H
            clear H
            have H := H1
            clear H1
            by_cases c22 : ((rd_T34 l1 x5_2).f2) = (-1)
            {
            rw [if_pos c22] at H
            have c22b0 : (((rd_T34 l1 x5_2).f2) == (-1)) = true := beq_iff_eq.mpr c22
            have c22b1 : (((rd_T34 l1 x5_2).f2) != (-1)) = false := bne_eq_false_iff_eq.mpr c22
            clear c22
            (first | rw [c22b0] | (simp only [i64_w, i32_w]; rw [c22b0]) | rw [@decide_eq_true _ _ (of_decide_eq_true c22b0)] | rw [@decide_eq_true _ _ (of_decide_eq_true c22b1)] | skip)
            replace H := Option.bind_eq_some_iff.mp H
            obtain ⟨t164, A230, H⟩ := H
            replace H : (if t164 = true then (if x5_2 > 0 then (if 0 ≤ (wrap64 (x5_2 - 1)) then (if (wrap64 (x5_2 - 1)) < (l1.length : Int) then (spec_CrewOk.j2 k2 l1 x5_2 (decide (((rd_T34 l1 (wrap64 (x5_2 - 1))).f0) ≥ ((rd_T34 l1 x5_2).f0))) a0_0 a0_1 l0_2 ((rd_T34 l1 x5_2).f0) ((rd_T34 l1 x5_2).f1) ((rd_T34 l1 x5_2).f2) ((rd_T34 l1 x5_2).f3) ((rd_T34 l1 x5_2).f4)) else (none)) else (none)) else (spec_CrewOk.j2 k2 l1 x5_2 false a0_0 a0_1 l0_2 ((rd_T34 l1 x5_2).f0) ((rd_T34 l1 x5_2).f1) ((rd_T34 l1 x5_2).f2) ((rd_T34 l1 x5_2).f3) ((rd_T34 l1 x5_2).f4))) else (spec_CrewOk.j2 k2 l1 x5_2 true a0_0 a0_1 l0_2 ((rd_T34 l1 x5_2).f0) ((rd_T34 l1 x5_2).f1) ((rd_T34 l1 x5_2).f2) ((rd_T34 l1 x5_2).f3) ((rd_T34 l1 x5_2).f4))) = some r := H
            have A23 := Aside0.mk A230
            clear A230
            by_cases c24 : t164 = true
            {
            subst c24
            have H1 : (if x5_2 > 0 then (if 0 ≤ (wrap64 (x5_2 - 1)) then (if (wrap64 (x5_2 - 1)) < (l1.length : Int) then (spec_CrewOk.j2 k2 l1 x5_2 (decide (((rd_T34 l1 (wrap64 (x5_2 - 1))).f0) ≥ ((rd_T34 l1 x5_2).f0))) a0_0 a0_1 l0_2 ((rd_T34 l1 x5_2).f0) ((rd_T34 l1 x5_2).f1) ((rd_T34 l1 x5_2).f2) ((rd_T34 l1 x5_2).f3) ((rd_T34 l1 x5_2).f4)) else (none)) else (none)) else (spec_CrewOk.j2 k2 l1 x5_2 false a0_0 a0_1 l0_2 ((rd_T34 l1 x5_2).f0) ((rd_T34 l1 x5_2).f1) ((rd_T34 l1 x5_2).f2) ((rd_T34 l1 x5_2).f3) ((rd_T34 l1 x5_2).f4))) = some r := by rw [if_pos rfl] at H; exact H
            clear H
            have H := H1
            clear H1
            by_cases c25 : x5_2 > 0
            {
            rw [if_pos c25] at H
            have c25b0 : decide (0 < x5_2) = true := decide_eq_true c25
            clear c25
            obtain ⟨ji26, hji26⟩ : ∃ j_ : Int, (wrap64 (x5_2 - 1)) = j_ := ⟨_, rfl⟩
            replace H : (if 0 ≤ (ji26) then (if (ji26) < (l1.length : Int) then (spec_CrewOk.j2 k2 l1 x5_2 (decide (((rd_T34 l1 (ji26)).f0) ≥ ((rd_T34 l1 x5_2).f0))) a0_0 a0_1 l0_2 ((rd_T34 l1 x5_2).f0) ((rd_T34 l1 x5_2).f1) ((rd_T34 l1 x5_2).f2) ((rd_T34 l1 x5_2).f3) ((rd_T34 l1 x5_2).f4)) else (none)) else (none)) = some r := by first | (rw [hji26] at H; exact H) | (simp only [hji26] at H ⊢; exact H)
            (try rw [hji26] at A18)
            (try rw [hji26] at A20)
            (try rw [hji26] at A23)
            have hji26w : (IntKind.i64.wrap (x5_2 - 1)) = ji26 := (i64_w _).trans hji26
            by_cases c27 : 0 ≤ (ji26)
            {
            rw [if_pos c27] at H
            have c27b0 : decide (0 ≤ (ji26)) = true := decide_eq_true c27
            clear c27
            by_cases c28 : (ji26) < (l1.length : Int)
            {
            rw [if_pos c28] at H
            have c28b0 : decide ((ji26) < (l1.length : Int)) = true := decide_eq_true c28
            clear c28
            have H' := Aside0.mk H
            clear H
            try go_wp2
            generalize hq_ : (((((w15.setCell ⟨gb161, 0, none⟩ (.int .i64 ((rd_T34 l1 x5_2).f0))).setCell ⟨gb161, 1, none⟩ (.int .i64 ((rd_T34 l1 x5_2).f1))).setCell ⟨gb161, 2, none⟩ (.int .i64 ((rd_T34 l1 x5_2).f2))).setCell ⟨gb161, 3, none⟩ (.bool ((rd_T34 l1 x5_2).f3))).setCell ⟨gb161, 4, none⟩ (.int .i64 ((rd_T34 l1 x5_2).f4))) = w29
            have n0_ : Aside0 (w29.heap[gb158]? = some (.cells #[.int .i64 a0_0, .int .i64 a0_1, .slice A0_2 l0_2.length c0_2] 26 (0, 0))) := ⟨by rw [← hq_]; exact qz3⟩
            have n1_ : Aside0 (w29.heap[gb161]? = some (.cells #[.int .i64 ((rd_T34 l1 x5_2).f0), .int .i64 ((rd_T34 l1 x5_2).f1), .int .i64 ((rd_T34 l1 x5_2).f2), .bool ((rd_T34 l1 x5_2).f3), .int .i64 ((rd_T34 l1 x5_2).f4)] 34 (0, 0))) := ⟨by rw [← hq_]; exact (by (with_reducible repeat (first | refine blk_drewN ?_ _ | refine blk_drew ?_ | refine blk_alloc ?_ _)); refine blk_put (cs := #[.int .i64 ((rd_T34 l1 x5_2).f0), .int .i64 ((rd_T34 l1 x5_2).f1), .int .i64 ((rd_T34 l1 x5_2).f2), .bool ((rd_T34 l1 x5_2).f3), .int .i64 0]) ?_ 4 _ rfl; (with_reducible repeat (first | refine blk_drewN ?_ _ | refine blk_drew ?_ | refine blk_alloc ?_ _)); refine blk_put (cs := #[.int .i64 ((rd_T34 l1 x5_2).f0), .int .i64 ((rd_T34 l1 x5_2).f1), .int .i64 ((rd_T34 l1 x5_2).f2), .bool false, .int .i64 0]) ?_ 3 _ rfl; (with_reducible repeat (first | refine blk_drewN ?_ _ | refine blk_drew ?_ | refine blk_alloc ?_ _)); refine blk_put (cs := #[.int .i64 ((rd_T34 l1 x5_2).f0), .int .i64 ((rd_T34 l1 x5_2).f1), .int .i64 0, .bool false, .int .i64 0]) ?_ 2 _ rfl; (with_reducible repeat (first | refine blk_drewN ?_ _ | refine blk_drew ?_ | refine blk_alloc ?_ _)); refine blk_put (cs := #[.int .i64 ((rd_T34 l1 x5_2).f0), .int .i64 0, .int .i64 0, .bool false, .int .i64 0]) ?_ 1 _ rfl; (with_reducible repeat (first | refine blk_drewN ?_ _ | refine blk_drew ?_ | refine blk_alloc ?_ _)); refine blk_put (cs := #[.int .i64 0, .int .i64 0, .int .i64 0, .bool false, .int .i64 0]) ?_ 0 _ rfl; (with_reducible repeat (first | refine blk_drewN ?_ _ | refine blk_drew ?_ | refine blk_alloc ?_ _)); exact BK161.out)⟩
            have n2_ : Aside0 (Below w.heap.size w w29) := ⟨by rw [← hq_]; exact qz4⟩
            (try clear BK158)
            (try clear BK161)
            (try clear HB)
            clear hq_
            have BK158 := n0_
            have BK161 := n1_
            have HB := n2_
            clear n0_ n1_ n2_
            have n0_ := Aside0.mk (blk_drew BK158.out)
            have n1_ := Aside0.mk (blk_drew BK161.out)
            have n2_ := Aside0.mk (below_drew1 HB.out)
            clear BK158
            clear BK161
            clear HB
            have BK158 := n0_
            have BK161 := n1_
            have HB := n2_
            clear n0_ n1_ n2_
            have p165 : 0 ≤ ((ji26) : Int) := of_decide_eq_true qz7
            have q165 : (ji26) < (l1.length : Int) := of_decide_eq_true qz7
            obtain ⟨ad165, e165, hx165_0, hx165_1, hx165_2, hx165_3, hx165_4⟩ := at_T34 HR1.out (ji26) p165 q165
            have hw165_4 := hx165_4
            have hw165_3 := hx165_3
            have hw165_2 := hx165_2
            have hw165_1 := hx165_1
            have hw165_0 := hx165_0
            obtain rfl : ad160 = ad165 := (by injection e165)
            replace hx165_0 := (HB.out.cell (World.block_lt_of_cell? w _ hx165_0)).trans hx165_0
            replace hx165_1 := (HB.out.cell (World.block_lt_of_cell? w _ hx165_1)).trans hx165_1
            replace hx165_2 := (HB.out.cell (World.block_lt_of_cell? w _ hx165_2)).trans hx165_2
            replace hx165_3 := (HB.out.cell (World.block_lt_of_cell? w _ hx165_3)).trans hx165_3
            replace hx165_4 := (HB.out.cell (World.block_lt_of_cell? w _ hx165_4)).trans hx165_4
            replace p165 := eq_true p165
            replace q165 := eq_true q165
            refine start_ (n := 44) (S := fun w' => w'.cell? ⟨gb161, 0, none⟩ = some (.int .i64 ((rd_T34 l1 x5_2).f0)) ∧ w'.cell? ⟨gb161, 1, none⟩ = some (.int .i64 ((rd_T34 l1 x5_2).f1)) ∧ w'.cell? ⟨gb161, 2, none⟩ = some (.int .i64 ((rd_T34 l1 x5_2).f2)) ∧ w'.cell? ⟨gb161, 3, none⟩ = some (.bool ((rd_T34 l1 x5_2).f3)) ∧ w'.cell? ⟨gb161, 4, none⟩ = some (.int .i64 ((rd_T34 l1 x5_2).f4)) ∧ w'.cell? ⟨gb158, 0, none⟩ = some (.int .i64 a0_0) ∧ w'.cell? ⟨gb158, 1, none⟩ = some (.int .i64 a0_1) ∧ w'.cell? ⟨gb158, 2, none⟩ = some (.slice A0_2 l0_2.length c0_2) ∧ w'.cell? (ad160.add (((ji26)).toNat * 5)) = some (.int .i64 ((rd_T34 l1 (ji26)).f0)) ∧ w'.cell? ⟨(ad160.add (((ji26)).toNat * 5)).block, (ad160.add (((ji26)).toNat * 5)).off + 1, none⟩ = some (.int .i64 ((rd_T34 l1 (ji26)).f1)) ∧ w'.cell? ⟨(ad160.add (((ji26)).toNat * 5)).block, (ad160.add (((ji26)).toNat * 5)).off + 2, none⟩ = some (.int .i64 ((rd_T34 l1 (ji26)).f2)) ∧ w'.cell? ⟨(ad160.add (((ji26)).toNat * 5)).block, (ad160.add (((ji26)).toNat * 5)).off + 3, none⟩ = some (.bool ((rd_T34 l1 (ji26)).f3)) ∧ w'.cell? ⟨(ad160.add (((ji26)).toNat * 5)).block, (ad160.add (((ji26)).toNat * 5)).off + 4, none⟩ = some (.int .i64 ((rd_T34 l1 (ji26)).f4))) (ds := []) #[false, false, false, false, false, false, false, false, false, false, false, false, false, false, false, false, false, false, false, false, false, false, false, false, false, false, false, false, false, false, false, false, false, false, false, false, false, false, false, false, false, false, false, false] (by kernel_rfl) rfl rfl ⟨(blk_cell BK161.out 0).trans rfl, (blk_cell BK161.out 1).trans rfl, (blk_cell BK161.out 2).trans rfl, (blk_cell BK161.out 3).trans rfl, (blk_cell BK161.out 4).trans rfl, (blk_cell BK158.out 0).trans rfl, (blk_cell BK158.out 1).trans rfl, (blk_cell BK158.out 2).trans rfl, ((HB.out.cell (World.block_lt_of_cell? w _ hw165_0)).trans hw165_0), ((HB.out.cell (World.block_lt_of_cell? w _ hw165_1)).trans hw165_1), ((HB.out.cell (World.block_lt_of_cell? w _ hw165_2)).trans hw165_2), ((HB.out.cell (World.block_lt_of_cell? w _ hw165_3)).trans hw165_3), ((HB.out.cell (World.block_lt_of_cell? w _ hw165_4)).trans hw165_4)⟩ (fun hHeld => ?_); refine with_tabW spec_CrewOk.tab7 spec_CrewOk.bits7 (fun HT_ HW_ => ?_)
            generalize w29.drew = w30 at BK158 BK161 HB hx165_0 hx165_1 hx165_2 hx165_3 hx165_4 hHeld ⊢
            refine pure_ (i := 0) (N := some 26) (v := ?_) (a' := ?_) (bqz 44 1) rfl rfl qza qzd (Or.inl ⟨by rfl, ?_⟩) ?_ ?_
            rotate_left
            {
            intro w'
            go_simp
            with_reducible rfl
            }
            rotate_left
            {
            simp only [qzs]
            rfl
            }
            refine take_ (i := 1) (N := some 27) (v := ?_) (a' := ?_) (bqz 44 3) rfl rfl qzb qzd (Or.inl ⟨by rfl, ?_⟩) hHeld ?_ ?_
            rotate_left
            {
            rintro w' ⟨s0, s1, s2, s3, s4, s5, s6, s7, s8, s9, s10, s11, s12⟩
            go_simp
            with_reducible rfl
            }
            rotate_left
            {
            simp only [qzs]
            rfl
            }
            refine one_ (i := 2) (N := some 28) (bqz 44 7) rfl rfl qzc (by decide) (fun K hK => ?_)
            refine goes_ Try.func90 (by kernel_rfl) rfl #[.int .i64 ((rd_T34 l1 x5_2).f0), .int .i64 1, .int .i64 99] (by rfl) rfl rfl qz2 ?_
            with_reducible refine (spec_l1In.calls ((rd_T34 l1 x5_2).f0) 1 99 true _ A18.out).mono ?_
            rintro e w' ⟨rfl, ⟨nd, rfl⟩⟩
            refine ⟨_, rfl, ?_⟩
            refine hK.out _ _ ⟨(blk_cell BK161.out 0).trans rfl, (blk_cell BK161.out 1).trans rfl, (blk_cell BK161.out 2).trans rfl, (blk_cell BK161.out 3).trans rfl, (blk_cell BK161.out 4).trans rfl, (blk_cell BK158.out 0).trans rfl, (blk_cell BK158.out 1).trans rfl, (blk_cell BK158.out 2).trans rfl, ((HB.out.cell (World.block_lt_of_cell? w _ hw165_0)).trans hw165_0), ((HB.out.cell (World.block_lt_of_cell? w _ hw165_1)).trans hw165_1), ((HB.out.cell (World.block_lt_of_cell? w _ hw165_2)).trans hw165_2), ((HB.out.cell (World.block_lt_of_cell? w _ hw165_3)).trans hw165_3), ((HB.out.cell (World.block_lt_of_cell? w _ hw165_4)).trans hw165_4)⟩ (fun hHeld => ?_)
            clear hK K
            refine norm_ (a' := ?_) ?_ ?_
            rotate_left
            {
            show Act.put _ (some 28) _ = _
            simp only [qzs]
            rfl
            }
            refine pure_ (i := 3) (N := some 29) (v := ?_) (a' := ?_) (bqz 44 15) rfl rfl qza qzd (Or.inl ⟨by rfl, ?_⟩) ?_ ?_
            rotate_left
            {
            intro w'
            go_simp
            with_reducible rfl
            }
            rotate_left
            {
            simp only [qzs]
            rfl
            }
            refine pure_ (i := 4) (N := some 30) (v := ?_) (a' := ?_) (bqz 44 31) rfl rfl qza qzd (Or.inl ⟨by rfl, ?_⟩) ?_ ?_
            rotate_left
            {
            intro w'
            go_simp
            with_reducible rfl
            }
            rotate_left
            {
            simp only [qzs]
            rfl
            }
            refine pure_ (i := 6) (N := some 32) (v := ?_) (a' := ?_) (bqz 44 95) rfl rfl qza qzd (Or.inl ⟨by rfl, ?_⟩) ?_ ?_
            rotate_left
            {
            intro w'
            go_simp
            with_reducible rfl
            }
            rotate_left
            {
            simp only [qzs]
            rfl
            }
            refine take_ (i := 5) (N := some 31) (v := ?_) (a' := ?_) (bqz 44 127) rfl rfl qzb qzd (Or.inl ⟨by rfl, ?_⟩) hHeld ?_ ?_
            rotate_left
            {
            rintro w' ⟨s0, s1, s2, s3, s4, s5, s6, s7, s8, s9, s10, s11, s12⟩
            go_simp
            with_reducible rfl
            }
            rotate_left
            {
            simp only [qzs]
            rfl
            }
            refine take_ (i := 7) (N := some 33) (v := ?_) (a' := ?_) (bqz 44 255) rfl rfl qzb qzd (Or.inl ⟨by rfl, ?_⟩) hHeld ?_ ?_
            rotate_left
            {
            rintro w' ⟨s0, s1, s2, s3, s4, s5, s6, s7, s8, s9, s10, s11, s12⟩
            go_simp
            with_reducible rfl
            }
            rotate_left
            {
            simp only [qzs]
            rfl
            }
            refine one_ (i := 8) (N := some 34) (bqz 44 511) rfl rfl qzc (by decide) (fun K hK => ?_)
            refine goes_ Try.func107 (by kernel_rfl) rfl #[.agg #[.int .i64 a0_0, .int .i64 a0_1, .slice A0_2 l0_2.length c0_2], .int .i64 ((rd_T34 l1 x5_2).f1)] (by rfl) rfl rfl qz2 ?_
            with_reducible refine (spec_l7Free.calls a0_0 a0_1 _ _ l0_2 ((rd_T34 l1 x5_2).f1) true _ ?side1 ?side2 A20.out).mono ?_
            (case side1 => repeat (first | exact (Kd.C_below HR0_2.out qz4) | (with_reducible refine Kd.C_alloc ?_ _) | (with_reducible refine Kd.C_drewN ?_ _) | (with_reducible refine Kd.C_drew ?_)))
            (case side2 => exact HC0_2.out)
            rintro e w31 ⟨rfl, hb⟩
            refine ⟨_, rfl, ?_⟩
            have n0_ := Aside0.mk (blk_below (g := gb158) (o := .cells #[.int .i64 a0_0, .int .i64 a0_1, .slice A0_2 l0_2.length c0_2] 26 (0, 0)) qz11 hb)
            have n1_ := Aside0.mk (blk_below (g := gb161) (o := .cells #[.int .i64 ((rd_T34 l1 x5_2).f0), .int .i64 ((rd_T34 l1 x5_2).f1), .int .i64 ((rd_T34 l1 x5_2).f2), .bool ((rd_T34 l1 x5_2).f3), .int .i64 ((rd_T34 l1 x5_2).f4)] 34 (0, 0)) (by (with_reducible repeat (first | refine blk_drewN ?_ _ | refine blk_drew ?_ | refine blk_alloc ?_ _)); exact BK161.out) hb)
            have n2_ := Aside0.mk (below_step qz4 hb)
            clear BK158
            clear BK161
            clear HB
            have BK158 := n0_
            have BK161 := n1_
            have HB := n2_
            clear n0_ n1_ n2_
            (try clear hb)
            (try clear hb2)
            (try clear hk)
            (try clear hi)
            refine hK.out _ _ ⟨(blk_cell BK161.out 0).trans rfl, (blk_cell BK161.out 1).trans rfl, (blk_cell BK161.out 2).trans rfl, (blk_cell BK161.out 3).trans rfl, (blk_cell BK161.out 4).trans rfl, (blk_cell BK158.out 0).trans rfl, (blk_cell BK158.out 1).trans rfl, (blk_cell BK158.out 2).trans rfl, ((HB.out.cell (World.block_lt_of_cell? w _ hw165_0)).trans hw165_0), ((HB.out.cell (World.block_lt_of_cell? w _ hw165_1)).trans hw165_1), ((HB.out.cell (World.block_lt_of_cell? w _ hw165_2)).trans hw165_2), ((HB.out.cell (World.block_lt_of_cell? w _ hw165_3)).trans hw165_3), ((HB.out.cell (World.block_lt_of_cell? w _ hw165_4)).trans hw165_4)⟩ (fun hHeld => ?_)
            clear hK K
            refine norm_ (a' := ?_) ?_ ?_
            rotate_left
            {
            show Act.put _ (some 34) _ = _
            simp only [qzs]
            rfl
            }
            refine pure_ (i := 9) (N := some 35) (v := ?_) (a' := ?_) (bqz 44 1023) rfl rfl qza qzd (Or.inl ⟨by rfl, ?_⟩) ?_ ?_
            rotate_left
            {
            intro w'
            go_simp
            with_reducible rfl
            }
            rotate_left
            {
            simp only [qzs]
            rfl
            }
            refine pure_ (i := 10) (N := some 36) (v := ?_) (a' := ?_) (bqz 44 2047) rfl rfl qza qzd (Or.inl ⟨by rfl, ?_⟩) ?_ ?_
            rotate_left
            {
            intro w'
            go_simp
            with_reducible rfl
            }
            rotate_left
            {
            simp only [qzs]
            rfl
            }
            refine pure_ (i := 11) (N := some 37) (v := ?_) (a' := ?_) (bqz 44 4095) rfl rfl qza qzd (Or.inl ⟨by rfl, ?_⟩) ?_ ?_
            rotate_left
            {
            intro w'
            go_simp
            with_reducible rfl
            }
            rotate_left
            {
            simp only [qzs]
            rfl
            }
            refine pure_ (i := 12) (N := some 38) (v := ?_) (a' := ?_) (bqz 44 8191) rfl rfl qza qzd (Or.inl ⟨by rfl, ?_⟩) ?_ ?_
            rotate_left
            {
            intro w'
            go_simp
            with_reducible rfl
            }
            rotate_left
            {
            simp only [qzs]
            rfl
            }
            refine take_ (i := 13) (N := some 39) (v := ?_) (a' := ?_) (bqz 44 16383) rfl rfl qzb qzd (Or.inl ⟨by rfl, ?_⟩) hHeld ?_ ?_
            rotate_left
            {
            rintro w' ⟨s0, s1, s2, s3, s4, s5, s6, s7, s8, s9, s10, s11, s12⟩
            go_simp
            with_reducible rfl
            }
            rotate_left
            {
            simp only [qzs]
            rfl
            }
            refine pure_ (i := 14) (N := some 40) (v := ?_) (a' := ?_) (bqz 44 32767) rfl rfl qza qzd (Or.inl ⟨by rfl, ?_⟩) ?_ ?_
            rotate_left
            {
            intro w'
            go_simp
            with_reducible rfl
            }
            rotate_left
            {
            simp only [qzs]
            rfl
            }
            refine pure_ (i := 15) (N := some 41) (v := ?_) (a' := ?_) (bqz 44 65535) rfl rfl qza qzd (Or.inl ⟨by rfl, ?_⟩) ?_ ?_
            rotate_left
            {
            intro w'
            go_simp
            with_reducible rfl
            }
            rotate_left
            {
            simp only [qzs]
            rfl
            }
            refine pure_ (i := 16) (N := some 42) (v := undef) (a' := ?_) (bqz 44 131071) rfl rfl qza qzd (Or.inr ⟨by rfl, rfl⟩) ?_ ?_
            rotate_left
            {
            simp only [qzs]
            rfl
            }
            refine pure_ (i := 17) (N := some 43) (v := undef) (a' := ?_) (bqz 44 262143) rfl rfl qza qzd (Or.inr ⟨by rfl, rfl⟩) ?_ ?_
            rotate_left
            {
            simp only [qzs]
            rfl
            }
            refine pure_ (i := 18) (N := some 44) (v := undef) (a' := ?_) (bqz 44 524287) rfl rfl qza qzd (Or.inr ⟨by rfl, rfl⟩) ?_ ?_
            rotate_left
            {
            simp only [qzs]
            rfl
            }
            refine pure_ (i := 19) (N := some 45) (v := undef) (a' := ?_) (bqz 44 1048575) rfl rfl qza qzd (Or.inr ⟨by rfl, rfl⟩) ?_ ?_
            rotate_left
            {
            simp only [qzs]
            rfl
            }
            refine pure_ (i := 20) (N := some 46) (v := undef) (a' := ?_) (bqz 44 2097151) rfl rfl qza qzd (Or.inr ⟨by rfl, rfl⟩) ?_ ?_
            rotate_left
            {
            simp only [qzs]
            rfl
            }
            refine pure_ (i := 21) (N := some 47) (v := ?_) (a' := ?_) (bqz 44 4194303) rfl rfl qza qzd (Or.inl ⟨by rfl, ?_⟩) ?_ ?_
            rotate_left
            {
            intro w'
            go_simp
            with_reducible rfl
            }
            rotate_left
            {
            simp only [qzs]
            rfl
            }
            refine pure_ (i := 22) (N := some 48) (v := ?_) (a' := ?_) (bqz 44 8388607) rfl rfl qza qzd (Or.inl ⟨by rfl, ?_⟩) ?_ ?_
            rotate_left
            {
            intro w'
            go_simp
            with_reducible rfl
            }
            rotate_left
            {
            simp only [qzs]
            rfl
            }
            refine pure_ (i := 23) (N := some 49) (v := ?_) (a' := ?_) (bqz 44 16777215) rfl rfl qza qzd (Or.inl ⟨by rfl, ?_⟩) ?_ ?_
            rotate_left
            {
            intro w'
            go_simp
            with_reducible rfl
            }
            rotate_left
            {
            simp only [qzs]
            rfl
            }
            refine pure_ (i := 24) (N := some 50) (v := ?_) (a' := ?_) (bqz 44 33554431) rfl rfl qza qzd (Or.inl ⟨by rfl, ?_⟩) ?_ ?_
            rotate_left
            {
            intro w'
            go_simp
            with_reducible rfl
            }
            rotate_left
            {
            simp only [qzs]
            rfl
            }
            refine take_ (i := 25) (N := some 51) (v := ?_) (a' := ?_) (bqz 44 67108863) rfl rfl qzb qzd (Or.inl ⟨by rfl, ?_⟩) hHeld ?_ ?_
            rotate_left
            {
            rintro w' ⟨s0, s1, s2, s3, s4, s5, s6, s7, s8, s9, s10, s11, s12⟩
            go_simp
            with_reducible rfl
            }
            rotate_left
            {
            simp only [qzs]
            rfl
            }
            refine one_ (i := 26) (N := some 52) (bqz 44 134217727) rfl rfl qzc (by decide) (fun K hK => ?_)
            refine goes_ Try.func90 (by kernel_rfl) rfl #[.int .i64 ((rd_T34 l1 x5_2).f4), .int .i64 0, .int .i64 1000000] (by rfl) rfl rfl qz2 ?_
            with_reducible refine (spec_l1In.calls ((rd_T34 l1 x5_2).f4) 0 1000000 true _ A23.out).mono ?_
            rintro e w' ⟨rfl, ⟨nd, rfl⟩⟩
            refine ⟨_, rfl, ?_⟩
            refine hK.out _ _ ⟨(blk_cell BK161.out 0).trans rfl, (blk_cell BK161.out 1).trans rfl, (blk_cell BK161.out 2).trans rfl, (blk_cell BK161.out 3).trans rfl, (blk_cell BK161.out 4).trans rfl, (blk_cell BK158.out 0).trans rfl, (blk_cell BK158.out 1).trans rfl, (blk_cell BK158.out 2).trans rfl, ((HB.out.cell (World.block_lt_of_cell? w _ hw165_0)).trans hw165_0), ((HB.out.cell (World.block_lt_of_cell? w _ hw165_1)).trans hw165_1), ((HB.out.cell (World.block_lt_of_cell? w _ hw165_2)).trans hw165_2), ((HB.out.cell (World.block_lt_of_cell? w _ hw165_3)).trans hw165_3), ((HB.out.cell (World.block_lt_of_cell? w _ hw165_4)).trans hw165_4)⟩ (fun hHeld => ?_)
            clear hK K
            refine norm_ (a' := ?_) ?_ ?_
            rotate_left
            {
            show Act.put _ (some 52) _ = _
            simp only [qzs]
            rfl
            }
            refine pure_ (i := 27) (N := some 53) (v := ?_) (a' := ?_) (bqz 44 268435455) rfl rfl qza qzd (Or.inl ⟨by rfl, ?_⟩) ?_ ?_
            rotate_left
            {
            intro w'
            go_simp
            with_reducible rfl
            }
            rotate_left
            {
            simp only [qzs]
            rfl
            }
            refine pure_ (i := 28) (N := some 54) (v := ?_) (a' := ?_) (bqz 44 536870911) rfl rfl qza qzd (Or.inl ⟨by rfl, ?_⟩) ?_ ?_
            rotate_left
            {
            intro w'
            go_simp
            with_reducible rfl
            }
            rotate_left
            {
            simp only [qzs]
            rfl
            }
            refine pure_ (i := 29) (N := some 55) (v := ?_) (a' := ?_) (bqz 44 1073741823) rfl rfl qza qzd (Or.inl ⟨by rfl, ?_⟩) ?_ ?_
            rotate_left
            {
            intro w'
            go_simp
            with_reducible rfl
            }
            rotate_left
            {
            simp only [qzs]
            rfl
            }
            refine pure_ (i := 30) (N := some 56) (v := ?_) (a' := ?_) (bqz 44 2147483647) rfl rfl qza qzd (Or.inl ⟨by rfl, ?_⟩) ?_ ?_
            rotate_left
            {
            intro w'
            go_simp
            with_reducible rfl
            }
            rotate_left
            {
            simp only [qzs]
            rfl
            }
            refine pure_ (i := 31) (N := some 57) (v := ?_) (a' := ?_) (bqz 44 4294967295) rfl rfl qza qzd (Or.inl ⟨by rfl, ?_⟩) ?_ ?_
            rotate_left
            {
            intro w'
            go_simp
            with_reducible rfl
            }
            rotate_left
            {
            simp only [qzs]
            rfl
            }
            refine pure_ (i := 32) (N := some 58) (v := ?_) (a' := ?_) (bqz 44 8589934591) rfl rfl qza qzd (Or.inl ⟨by rfl, ?_⟩) ?_ ?_
            rotate_left
            {
            intro w'
            go_simp
            with_reducible rfl
            }
            rotate_left
            {
            simp only [qzs]
            rfl
            }
            refine pure_ (i := 33) (N := some 59) (v := ?_) (a' := ?_) (bqz 44 17179869183) rfl rfl qza qzd (Or.inl ⟨by rfl, ?_⟩) ?_ ?_
            rotate_left
            {
            intro w'
            go_simp
            with_reducible rfl
            }
            rotate_left
            {
            simp only [qzs]
            rfl
            }
            refine pure_ (i := 34) (N := some 60) (v := ?_) (a' := ?_) (bqz 44 34359738367) rfl rfl qza qzd (Or.inl ⟨by rfl, ?_⟩) ?_ ?_
            rotate_left
            {
            intro w'
            go_simp
            with_reducible rfl
            }
            rotate_left
            {
            simp only [qzs]
            rfl
            }
            refine pure_ (i := 35) (N := some 61) (v := ?_) (a' := ?_) (bqz 44 68719476735) rfl rfl qza qzd (Or.inl ⟨by rfl, ?_⟩) ?_ ?_
            rotate_left
            {
            intro w'
            go_simp
            with_reducible rfl
            }
            rotate_left
            {
            simp only [qzs]
            rfl
            }
            refine pure_ (i := 36) (N := some 62) (v := ?_) (a' := ?_) (bqz 44 137438953471) rfl rfl qza qzd (Or.inl ⟨by rfl, ?_⟩) ?_ ?_
            rotate_left
            {
            intro w'
            go_simp
            with_reducible rfl
            }
            rotate_left
            {
            simp only [qzs]
            rfl
            }
            refine pure_ (i := 37) (N := some 63) (v := ?_) (a' := ?_) (bqz 44 274877906943) rfl rfl qza qzd (Or.inl ⟨by rfl, ?_⟩) ?_ ?_
            rotate_left
            {
            intro w'
            go_simp
            with_reducible rfl
            }
            rotate_left
            {
            simp only [qzs]
            rfl
            }
            refine pure_ (i := 39) (N := some 65) (v := ?_) (a' := ?_) (bqz 44 824633720831) rfl rfl qza qzd (Or.inl ⟨by rfl, ?_⟩) ?_ ?_
            rotate_left
            {
            intro w'
            go_simp
            with_reducible rfl
            }
            rotate_left
            {
            simp only [qzs]
            rfl
            }
            refine take_ (i := 38) (N := some 64) (v := ?_) (a' := ?_) (bqz 44 1099511627775) rfl rfl qzb qzd (Or.inl ⟨by rfl, ?_⟩) hHeld ?_ ?_
            rotate_left
            {
            rintro w' ⟨s0, s1, s2, s3, s4, s5, s6, s7, s8, s9, s10, s11, s12⟩
            go_simp
            with_reducible rfl
            }
            rotate_left
            {
            simp only [qzs]
            rfl
            }
            refine take_ (i := 40) (N := some 66) (v := ?_) (a' := ?_) (bqz 44 2199023255551) rfl rfl qzb qzd (Or.inl ⟨by rfl, ?_⟩) hHeld ?_ ?_
            rotate_left
            {
            rintro w' ⟨s0, s1, s2, s3, s4, s5, s6, s7, s8, s9, s10, s11, s12⟩
            go_simp
            with_reducible rfl
            }
            rotate_left
            {
            simp only [qzs]
            rfl
            }
            refine pure_ (i := 41) (N := some 67) (v := ?_) (a' := ?_) (bqz 44 4398046511103) rfl rfl qza qzd (Or.inl ⟨by rfl, ?_⟩) ?_ ?_
            rotate_left
            {
            intro w'
            go_simp
            with_reducible rfl
            }
            rotate_left
            {
            simp only [qzs]
            rfl
            }
            refine pure_ (i := 42) (N := some 68) (v := ?_) (a' := ?_) (bqz 44 8796093022207) rfl rfl qza qzd (Or.inl ⟨by rfl, ?_⟩) ?_ ?_
            rotate_left
            {
            intro w'
            go_simp
            with_reducible rfl
            }
            rotate_left
            {
            simp only [qzs]
            rfl
            }
            refine pure_ (i := 43) (N := some 69) (v := ?_) (a' := ?_) (bqz 44 17592186044415) rfl rfl qza qzd (Or.inl ⟨by rfl, ?_⟩) ?_ ?_
            rotate_left
            {
            intro w'
            go_simp
            with_reducible rfl
            }
            rotate_left
            {
            simp only [qzs]
            rfl
            }
            refine done_ (done_of HT_.out (by kernel_rfl)) ?_
            try go_wp2
            go_meet
            case rel => exact ⟨_, (decide (((rd_T34 l1 (ji26)).f0) ≥ ((rd_T34 l1 x5_2).f0))), (by first | rfl | (simp; done) | (simp only [← hji26] <;> (first | rfl | simp)) | (simp [*]; done)), H', ⟨by have := HJ2.out; have := HK2.out; first | omega | exact Nat.le_refl _⟩, ⟨by (with_reducible repeat (first | refine blk_drewN ?_ _ | refine blk_drew ?_ | refine blk_alloc ?_ _)); exact BK158.out⟩, ⟨by (with_reducible repeat (first | refine blk_drewN ?_ _ | refine blk_drew ?_ | refine blk_alloc ?_ _)); exact BK161.out⟩, ⟨by repeat (first | (with_reducible first | exact HB.out | apply below_alloc | apply pw_below_drewN | apply below_drew1 | refine below_set ?_ GE158.out | refine below_set ?_ GE161.out) | exact HB.out)⟩⟩
            }
            {
            rw [if_neg c28] at H
            exact absurd H (by simp)
            }
            }
            {
            rw [if_neg c27] at H
            exact absurd H (by simp)
            }
            }
            {
            rw [if_neg c25] at H
            have c25b0 : decide (0 < x5_2) = false := decide_eq_false c25
            clear c25
            have H' := Aside0.mk H
            clear H
            try go_wp2
            generalize hq_ : (((((w15.setCell ⟨gb161, 0, none⟩ (.int .i64 ((rd_T34 l1 x5_2).f0))).setCell ⟨gb161, 1, none⟩ (.int .i64 ((rd_T34 l1 x5_2).f1))).setCell ⟨gb161, 2, none⟩ (.int .i64 ((rd_T34 l1 x5_2).f2))).setCell ⟨gb161, 3, none⟩ (.bool ((rd_T34 l1 x5_2).f3))).setCell ⟨gb161, 4, none⟩ (.int .i64 ((rd_T34 l1 x5_2).f4))) = w32
            have n0_ : Aside0 (w32.heap[gb158]? = some (.cells #[.int .i64 a0_0, .int .i64 a0_1, .slice A0_2 l0_2.length c0_2] 26 (0, 0))) := ⟨by rw [← hq_]; exact qz3⟩
            have n1_ : Aside0 (w32.heap[gb161]? = some (.cells #[.int .i64 ((rd_T34 l1 x5_2).f0), .int .i64 ((rd_T34 l1 x5_2).f1), .int .i64 ((rd_T34 l1 x5_2).f2), .bool ((rd_T34 l1 x5_2).f3), .int .i64 ((rd_T34 l1 x5_2).f4)] 34 (0, 0))) := ⟨by rw [← hq_]; exact (by (with_reducible repeat (first | refine blk_drewN ?_ _ | refine blk_drew ?_ | refine blk_alloc ?_ _)); refine blk_put (cs := #[.int .i64 ((rd_T34 l1 x5_2).f0), .int .i64 ((rd_T34 l1 x5_2).f1), .int .i64 ((rd_T34 l1 x5_2).f2), .bool ((rd_T34 l1 x5_2).f3), .int .i64 0]) ?_ 4 _ rfl; (with_reducible repeat (first | refine blk_drewN ?_ _ | refine blk_drew ?_ | refine blk_alloc ?_ _)); refine blk_put (cs := #[.int .i64 ((rd_T34 l1 x5_2).f0), .int .i64 ((rd_T34 l1 x5_2).f1), .int .i64 ((rd_T34 l1 x5_2).f2), .bool false, .int .i64 0]) ?_ 3 _ rfl; (with_reducible repeat (first | refine blk_drewN ?_ _ | refine blk_drew ?_ | refine blk_alloc ?_ _)); refine blk_put (cs := #[.int .i64 ((rd_T34 l1 x5_2).f0), .int .i64 ((rd_T34 l1 x5_2).f1), .int .i64 0, .bool false, .int .i64 0]) ?_ 2 _ rfl; (with_reducible repeat (first | refine blk_drewN ?_ _ | refine blk_drew ?_ | refine blk_alloc ?_ _)); refine blk_put (cs := #[.int .i64 ((rd_T34 l1 x5_2).f0), .int .i64 0, .int .i64 0, .bool false, .int .i64 0]) ?_ 1 _ rfl; (with_reducible repeat (first | refine blk_drewN ?_ _ | refine blk_drew ?_ | refine blk_alloc ?_ _)); refine blk_put (cs := #[.int .i64 0, .int .i64 0, .int .i64 0, .bool false, .int .i64 0]) ?_ 0 _ rfl; (with_reducible repeat (first | refine blk_drewN ?_ _ | refine blk_drew ?_ | refine blk_alloc ?_ _)); exact BK161.out)⟩
            have n2_ : Aside0 (Below w.heap.size w w32) := ⟨by rw [← hq_]; exact qz4⟩
            (try clear BK158)
            (try clear BK161)
            (try clear HB)
            clear hq_
            have BK158 := n0_
            have BK161 := n1_
            have HB := n2_
            clear n0_ n1_ n2_
            have n0_ := Aside0.mk (blk_drew BK158.out)
            have n1_ := Aside0.mk (blk_drew BK161.out)
            have n2_ := Aside0.mk (below_drew1 HB.out)
            clear BK158
            clear BK161
            clear HB
            have BK158 := n0_
            have BK161 := n1_
            have HB := n2_
            clear n0_ n1_ n2_
            refine start_ (n := 44) (S := fun w' => w'.cell? ⟨gb161, 0, none⟩ = some (.int .i64 ((rd_T34 l1 x5_2).f0)) ∧ w'.cell? ⟨gb161, 1, none⟩ = some (.int .i64 ((rd_T34 l1 x5_2).f1)) ∧ w'.cell? ⟨gb161, 2, none⟩ = some (.int .i64 ((rd_T34 l1 x5_2).f2)) ∧ w'.cell? ⟨gb161, 3, none⟩ = some (.bool ((rd_T34 l1 x5_2).f3)) ∧ w'.cell? ⟨gb161, 4, none⟩ = some (.int .i64 ((rd_T34 l1 x5_2).f4)) ∧ w'.cell? ⟨gb158, 0, none⟩ = some (.int .i64 a0_0) ∧ w'.cell? ⟨gb158, 1, none⟩ = some (.int .i64 a0_1) ∧ w'.cell? ⟨gb158, 2, none⟩ = some (.slice A0_2 l0_2.length c0_2)) (ds := []) #[false, false, false, false, false, false, false, false, false, false, false, false, false, false, false, false, false, false, false, false, false, false, false, false, false, false, false, false, false, false, false, false, false, false, false, false, false, false, false, false, false, false, false, false] (by kernel_rfl) rfl rfl ⟨(blk_cell BK161.out 0).trans rfl, (blk_cell BK161.out 1).trans rfl, (blk_cell BK161.out 2).trans rfl, (blk_cell BK161.out 3).trans rfl, (blk_cell BK161.out 4).trans rfl, (blk_cell BK158.out 0).trans rfl, (blk_cell BK158.out 1).trans rfl, (blk_cell BK158.out 2).trans rfl⟩ (fun hHeld => ?_); refine with_tabW spec_CrewOk.tab7 spec_CrewOk.bits7 (fun HT_ HW_ => ?_)
            generalize w32.drew = w33 at BK158 BK161 HB hHeld ⊢
            refine pure_ (i := 0) (N := some 26) (v := ?_) (a' := ?_) (bqz 44 1) rfl rfl qza qzd (Or.inl ⟨by rfl, ?_⟩) ?_ ?_
            rotate_left
            {
            intro w'
            go_simp
            with_reducible rfl
            }
            rotate_left
            {
            simp only [qzs]
            rfl
            }
            refine take_ (i := 1) (N := some 27) (v := ?_) (a' := ?_) (bqz 44 3) rfl rfl qzb qzd (Or.inl ⟨by rfl, ?_⟩) hHeld ?_ ?_
            rotate_left
            {
            rintro w' ⟨s0, s1, s2, s3, s4, s5, s6, s7⟩
            go_simp
            with_reducible rfl
            }
            rotate_left
            {
            simp only [qzs]
            rfl
            }
            refine one_ (i := 2) (N := some 28) (bqz 44 7) rfl rfl qzc (by decide) (fun K hK => ?_)
            refine goes_ Try.func90 (by kernel_rfl) rfl #[.int .i64 ((rd_T34 l1 x5_2).f0), .int .i64 1, .int .i64 99] (by rfl) rfl rfl qz2 ?_
            with_reducible refine (spec_l1In.calls ((rd_T34 l1 x5_2).f0) 1 99 true _ A18.out).mono ?_
            rintro e w' ⟨rfl, ⟨nd, rfl⟩⟩
            refine ⟨_, rfl, ?_⟩
            refine hK.out _ _ ⟨(blk_cell BK161.out 0).trans rfl, (blk_cell BK161.out 1).trans rfl, (blk_cell BK161.out 2).trans rfl, (blk_cell BK161.out 3).trans rfl, (blk_cell BK161.out 4).trans rfl, (blk_cell BK158.out 0).trans rfl, (blk_cell BK158.out 1).trans rfl, (blk_cell BK158.out 2).trans rfl⟩ (fun hHeld => ?_)
            clear hK K
            refine norm_ (a' := ?_) ?_ ?_
            rotate_left
            {
            show Act.put _ (some 28) _ = _
            simp only [qzs]
            rfl
            }
            refine pure_ (i := 3) (N := some 29) (v := ?_) (a' := ?_) (bqz 44 15) rfl rfl qza qzd (Or.inl ⟨by rfl, ?_⟩) ?_ ?_
            rotate_left
            {
            intro w'
            go_simp
            with_reducible rfl
            }
            rotate_left
            {
            simp only [qzs]
            rfl
            }
            refine pure_ (i := 4) (N := some 30) (v := ?_) (a' := ?_) (bqz 44 31) rfl rfl qza qzd (Or.inl ⟨by rfl, ?_⟩) ?_ ?_
            rotate_left
            {
            intro w'
            go_simp
            with_reducible rfl
            }
            rotate_left
            {
            simp only [qzs]
            rfl
            }
            refine pure_ (i := 6) (N := some 32) (v := ?_) (a' := ?_) (bqz 44 95) rfl rfl qza qzd (Or.inl ⟨by rfl, ?_⟩) ?_ ?_
            rotate_left
            {
            intro w'
            go_simp
            with_reducible rfl
            }
            rotate_left
            {
            simp only [qzs]
            rfl
            }
            refine take_ (i := 5) (N := some 31) (v := ?_) (a' := ?_) (bqz 44 127) rfl rfl qzb qzd (Or.inl ⟨by rfl, ?_⟩) hHeld ?_ ?_
            rotate_left
            {
            rintro w' ⟨s0, s1, s2, s3, s4, s5, s6, s7⟩
            go_simp
            with_reducible rfl
            }
            rotate_left
            {
            simp only [qzs]
            rfl
            }
            refine take_ (i := 7) (N := some 33) (v := ?_) (a' := ?_) (bqz 44 255) rfl rfl qzb qzd (Or.inl ⟨by rfl, ?_⟩) hHeld ?_ ?_
            rotate_left
            {
            rintro w' ⟨s0, s1, s2, s3, s4, s5, s6, s7⟩
            go_simp
            with_reducible rfl
            }
            rotate_left
            {
            simp only [qzs]
            rfl
            }
            refine one_ (i := 8) (N := some 34) (bqz 44 511) rfl rfl qzc (by decide) (fun K hK => ?_)
            refine goes_ Try.func107 (by kernel_rfl) rfl #[.agg #[.int .i64 a0_0, .int .i64 a0_1, .slice A0_2 l0_2.length c0_2], .int .i64 ((rd_T34 l1 x5_2).f1)] (by rfl) rfl rfl qz2 ?_
            with_reducible refine (spec_l7Free.calls a0_0 a0_1 _ _ l0_2 ((rd_T34 l1 x5_2).f1) true _ ?side1 ?side2 A20.out).mono ?_
            (case side1 => repeat (first | exact (Kd.C_below HR0_2.out qz4) | (with_reducible refine Kd.C_alloc ?_ _) | (with_reducible refine Kd.C_drewN ?_ _) | (with_reducible refine Kd.C_drew ?_)))
            (case side2 => exact HC0_2.out)
            rintro e w34 ⟨rfl, hb⟩
            refine ⟨_, rfl, ?_⟩
            have n0_ := Aside0.mk (blk_below (g := gb158) (o := .cells #[.int .i64 a0_0, .int .i64 a0_1, .slice A0_2 l0_2.length c0_2] 26 (0, 0)) qz11 hb)
            have n1_ := Aside0.mk (blk_below (g := gb161) (o := .cells #[.int .i64 ((rd_T34 l1 x5_2).f0), .int .i64 ((rd_T34 l1 x5_2).f1), .int .i64 ((rd_T34 l1 x5_2).f2), .bool ((rd_T34 l1 x5_2).f3), .int .i64 ((rd_T34 l1 x5_2).f4)] 34 (0, 0)) (by (with_reducible repeat (first | refine blk_drewN ?_ _ | refine blk_drew ?_ | refine blk_alloc ?_ _)); exact BK161.out) hb)
            have n2_ := Aside0.mk (below_step qz4 hb)
            clear BK158
            clear BK161
            clear HB
            have BK158 := n0_
            have BK161 := n1_
            have HB := n2_
            clear n0_ n1_ n2_
            (try clear hb)
            (try clear hb2)
            (try clear hk)
            (try clear hi)
            refine hK.out _ _ ⟨(blk_cell BK161.out 0).trans rfl, (blk_cell BK161.out 1).trans rfl, (blk_cell BK161.out 2).trans rfl, (blk_cell BK161.out 3).trans rfl, (blk_cell BK161.out 4).trans rfl, (blk_cell BK158.out 0).trans rfl, (blk_cell BK158.out 1).trans rfl, (blk_cell BK158.out 2).trans rfl⟩ (fun hHeld => ?_)
            clear hK K
            refine norm_ (a' := ?_) ?_ ?_
            rotate_left
            {
            show Act.put _ (some 34) _ = _
            simp only [qzs]
            rfl
            }
            refine pure_ (i := 9) (N := some 35) (v := ?_) (a' := ?_) (bqz 44 1023) rfl rfl qza qzd (Or.inl ⟨by rfl, ?_⟩) ?_ ?_
            rotate_left
            {
            intro w'
            go_simp
            with_reducible rfl
            }
            rotate_left
            {
            simp only [qzs]
            rfl
            }
            refine pure_ (i := 10) (N := some 36) (v := ?_) (a' := ?_) (bqz 44 2047) rfl rfl qza qzd (Or.inl ⟨by rfl, ?_⟩) ?_ ?_
            rotate_left
            {
            intro w'
            go_simp
            with_reducible rfl
            }
            rotate_left
            {
            simp only [qzs]
            rfl
            }
            refine pure_ (i := 11) (N := some 37) (v := ?_) (a' := ?_) (bqz 44 4095) rfl rfl qza qzd (Or.inl ⟨by rfl, ?_⟩) ?_ ?_
            rotate_left
            {
            intro w'
            go_simp
            with_reducible rfl
            }
            rotate_left
            {
            simp only [qzs]
            rfl
            }
            refine pure_ (i := 12) (N := some 38) (v := ?_) (a' := ?_) (bqz 44 8191) rfl rfl qza qzd (Or.inl ⟨by rfl, ?_⟩) ?_ ?_
            rotate_left
            {
            intro w'
            go_simp
            with_reducible rfl
            }
            rotate_left
            {
            simp only [qzs]
            rfl
            }
            refine take_ (i := 13) (N := some 39) (v := ?_) (a' := ?_) (bqz 44 16383) rfl rfl qzb qzd (Or.inl ⟨by rfl, ?_⟩) hHeld ?_ ?_
            rotate_left
            {
            rintro w' ⟨s0, s1, s2, s3, s4, s5, s6, s7⟩
            go_simp
            with_reducible rfl
            }
            rotate_left
            {
            simp only [qzs]
            rfl
            }
            refine pure_ (i := 14) (N := some 40) (v := ?_) (a' := ?_) (bqz 44 32767) rfl rfl qza qzd (Or.inl ⟨by rfl, ?_⟩) ?_ ?_
            rotate_left
            {
            intro w'
            go_simp
            with_reducible rfl
            }
            rotate_left
            {
            simp only [qzs]
            rfl
            }
            refine pure_ (i := 15) (N := some 41) (v := ?_) (a' := ?_) (bqz 44 65535) rfl rfl qza qzd (Or.inl ⟨by rfl, ?_⟩) ?_ ?_
            rotate_left
            {
            intro w'
            go_simp
            with_reducible rfl
            }
            rotate_left
            {
            simp only [qzs]
            rfl
            }
            refine pure_ (i := 16) (N := some 42) (v := undef) (a' := ?_) (bqz 44 131071) rfl rfl qza qzd (Or.inr ⟨by rfl, rfl⟩) ?_ ?_
            rotate_left
            {
            simp only [qzs]
            rfl
            }
            refine pure_ (i := 17) (N := some 43) (v := undef) (a' := ?_) (bqz 44 262143) rfl rfl qza qzd (Or.inr ⟨by rfl, rfl⟩) ?_ ?_
            rotate_left
            {
            simp only [qzs]
            rfl
            }
            refine pure_ (i := 18) (N := some 44) (v := undef) (a' := ?_) (bqz 44 524287) rfl rfl qza qzd (Or.inr ⟨by rfl, rfl⟩) ?_ ?_
            rotate_left
            {
            simp only [qzs]
            rfl
            }
            refine pure_ (i := 19) (N := some 45) (v := undef) (a' := ?_) (bqz 44 1048575) rfl rfl qza qzd (Or.inr ⟨by rfl, rfl⟩) ?_ ?_
            rotate_left
            {
            simp only [qzs]
            rfl
            }
            refine pure_ (i := 20) (N := some 46) (v := undef) (a' := ?_) (bqz 44 2097151) rfl rfl qza qzd (Or.inr ⟨by rfl, rfl⟩) ?_ ?_
            rotate_left
            {
            simp only [qzs]
            rfl
            }
            refine pure_ (i := 21) (N := some 47) (v := ?_) (a' := ?_) (bqz 44 4194303) rfl rfl qza qzd (Or.inl ⟨by rfl, ?_⟩) ?_ ?_
            rotate_left
            {
            intro w'
            go_simp
            with_reducible rfl
            }
            rotate_left
            {
            simp only [qzs]
            rfl
            }
            refine pure_ (i := 22) (N := some 48) (v := ?_) (a' := ?_) (bqz 44 8388607) rfl rfl qza qzd (Or.inl ⟨by rfl, ?_⟩) ?_ ?_
            rotate_left
            {
            intro w'
            go_simp
            with_reducible rfl
            }
            rotate_left
            {
            simp only [qzs]
            rfl
            }
            refine pure_ (i := 23) (N := some 49) (v := ?_) (a' := ?_) (bqz 44 16777215) rfl rfl qza qzd (Or.inl ⟨by rfl, ?_⟩) ?_ ?_
            rotate_left
            {
            intro w'
            go_simp
            with_reducible rfl
            }
            rotate_left
            {
            simp only [qzs]
            rfl
            }
            refine pure_ (i := 24) (N := some 50) (v := ?_) (a' := ?_) (bqz 44 33554431) rfl rfl qza qzd (Or.inl ⟨by rfl, ?_⟩) ?_ ?_
            rotate_left
            {
            intro w'
            go_simp
            with_reducible rfl
            }
            rotate_left
            {
            simp only [qzs]
            rfl
            }
            refine take_ (i := 25) (N := some 51) (v := ?_) (a' := ?_) (bqz 44 67108863) rfl rfl qzb qzd (Or.inl ⟨by rfl, ?_⟩) hHeld ?_ ?_
            rotate_left
            {
            rintro w' ⟨s0, s1, s2, s3, s4, s5, s6, s7⟩
            go_simp
            with_reducible rfl
            }
            rotate_left
            {
            simp only [qzs]
            rfl
            }
            refine one_ (i := 26) (N := some 52) (bqz 44 134217727) rfl rfl qzc (by decide) (fun K hK => ?_)
            refine goes_ Try.func90 (by kernel_rfl) rfl #[.int .i64 ((rd_T34 l1 x5_2).f4), .int .i64 0, .int .i64 1000000] (by rfl) rfl rfl qz2 ?_
            with_reducible refine (spec_l1In.calls ((rd_T34 l1 x5_2).f4) 0 1000000 true _ A23.out).mono ?_
            rintro e w' ⟨rfl, ⟨nd, rfl⟩⟩
            refine ⟨_, rfl, ?_⟩
            refine hK.out _ _ ⟨(blk_cell BK161.out 0).trans rfl, (blk_cell BK161.out 1).trans rfl, (blk_cell BK161.out 2).trans rfl, (blk_cell BK161.out 3).trans rfl, (blk_cell BK161.out 4).trans rfl, (blk_cell BK158.out 0).trans rfl, (blk_cell BK158.out 1).trans rfl, (blk_cell BK158.out 2).trans rfl⟩ (fun hHeld => ?_)
            clear hK K
            refine norm_ (a' := ?_) ?_ ?_
            rotate_left
            {
            show Act.put _ (some 52) _ = _
            simp only [qzs]
            rfl
            }
            refine pure_ (i := 27) (N := some 53) (v := ?_) (a' := ?_) (bqz 44 268435455) rfl rfl qza qzd (Or.inl ⟨by rfl, ?_⟩) ?_ ?_
            rotate_left
            {
            intro w'
            go_simp
            with_reducible rfl
            }
            rotate_left
            {
            simp only [qzs]
            rfl
            }
            refine pure_ (i := 28) (N := some 54) (v := ?_) (a' := ?_) (bqz 44 536870911) rfl rfl qza qzd (Or.inl ⟨by rfl, ?_⟩) ?_ ?_
            rotate_left
            {
            intro w'
            go_simp
            with_reducible rfl
            }
            rotate_left
            {
            simp only [qzs]
            rfl
            }
            refine pure_ (i := 29) (N := some 55) (v := ?_) (a' := ?_) (bqz 44 1073741823) rfl rfl qza qzd (Or.inl ⟨by rfl, ?_⟩) ?_ ?_
            rotate_left
            {
            intro w'
            go_simp
            with_reducible rfl
            }
            rotate_left
            {
            simp only [qzs]
            rfl
            }
            refine pure_ (i := 30) (N := some 56) (v := ?_) (a' := ?_) (bqz 44 2147483647) rfl rfl qza qzd (Or.inl ⟨by rfl, ?_⟩) ?_ ?_
            rotate_left
            {
            intro w'
            go_simp
            with_reducible rfl
            }
            rotate_left
            {
            simp only [qzs]
            rfl
            }
            refine pure_ (i := 31) (N := some 57) (v := ?_) (a' := ?_) (bqz 44 4294967295) rfl rfl qza qzd (Or.inl ⟨by rfl, ?_⟩) ?_ ?_
            rotate_left
            {
            intro w'
            go_simp
            with_reducible rfl
            }
            rotate_left
            {
            simp only [qzs]
            rfl
            }
            refine pure_ (i := 32) (N := some 58) (v := ?_) (a' := ?_) (bqz 44 8589934591) rfl rfl qza qzd (Or.inl ⟨by rfl, ?_⟩) ?_ ?_
            rotate_left
            {
            intro w'
            go_simp
            with_reducible rfl
            }
            rotate_left
            {
            simp only [qzs]
            rfl
            }
            refine pure_ (i := 33) (N := some 59) (v := undef) (a' := ?_) (bqz 44 17179869183) rfl rfl qza qzd (Or.inr ⟨by rfl, rfl⟩) ?_ ?_
            rotate_left
            {
            simp only [qzs]
            rfl
            }
            refine pure_ (i := 34) (N := some 60) (v := undef) (a' := ?_) (bqz 44 34359738367) rfl rfl qza qzd (Or.inr ⟨by rfl, rfl⟩) ?_ ?_
            rotate_left
            {
            simp only [qzs]
            rfl
            }
            refine pure_ (i := 35) (N := some 61) (v := undef) (a' := ?_) (bqz 44 68719476735) rfl rfl qza qzd (Or.inr ⟨by rfl, rfl⟩) ?_ ?_
            rotate_left
            {
            simp only [qzs]
            rfl
            }
            refine pure_ (i := 36) (N := some 62) (v := undef) (a' := ?_) (bqz 44 137438953471) rfl rfl qza qzd (Or.inr ⟨by rfl, rfl⟩) ?_ ?_
            rotate_left
            {
            simp only [qzs]
            rfl
            }
            refine pure_ (i := 37) (N := some 63) (v := undef) (a' := ?_) (bqz 44 274877906943) rfl rfl qza qzd (Or.inr ⟨by rfl, rfl⟩) ?_ ?_
            rotate_left
            {
            simp only [qzs]
            rfl
            }
            refine pure_ (i := 38) (N := some 64) (v := undef) (a' := ?_) (bqz 44 549755813887) rfl rfl qza qzd (Or.inr ⟨by rfl, rfl⟩) ?_ ?_
            rotate_left
            {
            simp only [qzs]
            rfl
            }
            refine pure_ (i := 39) (N := some 65) (v := undef) (a' := ?_) (bqz 44 1099511627775) rfl rfl qza qzd (Or.inr ⟨by rfl, rfl⟩) ?_ ?_
            rotate_left
            {
            simp only [qzs]
            rfl
            }
            refine pure_ (i := 40) (N := some 66) (v := undef) (a' := ?_) (bqz 44 2199023255551) rfl rfl qza qzd (Or.inr ⟨by rfl, rfl⟩) ?_ ?_
            rotate_left
            {
            simp only [qzs]
            rfl
            }
            refine pure_ (i := 41) (N := some 67) (v := undef) (a' := ?_) (bqz 44 4398046511103) rfl rfl qza qzd (Or.inr ⟨by rfl, rfl⟩) ?_ ?_
            rotate_left
            {
            simp only [qzs]
            rfl
            }
            refine pure_ (i := 42) (N := some 68) (v := ?_) (a' := ?_) (bqz 44 8796093022207) rfl rfl qza qzd (Or.inl ⟨by rfl, ?_⟩) ?_ ?_
            rotate_left
            {
            intro w'
            go_simp
            with_reducible rfl
            }
            rotate_left
            {
            simp only [qzs]
            rfl
            }
            refine pure_ (i := 43) (N := some 69) (v := ?_) (a' := ?_) (bqz 44 17592186044415) rfl rfl qza qzd (Or.inl ⟨by rfl, ?_⟩) ?_ ?_
            rotate_left
            {
            intro w'
            go_simp
            with_reducible rfl
            }
            rotate_left
            {
            simp only [qzs]
            rfl
            }
            refine done_ (done_of HT_.out (by kernel_rfl)) ?_
            try go_wp2
            go_meet
            case rel => exact ⟨_, (false), qz14, H', ⟨by have := HJ2.out; have := HK2.out; first | omega | exact Nat.le_refl _⟩, ⟨by (with_reducible repeat (first | refine blk_drewN ?_ _ | refine blk_drew ?_ | refine blk_alloc ?_ _)); exact BK158.out⟩, ⟨by (with_reducible repeat (first | refine blk_drewN ?_ _ | refine blk_drew ?_ | refine blk_alloc ?_ _)); exact BK161.out⟩, ⟨by repeat (first | (with_reducible first | exact HB.out | apply below_alloc | apply pw_below_drewN | apply below_drew1 | refine below_set ?_ GE158.out | refine below_set ?_ GE161.out) | exact HB.out)⟩⟩
            }
            }
            {
            replace c24 := Bool.eq_false_iff.mpr c24
            subst c24
            have H1 : (spec_CrewOk.j2 k2 l1 x5_2 true a0_0 a0_1 l0_2 ((rd_T34 l1 x5_2).f0) ((rd_T34 l1 x5_2).f1) ((rd_T34 l1 x5_2).f2) ((rd_T34 l1 x5_2).f3) ((rd_T34 l1 x5_2).f4)) = some r := by rw [if_neg (show ¬ (false = true) by decide)] at H; exact H
            clear H
            have H := H1
            clear H1
            have H' := Aside0.mk H
            clear H
            try go_wp2
            generalize hq_ : (((((w15.setCell ⟨gb161, 0, none⟩ (.int .i64 ((rd_T34 l1 x5_2).f0))).setCell ⟨gb161, 1, none⟩ (.int .i64 ((rd_T34 l1 x5_2).f1))).setCell ⟨gb161, 2, none⟩ (.int .i64 ((rd_T34 l1 x5_2).f2))).setCell ⟨gb161, 3, none⟩ (.bool ((rd_T34 l1 x5_2).f3))).setCell ⟨gb161, 4, none⟩ (.int .i64 ((rd_T34 l1 x5_2).f4))) = w35
            have n0_ : Aside0 (w35.heap[gb158]? = some (.cells #[.int .i64 a0_0, .int .i64 a0_1, .slice A0_2 l0_2.length c0_2] 26 (0, 0))) := ⟨by rw [← hq_]; exact qz3⟩
            have n1_ : Aside0 (w35.heap[gb161]? = some (.cells #[.int .i64 ((rd_T34 l1 x5_2).f0), .int .i64 ((rd_T34 l1 x5_2).f1), .int .i64 ((rd_T34 l1 x5_2).f2), .bool ((rd_T34 l1 x5_2).f3), .int .i64 ((rd_T34 l1 x5_2).f4)] 34 (0, 0))) := ⟨by rw [← hq_]; exact (by (with_reducible repeat (first | refine blk_drewN ?_ _ | refine blk_drew ?_ | refine blk_alloc ?_ _)); refine blk_put (cs := #[.int .i64 ((rd_T34 l1 x5_2).f0), .int .i64 ((rd_T34 l1 x5_2).f1), .int .i64 ((rd_T34 l1 x5_2).f2), .bool ((rd_T34 l1 x5_2).f3), .int .i64 0]) ?_ 4 _ rfl; (with_reducible repeat (first | refine blk_drewN ?_ _ | refine blk_drew ?_ | refine blk_alloc ?_ _)); refine blk_put (cs := #[.int .i64 ((rd_T34 l1 x5_2).f0), .int .i64 ((rd_T34 l1 x5_2).f1), .int .i64 ((rd_T34 l1 x5_2).f2), .bool false, .int .i64 0]) ?_ 3 _ rfl; (with_reducible repeat (first | refine blk_drewN ?_ _ | refine blk_drew ?_ | refine blk_alloc ?_ _)); refine blk_put (cs := #[.int .i64 ((rd_T34 l1 x5_2).f0), .int .i64 ((rd_T34 l1 x5_2).f1), .int .i64 0, .bool false, .int .i64 0]) ?_ 2 _ rfl; (with_reducible repeat (first | refine blk_drewN ?_ _ | refine blk_drew ?_ | refine blk_alloc ?_ _)); refine blk_put (cs := #[.int .i64 ((rd_T34 l1 x5_2).f0), .int .i64 0, .int .i64 0, .bool false, .int .i64 0]) ?_ 1 _ rfl; (with_reducible repeat (first | refine blk_drewN ?_ _ | refine blk_drew ?_ | refine blk_alloc ?_ _)); refine blk_put (cs := #[.int .i64 0, .int .i64 0, .int .i64 0, .bool false, .int .i64 0]) ?_ 0 _ rfl; (with_reducible repeat (first | refine blk_drewN ?_ _ | refine blk_drew ?_ | refine blk_alloc ?_ _)); exact BK161.out)⟩
            have n2_ : Aside0 (Below w.heap.size w w35) := ⟨by rw [← hq_]; exact qz4⟩
            (try clear BK158)
            (try clear BK161)
            (try clear HB)
            clear hq_
            have BK158 := n0_
            have BK161 := n1_
            have HB := n2_
            clear n0_ n1_ n2_
            have n0_ := Aside0.mk (blk_drew BK158.out)
            have n1_ := Aside0.mk (blk_drew BK161.out)
            have n2_ := Aside0.mk (below_drew1 HB.out)
            clear BK158
            clear BK161
            clear HB
            have BK158 := n0_
            have BK161 := n1_
            have HB := n2_
            clear n0_ n1_ n2_
            refine start_ (n := 44) (S := fun w' => w'.cell? ⟨gb161, 0, none⟩ = some (.int .i64 ((rd_T34 l1 x5_2).f0)) ∧ w'.cell? ⟨gb161, 1, none⟩ = some (.int .i64 ((rd_T34 l1 x5_2).f1)) ∧ w'.cell? ⟨gb161, 2, none⟩ = some (.int .i64 ((rd_T34 l1 x5_2).f2)) ∧ w'.cell? ⟨gb161, 3, none⟩ = some (.bool ((rd_T34 l1 x5_2).f3)) ∧ w'.cell? ⟨gb161, 4, none⟩ = some (.int .i64 ((rd_T34 l1 x5_2).f4)) ∧ w'.cell? ⟨gb158, 0, none⟩ = some (.int .i64 a0_0) ∧ w'.cell? ⟨gb158, 1, none⟩ = some (.int .i64 a0_1) ∧ w'.cell? ⟨gb158, 2, none⟩ = some (.slice A0_2 l0_2.length c0_2)) (ds := []) #[false, false, false, false, false, false, false, false, false, false, false, false, false, false, false, false, false, false, false, false, false, false, false, false, false, false, false, false, false, false, false, false, false, false, false, false, false, false, false, false, false, false, false, false] (by kernel_rfl) rfl rfl ⟨(blk_cell BK161.out 0).trans rfl, (blk_cell BK161.out 1).trans rfl, (blk_cell BK161.out 2).trans rfl, (blk_cell BK161.out 3).trans rfl, (blk_cell BK161.out 4).trans rfl, (blk_cell BK158.out 0).trans rfl, (blk_cell BK158.out 1).trans rfl, (blk_cell BK158.out 2).trans rfl⟩ (fun hHeld => ?_); refine with_tabW spec_CrewOk.tab7 spec_CrewOk.bits7 (fun HT_ HW_ => ?_)
            generalize w35.drew = w36 at BK158 BK161 HB hHeld ⊢
            refine pure_ (i := 0) (N := some 26) (v := ?_) (a' := ?_) (bqz 44 1) rfl rfl qza qzd (Or.inl ⟨by rfl, ?_⟩) ?_ ?_
            rotate_left
            {
            intro w'
            go_simp
            with_reducible rfl
            }
            rotate_left
            {
            simp only [qzs]
            rfl
            }
            refine take_ (i := 1) (N := some 27) (v := ?_) (a' := ?_) (bqz 44 3) rfl rfl qzb qzd (Or.inl ⟨by rfl, ?_⟩) hHeld ?_ ?_
            rotate_left
            {
            rintro w' ⟨s0, s1, s2, s3, s4, s5, s6, s7⟩
            go_simp
            with_reducible rfl
            }
            rotate_left
            {
            simp only [qzs]
            rfl
            }
            refine one_ (i := 2) (N := some 28) (bqz 44 7) rfl rfl qzc (by decide) (fun K hK => ?_)
            refine goes_ Try.func90 (by kernel_rfl) rfl #[.int .i64 ((rd_T34 l1 x5_2).f0), .int .i64 1, .int .i64 99] (by rfl) rfl rfl qz2 ?_
            with_reducible refine (spec_l1In.calls ((rd_T34 l1 x5_2).f0) 1 99 true _ A18.out).mono ?_
            rintro e w' ⟨rfl, ⟨nd, rfl⟩⟩
            refine ⟨_, rfl, ?_⟩
            refine hK.out _ _ ⟨(blk_cell BK161.out 0).trans rfl, (blk_cell BK161.out 1).trans rfl, (blk_cell BK161.out 2).trans rfl, (blk_cell BK161.out 3).trans rfl, (blk_cell BK161.out 4).trans rfl, (blk_cell BK158.out 0).trans rfl, (blk_cell BK158.out 1).trans rfl, (blk_cell BK158.out 2).trans rfl⟩ (fun hHeld => ?_)
            clear hK K
            refine norm_ (a' := ?_) ?_ ?_
            rotate_left
            {
            show Act.put _ (some 28) _ = _
            simp only [qzs]
            rfl
            }
            refine pure_ (i := 3) (N := some 29) (v := ?_) (a' := ?_) (bqz 44 15) rfl rfl qza qzd (Or.inl ⟨by rfl, ?_⟩) ?_ ?_
            rotate_left
            {
            intro w'
            go_simp
            with_reducible rfl
            }
            rotate_left
            {
            simp only [qzs]
            rfl
            }
            refine pure_ (i := 4) (N := some 30) (v := ?_) (a' := ?_) (bqz 44 31) rfl rfl qza qzd (Or.inl ⟨by rfl, ?_⟩) ?_ ?_
            rotate_left
            {
            intro w'
            go_simp
            with_reducible rfl
            }
            rotate_left
            {
            simp only [qzs]
            rfl
            }
            refine pure_ (i := 6) (N := some 32) (v := ?_) (a' := ?_) (bqz 44 95) rfl rfl qza qzd (Or.inl ⟨by rfl, ?_⟩) ?_ ?_
            rotate_left
            {
            intro w'
            go_simp
            with_reducible rfl
            }
            rotate_left
            {
            simp only [qzs]
            rfl
            }
            refine take_ (i := 5) (N := some 31) (v := ?_) (a' := ?_) (bqz 44 127) rfl rfl qzb qzd (Or.inl ⟨by rfl, ?_⟩) hHeld ?_ ?_
            rotate_left
            {
            rintro w' ⟨s0, s1, s2, s3, s4, s5, s6, s7⟩
            go_simp
            with_reducible rfl
            }
            rotate_left
            {
            simp only [qzs]
            rfl
            }
            refine take_ (i := 7) (N := some 33) (v := ?_) (a' := ?_) (bqz 44 255) rfl rfl qzb qzd (Or.inl ⟨by rfl, ?_⟩) hHeld ?_ ?_
            rotate_left
            {
            rintro w' ⟨s0, s1, s2, s3, s4, s5, s6, s7⟩
            go_simp
            with_reducible rfl
            }
            rotate_left
            {
            simp only [qzs]
            rfl
            }
            refine one_ (i := 8) (N := some 34) (bqz 44 511) rfl rfl qzc (by decide) (fun K hK => ?_)
            refine goes_ Try.func107 (by kernel_rfl) rfl #[.agg #[.int .i64 a0_0, .int .i64 a0_1, .slice A0_2 l0_2.length c0_2], .int .i64 ((rd_T34 l1 x5_2).f1)] (by rfl) rfl rfl qz2 ?_
            with_reducible refine (spec_l7Free.calls a0_0 a0_1 _ _ l0_2 ((rd_T34 l1 x5_2).f1) true _ ?side1 ?side2 A20.out).mono ?_
            (case side1 => repeat (first | exact (Kd.C_below HR0_2.out qz4) | (with_reducible refine Kd.C_alloc ?_ _) | (with_reducible refine Kd.C_drewN ?_ _) | (with_reducible refine Kd.C_drew ?_)))
            (case side2 => exact HC0_2.out)
            rintro e w37 ⟨rfl, hb⟩
            refine ⟨_, rfl, ?_⟩
            have n0_ := Aside0.mk (blk_below (g := gb158) (o := .cells #[.int .i64 a0_0, .int .i64 a0_1, .slice A0_2 l0_2.length c0_2] 26 (0, 0)) qz11 hb)
            have n1_ := Aside0.mk (blk_below (g := gb161) (o := .cells #[.int .i64 ((rd_T34 l1 x5_2).f0), .int .i64 ((rd_T34 l1 x5_2).f1), .int .i64 ((rd_T34 l1 x5_2).f2), .bool ((rd_T34 l1 x5_2).f3), .int .i64 ((rd_T34 l1 x5_2).f4)] 34 (0, 0)) (by (with_reducible repeat (first | refine blk_drewN ?_ _ | refine blk_drew ?_ | refine blk_alloc ?_ _)); exact BK161.out) hb)
            have n2_ := Aside0.mk (below_step qz4 hb)
            clear BK158
            clear BK161
            clear HB
            have BK158 := n0_
            have BK161 := n1_
            have HB := n2_
            clear n0_ n1_ n2_
            (try clear hb)
            (try clear hb2)
            (try clear hk)
            (try clear hi)
            refine hK.out _ _ ⟨(blk_cell BK161.out 0).trans rfl, (blk_cell BK161.out 1).trans rfl, (blk_cell BK161.out 2).trans rfl, (blk_cell BK161.out 3).trans rfl, (blk_cell BK161.out 4).trans rfl, (blk_cell BK158.out 0).trans rfl, (blk_cell BK158.out 1).trans rfl, (blk_cell BK158.out 2).trans rfl⟩ (fun hHeld => ?_)
            clear hK K
            refine norm_ (a' := ?_) ?_ ?_
            rotate_left
            {
            show Act.put _ (some 34) _ = _
            simp only [qzs]
            rfl
            }
            refine pure_ (i := 9) (N := some 35) (v := ?_) (a' := ?_) (bqz 44 1023) rfl rfl qza qzd (Or.inl ⟨by rfl, ?_⟩) ?_ ?_
            rotate_left
            {
            intro w'
            go_simp
            with_reducible rfl
            }
            rotate_left
            {
            simp only [qzs]
            rfl
            }
            refine pure_ (i := 10) (N := some 36) (v := ?_) (a' := ?_) (bqz 44 2047) rfl rfl qza qzd (Or.inl ⟨by rfl, ?_⟩) ?_ ?_
            rotate_left
            {
            intro w'
            go_simp
            with_reducible rfl
            }
            rotate_left
            {
            simp only [qzs]
            rfl
            }
            refine pure_ (i := 11) (N := some 37) (v := ?_) (a' := ?_) (bqz 44 4095) rfl rfl qza qzd (Or.inl ⟨by rfl, ?_⟩) ?_ ?_
            rotate_left
            {
            intro w'
            go_simp
            with_reducible rfl
            }
            rotate_left
            {
            simp only [qzs]
            rfl
            }
            refine pure_ (i := 12) (N := some 38) (v := ?_) (a' := ?_) (bqz 44 8191) rfl rfl qza qzd (Or.inl ⟨by rfl, ?_⟩) ?_ ?_
            rotate_left
            {
            intro w'
            go_simp
            with_reducible rfl
            }
            rotate_left
            {
            simp only [qzs]
            rfl
            }
            refine take_ (i := 13) (N := some 39) (v := ?_) (a' := ?_) (bqz 44 16383) rfl rfl qzb qzd (Or.inl ⟨by rfl, ?_⟩) hHeld ?_ ?_
            rotate_left
            {
            rintro w' ⟨s0, s1, s2, s3, s4, s5, s6, s7⟩
            go_simp
            with_reducible rfl
            }
            rotate_left
            {
            simp only [qzs]
            rfl
            }
            refine pure_ (i := 14) (N := some 40) (v := ?_) (a' := ?_) (bqz 44 32767) rfl rfl qza qzd (Or.inl ⟨by rfl, ?_⟩) ?_ ?_
            rotate_left
            {
            intro w'
            go_simp
            with_reducible rfl
            }
            rotate_left
            {
            simp only [qzs]
            rfl
            }
            refine pure_ (i := 15) (N := some 41) (v := ?_) (a' := ?_) (bqz 44 65535) rfl rfl qza qzd (Or.inl ⟨by rfl, ?_⟩) ?_ ?_
            rotate_left
            {
            intro w'
            go_simp
            with_reducible rfl
            }
            rotate_left
            {
            simp only [qzs]
            rfl
            }
            refine pure_ (i := 16) (N := some 42) (v := undef) (a' := ?_) (bqz 44 131071) rfl rfl qza qzd (Or.inr ⟨by rfl, rfl⟩) ?_ ?_
            rotate_left
            {
            simp only [qzs]
            rfl
            }
            refine pure_ (i := 17) (N := some 43) (v := undef) (a' := ?_) (bqz 44 262143) rfl rfl qza qzd (Or.inr ⟨by rfl, rfl⟩) ?_ ?_
            rotate_left
            {
            simp only [qzs]
            rfl
            }
            refine pure_ (i := 18) (N := some 44) (v := undef) (a' := ?_) (bqz 44 524287) rfl rfl qza qzd (Or.inr ⟨by rfl, rfl⟩) ?_ ?_
            rotate_left
            {
            simp only [qzs]
            rfl
            }
            refine pure_ (i := 19) (N := some 45) (v := undef) (a' := ?_) (bqz 44 1048575) rfl rfl qza qzd (Or.inr ⟨by rfl, rfl⟩) ?_ ?_
            rotate_left
            {
            simp only [qzs]
            rfl
            }
            refine pure_ (i := 20) (N := some 46) (v := undef) (a' := ?_) (bqz 44 2097151) rfl rfl qza qzd (Or.inr ⟨by rfl, rfl⟩) ?_ ?_
            rotate_left
            {
            simp only [qzs]
            rfl
            }
            refine pure_ (i := 21) (N := some 47) (v := ?_) (a' := ?_) (bqz 44 4194303) rfl rfl qza qzd (Or.inl ⟨by rfl, ?_⟩) ?_ ?_
            rotate_left
            {
            intro w'
            go_simp
            with_reducible rfl
            }
            rotate_left
            {
            simp only [qzs]
            rfl
            }
            refine pure_ (i := 22) (N := some 48) (v := ?_) (a' := ?_) (bqz 44 8388607) rfl rfl qza qzd (Or.inl ⟨by rfl, ?_⟩) ?_ ?_
            rotate_left
            {
            intro w'
            go_simp
            with_reducible rfl
            }
            rotate_left
            {
            simp only [qzs]
            rfl
            }
            refine pure_ (i := 23) (N := some 49) (v := ?_) (a' := ?_) (bqz 44 16777215) rfl rfl qza qzd (Or.inl ⟨by rfl, ?_⟩) ?_ ?_
            rotate_left
            {
            intro w'
            go_simp
            with_reducible rfl
            }
            rotate_left
            {
            simp only [qzs]
            rfl
            }
            refine pure_ (i := 24) (N := some 50) (v := ?_) (a' := ?_) (bqz 44 33554431) rfl rfl qza qzd (Or.inl ⟨by rfl, ?_⟩) ?_ ?_
            rotate_left
            {
            intro w'
            go_simp
            with_reducible rfl
            }
            rotate_left
            {
            simp only [qzs]
            rfl
            }
            refine take_ (i := 25) (N := some 51) (v := ?_) (a' := ?_) (bqz 44 67108863) rfl rfl qzb qzd (Or.inl ⟨by rfl, ?_⟩) hHeld ?_ ?_
            rotate_left
            {
            rintro w' ⟨s0, s1, s2, s3, s4, s5, s6, s7⟩
            go_simp
            with_reducible rfl
            }
            rotate_left
            {
            simp only [qzs]
            rfl
            }
            refine one_ (i := 26) (N := some 52) (bqz 44 134217727) rfl rfl qzc (by decide) (fun K hK => ?_)
            refine goes_ Try.func90 (by kernel_rfl) rfl #[.int .i64 ((rd_T34 l1 x5_2).f4), .int .i64 0, .int .i64 1000000] (by rfl) rfl rfl qz2 ?_
            with_reducible refine (spec_l1In.calls ((rd_T34 l1 x5_2).f4) 0 1000000 false _ A23.out).mono ?_
            rintro e w' ⟨rfl, ⟨nd, rfl⟩⟩
            refine ⟨_, rfl, ?_⟩
            refine hK.out _ _ ⟨(blk_cell BK161.out 0).trans rfl, (blk_cell BK161.out 1).trans rfl, (blk_cell BK161.out 2).trans rfl, (blk_cell BK161.out 3).trans rfl, (blk_cell BK161.out 4).trans rfl, (blk_cell BK158.out 0).trans rfl, (blk_cell BK158.out 1).trans rfl, (blk_cell BK158.out 2).trans rfl⟩ (fun hHeld => ?_)
            clear hK K
            refine norm_ (a' := ?_) ?_ ?_
            rotate_left
            {
            show Act.put _ (some 52) _ = _
            simp only [qzs]
            rfl
            }
            refine pure_ (i := 27) (N := some 53) (v := ?_) (a' := ?_) (bqz 44 268435455) rfl rfl qza qzd (Or.inl ⟨by rfl, ?_⟩) ?_ ?_
            rotate_left
            {
            intro w'
            go_simp
            with_reducible rfl
            }
            rotate_left
            {
            simp only [qzs]
            rfl
            }
            refine pure_ (i := 28) (N := some 54) (v := ?_) (a' := ?_) (bqz 44 536870911) rfl rfl qza qzd (Or.inl ⟨by rfl, ?_⟩) ?_ ?_
            rotate_left
            {
            intro w'
            go_simp
            with_reducible rfl
            }
            rotate_left
            {
            simp only [qzs]
            rfl
            }
            refine pure_ (i := 29) (N := some 55) (v := ?_) (a' := ?_) (bqz 44 1073741823) rfl rfl qza qzd (Or.inl ⟨by rfl, ?_⟩) ?_ ?_
            rotate_left
            {
            intro w'
            go_simp
            with_reducible rfl
            }
            rotate_left
            {
            simp only [qzs]
            rfl
            }
            refine pure_ (i := 30) (N := some 56) (v := undef) (a' := ?_) (bqz 44 2147483647) rfl rfl qza qzd (Or.inr ⟨by rfl, rfl⟩) ?_ ?_
            rotate_left
            {
            simp only [qzs]
            rfl
            }
            refine pure_ (i := 31) (N := some 57) (v := undef) (a' := ?_) (bqz 44 4294967295) rfl rfl qza qzd (Or.inr ⟨by rfl, rfl⟩) ?_ ?_
            rotate_left
            {
            simp only [qzs]
            rfl
            }
            refine pure_ (i := 32) (N := some 58) (v := undef) (a' := ?_) (bqz 44 8589934591) rfl rfl qza qzd (Or.inr ⟨by rfl, rfl⟩) ?_ ?_
            rotate_left
            {
            simp only [qzs]
            rfl
            }
            refine pure_ (i := 33) (N := some 59) (v := undef) (a' := ?_) (bqz 44 17179869183) rfl rfl qza qzd (Or.inr ⟨by rfl, rfl⟩) ?_ ?_
            rotate_left
            {
            simp only [qzs]
            rfl
            }
            refine pure_ (i := 34) (N := some 60) (v := undef) (a' := ?_) (bqz 44 34359738367) rfl rfl qza qzd (Or.inr ⟨by rfl, rfl⟩) ?_ ?_
            rotate_left
            {
            simp only [qzs]
            rfl
            }
            refine pure_ (i := 35) (N := some 61) (v := undef) (a' := ?_) (bqz 44 68719476735) rfl rfl qza qzd (Or.inr ⟨by rfl, rfl⟩) ?_ ?_
            rotate_left
            {
            simp only [qzs]
            rfl
            }
            refine pure_ (i := 36) (N := some 62) (v := undef) (a' := ?_) (bqz 44 137438953471) rfl rfl qza qzd (Or.inr ⟨by rfl, rfl⟩) ?_ ?_
            rotate_left
            {
            simp only [qzs]
            rfl
            }
            refine pure_ (i := 37) (N := some 63) (v := undef) (a' := ?_) (bqz 44 274877906943) rfl rfl qza qzd (Or.inr ⟨by rfl, rfl⟩) ?_ ?_
            rotate_left
            {
            simp only [qzs]
            rfl
            }
            refine pure_ (i := 38) (N := some 64) (v := undef) (a' := ?_) (bqz 44 549755813887) rfl rfl qza qzd (Or.inr ⟨by rfl, rfl⟩) ?_ ?_
            rotate_left
            {
            simp only [qzs]
            rfl
            }
            refine pure_ (i := 39) (N := some 65) (v := undef) (a' := ?_) (bqz 44 1099511627775) rfl rfl qza qzd (Or.inr ⟨by rfl, rfl⟩) ?_ ?_
            rotate_left
            {
            simp only [qzs]
            rfl
            }
            refine pure_ (i := 40) (N := some 66) (v := undef) (a' := ?_) (bqz 44 2199023255551) rfl rfl qza qzd (Or.inr ⟨by rfl, rfl⟩) ?_ ?_
            rotate_left
            {
            simp only [qzs]
            rfl
            }
            refine pure_ (i := 41) (N := some 67) (v := undef) (a' := ?_) (bqz 44 4398046511103) rfl rfl qza qzd (Or.inr ⟨by rfl, rfl⟩) ?_ ?_
            rotate_left
            {
            simp only [qzs]
            rfl
            }
            refine pure_ (i := 42) (N := some 68) (v := undef) (a' := ?_) (bqz 44 8796093022207) rfl rfl qza qzd (Or.inr ⟨by rfl, rfl⟩) ?_ ?_
            rotate_left
            {
            simp only [qzs]
            rfl
            }
            refine pure_ (i := 43) (N := some 69) (v := ?_) (a' := ?_) (bqz 44 17592186044415) rfl rfl qza qzd (Or.inl ⟨by rfl, ?_⟩) ?_ ?_
            rotate_left
            {
            intro w'
            go_simp
            with_reducible rfl
            }
            rotate_left
            {
            simp only [qzs]
            rfl
            }
            refine done_ (done_of HT_.out (by kernel_rfl)) ?_
            try go_wp2
            go_meet
            case rel => exact ⟨_, (true), qz14, H', ⟨by have := HJ2.out; have := HK2.out; first | omega | exact Nat.le_refl _⟩, ⟨by (with_reducible repeat (first | refine blk_drewN ?_ _ | refine blk_drew ?_ | refine blk_alloc ?_ _)); exact BK158.out⟩, ⟨by (with_reducible repeat (first | refine blk_drewN ?_ _ | refine blk_drew ?_ | refine blk_alloc ?_ _)); exact BK161.out⟩, ⟨by repeat (first | (with_reducible first | exact HB.out | apply below_alloc | apply pw_below_drewN | apply below_drew1 | refine below_set ?_ GE158.out | refine below_set ?_ GE161.out) | exact HB.out)⟩⟩
            }
            }
            {
            rw [if_neg c22] at H
            have c22b0 : (((rd_T34 l1 x5_2).f2) == (-1)) = false := beq_eq_false_iff_ne.mpr c22
            have c22b1 : (((rd_T34 l1 x5_2).f2) != (-1)) = true := bne_iff_ne.mpr c22
            (first | rw [c22b0] | (simp only [i64_w, i32_w]; rw [c22b0]) | rw [@decide_eq_false _ _ (of_decide_eq_false c22b0)] | rw [@decide_eq_false _ _ (of_decide_eq_false c22b1)] | skip)
            replace H := Option.bind_eq_some_iff.mp H
            obtain ⟨t166, A380, H⟩ := H
            replace H : (if t166 = true then ((spec_l1In.f ((rd_T34 l1 x5_2).f4) 0 1000000).bind fun t167 => (if t167 = true then (if x5_2 > 0 then (if 0 ≤ (wrap64 (x5_2 - 1)) then (if (wrap64 (x5_2 - 1)) < (l1.length : Int) then (spec_CrewOk.j2 k2 l1 x5_2 (decide (((rd_T34 l1 (wrap64 (x5_2 - 1))).f0) ≥ ((rd_T34 l1 x5_2).f0))) a0_0 a0_1 l0_2 ((rd_T34 l1 x5_2).f0) ((rd_T34 l1 x5_2).f1) ((rd_T34 l1 x5_2).f2) ((rd_T34 l1 x5_2).f3) ((rd_T34 l1 x5_2).f4)) else (none)) else (none)) else (spec_CrewOk.j2 k2 l1 x5_2 false a0_0 a0_1 l0_2 ((rd_T34 l1 x5_2).f0) ((rd_T34 l1 x5_2).f1) ((rd_T34 l1 x5_2).f2) ((rd_T34 l1 x5_2).f3) ((rd_T34 l1 x5_2).f4))) else (spec_CrewOk.j2 k2 l1 x5_2 true a0_0 a0_1 l0_2 ((rd_T34 l1 x5_2).f0) ((rd_T34 l1 x5_2).f1) ((rd_T34 l1 x5_2).f2) ((rd_T34 l1 x5_2).f3) ((rd_T34 l1 x5_2).f4)))) else (spec_CrewOk.j2 k2 l1 x5_2 true a0_0 a0_1 l0_2 ((rd_T34 l1 x5_2).f0) ((rd_T34 l1 x5_2).f1) ((rd_T34 l1 x5_2).f2) ((rd_T34 l1 x5_2).f3) ((rd_T34 l1 x5_2).f4))) = some r := H
            have A38 := Aside0.mk A380
            clear A380
            by_cases c39 : t166 = true
            {
            subst c39
            have H1 : ((spec_l1In.f ((rd_T34 l1 x5_2).f4) 0 1000000).bind fun t167 => (if t167 = true then (if x5_2 > 0 then (if 0 ≤ (wrap64 (x5_2 - 1)) then (if (wrap64 (x5_2 - 1)) < (l1.length : Int) then (spec_CrewOk.j2 k2 l1 x5_2 (decide (((rd_T34 l1 (wrap64 (x5_2 - 1))).f0) ≥ ((rd_T34 l1 x5_2).f0))) a0_0 a0_1 l0_2 ((rd_T34 l1 x5_2).f0) ((rd_T34 l1 x5_2).f1) ((rd_T34 l1 x5_2).f2) ((rd_T34 l1 x5_2).f3) ((rd_T34 l1 x5_2).f4)) else (none)) else (none)) else (spec_CrewOk.j2 k2 l1 x5_2 false a0_0 a0_1 l0_2 ((rd_T34 l1 x5_2).f0) ((rd_T34 l1 x5_2).f1) ((rd_T34 l1 x5_2).f2) ((rd_T34 l1 x5_2).f3) ((rd_T34 l1 x5_2).f4))) else (spec_CrewOk.j2 k2 l1 x5_2 true a0_0 a0_1 l0_2 ((rd_T34 l1 x5_2).f0) ((rd_T34 l1 x5_2).f1) ((rd_T34 l1 x5_2).f2) ((rd_T34 l1 x5_2).f3) ((rd_T34 l1 x5_2).f4)))) = some r := by rw [if_pos rfl] at H; exact H
            clear H
            have H := H1
            clear H1
            replace H := Option.bind_eq_some_iff.mp H
            obtain ⟨t167, A400, H⟩ := H
            replace H : (if t167 = true then (if x5_2 > 0 then (if 0 ≤ (wrap64 (x5_2 - 1)) then (if (wrap64 (x5_2 - 1)) < (l1.length : Int) then (spec_CrewOk.j2 k2 l1 x5_2 (decide (((rd_T34 l1 (wrap64 (x5_2 - 1))).f0) ≥ ((rd_T34 l1 x5_2).f0))) a0_0 a0_1 l0_2 ((rd_T34 l1 x5_2).f0) ((rd_T34 l1 x5_2).f1) ((rd_T34 l1 x5_2).f2) ((rd_T34 l1 x5_2).f3) ((rd_T34 l1 x5_2).f4)) else (none)) else (none)) else (spec_CrewOk.j2 k2 l1 x5_2 false a0_0 a0_1 l0_2 ((rd_T34 l1 x5_2).f0) ((rd_T34 l1 x5_2).f1) ((rd_T34 l1 x5_2).f2) ((rd_T34 l1 x5_2).f3) ((rd_T34 l1 x5_2).f4))) else (spec_CrewOk.j2 k2 l1 x5_2 true a0_0 a0_1 l0_2 ((rd_T34 l1 x5_2).f0) ((rd_T34 l1 x5_2).f1) ((rd_T34 l1 x5_2).f2) ((rd_T34 l1 x5_2).f3) ((rd_T34 l1 x5_2).f4))) = some r := H
            have A40 := Aside0.mk A400
            clear A400
            by_cases c41 : t167 = true
            {
            subst c41
            have H1 : (if x5_2 > 0 then (if 0 ≤ (wrap64 (x5_2 - 1)) then (if (wrap64 (x5_2 - 1)) < (l1.length : Int) then (spec_CrewOk.j2 k2 l1 x5_2 (decide (((rd_T34 l1 (wrap64 (x5_2 - 1))).f0) ≥ ((rd_T34 l1 x5_2).f0))) a0_0 a0_1 l0_2 ((rd_T34 l1 x5_2).f0) ((rd_T34 l1 x5_2).f1) ((rd_T34 l1 x5_2).f2) ((rd_T34 l1 x5_2).f3) ((rd_T34 l1 x5_2).f4)) else (none)) else (none)) else (spec_CrewOk.j2 k2 l1 x5_2 false a0_0 a0_1 l0_2 ((rd_T34 l1 x5_2).f0) ((rd_T34 l1 x5_2).f1) ((rd_T34 l1 x5_2).f2) ((rd_T34 l1 x5_2).f3) ((rd_T34 l1 x5_2).f4))) = some r := by rw [if_pos rfl] at H; exact H
            clear H
            have H := H1
            clear H1
            by_cases c42 : x5_2 > 0
            {
            rw [if_pos c42] at H
            have c42b0 : decide (0 < x5_2) = true := decide_eq_true c42
            clear c42
            obtain ⟨ji43, hji43⟩ : ∃ j_ : Int, (wrap64 (x5_2 - 1)) = j_ := ⟨_, rfl⟩
            replace H : (if 0 ≤ (ji43) then (if (ji43) < (l1.length : Int) then (spec_CrewOk.j2 k2 l1 x5_2 (decide (((rd_T34 l1 (ji43)).f0) ≥ ((rd_T34 l1 x5_2).f0))) a0_0 a0_1 l0_2 ((rd_T34 l1 x5_2).f0) ((rd_T34 l1 x5_2).f1) ((rd_T34 l1 x5_2).f2) ((rd_T34 l1 x5_2).f3) ((rd_T34 l1 x5_2).f4)) else (none)) else (none)) = some r := by first | (rw [hji43] at H; exact H) | (simp only [hji43] at H ⊢; exact H)
            (try rw [hji43] at A18)
            (try rw [hji43] at A20)
            (try rw [hji43] at A38)
            (try rw [hji43] at A40)
            have hji43w : (IntKind.i64.wrap (x5_2 - 1)) = ji43 := (i64_w _).trans hji43
            by_cases c44 : 0 ≤ (ji43)
            {
            rw [if_pos c44] at H
            have c44b0 : decide (0 ≤ (ji43)) = true := decide_eq_true c44
            clear c44
            by_cases c45 : (ji43) < (l1.length : Int)
            {
            rw [if_pos c45] at H
            have c45b0 : decide ((ji43) < (l1.length : Int)) = true := decide_eq_true c45
            clear c45
            have H' := Aside0.mk H
            clear H
            try go_wp2
            generalize hq_ : (((((w15.setCell ⟨gb161, 0, none⟩ (.int .i64 ((rd_T34 l1 x5_2).f0))).setCell ⟨gb161, 1, none⟩ (.int .i64 ((rd_T34 l1 x5_2).f1))).setCell ⟨gb161, 2, none⟩ (.int .i64 ((rd_T34 l1 x5_2).f2))).setCell ⟨gb161, 3, none⟩ (.bool ((rd_T34 l1 x5_2).f3))).setCell ⟨gb161, 4, none⟩ (.int .i64 ((rd_T34 l1 x5_2).f4))) = w46
            have n0_ : Aside0 (w46.heap[gb158]? = some (.cells #[.int .i64 a0_0, .int .i64 a0_1, .slice A0_2 l0_2.length c0_2] 26 (0, 0))) := ⟨by rw [← hq_]; exact qz3⟩
            have n1_ : Aside0 (w46.heap[gb161]? = some (.cells #[.int .i64 ((rd_T34 l1 x5_2).f0), .int .i64 ((rd_T34 l1 x5_2).f1), .int .i64 ((rd_T34 l1 x5_2).f2), .bool ((rd_T34 l1 x5_2).f3), .int .i64 ((rd_T34 l1 x5_2).f4)] 34 (0, 0))) := ⟨by rw [← hq_]; exact (by (with_reducible repeat (first | refine blk_drewN ?_ _ | refine blk_drew ?_ | refine blk_alloc ?_ _)); refine blk_put (cs := #[.int .i64 ((rd_T34 l1 x5_2).f0), .int .i64 ((rd_T34 l1 x5_2).f1), .int .i64 ((rd_T34 l1 x5_2).f2), .bool ((rd_T34 l1 x5_2).f3), .int .i64 0]) ?_ 4 _ rfl; (with_reducible repeat (first | refine blk_drewN ?_ _ | refine blk_drew ?_ | refine blk_alloc ?_ _)); refine blk_put (cs := #[.int .i64 ((rd_T34 l1 x5_2).f0), .int .i64 ((rd_T34 l1 x5_2).f1), .int .i64 ((rd_T34 l1 x5_2).f2), .bool false, .int .i64 0]) ?_ 3 _ rfl; (with_reducible repeat (first | refine blk_drewN ?_ _ | refine blk_drew ?_ | refine blk_alloc ?_ _)); refine blk_put (cs := #[.int .i64 ((rd_T34 l1 x5_2).f0), .int .i64 ((rd_T34 l1 x5_2).f1), .int .i64 0, .bool false, .int .i64 0]) ?_ 2 _ rfl; (with_reducible repeat (first | refine blk_drewN ?_ _ | refine blk_drew ?_ | refine blk_alloc ?_ _)); refine blk_put (cs := #[.int .i64 ((rd_T34 l1 x5_2).f0), .int .i64 0, .int .i64 0, .bool false, .int .i64 0]) ?_ 1 _ rfl; (with_reducible repeat (first | refine blk_drewN ?_ _ | refine blk_drew ?_ | refine blk_alloc ?_ _)); refine blk_put (cs := #[.int .i64 0, .int .i64 0, .int .i64 0, .bool false, .int .i64 0]) ?_ 0 _ rfl; (with_reducible repeat (first | refine blk_drewN ?_ _ | refine blk_drew ?_ | refine blk_alloc ?_ _)); exact BK161.out)⟩
            have n2_ : Aside0 (Below w.heap.size w w46) := ⟨by rw [← hq_]; exact qz4⟩
            (try clear BK158)
            (try clear BK161)
            (try clear HB)
            clear hq_
            have BK158 := n0_
            have BK161 := n1_
            have HB := n2_
            clear n0_ n1_ n2_
            have n0_ := Aside0.mk (blk_drew BK158.out)
            have n1_ := Aside0.mk (blk_drew BK161.out)
            have n2_ := Aside0.mk (below_drew1 HB.out)
            clear BK158
            clear BK161
            clear HB
            have BK158 := n0_
            have BK161 := n1_
            have HB := n2_
            clear n0_ n1_ n2_
            have p168 : 0 ≤ ((ji43) : Int) := of_decide_eq_true qz7
            have q168 : (ji43) < (l1.length : Int) := of_decide_eq_true qz7
            obtain ⟨ad168, e168, hx168_0, hx168_1, hx168_2, hx168_3, hx168_4⟩ := at_T34 HR1.out (ji43) p168 q168
            have hw168_4 := hx168_4
            have hw168_3 := hx168_3
            have hw168_2 := hx168_2
            have hw168_1 := hx168_1
            have hw168_0 := hx168_0
            obtain rfl : ad160 = ad168 := (by injection e168)
            replace hx168_0 := (HB.out.cell (World.block_lt_of_cell? w _ hx168_0)).trans hx168_0
            replace hx168_1 := (HB.out.cell (World.block_lt_of_cell? w _ hx168_1)).trans hx168_1
            replace hx168_2 := (HB.out.cell (World.block_lt_of_cell? w _ hx168_2)).trans hx168_2
            replace hx168_3 := (HB.out.cell (World.block_lt_of_cell? w _ hx168_3)).trans hx168_3
            replace hx168_4 := (HB.out.cell (World.block_lt_of_cell? w _ hx168_4)).trans hx168_4
            replace p168 := eq_true p168
            replace q168 := eq_true q168
            refine start_ (n := 44) (S := fun w' => w'.cell? ⟨gb161, 0, none⟩ = some (.int .i64 ((rd_T34 l1 x5_2).f0)) ∧ w'.cell? ⟨gb161, 1, none⟩ = some (.int .i64 ((rd_T34 l1 x5_2).f1)) ∧ w'.cell? ⟨gb161, 2, none⟩ = some (.int .i64 ((rd_T34 l1 x5_2).f2)) ∧ w'.cell? ⟨gb161, 3, none⟩ = some (.bool ((rd_T34 l1 x5_2).f3)) ∧ w'.cell? ⟨gb161, 4, none⟩ = some (.int .i64 ((rd_T34 l1 x5_2).f4)) ∧ w'.cell? ⟨gb158, 0, none⟩ = some (.int .i64 a0_0) ∧ w'.cell? ⟨gb158, 1, none⟩ = some (.int .i64 a0_1) ∧ w'.cell? ⟨gb158, 2, none⟩ = some (.slice A0_2 l0_2.length c0_2) ∧ w'.cell? (ad160.add (((ji43)).toNat * 5)) = some (.int .i64 ((rd_T34 l1 (ji43)).f0)) ∧ w'.cell? ⟨(ad160.add (((ji43)).toNat * 5)).block, (ad160.add (((ji43)).toNat * 5)).off + 1, none⟩ = some (.int .i64 ((rd_T34 l1 (ji43)).f1)) ∧ w'.cell? ⟨(ad160.add (((ji43)).toNat * 5)).block, (ad160.add (((ji43)).toNat * 5)).off + 2, none⟩ = some (.int .i64 ((rd_T34 l1 (ji43)).f2)) ∧ w'.cell? ⟨(ad160.add (((ji43)).toNat * 5)).block, (ad160.add (((ji43)).toNat * 5)).off + 3, none⟩ = some (.bool ((rd_T34 l1 (ji43)).f3)) ∧ w'.cell? ⟨(ad160.add (((ji43)).toNat * 5)).block, (ad160.add (((ji43)).toNat * 5)).off + 4, none⟩ = some (.int .i64 ((rd_T34 l1 (ji43)).f4))) (ds := []) #[false, false, false, false, false, false, false, false, false, false, false, false, false, false, false, false, false, false, false, false, false, false, false, false, false, false, false, false, false, false, false, false, false, false, false, false, false, false, false, false, false, false, false, false] (by kernel_rfl) rfl rfl ⟨(blk_cell BK161.out 0).trans rfl, (blk_cell BK161.out 1).trans rfl, (blk_cell BK161.out 2).trans rfl, (blk_cell BK161.out 3).trans rfl, (blk_cell BK161.out 4).trans rfl, (blk_cell BK158.out 0).trans rfl, (blk_cell BK158.out 1).trans rfl, (blk_cell BK158.out 2).trans rfl, ((HB.out.cell (World.block_lt_of_cell? w _ hw168_0)).trans hw168_0), ((HB.out.cell (World.block_lt_of_cell? w _ hw168_1)).trans hw168_1), ((HB.out.cell (World.block_lt_of_cell? w _ hw168_2)).trans hw168_2), ((HB.out.cell (World.block_lt_of_cell? w _ hw168_3)).trans hw168_3), ((HB.out.cell (World.block_lt_of_cell? w _ hw168_4)).trans hw168_4)⟩ (fun hHeld => ?_); refine with_tabW spec_CrewOk.tab7 spec_CrewOk.bits7 (fun HT_ HW_ => ?_)
            generalize w46.drew = w47 at BK158 BK161 HB hx168_0 hx168_1 hx168_2 hx168_3 hx168_4 hHeld ⊢
            refine pure_ (i := 0) (N := some 26) (v := ?_) (a' := ?_) (bqz 44 1) rfl rfl qza qzd (Or.inl ⟨by rfl, ?_⟩) ?_ ?_
            rotate_left
            {
            intro w'
            go_simp
            with_reducible rfl
            }
            rotate_left
            {
            simp only [qzs]
            rfl
            }
            refine take_ (i := 1) (N := some 27) (v := ?_) (a' := ?_) (bqz 44 3) rfl rfl qzb qzd (Or.inl ⟨by rfl, ?_⟩) hHeld ?_ ?_
            rotate_left
            {
            rintro w' ⟨s0, s1, s2, s3, s4, s5, s6, s7, s8, s9, s10, s11, s12⟩
            go_simp
            with_reducible rfl
            }
            rotate_left
            {
            simp only [qzs]
            rfl
            }
            refine one_ (i := 2) (N := some 28) (bqz 44 7) rfl rfl qzc (by decide) (fun K hK => ?_)
            refine goes_ Try.func90 (by kernel_rfl) rfl #[.int .i64 ((rd_T34 l1 x5_2).f0), .int .i64 1, .int .i64 99] (by rfl) rfl rfl qz2 ?_
            with_reducible refine (spec_l1In.calls ((rd_T34 l1 x5_2).f0) 1 99 true _ A18.out).mono ?_
            rintro e w' ⟨rfl, ⟨nd, rfl⟩⟩
            refine ⟨_, rfl, ?_⟩
            refine hK.out _ _ ⟨(blk_cell BK161.out 0).trans rfl, (blk_cell BK161.out 1).trans rfl, (blk_cell BK161.out 2).trans rfl, (blk_cell BK161.out 3).trans rfl, (blk_cell BK161.out 4).trans rfl, (blk_cell BK158.out 0).trans rfl, (blk_cell BK158.out 1).trans rfl, (blk_cell BK158.out 2).trans rfl, ((HB.out.cell (World.block_lt_of_cell? w _ hw168_0)).trans hw168_0), ((HB.out.cell (World.block_lt_of_cell? w _ hw168_1)).trans hw168_1), ((HB.out.cell (World.block_lt_of_cell? w _ hw168_2)).trans hw168_2), ((HB.out.cell (World.block_lt_of_cell? w _ hw168_3)).trans hw168_3), ((HB.out.cell (World.block_lt_of_cell? w _ hw168_4)).trans hw168_4)⟩ (fun hHeld => ?_)
            clear hK K
            refine norm_ (a' := ?_) ?_ ?_
            rotate_left
            {
            show Act.put _ (some 28) _ = _
            simp only [qzs]
            rfl
            }
            refine pure_ (i := 3) (N := some 29) (v := ?_) (a' := ?_) (bqz 44 15) rfl rfl qza qzd (Or.inl ⟨by rfl, ?_⟩) ?_ ?_
            rotate_left
            {
            intro w'
            go_simp
            with_reducible rfl
            }
            rotate_left
            {
            simp only [qzs]
            rfl
            }
            refine pure_ (i := 4) (N := some 30) (v := ?_) (a' := ?_) (bqz 44 31) rfl rfl qza qzd (Or.inl ⟨by rfl, ?_⟩) ?_ ?_
            rotate_left
            {
            intro w'
            go_simp
            with_reducible rfl
            }
            rotate_left
            {
            simp only [qzs]
            rfl
            }
            refine pure_ (i := 6) (N := some 32) (v := ?_) (a' := ?_) (bqz 44 95) rfl rfl qza qzd (Or.inl ⟨by rfl, ?_⟩) ?_ ?_
            rotate_left
            {
            intro w'
            go_simp
            with_reducible rfl
            }
            rotate_left
            {
            simp only [qzs]
            rfl
            }
            refine take_ (i := 5) (N := some 31) (v := ?_) (a' := ?_) (bqz 44 127) rfl rfl qzb qzd (Or.inl ⟨by rfl, ?_⟩) hHeld ?_ ?_
            rotate_left
            {
            rintro w' ⟨s0, s1, s2, s3, s4, s5, s6, s7, s8, s9, s10, s11, s12⟩
            go_simp
            with_reducible rfl
            }
            rotate_left
            {
            simp only [qzs]
            rfl
            }
            refine take_ (i := 7) (N := some 33) (v := ?_) (a' := ?_) (bqz 44 255) rfl rfl qzb qzd (Or.inl ⟨by rfl, ?_⟩) hHeld ?_ ?_
            rotate_left
            {
            rintro w' ⟨s0, s1, s2, s3, s4, s5, s6, s7, s8, s9, s10, s11, s12⟩
            go_simp
            with_reducible rfl
            }
            rotate_left
            {
            simp only [qzs]
            rfl
            }
            refine one_ (i := 8) (N := some 34) (bqz 44 511) rfl rfl qzc (by decide) (fun K hK => ?_)
            refine goes_ Try.func107 (by kernel_rfl) rfl #[.agg #[.int .i64 a0_0, .int .i64 a0_1, .slice A0_2 l0_2.length c0_2], .int .i64 ((rd_T34 l1 x5_2).f1)] (by rfl) rfl rfl qz2 ?_
            with_reducible refine (spec_l7Free.calls a0_0 a0_1 _ _ l0_2 ((rd_T34 l1 x5_2).f1) true _ ?side1 ?side2 A20.out).mono ?_
            (case side1 => repeat (first | exact (Kd.C_below HR0_2.out qz4) | (with_reducible refine Kd.C_alloc ?_ _) | (with_reducible refine Kd.C_drewN ?_ _) | (with_reducible refine Kd.C_drew ?_)))
            (case side2 => exact HC0_2.out)
            rintro e w48 ⟨rfl, hb⟩
            refine ⟨_, rfl, ?_⟩
            have n0_ := Aside0.mk (blk_below (g := gb158) (o := .cells #[.int .i64 a0_0, .int .i64 a0_1, .slice A0_2 l0_2.length c0_2] 26 (0, 0)) qz11 hb)
            have n1_ := Aside0.mk (blk_below (g := gb161) (o := .cells #[.int .i64 ((rd_T34 l1 x5_2).f0), .int .i64 ((rd_T34 l1 x5_2).f1), .int .i64 ((rd_T34 l1 x5_2).f2), .bool ((rd_T34 l1 x5_2).f3), .int .i64 ((rd_T34 l1 x5_2).f4)] 34 (0, 0)) (by (with_reducible repeat (first | refine blk_drewN ?_ _ | refine blk_drew ?_ | refine blk_alloc ?_ _)); exact BK161.out) hb)
            have n2_ := Aside0.mk (below_step qz4 hb)
            clear BK158
            clear BK161
            clear HB
            have BK158 := n0_
            have BK161 := n1_
            have HB := n2_
            clear n0_ n1_ n2_
            (try clear hb)
            (try clear hb2)
            (try clear hk)
            (try clear hi)
            refine hK.out _ _ ⟨(blk_cell BK161.out 0).trans rfl, (blk_cell BK161.out 1).trans rfl, (blk_cell BK161.out 2).trans rfl, (blk_cell BK161.out 3).trans rfl, (blk_cell BK161.out 4).trans rfl, (blk_cell BK158.out 0).trans rfl, (blk_cell BK158.out 1).trans rfl, (blk_cell BK158.out 2).trans rfl, ((HB.out.cell (World.block_lt_of_cell? w _ hw168_0)).trans hw168_0), ((HB.out.cell (World.block_lt_of_cell? w _ hw168_1)).trans hw168_1), ((HB.out.cell (World.block_lt_of_cell? w _ hw168_2)).trans hw168_2), ((HB.out.cell (World.block_lt_of_cell? w _ hw168_3)).trans hw168_3), ((HB.out.cell (World.block_lt_of_cell? w _ hw168_4)).trans hw168_4)⟩ (fun hHeld => ?_)
            clear hK K
            refine norm_ (a' := ?_) ?_ ?_
            rotate_left
            {
            show Act.put _ (some 34) _ = _
            simp only [qzs]
            rfl
            }
            refine pure_ (i := 9) (N := some 35) (v := ?_) (a' := ?_) (bqz 44 1023) rfl rfl qza qzd (Or.inl ⟨by rfl, ?_⟩) ?_ ?_
            rotate_left
            {
            intro w'
            go_simp
            with_reducible rfl
            }
            rotate_left
            {
            simp only [qzs]
            rfl
            }
            refine pure_ (i := 10) (N := some 36) (v := ?_) (a' := ?_) (bqz 44 2047) rfl rfl qza qzd (Or.inl ⟨by rfl, ?_⟩) ?_ ?_
            rotate_left
            {
            intro w'
            go_simp
            with_reducible rfl
            }
            rotate_left
            {
            simp only [qzs]
            rfl
            }
            refine pure_ (i := 11) (N := some 37) (v := ?_) (a' := ?_) (bqz 44 4095) rfl rfl qza qzd (Or.inl ⟨by rfl, ?_⟩) ?_ ?_
            rotate_left
            {
            intro w'
            go_simp
            with_reducible rfl
            }
            rotate_left
            {
            simp only [qzs]
            rfl
            }
            refine pure_ (i := 12) (N := some 38) (v := ?_) (a' := ?_) (bqz 44 8191) rfl rfl qza qzd (Or.inl ⟨by rfl, ?_⟩) ?_ ?_
            rotate_left
            {
            intro w'
            go_simp
            with_reducible rfl
            }
            rotate_left
            {
            simp only [qzs]
            rfl
            }
            refine take_ (i := 13) (N := some 39) (v := ?_) (a' := ?_) (bqz 44 16383) rfl rfl qzb qzd (Or.inl ⟨by rfl, ?_⟩) hHeld ?_ ?_
            rotate_left
            {
            rintro w' ⟨s0, s1, s2, s3, s4, s5, s6, s7, s8, s9, s10, s11, s12⟩
            go_simp
            with_reducible rfl
            }
            rotate_left
            {
            simp only [qzs]
            rfl
            }
            refine pure_ (i := 14) (N := some 40) (v := ?_) (a' := ?_) (bqz 44 32767) rfl rfl qza qzd (Or.inl ⟨by rfl, ?_⟩) ?_ ?_
            rotate_left
            {
            intro w'
            go_simp
            with_reducible rfl
            }
            rotate_left
            {
            simp only [qzs]
            rfl
            }
            refine pure_ (i := 15) (N := some 41) (v := ?_) (a' := ?_) (bqz 44 65535) rfl rfl qza qzd (Or.inl ⟨by rfl, ?_⟩) ?_ ?_
            rotate_left
            {
            intro w'
            go_simp
            with_reducible rfl
            }
            rotate_left
            {
            simp only [qzs]
            rfl
            }
            refine pure_ (i := 17) (N := some 43) (v := ?_) (a' := ?_) (bqz 44 196607) rfl rfl qza qzd (Or.inl ⟨by rfl, ?_⟩) ?_ ?_
            rotate_left
            {
            intro w'
            go_simp
            with_reducible rfl
            }
            rotate_left
            {
            simp only [qzs]
            rfl
            }
            refine take_ (i := 16) (N := some 42) (v := ?_) (a' := ?_) (bqz 44 262143) rfl rfl qzb qzd (Or.inl ⟨by rfl, ?_⟩) hHeld ?_ ?_
            rotate_left
            {
            rintro w' ⟨s0, s1, s2, s3, s4, s5, s6, s7, s8, s9, s10, s11, s12⟩
            go_simp
            with_reducible rfl
            }
            rotate_left
            {
            simp only [qzs]
            rfl
            }
            refine take_ (i := 18) (N := some 44) (v := ?_) (a' := ?_) (bqz 44 524287) rfl rfl qzb qzd (Or.inl ⟨by rfl, ?_⟩) hHeld ?_ ?_
            rotate_left
            {
            rintro w' ⟨s0, s1, s2, s3, s4, s5, s6, s7, s8, s9, s10, s11, s12⟩
            go_simp
            with_reducible rfl
            }
            rotate_left
            {
            simp only [qzs]
            rfl
            }
            refine one_ (i := 19) (N := some 45) (bqz 44 1048575) rfl rfl qzc (by decide) (fun K hK => ?_)
            refine goes_ Try.func107 (by kernel_rfl) rfl #[.agg #[.int .i64 a0_0, .int .i64 a0_1, .slice A0_2 l0_2.length c0_2], .int .i64 ((rd_T34 l1 x5_2).f2)] (by rfl) rfl rfl qz2 ?_
            with_reducible refine (spec_l7Free.calls a0_0 a0_1 _ _ l0_2 ((rd_T34 l1 x5_2).f2) true _ ?side1 ?side2 A38.out).mono ?_
            (case side1 => repeat (first | exact (Kd.C_below HR0_2.out HB.out) | (with_reducible refine Kd.C_alloc ?_ _) | (with_reducible refine Kd.C_drewN ?_ _) | (with_reducible refine Kd.C_drew ?_)))
            (case side2 => exact HC0_2.out)
            rintro e w49 ⟨rfl, hb⟩
            refine ⟨_, rfl, ?_⟩
            have n0_ := Aside0.mk (blk_below (g := gb158) (o := .cells #[.int .i64 a0_0, .int .i64 a0_1, .slice A0_2 l0_2.length c0_2] 26 (0, 0)) qz11 hb)
            have n1_ := Aside0.mk (blk_below (g := gb161) (o := .cells #[.int .i64 ((rd_T34 l1 x5_2).f0), .int .i64 ((rd_T34 l1 x5_2).f1), .int .i64 ((rd_T34 l1 x5_2).f2), .bool ((rd_T34 l1 x5_2).f3), .int .i64 ((rd_T34 l1 x5_2).f4)] 34 (0, 0)) (by (with_reducible repeat (first | refine blk_drewN ?_ _ | refine blk_drew ?_ | refine blk_alloc ?_ _)); exact BK161.out) hb)
            have n2_ := Aside0.mk (below_step qz4 hb)
            clear BK158
            clear BK161
            clear HB
            have BK158 := n0_
            have BK161 := n1_
            have HB := n2_
            clear n0_ n1_ n2_
            (try clear hb)
            (try clear hb2)
            (try clear hk)
            (try clear hi)
            refine hK.out _ _ ⟨(blk_cell BK161.out 0).trans rfl, (blk_cell BK161.out 1).trans rfl, (blk_cell BK161.out 2).trans rfl, (blk_cell BK161.out 3).trans rfl, (blk_cell BK161.out 4).trans rfl, (blk_cell BK158.out 0).trans rfl, (blk_cell BK158.out 1).trans rfl, (blk_cell BK158.out 2).trans rfl, ((HB.out.cell (World.block_lt_of_cell? w _ hw168_0)).trans hw168_0), ((HB.out.cell (World.block_lt_of_cell? w _ hw168_1)).trans hw168_1), ((HB.out.cell (World.block_lt_of_cell? w _ hw168_2)).trans hw168_2), ((HB.out.cell (World.block_lt_of_cell? w _ hw168_3)).trans hw168_3), ((HB.out.cell (World.block_lt_of_cell? w _ hw168_4)).trans hw168_4)⟩ (fun hHeld => ?_)
            clear hK K
            refine norm_ (a' := ?_) ?_ ?_
            rotate_left
            {
            show Act.put _ (some 45) _ = _
            simp only [qzs]
            rfl
            }
            refine pure_ (i := 20) (N := some 46) (v := ?_) (a' := ?_) (bqz 44 2097151) rfl rfl qza qzd (Or.inl ⟨by rfl, ?_⟩) ?_ ?_
            rotate_left
            {
            intro w'
            go_simp
            with_reducible rfl
            }
            rotate_left
            {
            simp only [qzs]
            rfl
            }
            refine pure_ (i := 21) (N := some 47) (v := ?_) (a' := ?_) (bqz 44 4194303) rfl rfl qza qzd (Or.inl ⟨by rfl, ?_⟩) ?_ ?_
            rotate_left
            {
            intro w'
            go_simp
            with_reducible rfl
            }
            rotate_left
            {
            simp only [qzs]
            rfl
            }
            refine pure_ (i := 22) (N := some 48) (v := ?_) (a' := ?_) (bqz 44 8388607) rfl rfl qza qzd (Or.inl ⟨by rfl, ?_⟩) ?_ ?_
            rotate_left
            {
            intro w'
            go_simp
            with_reducible rfl
            }
            rotate_left
            {
            simp only [qzs]
            rfl
            }
            refine pure_ (i := 23) (N := some 49) (v := ?_) (a' := ?_) (bqz 44 16777215) rfl rfl qza qzd (Or.inl ⟨by rfl, ?_⟩) ?_ ?_
            rotate_left
            {
            intro w'
            go_simp
            with_reducible rfl
            }
            rotate_left
            {
            simp only [qzs]
            rfl
            }
            refine pure_ (i := 24) (N := some 50) (v := ?_) (a' := ?_) (bqz 44 33554431) rfl rfl qza qzd (Or.inl ⟨by rfl, ?_⟩) ?_ ?_
            rotate_left
            {
            intro w'
            go_simp
            with_reducible rfl
            }
            rotate_left
            {
            simp only [qzs]
            rfl
            }
            refine take_ (i := 25) (N := some 51) (v := ?_) (a' := ?_) (bqz 44 67108863) rfl rfl qzb qzd (Or.inl ⟨by rfl, ?_⟩) hHeld ?_ ?_
            rotate_left
            {
            rintro w' ⟨s0, s1, s2, s3, s4, s5, s6, s7, s8, s9, s10, s11, s12⟩
            go_simp
            with_reducible rfl
            }
            rotate_left
            {
            simp only [qzs]
            rfl
            }
            refine one_ (i := 26) (N := some 52) (bqz 44 134217727) rfl rfl qzc (by decide) (fun K hK => ?_)
            refine goes_ Try.func90 (by kernel_rfl) rfl #[.int .i64 ((rd_T34 l1 x5_2).f4), .int .i64 0, .int .i64 1000000] (by rfl) rfl rfl qz2 ?_
            with_reducible refine (spec_l1In.calls ((rd_T34 l1 x5_2).f4) 0 1000000 true _ A40.out).mono ?_
            rintro e w' ⟨rfl, ⟨nd, rfl⟩⟩
            refine ⟨_, rfl, ?_⟩
            refine hK.out _ _ ⟨(blk_cell BK161.out 0).trans rfl, (blk_cell BK161.out 1).trans rfl, (blk_cell BK161.out 2).trans rfl, (blk_cell BK161.out 3).trans rfl, (blk_cell BK161.out 4).trans rfl, (blk_cell BK158.out 0).trans rfl, (blk_cell BK158.out 1).trans rfl, (blk_cell BK158.out 2).trans rfl, ((HB.out.cell (World.block_lt_of_cell? w _ hw168_0)).trans hw168_0), ((HB.out.cell (World.block_lt_of_cell? w _ hw168_1)).trans hw168_1), ((HB.out.cell (World.block_lt_of_cell? w _ hw168_2)).trans hw168_2), ((HB.out.cell (World.block_lt_of_cell? w _ hw168_3)).trans hw168_3), ((HB.out.cell (World.block_lt_of_cell? w _ hw168_4)).trans hw168_4)⟩ (fun hHeld => ?_)
            clear hK K
            refine norm_ (a' := ?_) ?_ ?_
            rotate_left
            {
            show Act.put _ (some 52) _ = _
            simp only [qzs]
            rfl
            }
            refine pure_ (i := 27) (N := some 53) (v := ?_) (a' := ?_) (bqz 44 268435455) rfl rfl qza qzd (Or.inl ⟨by rfl, ?_⟩) ?_ ?_
            rotate_left
            {
            intro w'
            go_simp
            with_reducible rfl
            }
            rotate_left
            {
            simp only [qzs]
            rfl
            }
            refine pure_ (i := 28) (N := some 54) (v := ?_) (a' := ?_) (bqz 44 536870911) rfl rfl qza qzd (Or.inl ⟨by rfl, ?_⟩) ?_ ?_
            rotate_left
            {
            intro w'
            go_simp
            with_reducible rfl
            }
            rotate_left
            {
            simp only [qzs]
            rfl
            }
            refine pure_ (i := 29) (N := some 55) (v := ?_) (a' := ?_) (bqz 44 1073741823) rfl rfl qza qzd (Or.inl ⟨by rfl, ?_⟩) ?_ ?_
            rotate_left
            {
            intro w'
            go_simp
            with_reducible rfl
            }
            rotate_left
            {
            simp only [qzs]
            rfl
            }
            refine pure_ (i := 30) (N := some 56) (v := ?_) (a' := ?_) (bqz 44 2147483647) rfl rfl qza qzd (Or.inl ⟨by rfl, ?_⟩) ?_ ?_
            rotate_left
            {
            intro w'
            go_simp
            with_reducible rfl
            }
            rotate_left
            {
            simp only [qzs]
            rfl
            }
            refine pure_ (i := 31) (N := some 57) (v := ?_) (a' := ?_) (bqz 44 4294967295) rfl rfl qza qzd (Or.inl ⟨by rfl, ?_⟩) ?_ ?_
            rotate_left
            {
            intro w'
            go_simp
            with_reducible rfl
            }
            rotate_left
            {
            simp only [qzs]
            rfl
            }
            refine pure_ (i := 32) (N := some 58) (v := ?_) (a' := ?_) (bqz 44 8589934591) rfl rfl qza qzd (Or.inl ⟨by rfl, ?_⟩) ?_ ?_
            rotate_left
            {
            intro w'
            go_simp
            with_reducible rfl
            }
            rotate_left
            {
            simp only [qzs]
            rfl
            }
            refine pure_ (i := 33) (N := some 59) (v := ?_) (a' := ?_) (bqz 44 17179869183) rfl rfl qza qzd (Or.inl ⟨by rfl, ?_⟩) ?_ ?_
            rotate_left
            {
            intro w'
            go_simp
            with_reducible rfl
            }
            rotate_left
            {
            simp only [qzs]
            rfl
            }
            refine pure_ (i := 34) (N := some 60) (v := ?_) (a' := ?_) (bqz 44 34359738367) rfl rfl qza qzd (Or.inl ⟨by rfl, ?_⟩) ?_ ?_
            rotate_left
            {
            intro w'
            go_simp
            with_reducible rfl
            }
            rotate_left
            {
            simp only [qzs]
            rfl
            }
            refine pure_ (i := 35) (N := some 61) (v := ?_) (a' := ?_) (bqz 44 68719476735) rfl rfl qza qzd (Or.inl ⟨by rfl, ?_⟩) ?_ ?_
            rotate_left
            {
            intro w'
            go_simp
            with_reducible rfl
            }
            rotate_left
            {
            simp only [qzs]
            rfl
            }
            refine pure_ (i := 36) (N := some 62) (v := ?_) (a' := ?_) (bqz 44 137438953471) rfl rfl qza qzd (Or.inl ⟨by rfl, ?_⟩) ?_ ?_
            rotate_left
            {
            intro w'
            go_simp
            with_reducible rfl
            }
            rotate_left
            {
            simp only [qzs]
            rfl
            }
            refine pure_ (i := 37) (N := some 63) (v := ?_) (a' := ?_) (bqz 44 274877906943) rfl rfl qza qzd (Or.inl ⟨by rfl, ?_⟩) ?_ ?_
            rotate_left
            {
            intro w'
            go_simp
            with_reducible rfl
            }
            rotate_left
            {
            simp only [qzs]
            rfl
            }
            refine pure_ (i := 39) (N := some 65) (v := ?_) (a' := ?_) (bqz 44 824633720831) rfl rfl qza qzd (Or.inl ⟨by rfl, ?_⟩) ?_ ?_
            rotate_left
            {
            intro w'
            go_simp
            with_reducible rfl
            }
            rotate_left
            {
            simp only [qzs]
            rfl
            }
            refine take_ (i := 38) (N := some 64) (v := ?_) (a' := ?_) (bqz 44 1099511627775) rfl rfl qzb qzd (Or.inl ⟨by rfl, ?_⟩) hHeld ?_ ?_
            rotate_left
            {
            rintro w' ⟨s0, s1, s2, s3, s4, s5, s6, s7, s8, s9, s10, s11, s12⟩
            go_simp
            with_reducible rfl
            }
            rotate_left
            {
            simp only [qzs]
            rfl
            }
            refine take_ (i := 40) (N := some 66) (v := ?_) (a' := ?_) (bqz 44 2199023255551) rfl rfl qzb qzd (Or.inl ⟨by rfl, ?_⟩) hHeld ?_ ?_
            rotate_left
            {
            rintro w' ⟨s0, s1, s2, s3, s4, s5, s6, s7, s8, s9, s10, s11, s12⟩
            go_simp
            with_reducible rfl
            }
            rotate_left
            {
            simp only [qzs]
            rfl
            }
            refine pure_ (i := 41) (N := some 67) (v := ?_) (a' := ?_) (bqz 44 4398046511103) rfl rfl qza qzd (Or.inl ⟨by rfl, ?_⟩) ?_ ?_
            rotate_left
            {
            intro w'
            go_simp
            with_reducible rfl
            }
            rotate_left
            {
            simp only [qzs]
            rfl
            }
            refine pure_ (i := 42) (N := some 68) (v := ?_) (a' := ?_) (bqz 44 8796093022207) rfl rfl qza qzd (Or.inl ⟨by rfl, ?_⟩) ?_ ?_
            rotate_left
            {
            intro w'
            go_simp
            with_reducible rfl
            }
            rotate_left
            {
            simp only [qzs]
            rfl
            }
            refine pure_ (i := 43) (N := some 69) (v := ?_) (a' := ?_) (bqz 44 17592186044415) rfl rfl qza qzd (Or.inl ⟨by rfl, ?_⟩) ?_ ?_
            rotate_left
            {
            intro w'
            go_simp
            with_reducible rfl
            }
            rotate_left
            {
            simp only [qzs]
            rfl
            }
            refine done_ (done_of HT_.out (by kernel_rfl)) ?_
            try go_wp2
            go_meet
            case rel => exact ⟨_, (decide (((rd_T34 l1 (ji43)).f0) ≥ ((rd_T34 l1 x5_2).f0))), (by first | rfl | (simp; done) | (simp only [← hji43] <;> (first | rfl | simp)) | (simp [*]; done)), H', ⟨by have := HJ2.out; have := HK2.out; first | omega | exact Nat.le_refl _⟩, ⟨by (with_reducible repeat (first | refine blk_drewN ?_ _ | refine blk_drew ?_ | refine blk_alloc ?_ _)); exact BK158.out⟩, ⟨by (with_reducible repeat (first | refine blk_drewN ?_ _ | refine blk_drew ?_ | refine blk_alloc ?_ _)); exact BK161.out⟩, ⟨by repeat (first | (with_reducible first | exact HB.out | apply below_alloc | apply pw_below_drewN | apply below_drew1 | refine below_set ?_ GE158.out | refine below_set ?_ GE161.out) | exact HB.out)⟩⟩
            }
            {
            rw [if_neg c45] at H
            exact absurd H (by simp)
            }
            }
            {
            rw [if_neg c44] at H
            exact absurd H (by simp)
            }
            }
            {
            rw [if_neg c42] at H
            have c42b0 : decide (0 < x5_2) = false := decide_eq_false c42
            clear c42
            have H' := Aside0.mk H
            clear H
            try go_wp2
            generalize hq_ : (((((w15.setCell ⟨gb161, 0, none⟩ (.int .i64 ((rd_T34 l1 x5_2).f0))).setCell ⟨gb161, 1, none⟩ (.int .i64 ((rd_T34 l1 x5_2).f1))).setCell ⟨gb161, 2, none⟩ (.int .i64 ((rd_T34 l1 x5_2).f2))).setCell ⟨gb161, 3, none⟩ (.bool ((rd_T34 l1 x5_2).f3))).setCell ⟨gb161, 4, none⟩ (.int .i64 ((rd_T34 l1 x5_2).f4))) = w50
            have n0_ : Aside0 (w50.heap[gb158]? = some (.cells #[.int .i64 a0_0, .int .i64 a0_1, .slice A0_2 l0_2.length c0_2] 26 (0, 0))) := ⟨by rw [← hq_]; exact qz3⟩
            have n1_ : Aside0 (w50.heap[gb161]? = some (.cells #[.int .i64 ((rd_T34 l1 x5_2).f0), .int .i64 ((rd_T34 l1 x5_2).f1), .int .i64 ((rd_T34 l1 x5_2).f2), .bool ((rd_T34 l1 x5_2).f3), .int .i64 ((rd_T34 l1 x5_2).f4)] 34 (0, 0))) := ⟨by rw [← hq_]; exact (by (with_reducible repeat (first | refine blk_drewN ?_ _ | refine blk_drew ?_ | refine blk_alloc ?_ _)); refine blk_put (cs := #[.int .i64 ((rd_T34 l1 x5_2).f0), .int .i64 ((rd_T34 l1 x5_2).f1), .int .i64 ((rd_T34 l1 x5_2).f2), .bool ((rd_T34 l1 x5_2).f3), .int .i64 0]) ?_ 4 _ rfl; (with_reducible repeat (first | refine blk_drewN ?_ _ | refine blk_drew ?_ | refine blk_alloc ?_ _)); refine blk_put (cs := #[.int .i64 ((rd_T34 l1 x5_2).f0), .int .i64 ((rd_T34 l1 x5_2).f1), .int .i64 ((rd_T34 l1 x5_2).f2), .bool false, .int .i64 0]) ?_ 3 _ rfl; (with_reducible repeat (first | refine blk_drewN ?_ _ | refine blk_drew ?_ | refine blk_alloc ?_ _)); refine blk_put (cs := #[.int .i64 ((rd_T34 l1 x5_2).f0), .int .i64 ((rd_T34 l1 x5_2).f1), .int .i64 0, .bool false, .int .i64 0]) ?_ 2 _ rfl; (with_reducible repeat (first | refine blk_drewN ?_ _ | refine blk_drew ?_ | refine blk_alloc ?_ _)); refine blk_put (cs := #[.int .i64 ((rd_T34 l1 x5_2).f0), .int .i64 0, .int .i64 0, .bool false, .int .i64 0]) ?_ 1 _ rfl; (with_reducible repeat (first | refine blk_drewN ?_ _ | refine blk_drew ?_ | refine blk_alloc ?_ _)); refine blk_put (cs := #[.int .i64 0, .int .i64 0, .int .i64 0, .bool false, .int .i64 0]) ?_ 0 _ rfl; (with_reducible repeat (first | refine blk_drewN ?_ _ | refine blk_drew ?_ | refine blk_alloc ?_ _)); exact BK161.out)⟩
            have n2_ : Aside0 (Below w.heap.size w w50) := ⟨by rw [← hq_]; exact qz4⟩
            (try clear BK158)
            (try clear BK161)
            (try clear HB)
            clear hq_
            have BK158 := n0_
            have BK161 := n1_
            have HB := n2_
            clear n0_ n1_ n2_
            have n0_ := Aside0.mk (blk_drew BK158.out)
            have n1_ := Aside0.mk (blk_drew BK161.out)
            have n2_ := Aside0.mk (below_drew1 HB.out)
            clear BK158
            clear BK161
            clear HB
            have BK158 := n0_
            have BK161 := n1_
            have HB := n2_
            clear n0_ n1_ n2_
            refine start_ (n := 44) (S := fun w' => w'.cell? ⟨gb161, 0, none⟩ = some (.int .i64 ((rd_T34 l1 x5_2).f0)) ∧ w'.cell? ⟨gb161, 1, none⟩ = some (.int .i64 ((rd_T34 l1 x5_2).f1)) ∧ w'.cell? ⟨gb161, 2, none⟩ = some (.int .i64 ((rd_T34 l1 x5_2).f2)) ∧ w'.cell? ⟨gb161, 3, none⟩ = some (.bool ((rd_T34 l1 x5_2).f3)) ∧ w'.cell? ⟨gb161, 4, none⟩ = some (.int .i64 ((rd_T34 l1 x5_2).f4)) ∧ w'.cell? ⟨gb158, 0, none⟩ = some (.int .i64 a0_0) ∧ w'.cell? ⟨gb158, 1, none⟩ = some (.int .i64 a0_1) ∧ w'.cell? ⟨gb158, 2, none⟩ = some (.slice A0_2 l0_2.length c0_2)) (ds := []) #[false, false, false, false, false, false, false, false, false, false, false, false, false, false, false, false, false, false, false, false, false, false, false, false, false, false, false, false, false, false, false, false, false, false, false, false, false, false, false, false, false, false, false, false] (by kernel_rfl) rfl rfl ⟨(blk_cell BK161.out 0).trans rfl, (blk_cell BK161.out 1).trans rfl, (blk_cell BK161.out 2).trans rfl, (blk_cell BK161.out 3).trans rfl, (blk_cell BK161.out 4).trans rfl, (blk_cell BK158.out 0).trans rfl, (blk_cell BK158.out 1).trans rfl, (blk_cell BK158.out 2).trans rfl⟩ (fun hHeld => ?_); refine with_tabW spec_CrewOk.tab7 spec_CrewOk.bits7 (fun HT_ HW_ => ?_)
            generalize w50.drew = w51 at BK158 BK161 HB hHeld ⊢
            refine pure_ (i := 0) (N := some 26) (v := ?_) (a' := ?_) (bqz 44 1) rfl rfl qza qzd (Or.inl ⟨by rfl, ?_⟩) ?_ ?_
            rotate_left
            {
            intro w'
            go_simp
            with_reducible rfl
            }
            rotate_left
            {
            simp only [qzs]
            rfl
            }
            refine take_ (i := 1) (N := some 27) (v := ?_) (a' := ?_) (bqz 44 3) rfl rfl qzb qzd (Or.inl ⟨by rfl, ?_⟩) hHeld ?_ ?_
            rotate_left
            {
            rintro w' ⟨s0, s1, s2, s3, s4, s5, s6, s7⟩
            go_simp
            with_reducible rfl
            }
            rotate_left
            {
            simp only [qzs]
            rfl
            }
            refine one_ (i := 2) (N := some 28) (bqz 44 7) rfl rfl qzc (by decide) (fun K hK => ?_)
            refine goes_ Try.func90 (by kernel_rfl) rfl #[.int .i64 ((rd_T34 l1 x5_2).f0), .int .i64 1, .int .i64 99] (by rfl) rfl rfl qz2 ?_
            with_reducible refine (spec_l1In.calls ((rd_T34 l1 x5_2).f0) 1 99 true _ A18.out).mono ?_
            rintro e w' ⟨rfl, ⟨nd, rfl⟩⟩
            refine ⟨_, rfl, ?_⟩
            refine hK.out _ _ ⟨(blk_cell BK161.out 0).trans rfl, (blk_cell BK161.out 1).trans rfl, (blk_cell BK161.out 2).trans rfl, (blk_cell BK161.out 3).trans rfl, (blk_cell BK161.out 4).trans rfl, (blk_cell BK158.out 0).trans rfl, (blk_cell BK158.out 1).trans rfl, (blk_cell BK158.out 2).trans rfl⟩ (fun hHeld => ?_)
            clear hK K
            refine norm_ (a' := ?_) ?_ ?_
            rotate_left
            {
            show Act.put _ (some 28) _ = _
            simp only [qzs]
            rfl
            }
            refine pure_ (i := 3) (N := some 29) (v := ?_) (a' := ?_) (bqz 44 15) rfl rfl qza qzd (Or.inl ⟨by rfl, ?_⟩) ?_ ?_
            rotate_left
            {
            intro w'
            go_simp
            with_reducible rfl
            }
            rotate_left
            {
            simp only [qzs]
            rfl
            }
            refine pure_ (i := 4) (N := some 30) (v := ?_) (a' := ?_) (bqz 44 31) rfl rfl qza qzd (Or.inl ⟨by rfl, ?_⟩) ?_ ?_
            rotate_left
            {
            intro w'
            go_simp
            with_reducible rfl
            }
            rotate_left
            {
            simp only [qzs]
            rfl
            }
            refine pure_ (i := 6) (N := some 32) (v := ?_) (a' := ?_) (bqz 44 95) rfl rfl qza qzd (Or.inl ⟨by rfl, ?_⟩) ?_ ?_
            rotate_left
            {
            intro w'
            go_simp
            with_reducible rfl
            }
            rotate_left
            {
            simp only [qzs]
            rfl
            }
            refine take_ (i := 5) (N := some 31) (v := ?_) (a' := ?_) (bqz 44 127) rfl rfl qzb qzd (Or.inl ⟨by rfl, ?_⟩) hHeld ?_ ?_
            rotate_left
            {
            rintro w' ⟨s0, s1, s2, s3, s4, s5, s6, s7⟩
            go_simp
            with_reducible rfl
            }
            rotate_left
            {
            simp only [qzs]
            rfl
            }
            refine take_ (i := 7) (N := some 33) (v := ?_) (a' := ?_) (bqz 44 255) rfl rfl qzb qzd (Or.inl ⟨by rfl, ?_⟩) hHeld ?_ ?_
            rotate_left
            {
            rintro w' ⟨s0, s1, s2, s3, s4, s5, s6, s7⟩
            go_simp
            with_reducible rfl
            }
            rotate_left
            {
            simp only [qzs]
            rfl
            }
            refine one_ (i := 8) (N := some 34) (bqz 44 511) rfl rfl qzc (by decide) (fun K hK => ?_)
            refine goes_ Try.func107 (by kernel_rfl) rfl #[.agg #[.int .i64 a0_0, .int .i64 a0_1, .slice A0_2 l0_2.length c0_2], .int .i64 ((rd_T34 l1 x5_2).f1)] (by rfl) rfl rfl qz2 ?_
            with_reducible refine (spec_l7Free.calls a0_0 a0_1 _ _ l0_2 ((rd_T34 l1 x5_2).f1) true _ ?side1 ?side2 A20.out).mono ?_
            (case side1 => repeat (first | exact (Kd.C_below HR0_2.out qz4) | (with_reducible refine Kd.C_alloc ?_ _) | (with_reducible refine Kd.C_drewN ?_ _) | (with_reducible refine Kd.C_drew ?_)))
            (case side2 => exact HC0_2.out)
            rintro e w52 ⟨rfl, hb⟩
            refine ⟨_, rfl, ?_⟩
            have n0_ := Aside0.mk (blk_below (g := gb158) (o := .cells #[.int .i64 a0_0, .int .i64 a0_1, .slice A0_2 l0_2.length c0_2] 26 (0, 0)) qz11 hb)
            have n1_ := Aside0.mk (blk_below (g := gb161) (o := .cells #[.int .i64 ((rd_T34 l1 x5_2).f0), .int .i64 ((rd_T34 l1 x5_2).f1), .int .i64 ((rd_T34 l1 x5_2).f2), .bool ((rd_T34 l1 x5_2).f3), .int .i64 ((rd_T34 l1 x5_2).f4)] 34 (0, 0)) (by (with_reducible repeat (first | refine blk_drewN ?_ _ | refine blk_drew ?_ | refine blk_alloc ?_ _)); exact BK161.out) hb)
            have n2_ := Aside0.mk (below_step qz4 hb)
            clear BK158
            clear BK161
            clear HB
            have BK158 := n0_
            have BK161 := n1_
            have HB := n2_
            clear n0_ n1_ n2_
            (try clear hb)
            (try clear hb2)
            (try clear hk)
            (try clear hi)
            refine hK.out _ _ ⟨(blk_cell BK161.out 0).trans rfl, (blk_cell BK161.out 1).trans rfl, (blk_cell BK161.out 2).trans rfl, (blk_cell BK161.out 3).trans rfl, (blk_cell BK161.out 4).trans rfl, (blk_cell BK158.out 0).trans rfl, (blk_cell BK158.out 1).trans rfl, (blk_cell BK158.out 2).trans rfl⟩ (fun hHeld => ?_)
            clear hK K
            refine norm_ (a' := ?_) ?_ ?_
            rotate_left
            {
            show Act.put _ (some 34) _ = _
            simp only [qzs]
            rfl
            }
            refine pure_ (i := 9) (N := some 35) (v := ?_) (a' := ?_) (bqz 44 1023) rfl rfl qza qzd (Or.inl ⟨by rfl, ?_⟩) ?_ ?_
            rotate_left
            {
            intro w'
            go_simp
            with_reducible rfl
            }
            rotate_left
            {
            simp only [qzs]
            rfl
            }
            refine pure_ (i := 10) (N := some 36) (v := ?_) (a' := ?_) (bqz 44 2047) rfl rfl qza qzd (Or.inl ⟨by rfl, ?_⟩) ?_ ?_
            rotate_left
            {
            intro w'
            go_simp
            with_reducible rfl
            }
            rotate_left
            {
            simp only [qzs]
            rfl
            }
            refine pure_ (i := 11) (N := some 37) (v := ?_) (a' := ?_) (bqz 44 4095) rfl rfl qza qzd (Or.inl ⟨by rfl, ?_⟩) ?_ ?_
            rotate_left
            {
            intro w'
            go_simp
            with_reducible rfl
            }
            rotate_left
            {
            simp only [qzs]
            rfl
            }
            refine pure_ (i := 12) (N := some 38) (v := ?_) (a' := ?_) (bqz 44 8191) rfl rfl qza qzd (Or.inl ⟨by rfl, ?_⟩) ?_ ?_
            rotate_left
            {
            intro w'
            go_simp
            with_reducible rfl
            }
            rotate_left
            {
            simp only [qzs]
            rfl
            }
            refine take_ (i := 13) (N := some 39) (v := ?_) (a' := ?_) (bqz 44 16383) rfl rfl qzb qzd (Or.inl ⟨by rfl, ?_⟩) hHeld ?_ ?_
            rotate_left
            {
            rintro w' ⟨s0, s1, s2, s3, s4, s5, s6, s7⟩
            go_simp
            with_reducible rfl
            }
            rotate_left
            {
            simp only [qzs]
            rfl
            }
            refine pure_ (i := 14) (N := some 40) (v := ?_) (a' := ?_) (bqz 44 32767) rfl rfl qza qzd (Or.inl ⟨by rfl, ?_⟩) ?_ ?_
            rotate_left
            {
            intro w'
            go_simp
            with_reducible rfl
            }
            rotate_left
            {
            simp only [qzs]
            rfl
            }
            refine pure_ (i := 15) (N := some 41) (v := ?_) (a' := ?_) (bqz 44 65535) rfl rfl qza qzd (Or.inl ⟨by rfl, ?_⟩) ?_ ?_
            rotate_left
            {
            intro w'
            go_simp
            with_reducible rfl
            }
            rotate_left
            {
            simp only [qzs]
            rfl
            }
            refine pure_ (i := 17) (N := some 43) (v := ?_) (a' := ?_) (bqz 44 196607) rfl rfl qza qzd (Or.inl ⟨by rfl, ?_⟩) ?_ ?_
            rotate_left
            {
            intro w'
            go_simp
            with_reducible rfl
            }
            rotate_left
            {
            simp only [qzs]
            rfl
            }
            refine take_ (i := 16) (N := some 42) (v := ?_) (a' := ?_) (bqz 44 262143) rfl rfl qzb qzd (Or.inl ⟨by rfl, ?_⟩) hHeld ?_ ?_
            rotate_left
            {
            rintro w' ⟨s0, s1, s2, s3, s4, s5, s6, s7⟩
            go_simp
            with_reducible rfl
            }
            rotate_left
            {
            simp only [qzs]
            rfl
            }
            refine take_ (i := 18) (N := some 44) (v := ?_) (a' := ?_) (bqz 44 524287) rfl rfl qzb qzd (Or.inl ⟨by rfl, ?_⟩) hHeld ?_ ?_
            rotate_left
            {
            rintro w' ⟨s0, s1, s2, s3, s4, s5, s6, s7⟩
            go_simp
            with_reducible rfl
            }
            rotate_left
            {
            simp only [qzs]
            rfl
            }
            refine one_ (i := 19) (N := some 45) (bqz 44 1048575) rfl rfl qzc (by decide) (fun K hK => ?_)
            refine goes_ Try.func107 (by kernel_rfl) rfl #[.agg #[.int .i64 a0_0, .int .i64 a0_1, .slice A0_2 l0_2.length c0_2], .int .i64 ((rd_T34 l1 x5_2).f2)] (by rfl) rfl rfl qz2 ?_
            with_reducible refine (spec_l7Free.calls a0_0 a0_1 _ _ l0_2 ((rd_T34 l1 x5_2).f2) true _ ?side1 ?side2 A38.out).mono ?_
            (case side1 => repeat (first | exact (Kd.C_below HR0_2.out HB.out) | (with_reducible refine Kd.C_alloc ?_ _) | (with_reducible refine Kd.C_drewN ?_ _) | (with_reducible refine Kd.C_drew ?_)))
            (case side2 => exact HC0_2.out)
            rintro e w53 ⟨rfl, hb⟩
            refine ⟨_, rfl, ?_⟩
            have n0_ := Aside0.mk (blk_below (g := gb158) (o := .cells #[.int .i64 a0_0, .int .i64 a0_1, .slice A0_2 l0_2.length c0_2] 26 (0, 0)) qz11 hb)
            have n1_ := Aside0.mk (blk_below (g := gb161) (o := .cells #[.int .i64 ((rd_T34 l1 x5_2).f0), .int .i64 ((rd_T34 l1 x5_2).f1), .int .i64 ((rd_T34 l1 x5_2).f2), .bool ((rd_T34 l1 x5_2).f3), .int .i64 ((rd_T34 l1 x5_2).f4)] 34 (0, 0)) (by (with_reducible repeat (first | refine blk_drewN ?_ _ | refine blk_drew ?_ | refine blk_alloc ?_ _)); exact BK161.out) hb)
            have n2_ := Aside0.mk (below_step qz4 hb)
            clear BK158
            clear BK161
            clear HB
            have BK158 := n0_
            have BK161 := n1_
            have HB := n2_
            clear n0_ n1_ n2_
            (try clear hb)
            (try clear hb2)
            (try clear hk)
            (try clear hi)
            refine hK.out _ _ ⟨(blk_cell BK161.out 0).trans rfl, (blk_cell BK161.out 1).trans rfl, (blk_cell BK161.out 2).trans rfl, (blk_cell BK161.out 3).trans rfl, (blk_cell BK161.out 4).trans rfl, (blk_cell BK158.out 0).trans rfl, (blk_cell BK158.out 1).trans rfl, (blk_cell BK158.out 2).trans rfl⟩ (fun hHeld => ?_)
            clear hK K
            refine norm_ (a' := ?_) ?_ ?_
            rotate_left
            {
            show Act.put _ (some 45) _ = _
            simp only [qzs]
            rfl
            }
            refine pure_ (i := 20) (N := some 46) (v := ?_) (a' := ?_) (bqz 44 2097151) rfl rfl qza qzd (Or.inl ⟨by rfl, ?_⟩) ?_ ?_
            rotate_left
            {
            intro w'
            go_simp
            with_reducible rfl
            }
            rotate_left
            {
            simp only [qzs]
            rfl
            }
            refine pure_ (i := 21) (N := some 47) (v := ?_) (a' := ?_) (bqz 44 4194303) rfl rfl qza qzd (Or.inl ⟨by rfl, ?_⟩) ?_ ?_
            rotate_left
            {
            intro w'
            go_simp
            with_reducible rfl
            }
            rotate_left
            {
            simp only [qzs]
            rfl
            }
            refine pure_ (i := 22) (N := some 48) (v := ?_) (a' := ?_) (bqz 44 8388607) rfl rfl qza qzd (Or.inl ⟨by rfl, ?_⟩) ?_ ?_
            rotate_left
            {
            intro w'
            go_simp
            with_reducible rfl
            }
            rotate_left
            {
            simp only [qzs]
            rfl
            }
            refine pure_ (i := 23) (N := some 49) (v := ?_) (a' := ?_) (bqz 44 16777215) rfl rfl qza qzd (Or.inl ⟨by rfl, ?_⟩) ?_ ?_
            rotate_left
            {
            intro w'
            go_simp
            with_reducible rfl
            }
            rotate_left
            {
            simp only [qzs]
            rfl
            }
            refine pure_ (i := 24) (N := some 50) (v := ?_) (a' := ?_) (bqz 44 33554431) rfl rfl qza qzd (Or.inl ⟨by rfl, ?_⟩) ?_ ?_
            rotate_left
            {
            intro w'
            go_simp
            with_reducible rfl
            }
            rotate_left
            {
            simp only [qzs]
            rfl
            }
            refine take_ (i := 25) (N := some 51) (v := ?_) (a' := ?_) (bqz 44 67108863) rfl rfl qzb qzd (Or.inl ⟨by rfl, ?_⟩) hHeld ?_ ?_
            rotate_left
            {
            rintro w' ⟨s0, s1, s2, s3, s4, s5, s6, s7⟩
            go_simp
            with_reducible rfl
            }
            rotate_left
            {
            simp only [qzs]
            rfl
            }
            refine one_ (i := 26) (N := some 52) (bqz 44 134217727) rfl rfl qzc (by decide) (fun K hK => ?_)
            refine goes_ Try.func90 (by kernel_rfl) rfl #[.int .i64 ((rd_T34 l1 x5_2).f4), .int .i64 0, .int .i64 1000000] (by rfl) rfl rfl qz2 ?_
            with_reducible refine (spec_l1In.calls ((rd_T34 l1 x5_2).f4) 0 1000000 true _ A40.out).mono ?_
            rintro e w' ⟨rfl, ⟨nd, rfl⟩⟩
            refine ⟨_, rfl, ?_⟩
            refine hK.out _ _ ⟨(blk_cell BK161.out 0).trans rfl, (blk_cell BK161.out 1).trans rfl, (blk_cell BK161.out 2).trans rfl, (blk_cell BK161.out 3).trans rfl, (blk_cell BK161.out 4).trans rfl, (blk_cell BK158.out 0).trans rfl, (blk_cell BK158.out 1).trans rfl, (blk_cell BK158.out 2).trans rfl⟩ (fun hHeld => ?_)
            clear hK K
            refine norm_ (a' := ?_) ?_ ?_
            rotate_left
            {
            show Act.put _ (some 52) _ = _
            simp only [qzs]
            rfl
            }
            refine pure_ (i := 27) (N := some 53) (v := ?_) (a' := ?_) (bqz 44 268435455) rfl rfl qza qzd (Or.inl ⟨by rfl, ?_⟩) ?_ ?_
            rotate_left
            {
            intro w'
            go_simp
            with_reducible rfl
            }
            rotate_left
            {
            simp only [qzs]
            rfl
            }
            refine pure_ (i := 28) (N := some 54) (v := ?_) (a' := ?_) (bqz 44 536870911) rfl rfl qza qzd (Or.inl ⟨by rfl, ?_⟩) ?_ ?_
            rotate_left
            {
            intro w'
            go_simp
            with_reducible rfl
            }
            rotate_left
            {
            simp only [qzs]
            rfl
            }
            refine pure_ (i := 29) (N := some 55) (v := ?_) (a' := ?_) (bqz 44 1073741823) rfl rfl qza qzd (Or.inl ⟨by rfl, ?_⟩) ?_ ?_
            rotate_left
            {
            intro w'
            go_simp
            with_reducible rfl
            }
            rotate_left
            {
            simp only [qzs]
            rfl
            }
            refine pure_ (i := 30) (N := some 56) (v := ?_) (a' := ?_) (bqz 44 2147483647) rfl rfl qza qzd (Or.inl ⟨by rfl, ?_⟩) ?_ ?_
            rotate_left
            {
            intro w'
            go_simp
            with_reducible rfl
            }
            rotate_left
            {
            simp only [qzs]
            rfl
            }
            refine pure_ (i := 31) (N := some 57) (v := ?_) (a' := ?_) (bqz 44 4294967295) rfl rfl qza qzd (Or.inl ⟨by rfl, ?_⟩) ?_ ?_
            rotate_left
            {
            intro w'
            go_simp
            with_reducible rfl
            }
            rotate_left
            {
            simp only [qzs]
            rfl
            }
            refine pure_ (i := 32) (N := some 58) (v := ?_) (a' := ?_) (bqz 44 8589934591) rfl rfl qza qzd (Or.inl ⟨by rfl, ?_⟩) ?_ ?_
            rotate_left
            {
            intro w'
            go_simp
            with_reducible rfl
            }
            rotate_left
            {
            simp only [qzs]
            rfl
            }
            refine pure_ (i := 33) (N := some 59) (v := undef) (a' := ?_) (bqz 44 17179869183) rfl rfl qza qzd (Or.inr ⟨by rfl, rfl⟩) ?_ ?_
            rotate_left
            {
            simp only [qzs]
            rfl
            }
            refine pure_ (i := 34) (N := some 60) (v := undef) (a' := ?_) (bqz 44 34359738367) rfl rfl qza qzd (Or.inr ⟨by rfl, rfl⟩) ?_ ?_
            rotate_left
            {
            simp only [qzs]
            rfl
            }
            refine pure_ (i := 35) (N := some 61) (v := undef) (a' := ?_) (bqz 44 68719476735) rfl rfl qza qzd (Or.inr ⟨by rfl, rfl⟩) ?_ ?_
            rotate_left
            {
            simp only [qzs]
            rfl
            }
            refine pure_ (i := 36) (N := some 62) (v := undef) (a' := ?_) (bqz 44 137438953471) rfl rfl qza qzd (Or.inr ⟨by rfl, rfl⟩) ?_ ?_
            rotate_left
            {
            simp only [qzs]
            rfl
            }
            refine pure_ (i := 37) (N := some 63) (v := undef) (a' := ?_) (bqz 44 274877906943) rfl rfl qza qzd (Or.inr ⟨by rfl, rfl⟩) ?_ ?_
            rotate_left
            {
            simp only [qzs]
            rfl
            }
            refine pure_ (i := 38) (N := some 64) (v := undef) (a' := ?_) (bqz 44 549755813887) rfl rfl qza qzd (Or.inr ⟨by rfl, rfl⟩) ?_ ?_
            rotate_left
            {
            simp only [qzs]
            rfl
            }
            refine pure_ (i := 39) (N := some 65) (v := undef) (a' := ?_) (bqz 44 1099511627775) rfl rfl qza qzd (Or.inr ⟨by rfl, rfl⟩) ?_ ?_
            rotate_left
            {
            simp only [qzs]
            rfl
            }
            refine pure_ (i := 40) (N := some 66) (v := undef) (a' := ?_) (bqz 44 2199023255551) rfl rfl qza qzd (Or.inr ⟨by rfl, rfl⟩) ?_ ?_
            rotate_left
            {
            simp only [qzs]
            rfl
            }
            refine pure_ (i := 41) (N := some 67) (v := undef) (a' := ?_) (bqz 44 4398046511103) rfl rfl qza qzd (Or.inr ⟨by rfl, rfl⟩) ?_ ?_
            rotate_left
            {
            simp only [qzs]
            rfl
            }
            refine pure_ (i := 42) (N := some 68) (v := ?_) (a' := ?_) (bqz 44 8796093022207) rfl rfl qza qzd (Or.inl ⟨by rfl, ?_⟩) ?_ ?_
            rotate_left
            {
            intro w'
            go_simp
            with_reducible rfl
            }
            rotate_left
            {
            simp only [qzs]
            rfl
            }
            refine pure_ (i := 43) (N := some 69) (v := ?_) (a' := ?_) (bqz 44 17592186044415) rfl rfl qza qzd (Or.inl ⟨by rfl, ?_⟩) ?_ ?_
            rotate_left
            {
            intro w'
            go_simp
            with_reducible rfl
            }
            rotate_left
            {
            simp only [qzs]
            rfl
            }
            refine done_ (done_of HT_.out (by kernel_rfl)) ?_
            try go_wp2
            go_meet
            case rel => exact ⟨_, (false), qz14, H', ⟨by have := HJ2.out; have := HK2.out; first | omega | exact Nat.le_refl _⟩, ⟨by (with_reducible repeat (first | refine blk_drewN ?_ _ | refine blk_drew ?_ | refine blk_alloc ?_ _)); exact BK158.out⟩, ⟨by (with_reducible repeat (first | refine blk_drewN ?_ _ | refine blk_drew ?_ | refine blk_alloc ?_ _)); exact BK161.out⟩, ⟨by repeat (first | (with_reducible first | exact HB.out | apply below_alloc | apply pw_below_drewN | apply below_drew1 | refine below_set ?_ GE158.out | refine below_set ?_ GE161.out) | exact HB.out)⟩⟩
            }
            }
            {
            replace c41 := Bool.eq_false_iff.mpr c41
            subst c41
            have H1 : (spec_CrewOk.j2 k2 l1 x5_2 true a0_0 a0_1 l0_2 ((rd_T34 l1 x5_2).f0) ((rd_T34 l1 x5_2).f1) ((rd_T34 l1 x5_2).f2) ((rd_T34 l1 x5_2).f3) ((rd_T34 l1 x5_2).f4)) = some r := by rw [if_neg (show ¬ (false = true) by decide)] at H; exact H
            clear H
            have H := H1
            clear H1
            have H' := Aside0.mk H
            clear H
            try go_wp2
            generalize hq_ : (((((w15.setCell ⟨gb161, 0, none⟩ (.int .i64 ((rd_T34 l1 x5_2).f0))).setCell ⟨gb161, 1, none⟩ (.int .i64 ((rd_T34 l1 x5_2).f1))).setCell ⟨gb161, 2, none⟩ (.int .i64 ((rd_T34 l1 x5_2).f2))).setCell ⟨gb161, 3, none⟩ (.bool ((rd_T34 l1 x5_2).f3))).setCell ⟨gb161, 4, none⟩ (.int .i64 ((rd_T34 l1 x5_2).f4))) = w54
            have n0_ : Aside0 (w54.heap[gb158]? = some (.cells #[.int .i64 a0_0, .int .i64 a0_1, .slice A0_2 l0_2.length c0_2] 26 (0, 0))) := ⟨by rw [← hq_]; exact qz3⟩
            have n1_ : Aside0 (w54.heap[gb161]? = some (.cells #[.int .i64 ((rd_T34 l1 x5_2).f0), .int .i64 ((rd_T34 l1 x5_2).f1), .int .i64 ((rd_T34 l1 x5_2).f2), .bool ((rd_T34 l1 x5_2).f3), .int .i64 ((rd_T34 l1 x5_2).f4)] 34 (0, 0))) := ⟨by rw [← hq_]; exact (by (with_reducible repeat (first | refine blk_drewN ?_ _ | refine blk_drew ?_ | refine blk_alloc ?_ _)); refine blk_put (cs := #[.int .i64 ((rd_T34 l1 x5_2).f0), .int .i64 ((rd_T34 l1 x5_2).f1), .int .i64 ((rd_T34 l1 x5_2).f2), .bool ((rd_T34 l1 x5_2).f3), .int .i64 0]) ?_ 4 _ rfl; (with_reducible repeat (first | refine blk_drewN ?_ _ | refine blk_drew ?_ | refine blk_alloc ?_ _)); refine blk_put (cs := #[.int .i64 ((rd_T34 l1 x5_2).f0), .int .i64 ((rd_T34 l1 x5_2).f1), .int .i64 ((rd_T34 l1 x5_2).f2), .bool false, .int .i64 0]) ?_ 3 _ rfl; (with_reducible repeat (first | refine blk_drewN ?_ _ | refine blk_drew ?_ | refine blk_alloc ?_ _)); refine blk_put (cs := #[.int .i64 ((rd_T34 l1 x5_2).f0), .int .i64 ((rd_T34 l1 x5_2).f1), .int .i64 0, .bool false, .int .i64 0]) ?_ 2 _ rfl; (with_reducible repeat (first | refine blk_drewN ?_ _ | refine blk_drew ?_ | refine blk_alloc ?_ _)); refine blk_put (cs := #[.int .i64 ((rd_T34 l1 x5_2).f0), .int .i64 0, .int .i64 0, .bool false, .int .i64 0]) ?_ 1 _ rfl; (with_reducible repeat (first | refine blk_drewN ?_ _ | refine blk_drew ?_ | refine blk_alloc ?_ _)); refine blk_put (cs := #[.int .i64 0, .int .i64 0, .int .i64 0, .bool false, .int .i64 0]) ?_ 0 _ rfl; (with_reducible repeat (first | refine blk_drewN ?_ _ | refine blk_drew ?_ | refine blk_alloc ?_ _)); exact BK161.out)⟩
            have n2_ : Aside0 (Below w.heap.size w w54) := ⟨by rw [← hq_]; exact qz4⟩
            (try clear BK158)
            (try clear BK161)
            (try clear HB)
            clear hq_
            have BK158 := n0_
            have BK161 := n1_
            have HB := n2_
            clear n0_ n1_ n2_
            have n0_ := Aside0.mk (blk_drew BK158.out)
            have n1_ := Aside0.mk (blk_drew BK161.out)
            have n2_ := Aside0.mk (below_drew1 HB.out)
            clear BK158
            clear BK161
            clear HB
            have BK158 := n0_
            have BK161 := n1_
            have HB := n2_
            clear n0_ n1_ n2_
            refine start_ (n := 44) (S := fun w' => w'.cell? ⟨gb161, 0, none⟩ = some (.int .i64 ((rd_T34 l1 x5_2).f0)) ∧ w'.cell? ⟨gb161, 1, none⟩ = some (.int .i64 ((rd_T34 l1 x5_2).f1)) ∧ w'.cell? ⟨gb161, 2, none⟩ = some (.int .i64 ((rd_T34 l1 x5_2).f2)) ∧ w'.cell? ⟨gb161, 3, none⟩ = some (.bool ((rd_T34 l1 x5_2).f3)) ∧ w'.cell? ⟨gb161, 4, none⟩ = some (.int .i64 ((rd_T34 l1 x5_2).f4)) ∧ w'.cell? ⟨gb158, 0, none⟩ = some (.int .i64 a0_0) ∧ w'.cell? ⟨gb158, 1, none⟩ = some (.int .i64 a0_1) ∧ w'.cell? ⟨gb158, 2, none⟩ = some (.slice A0_2 l0_2.length c0_2)) (ds := []) #[false, false, false, false, false, false, false, false, false, false, false, false, false, false, false, false, false, false, false, false, false, false, false, false, false, false, false, false, false, false, false, false, false, false, false, false, false, false, false, false, false, false, false, false] (by kernel_rfl) rfl rfl ⟨(blk_cell BK161.out 0).trans rfl, (blk_cell BK161.out 1).trans rfl, (blk_cell BK161.out 2).trans rfl, (blk_cell BK161.out 3).trans rfl, (blk_cell BK161.out 4).trans rfl, (blk_cell BK158.out 0).trans rfl, (blk_cell BK158.out 1).trans rfl, (blk_cell BK158.out 2).trans rfl⟩ (fun hHeld => ?_); refine with_tabW spec_CrewOk.tab7 spec_CrewOk.bits7 (fun HT_ HW_ => ?_)
            generalize w54.drew = w55 at BK158 BK161 HB hHeld ⊢
            refine pure_ (i := 0) (N := some 26) (v := ?_) (a' := ?_) (bqz 44 1) rfl rfl qza qzd (Or.inl ⟨by rfl, ?_⟩) ?_ ?_
            rotate_left
            {
            intro w'
            go_simp
            with_reducible rfl
            }
            rotate_left
            {
            simp only [qzs]
            rfl
            }
            refine take_ (i := 1) (N := some 27) (v := ?_) (a' := ?_) (bqz 44 3) rfl rfl qzb qzd (Or.inl ⟨by rfl, ?_⟩) hHeld ?_ ?_
            rotate_left
            {
            rintro w' ⟨s0, s1, s2, s3, s4, s5, s6, s7⟩
            go_simp
            with_reducible rfl
            }
            rotate_left
            {
            simp only [qzs]
            rfl
            }
            refine one_ (i := 2) (N := some 28) (bqz 44 7) rfl rfl qzc (by decide) (fun K hK => ?_)
            refine goes_ Try.func90 (by kernel_rfl) rfl #[.int .i64 ((rd_T34 l1 x5_2).f0), .int .i64 1, .int .i64 99] (by rfl) rfl rfl qz2 ?_
            with_reducible refine (spec_l1In.calls ((rd_T34 l1 x5_2).f0) 1 99 true _ A18.out).mono ?_
            rintro e w' ⟨rfl, ⟨nd, rfl⟩⟩
            refine ⟨_, rfl, ?_⟩
            refine hK.out _ _ ⟨(blk_cell BK161.out 0).trans rfl, (blk_cell BK161.out 1).trans rfl, (blk_cell BK161.out 2).trans rfl, (blk_cell BK161.out 3).trans rfl, (blk_cell BK161.out 4).trans rfl, (blk_cell BK158.out 0).trans rfl, (blk_cell BK158.out 1).trans rfl, (blk_cell BK158.out 2).trans rfl⟩ (fun hHeld => ?_)
            clear hK K
            refine norm_ (a' := ?_) ?_ ?_
            rotate_left
            {
            show Act.put _ (some 28) _ = _
            simp only [qzs]
            rfl
            }
            refine pure_ (i := 3) (N := some 29) (v := ?_) (a' := ?_) (bqz 44 15) rfl rfl qza qzd (Or.inl ⟨by rfl, ?_⟩) ?_ ?_
            rotate_left
            {
            intro w'
            go_simp
            with_reducible rfl
            }
            rotate_left
            {
            simp only [qzs]
            rfl
            }
            refine pure_ (i := 4) (N := some 30) (v := ?_) (a' := ?_) (bqz 44 31) rfl rfl qza qzd (Or.inl ⟨by rfl, ?_⟩) ?_ ?_
            rotate_left
            {
            intro w'
            go_simp
            with_reducible rfl
            }
            rotate_left
            {
            simp only [qzs]
            rfl
            }
            refine pure_ (i := 6) (N := some 32) (v := ?_) (a' := ?_) (bqz 44 95) rfl rfl qza qzd (Or.inl ⟨by rfl, ?_⟩) ?_ ?_
            rotate_left
            {
            intro w'
            go_simp
            with_reducible rfl
            }
            rotate_left
            {
            simp only [qzs]
            rfl
            }
            refine take_ (i := 5) (N := some 31) (v := ?_) (a' := ?_) (bqz 44 127) rfl rfl qzb qzd (Or.inl ⟨by rfl, ?_⟩) hHeld ?_ ?_
            rotate_left
            {
            rintro w' ⟨s0, s1, s2, s3, s4, s5, s6, s7⟩
            go_simp
            with_reducible rfl
            }
            rotate_left
            {
            simp only [qzs]
            rfl
            }
            refine take_ (i := 7) (N := some 33) (v := ?_) (a' := ?_) (bqz 44 255) rfl rfl qzb qzd (Or.inl ⟨by rfl, ?_⟩) hHeld ?_ ?_
            rotate_left
            {
            rintro w' ⟨s0, s1, s2, s3, s4, s5, s6, s7⟩
            go_simp
            with_reducible rfl
            }
            rotate_left
            {
            simp only [qzs]
            rfl
            }
            refine one_ (i := 8) (N := some 34) (bqz 44 511) rfl rfl qzc (by decide) (fun K hK => ?_)
            refine goes_ Try.func107 (by kernel_rfl) rfl #[.agg #[.int .i64 a0_0, .int .i64 a0_1, .slice A0_2 l0_2.length c0_2], .int .i64 ((rd_T34 l1 x5_2).f1)] (by rfl) rfl rfl qz2 ?_
            with_reducible refine (spec_l7Free.calls a0_0 a0_1 _ _ l0_2 ((rd_T34 l1 x5_2).f1) true _ ?side1 ?side2 A20.out).mono ?_
            (case side1 => repeat (first | exact (Kd.C_below HR0_2.out qz4) | (with_reducible refine Kd.C_alloc ?_ _) | (with_reducible refine Kd.C_drewN ?_ _) | (with_reducible refine Kd.C_drew ?_)))
            (case side2 => exact HC0_2.out)
            rintro e w56 ⟨rfl, hb⟩
            refine ⟨_, rfl, ?_⟩
            have n0_ := Aside0.mk (blk_below (g := gb158) (o := .cells #[.int .i64 a0_0, .int .i64 a0_1, .slice A0_2 l0_2.length c0_2] 26 (0, 0)) qz11 hb)
            have n1_ := Aside0.mk (blk_below (g := gb161) (o := .cells #[.int .i64 ((rd_T34 l1 x5_2).f0), .int .i64 ((rd_T34 l1 x5_2).f1), .int .i64 ((rd_T34 l1 x5_2).f2), .bool ((rd_T34 l1 x5_2).f3), .int .i64 ((rd_T34 l1 x5_2).f4)] 34 (0, 0)) (by (with_reducible repeat (first | refine blk_drewN ?_ _ | refine blk_drew ?_ | refine blk_alloc ?_ _)); exact BK161.out) hb)
            have n2_ := Aside0.mk (below_step qz4 hb)
            clear BK158
            clear BK161
            clear HB
            have BK158 := n0_
            have BK161 := n1_
            have HB := n2_
            clear n0_ n1_ n2_
            (try clear hb)
            (try clear hb2)
            (try clear hk)
            (try clear hi)
            refine hK.out _ _ ⟨(blk_cell BK161.out 0).trans rfl, (blk_cell BK161.out 1).trans rfl, (blk_cell BK161.out 2).trans rfl, (blk_cell BK161.out 3).trans rfl, (blk_cell BK161.out 4).trans rfl, (blk_cell BK158.out 0).trans rfl, (blk_cell BK158.out 1).trans rfl, (blk_cell BK158.out 2).trans rfl⟩ (fun hHeld => ?_)
            clear hK K
            refine norm_ (a' := ?_) ?_ ?_
            rotate_left
            {
            show Act.put _ (some 34) _ = _
            simp only [qzs]
            rfl
            }
            refine pure_ (i := 9) (N := some 35) (v := ?_) (a' := ?_) (bqz 44 1023) rfl rfl qza qzd (Or.inl ⟨by rfl, ?_⟩) ?_ ?_
            rotate_left
            {
            intro w'
            go_simp
            with_reducible rfl
            }
            rotate_left
            {
            simp only [qzs]
            rfl
            }
            refine pure_ (i := 10) (N := some 36) (v := ?_) (a' := ?_) (bqz 44 2047) rfl rfl qza qzd (Or.inl ⟨by rfl, ?_⟩) ?_ ?_
            rotate_left
            {
            intro w'
            go_simp
            with_reducible rfl
            }
            rotate_left
            {
            simp only [qzs]
            rfl
            }
            refine pure_ (i := 11) (N := some 37) (v := ?_) (a' := ?_) (bqz 44 4095) rfl rfl qza qzd (Or.inl ⟨by rfl, ?_⟩) ?_ ?_
            rotate_left
            {
            intro w'
            go_simp
            with_reducible rfl
            }
            rotate_left
            {
            simp only [qzs]
            rfl
            }
            refine pure_ (i := 12) (N := some 38) (v := ?_) (a' := ?_) (bqz 44 8191) rfl rfl qza qzd (Or.inl ⟨by rfl, ?_⟩) ?_ ?_
            rotate_left
            {
            intro w'
            go_simp
            with_reducible rfl
            }
            rotate_left
            {
            simp only [qzs]
            rfl
            }
            refine take_ (i := 13) (N := some 39) (v := ?_) (a' := ?_) (bqz 44 16383) rfl rfl qzb qzd (Or.inl ⟨by rfl, ?_⟩) hHeld ?_ ?_
            rotate_left
            {
            rintro w' ⟨s0, s1, s2, s3, s4, s5, s6, s7⟩
            go_simp
            with_reducible rfl
            }
            rotate_left
            {
            simp only [qzs]
            rfl
            }
            refine pure_ (i := 14) (N := some 40) (v := ?_) (a' := ?_) (bqz 44 32767) rfl rfl qza qzd (Or.inl ⟨by rfl, ?_⟩) ?_ ?_
            rotate_left
            {
            intro w'
            go_simp
            with_reducible rfl
            }
            rotate_left
            {
            simp only [qzs]
            rfl
            }
            refine pure_ (i := 15) (N := some 41) (v := ?_) (a' := ?_) (bqz 44 65535) rfl rfl qza qzd (Or.inl ⟨by rfl, ?_⟩) ?_ ?_
            rotate_left
            {
            intro w'
            go_simp
            with_reducible rfl
            }
            rotate_left
            {
            simp only [qzs]
            rfl
            }
            refine pure_ (i := 17) (N := some 43) (v := ?_) (a' := ?_) (bqz 44 196607) rfl rfl qza qzd (Or.inl ⟨by rfl, ?_⟩) ?_ ?_
            rotate_left
            {
            intro w'
            go_simp
            with_reducible rfl
            }
            rotate_left
            {
            simp only [qzs]
            rfl
            }
            refine take_ (i := 16) (N := some 42) (v := ?_) (a' := ?_) (bqz 44 262143) rfl rfl qzb qzd (Or.inl ⟨by rfl, ?_⟩) hHeld ?_ ?_
            rotate_left
            {
            rintro w' ⟨s0, s1, s2, s3, s4, s5, s6, s7⟩
            go_simp
            with_reducible rfl
            }
            rotate_left
            {
            simp only [qzs]
            rfl
            }
            refine take_ (i := 18) (N := some 44) (v := ?_) (a' := ?_) (bqz 44 524287) rfl rfl qzb qzd (Or.inl ⟨by rfl, ?_⟩) hHeld ?_ ?_
            rotate_left
            {
            rintro w' ⟨s0, s1, s2, s3, s4, s5, s6, s7⟩
            go_simp
            with_reducible rfl
            }
            rotate_left
            {
            simp only [qzs]
            rfl
            }
            refine one_ (i := 19) (N := some 45) (bqz 44 1048575) rfl rfl qzc (by decide) (fun K hK => ?_)
            refine goes_ Try.func107 (by kernel_rfl) rfl #[.agg #[.int .i64 a0_0, .int .i64 a0_1, .slice A0_2 l0_2.length c0_2], .int .i64 ((rd_T34 l1 x5_2).f2)] (by rfl) rfl rfl qz2 ?_
            with_reducible refine (spec_l7Free.calls a0_0 a0_1 _ _ l0_2 ((rd_T34 l1 x5_2).f2) true _ ?side1 ?side2 A38.out).mono ?_
            (case side1 => repeat (first | exact (Kd.C_below HR0_2.out HB.out) | (with_reducible refine Kd.C_alloc ?_ _) | (with_reducible refine Kd.C_drewN ?_ _) | (with_reducible refine Kd.C_drew ?_)))
            (case side2 => exact HC0_2.out)
            rintro e w57 ⟨rfl, hb⟩
            refine ⟨_, rfl, ?_⟩
            have n0_ := Aside0.mk (blk_below (g := gb158) (o := .cells #[.int .i64 a0_0, .int .i64 a0_1, .slice A0_2 l0_2.length c0_2] 26 (0, 0)) qz11 hb)
            have n1_ := Aside0.mk (blk_below (g := gb161) (o := .cells #[.int .i64 ((rd_T34 l1 x5_2).f0), .int .i64 ((rd_T34 l1 x5_2).f1), .int .i64 ((rd_T34 l1 x5_2).f2), .bool ((rd_T34 l1 x5_2).f3), .int .i64 ((rd_T34 l1 x5_2).f4)] 34 (0, 0)) (by (with_reducible repeat (first | refine blk_drewN ?_ _ | refine blk_drew ?_ | refine blk_alloc ?_ _)); exact BK161.out) hb)
            have n2_ := Aside0.mk (below_step qz4 hb)
            clear BK158
            clear BK161
            clear HB
            have BK158 := n0_
            have BK161 := n1_
            have HB := n2_
            clear n0_ n1_ n2_
            (try clear hb)
            (try clear hb2)
            (try clear hk)
            (try clear hi)
            refine hK.out _ _ ⟨(blk_cell BK161.out 0).trans rfl, (blk_cell BK161.out 1).trans rfl, (blk_cell BK161.out 2).trans rfl, (blk_cell BK161.out 3).trans rfl, (blk_cell BK161.out 4).trans rfl, (blk_cell BK158.out 0).trans rfl, (blk_cell BK158.out 1).trans rfl, (blk_cell BK158.out 2).trans rfl⟩ (fun hHeld => ?_)
            clear hK K
            refine norm_ (a' := ?_) ?_ ?_
            rotate_left
            {
            show Act.put _ (some 45) _ = _
            simp only [qzs]
            rfl
            }
            refine pure_ (i := 20) (N := some 46) (v := ?_) (a' := ?_) (bqz 44 2097151) rfl rfl qza qzd (Or.inl ⟨by rfl, ?_⟩) ?_ ?_
            rotate_left
            {
            intro w'
            go_simp
            with_reducible rfl
            }
            rotate_left
            {
            simp only [qzs]
            rfl
            }
            refine pure_ (i := 21) (N := some 47) (v := ?_) (a' := ?_) (bqz 44 4194303) rfl rfl qza qzd (Or.inl ⟨by rfl, ?_⟩) ?_ ?_
            rotate_left
            {
            intro w'
            go_simp
            with_reducible rfl
            }
            rotate_left
            {
            simp only [qzs]
            rfl
            }
            refine pure_ (i := 22) (N := some 48) (v := ?_) (a' := ?_) (bqz 44 8388607) rfl rfl qza qzd (Or.inl ⟨by rfl, ?_⟩) ?_ ?_
            rotate_left
            {
            intro w'
            go_simp
            with_reducible rfl
            }
            rotate_left
            {
            simp only [qzs]
            rfl
            }
            refine pure_ (i := 23) (N := some 49) (v := ?_) (a' := ?_) (bqz 44 16777215) rfl rfl qza qzd (Or.inl ⟨by rfl, ?_⟩) ?_ ?_
            rotate_left
            {
            intro w'
            go_simp
            with_reducible rfl
            }
            rotate_left
            {
            simp only [qzs]
            rfl
            }
            refine pure_ (i := 24) (N := some 50) (v := ?_) (a' := ?_) (bqz 44 33554431) rfl rfl qza qzd (Or.inl ⟨by rfl, ?_⟩) ?_ ?_
            rotate_left
            {
            intro w'
            go_simp
            with_reducible rfl
            }
            rotate_left
            {
            simp only [qzs]
            rfl
            }
            refine take_ (i := 25) (N := some 51) (v := ?_) (a' := ?_) (bqz 44 67108863) rfl rfl qzb qzd (Or.inl ⟨by rfl, ?_⟩) hHeld ?_ ?_
            rotate_left
            {
            rintro w' ⟨s0, s1, s2, s3, s4, s5, s6, s7⟩
            go_simp
            with_reducible rfl
            }
            rotate_left
            {
            simp only [qzs]
            rfl
            }
            refine one_ (i := 26) (N := some 52) (bqz 44 134217727) rfl rfl qzc (by decide) (fun K hK => ?_)
            refine goes_ Try.func90 (by kernel_rfl) rfl #[.int .i64 ((rd_T34 l1 x5_2).f4), .int .i64 0, .int .i64 1000000] (by rfl) rfl rfl qz2 ?_
            with_reducible refine (spec_l1In.calls ((rd_T34 l1 x5_2).f4) 0 1000000 false _ A40.out).mono ?_
            rintro e w' ⟨rfl, ⟨nd, rfl⟩⟩
            refine ⟨_, rfl, ?_⟩
            refine hK.out _ _ ⟨(blk_cell BK161.out 0).trans rfl, (blk_cell BK161.out 1).trans rfl, (blk_cell BK161.out 2).trans rfl, (blk_cell BK161.out 3).trans rfl, (blk_cell BK161.out 4).trans rfl, (blk_cell BK158.out 0).trans rfl, (blk_cell BK158.out 1).trans rfl, (blk_cell BK158.out 2).trans rfl⟩ (fun hHeld => ?_)
            clear hK K
            refine norm_ (a' := ?_) ?_ ?_
            rotate_left
            {
            show Act.put _ (some 52) _ = _
            simp only [qzs]
            rfl
            }
            refine pure_ (i := 27) (N := some 53) (v := ?_) (a' := ?_) (bqz 44 268435455) rfl rfl qza qzd (Or.inl ⟨by rfl, ?_⟩) ?_ ?_
            rotate_left
            {
            intro w'
            go_simp
            with_reducible rfl
            }
            rotate_left
            {
            simp only [qzs]
            rfl
            }
            refine pure_ (i := 28) (N := some 54) (v := ?_) (a' := ?_) (bqz 44 536870911) rfl rfl qza qzd (Or.inl ⟨by rfl, ?_⟩) ?_ ?_
            rotate_left
            {
            intro w'
            go_simp
            with_reducible rfl
            }
            rotate_left
            {
            simp only [qzs]
            rfl
            }
            refine pure_ (i := 29) (N := some 55) (v := ?_) (a' := ?_) (bqz 44 1073741823) rfl rfl qza qzd (Or.inl ⟨by rfl, ?_⟩) ?_ ?_
            rotate_left
            {
            intro w'
            go_simp
            with_reducible rfl
            }
            rotate_left
            {
            simp only [qzs]
            rfl
            }
            refine pure_ (i := 30) (N := some 56) (v := undef) (a' := ?_) (bqz 44 2147483647) rfl rfl qza qzd (Or.inr ⟨by rfl, rfl⟩) ?_ ?_
            rotate_left
            {
            simp only [qzs]
            rfl
            }
            refine pure_ (i := 31) (N := some 57) (v := undef) (a' := ?_) (bqz 44 4294967295) rfl rfl qza qzd (Or.inr ⟨by rfl, rfl⟩) ?_ ?_
            rotate_left
            {
            simp only [qzs]
            rfl
            }
            refine pure_ (i := 32) (N := some 58) (v := undef) (a' := ?_) (bqz 44 8589934591) rfl rfl qza qzd (Or.inr ⟨by rfl, rfl⟩) ?_ ?_
            rotate_left
            {
            simp only [qzs]
            rfl
            }
            refine pure_ (i := 33) (N := some 59) (v := undef) (a' := ?_) (bqz 44 17179869183) rfl rfl qza qzd (Or.inr ⟨by rfl, rfl⟩) ?_ ?_
            rotate_left
            {
            simp only [qzs]
            rfl
            }
            refine pure_ (i := 34) (N := some 60) (v := undef) (a' := ?_) (bqz 44 34359738367) rfl rfl qza qzd (Or.inr ⟨by rfl, rfl⟩) ?_ ?_
            rotate_left
            {
            simp only [qzs]
            rfl
            }
            refine pure_ (i := 35) (N := some 61) (v := undef) (a' := ?_) (bqz 44 68719476735) rfl rfl qza qzd (Or.inr ⟨by rfl, rfl⟩) ?_ ?_
            rotate_left
            {
            simp only [qzs]
            rfl
            }
            refine pure_ (i := 36) (N := some 62) (v := undef) (a' := ?_) (bqz 44 137438953471) rfl rfl qza qzd (Or.inr ⟨by rfl, rfl⟩) ?_ ?_
            rotate_left
            {
            simp only [qzs]
            rfl
            }
            refine pure_ (i := 37) (N := some 63) (v := undef) (a' := ?_) (bqz 44 274877906943) rfl rfl qza qzd (Or.inr ⟨by rfl, rfl⟩) ?_ ?_
            rotate_left
            {
            simp only [qzs]
            rfl
            }
            refine pure_ (i := 38) (N := some 64) (v := undef) (a' := ?_) (bqz 44 549755813887) rfl rfl qza qzd (Or.inr ⟨by rfl, rfl⟩) ?_ ?_
            rotate_left
            {
            simp only [qzs]
            rfl
            }
            refine pure_ (i := 39) (N := some 65) (v := undef) (a' := ?_) (bqz 44 1099511627775) rfl rfl qza qzd (Or.inr ⟨by rfl, rfl⟩) ?_ ?_
            rotate_left
            {
            simp only [qzs]
            rfl
            }
            refine pure_ (i := 40) (N := some 66) (v := undef) (a' := ?_) (bqz 44 2199023255551) rfl rfl qza qzd (Or.inr ⟨by rfl, rfl⟩) ?_ ?_
            rotate_left
            {
            simp only [qzs]
            rfl
            }
            refine pure_ (i := 41) (N := some 67) (v := undef) (a' := ?_) (bqz 44 4398046511103) rfl rfl qza qzd (Or.inr ⟨by rfl, rfl⟩) ?_ ?_
            rotate_left
            {
            simp only [qzs]
            rfl
            }
            refine pure_ (i := 42) (N := some 68) (v := undef) (a' := ?_) (bqz 44 8796093022207) rfl rfl qza qzd (Or.inr ⟨by rfl, rfl⟩) ?_ ?_
            rotate_left
            {
            simp only [qzs]
            rfl
            }
            refine pure_ (i := 43) (N := some 69) (v := ?_) (a' := ?_) (bqz 44 17592186044415) rfl rfl qza qzd (Or.inl ⟨by rfl, ?_⟩) ?_ ?_
            rotate_left
            {
            intro w'
            go_simp
            with_reducible rfl
            }
            rotate_left
            {
            simp only [qzs]
            rfl
            }
            refine done_ (done_of HT_.out (by kernel_rfl)) ?_
            try go_wp2
            go_meet
            case rel => exact ⟨_, (true), qz14, H', ⟨by have := HJ2.out; have := HK2.out; first | omega | exact Nat.le_refl _⟩, ⟨by (with_reducible repeat (first | refine blk_drewN ?_ _ | refine blk_drew ?_ | refine blk_alloc ?_ _)); exact BK158.out⟩, ⟨by (with_reducible repeat (first | refine blk_drewN ?_ _ | refine blk_drew ?_ | refine blk_alloc ?_ _)); exact BK161.out⟩, ⟨by repeat (first | (with_reducible first | exact HB.out | apply below_alloc | apply pw_below_drewN | apply below_drew1 | refine below_set ?_ GE158.out | refine below_set ?_ GE161.out) | exact HB.out)⟩⟩
            }
            }
            {
            replace c39 := Bool.eq_false_iff.mpr c39
            subst c39
            have H1 : (spec_CrewOk.j2 k2 l1 x5_2 true a0_0 a0_1 l0_2 ((rd_T34 l1 x5_2).f0) ((rd_T34 l1 x5_2).f1) ((rd_T34 l1 x5_2).f2) ((rd_T34 l1 x5_2).f3) ((rd_T34 l1 x5_2).f4)) = some r := by rw [if_neg (show ¬ (false = true) by decide)] at H; exact H
            clear H
            have H := H1
            clear H1
            have H' := Aside0.mk H
            clear H
            try go_wp2
            generalize hq_ : (((((w15.setCell ⟨gb161, 0, none⟩ (.int .i64 ((rd_T34 l1 x5_2).f0))).setCell ⟨gb161, 1, none⟩ (.int .i64 ((rd_T34 l1 x5_2).f1))).setCell ⟨gb161, 2, none⟩ (.int .i64 ((rd_T34 l1 x5_2).f2))).setCell ⟨gb161, 3, none⟩ (.bool ((rd_T34 l1 x5_2).f3))).setCell ⟨gb161, 4, none⟩ (.int .i64 ((rd_T34 l1 x5_2).f4))) = w58
            have n0_ : Aside0 (w58.heap[gb158]? = some (.cells #[.int .i64 a0_0, .int .i64 a0_1, .slice A0_2 l0_2.length c0_2] 26 (0, 0))) := ⟨by rw [← hq_]; exact qz3⟩
            have n1_ : Aside0 (w58.heap[gb161]? = some (.cells #[.int .i64 ((rd_T34 l1 x5_2).f0), .int .i64 ((rd_T34 l1 x5_2).f1), .int .i64 ((rd_T34 l1 x5_2).f2), .bool ((rd_T34 l1 x5_2).f3), .int .i64 ((rd_T34 l1 x5_2).f4)] 34 (0, 0))) := ⟨by rw [← hq_]; exact (by (with_reducible repeat (first | refine blk_drewN ?_ _ | refine blk_drew ?_ | refine blk_alloc ?_ _)); refine blk_put (cs := #[.int .i64 ((rd_T34 l1 x5_2).f0), .int .i64 ((rd_T34 l1 x5_2).f1), .int .i64 ((rd_T34 l1 x5_2).f2), .bool ((rd_T34 l1 x5_2).f3), .int .i64 0]) ?_ 4 _ rfl; (with_reducible repeat (first | refine blk_drewN ?_ _ | refine blk_drew ?_ | refine blk_alloc ?_ _)); refine blk_put (cs := #[.int .i64 ((rd_T34 l1 x5_2).f0), .int .i64 ((rd_T34 l1 x5_2).f1), .int .i64 ((rd_T34 l1 x5_2).f2), .bool false, .int .i64 0]) ?_ 3 _ rfl; (with_reducible repeat (first | refine blk_drewN ?_ _ | refine blk_drew ?_ | refine blk_alloc ?_ _)); refine blk_put (cs := #[.int .i64 ((rd_T34 l1 x5_2).f0), .int .i64 ((rd_T34 l1 x5_2).f1), .int .i64 0, .bool false, .int .i64 0]) ?_ 2 _ rfl; (with_reducible repeat (first | refine blk_drewN ?_ _ | refine blk_drew ?_ | refine blk_alloc ?_ _)); refine blk_put (cs := #[.int .i64 ((rd_T34 l1 x5_2).f0), .int .i64 0, .int .i64 0, .bool false, .int .i64 0]) ?_ 1 _ rfl; (with_reducible repeat (first | refine blk_drewN ?_ _ | refine blk_drew ?_ | refine blk_alloc ?_ _)); refine blk_put (cs := #[.int .i64 0, .int .i64 0, .int .i64 0, .bool false, .int .i64 0]) ?_ 0 _ rfl; (with_reducible repeat (first | refine blk_drewN ?_ _ | refine blk_drew ?_ | refine blk_alloc ?_ _)); exact BK161.out)⟩
            have n2_ : Aside0 (Below w.heap.size w w58) := ⟨by rw [← hq_]; exact qz4⟩
            (try clear BK158)
            (try clear BK161)
            (try clear HB)
            clear hq_
            have BK158 := n0_
            have BK161 := n1_
            have HB := n2_
            clear n0_ n1_ n2_
            have n0_ := Aside0.mk (blk_drew BK158.out)
            have n1_ := Aside0.mk (blk_drew BK161.out)
            have n2_ := Aside0.mk (below_drew1 HB.out)
            clear BK158
            clear BK161
            clear HB
            have BK158 := n0_
            have BK161 := n1_
            have HB := n2_
            clear n0_ n1_ n2_
            refine start_ (n := 44) (S := fun w' => w'.cell? ⟨gb161, 0, none⟩ = some (.int .i64 ((rd_T34 l1 x5_2).f0)) ∧ w'.cell? ⟨gb161, 1, none⟩ = some (.int .i64 ((rd_T34 l1 x5_2).f1)) ∧ w'.cell? ⟨gb161, 2, none⟩ = some (.int .i64 ((rd_T34 l1 x5_2).f2)) ∧ w'.cell? ⟨gb161, 3, none⟩ = some (.bool ((rd_T34 l1 x5_2).f3)) ∧ w'.cell? ⟨gb161, 4, none⟩ = some (.int .i64 ((rd_T34 l1 x5_2).f4)) ∧ w'.cell? ⟨gb158, 0, none⟩ = some (.int .i64 a0_0) ∧ w'.cell? ⟨gb158, 1, none⟩ = some (.int .i64 a0_1) ∧ w'.cell? ⟨gb158, 2, none⟩ = some (.slice A0_2 l0_2.length c0_2)) (ds := []) #[false, false, false, false, false, false, false, false, false, false, false, false, false, false, false, false, false, false, false, false, false, false, false, false, false, false, false, false, false, false, false, false, false, false, false, false, false, false, false, false, false, false, false, false] (by kernel_rfl) rfl rfl ⟨(blk_cell BK161.out 0).trans rfl, (blk_cell BK161.out 1).trans rfl, (blk_cell BK161.out 2).trans rfl, (blk_cell BK161.out 3).trans rfl, (blk_cell BK161.out 4).trans rfl, (blk_cell BK158.out 0).trans rfl, (blk_cell BK158.out 1).trans rfl, (blk_cell BK158.out 2).trans rfl⟩ (fun hHeld => ?_); refine with_tabW spec_CrewOk.tab7 spec_CrewOk.bits7 (fun HT_ HW_ => ?_)
            generalize w58.drew = w59 at BK158 BK161 HB hHeld ⊢
            refine pure_ (i := 0) (N := some 26) (v := ?_) (a' := ?_) (bqz 44 1) rfl rfl qza qzd (Or.inl ⟨by rfl, ?_⟩) ?_ ?_
            rotate_left
            {
            intro w'
            go_simp
            with_reducible rfl
            }
            rotate_left
            {
            simp only [qzs]
            rfl
            }
            refine take_ (i := 1) (N := some 27) (v := ?_) (a' := ?_) (bqz 44 3) rfl rfl qzb qzd (Or.inl ⟨by rfl, ?_⟩) hHeld ?_ ?_
            rotate_left
            {
            rintro w' ⟨s0, s1, s2, s3, s4, s5, s6, s7⟩
            go_simp
            with_reducible rfl
            }
            rotate_left
            {
            simp only [qzs]
            rfl
            }
            refine one_ (i := 2) (N := some 28) (bqz 44 7) rfl rfl qzc (by decide) (fun K hK => ?_)
            refine goes_ Try.func90 (by kernel_rfl) rfl #[.int .i64 ((rd_T34 l1 x5_2).f0), .int .i64 1, .int .i64 99] (by rfl) rfl rfl qz2 ?_
            with_reducible refine (spec_l1In.calls ((rd_T34 l1 x5_2).f0) 1 99 true _ A18.out).mono ?_
            rintro e w' ⟨rfl, ⟨nd, rfl⟩⟩
            refine ⟨_, rfl, ?_⟩
            refine hK.out _ _ ⟨(blk_cell BK161.out 0).trans rfl, (blk_cell BK161.out 1).trans rfl, (blk_cell BK161.out 2).trans rfl, (blk_cell BK161.out 3).trans rfl, (blk_cell BK161.out 4).trans rfl, (blk_cell BK158.out 0).trans rfl, (blk_cell BK158.out 1).trans rfl, (blk_cell BK158.out 2).trans rfl⟩ (fun hHeld => ?_)
            clear hK K
            refine norm_ (a' := ?_) ?_ ?_
            rotate_left
            {
            show Act.put _ (some 28) _ = _
            simp only [qzs]
            rfl
            }
            refine pure_ (i := 3) (N := some 29) (v := ?_) (a' := ?_) (bqz 44 15) rfl rfl qza qzd (Or.inl ⟨by rfl, ?_⟩) ?_ ?_
            rotate_left
            {
            intro w'
            go_simp
            with_reducible rfl
            }
            rotate_left
            {
            simp only [qzs]
            rfl
            }
            refine pure_ (i := 4) (N := some 30) (v := ?_) (a' := ?_) (bqz 44 31) rfl rfl qza qzd (Or.inl ⟨by rfl, ?_⟩) ?_ ?_
            rotate_left
            {
            intro w'
            go_simp
            with_reducible rfl
            }
            rotate_left
            {
            simp only [qzs]
            rfl
            }
            refine pure_ (i := 6) (N := some 32) (v := ?_) (a' := ?_) (bqz 44 95) rfl rfl qza qzd (Or.inl ⟨by rfl, ?_⟩) ?_ ?_
            rotate_left
            {
            intro w'
            go_simp
            with_reducible rfl
            }
            rotate_left
            {
            simp only [qzs]
            rfl
            }
            refine take_ (i := 5) (N := some 31) (v := ?_) (a' := ?_) (bqz 44 127) rfl rfl qzb qzd (Or.inl ⟨by rfl, ?_⟩) hHeld ?_ ?_
            rotate_left
            {
            rintro w' ⟨s0, s1, s2, s3, s4, s5, s6, s7⟩
            go_simp
            with_reducible rfl
            }
            rotate_left
            {
            simp only [qzs]
            rfl
            }
            refine take_ (i := 7) (N := some 33) (v := ?_) (a' := ?_) (bqz 44 255) rfl rfl qzb qzd (Or.inl ⟨by rfl, ?_⟩) hHeld ?_ ?_
            rotate_left
            {
            rintro w' ⟨s0, s1, s2, s3, s4, s5, s6, s7⟩
            go_simp
            with_reducible rfl
            }
            rotate_left
            {
            simp only [qzs]
            rfl
            }
            refine one_ (i := 8) (N := some 34) (bqz 44 511) rfl rfl qzc (by decide) (fun K hK => ?_)
            refine goes_ Try.func107 (by kernel_rfl) rfl #[.agg #[.int .i64 a0_0, .int .i64 a0_1, .slice A0_2 l0_2.length c0_2], .int .i64 ((rd_T34 l1 x5_2).f1)] (by rfl) rfl rfl qz2 ?_
            with_reducible refine (spec_l7Free.calls a0_0 a0_1 _ _ l0_2 ((rd_T34 l1 x5_2).f1) true _ ?side1 ?side2 A20.out).mono ?_
            (case side1 => repeat (first | exact (Kd.C_below HR0_2.out qz4) | (with_reducible refine Kd.C_alloc ?_ _) | (with_reducible refine Kd.C_drewN ?_ _) | (with_reducible refine Kd.C_drew ?_)))
            (case side2 => exact HC0_2.out)
            rintro e w60 ⟨rfl, hb⟩
            refine ⟨_, rfl, ?_⟩
            have n0_ := Aside0.mk (blk_below (g := gb158) (o := .cells #[.int .i64 a0_0, .int .i64 a0_1, .slice A0_2 l0_2.length c0_2] 26 (0, 0)) qz11 hb)
            have n1_ := Aside0.mk (blk_below (g := gb161) (o := .cells #[.int .i64 ((rd_T34 l1 x5_2).f0), .int .i64 ((rd_T34 l1 x5_2).f1), .int .i64 ((rd_T34 l1 x5_2).f2), .bool ((rd_T34 l1 x5_2).f3), .int .i64 ((rd_T34 l1 x5_2).f4)] 34 (0, 0)) (by (with_reducible repeat (first | refine blk_drewN ?_ _ | refine blk_drew ?_ | refine blk_alloc ?_ _)); exact BK161.out) hb)
            have n2_ := Aside0.mk (below_step qz4 hb)
            clear BK158
            clear BK161
            clear HB
            have BK158 := n0_
            have BK161 := n1_
            have HB := n2_
            clear n0_ n1_ n2_
            (try clear hb)
            (try clear hb2)
            (try clear hk)
            (try clear hi)
            refine hK.out _ _ ⟨(blk_cell BK161.out 0).trans rfl, (blk_cell BK161.out 1).trans rfl, (blk_cell BK161.out 2).trans rfl, (blk_cell BK161.out 3).trans rfl, (blk_cell BK161.out 4).trans rfl, (blk_cell BK158.out 0).trans rfl, (blk_cell BK158.out 1).trans rfl, (blk_cell BK158.out 2).trans rfl⟩ (fun hHeld => ?_)
            clear hK K
            refine norm_ (a' := ?_) ?_ ?_
            rotate_left
            {
            show Act.put _ (some 34) _ = _
            simp only [qzs]
            rfl
            }
            refine pure_ (i := 9) (N := some 35) (v := ?_) (a' := ?_) (bqz 44 1023) rfl rfl qza qzd (Or.inl ⟨by rfl, ?_⟩) ?_ ?_
            rotate_left
            {
            intro w'
            go_simp
            with_reducible rfl
            }
            rotate_left
            {
            simp only [qzs]
            rfl
            }
            refine pure_ (i := 10) (N := some 36) (v := ?_) (a' := ?_) (bqz 44 2047) rfl rfl qza qzd (Or.inl ⟨by rfl, ?_⟩) ?_ ?_
            rotate_left
            {
            intro w'
            go_simp
            with_reducible rfl
            }
            rotate_left
            {
            simp only [qzs]
            rfl
            }
            refine pure_ (i := 11) (N := some 37) (v := ?_) (a' := ?_) (bqz 44 4095) rfl rfl qza qzd (Or.inl ⟨by rfl, ?_⟩) ?_ ?_
            rotate_left
            {
            intro w'
            go_simp
            with_reducible rfl
            }
            rotate_left
            {
            simp only [qzs]
            rfl
            }
            refine pure_ (i := 12) (N := some 38) (v := ?_) (a' := ?_) (bqz 44 8191) rfl rfl qza qzd (Or.inl ⟨by rfl, ?_⟩) ?_ ?_
            rotate_left
            {
            intro w'
            go_simp
            with_reducible rfl
            }
            rotate_left
            {
            simp only [qzs]
            rfl
            }
            refine take_ (i := 13) (N := some 39) (v := ?_) (a' := ?_) (bqz 44 16383) rfl rfl qzb qzd (Or.inl ⟨by rfl, ?_⟩) hHeld ?_ ?_
            rotate_left
            {
            rintro w' ⟨s0, s1, s2, s3, s4, s5, s6, s7⟩
            go_simp
            with_reducible rfl
            }
            rotate_left
            {
            simp only [qzs]
            rfl
            }
            refine pure_ (i := 14) (N := some 40) (v := ?_) (a' := ?_) (bqz 44 32767) rfl rfl qza qzd (Or.inl ⟨by rfl, ?_⟩) ?_ ?_
            rotate_left
            {
            intro w'
            go_simp
            with_reducible rfl
            }
            rotate_left
            {
            simp only [qzs]
            rfl
            }
            refine pure_ (i := 15) (N := some 41) (v := ?_) (a' := ?_) (bqz 44 65535) rfl rfl qza qzd (Or.inl ⟨by rfl, ?_⟩) ?_ ?_
            rotate_left
            {
            intro w'
            go_simp
            with_reducible rfl
            }
            rotate_left
            {
            simp only [qzs]
            rfl
            }
            refine pure_ (i := 17) (N := some 43) (v := ?_) (a' := ?_) (bqz 44 196607) rfl rfl qza qzd (Or.inl ⟨by rfl, ?_⟩) ?_ ?_
            rotate_left
            {
            intro w'
            go_simp
            with_reducible rfl
            }
            rotate_left
            {
            simp only [qzs]
            rfl
            }
            refine take_ (i := 16) (N := some 42) (v := ?_) (a' := ?_) (bqz 44 262143) rfl rfl qzb qzd (Or.inl ⟨by rfl, ?_⟩) hHeld ?_ ?_
            rotate_left
            {
            rintro w' ⟨s0, s1, s2, s3, s4, s5, s6, s7⟩
            go_simp
            with_reducible rfl
            }
            rotate_left
            {
            simp only [qzs]
            rfl
            }
            refine take_ (i := 18) (N := some 44) (v := ?_) (a' := ?_) (bqz 44 524287) rfl rfl qzb qzd (Or.inl ⟨by rfl, ?_⟩) hHeld ?_ ?_
            rotate_left
            {
            rintro w' ⟨s0, s1, s2, s3, s4, s5, s6, s7⟩
            go_simp
            with_reducible rfl
            }
            rotate_left
            {
            simp only [qzs]
            rfl
            }
            refine one_ (i := 19) (N := some 45) (bqz 44 1048575) rfl rfl qzc (by decide) (fun K hK => ?_)
            refine goes_ Try.func107 (by kernel_rfl) rfl #[.agg #[.int .i64 a0_0, .int .i64 a0_1, .slice A0_2 l0_2.length c0_2], .int .i64 ((rd_T34 l1 x5_2).f2)] (by rfl) rfl rfl qz2 ?_
            with_reducible refine (spec_l7Free.calls a0_0 a0_1 _ _ l0_2 ((rd_T34 l1 x5_2).f2) false _ ?side1 ?side2 A38.out).mono ?_
            (case side1 => repeat (first | exact (Kd.C_below HR0_2.out HB.out) | (with_reducible refine Kd.C_alloc ?_ _) | (with_reducible refine Kd.C_drewN ?_ _) | (with_reducible refine Kd.C_drew ?_)))
            (case side2 => exact HC0_2.out)
            rintro e w61 ⟨rfl, hb⟩
            refine ⟨_, rfl, ?_⟩
            have n0_ := Aside0.mk (blk_below (g := gb158) (o := .cells #[.int .i64 a0_0, .int .i64 a0_1, .slice A0_2 l0_2.length c0_2] 26 (0, 0)) qz11 hb)
            have n1_ := Aside0.mk (blk_below (g := gb161) (o := .cells #[.int .i64 ((rd_T34 l1 x5_2).f0), .int .i64 ((rd_T34 l1 x5_2).f1), .int .i64 ((rd_T34 l1 x5_2).f2), .bool ((rd_T34 l1 x5_2).f3), .int .i64 ((rd_T34 l1 x5_2).f4)] 34 (0, 0)) (by (with_reducible repeat (first | refine blk_drewN ?_ _ | refine blk_drew ?_ | refine blk_alloc ?_ _)); exact BK161.out) hb)
            have n2_ := Aside0.mk (below_step qz4 hb)
            clear BK158
            clear BK161
            clear HB
            have BK158 := n0_
            have BK161 := n1_
            have HB := n2_
            clear n0_ n1_ n2_
            (try clear hb)
            (try clear hb2)
            (try clear hk)
            (try clear hi)
            refine hK.out _ _ ⟨(blk_cell BK161.out 0).trans rfl, (blk_cell BK161.out 1).trans rfl, (blk_cell BK161.out 2).trans rfl, (blk_cell BK161.out 3).trans rfl, (blk_cell BK161.out 4).trans rfl, (blk_cell BK158.out 0).trans rfl, (blk_cell BK158.out 1).trans rfl, (blk_cell BK158.out 2).trans rfl⟩ (fun hHeld => ?_)
            clear hK K
            refine norm_ (a' := ?_) ?_ ?_
            rotate_left
            {
            show Act.put _ (some 45) _ = _
            simp only [qzs]
            rfl
            }
            refine pure_ (i := 20) (N := some 46) (v := ?_) (a' := ?_) (bqz 44 2097151) rfl rfl qza qzd (Or.inl ⟨by rfl, ?_⟩) ?_ ?_
            rotate_left
            {
            intro w'
            go_simp
            with_reducible rfl
            }
            rotate_left
            {
            simp only [qzs]
            rfl
            }
            refine pure_ (i := 21) (N := some 47) (v := ?_) (a' := ?_) (bqz 44 4194303) rfl rfl qza qzd (Or.inl ⟨by rfl, ?_⟩) ?_ ?_
            rotate_left
            {
            intro w'
            go_simp
            with_reducible rfl
            }
            rotate_left
            {
            simp only [qzs]
            rfl
            }
            refine pure_ (i := 22) (N := some 48) (v := ?_) (a' := ?_) (bqz 44 8388607) rfl rfl qza qzd (Or.inl ⟨by rfl, ?_⟩) ?_ ?_
            rotate_left
            {
            intro w'
            go_simp
            with_reducible rfl
            }
            rotate_left
            {
            simp only [qzs]
            rfl
            }
            refine pure_ (i := 23) (N := some 49) (v := ?_) (a' := ?_) (bqz 44 16777215) rfl rfl qza qzd (Or.inl ⟨by rfl, ?_⟩) ?_ ?_
            rotate_left
            {
            intro w'
            go_simp
            with_reducible rfl
            }
            rotate_left
            {
            simp only [qzs]
            rfl
            }
            refine pure_ (i := 24) (N := some 50) (v := undef) (a' := ?_) (bqz 44 33554431) rfl rfl qza qzd (Or.inr ⟨by rfl, rfl⟩) ?_ ?_
            rotate_left
            {
            simp only [qzs]
            rfl
            }
            refine pure_ (i := 25) (N := some 51) (v := undef) (a' := ?_) (bqz 44 67108863) rfl rfl qza qzd (Or.inr ⟨by rfl, rfl⟩) ?_ ?_
            rotate_left
            {
            simp only [qzs]
            rfl
            }
            refine pure_ (i := 26) (N := some 52) (v := undef) (a' := ?_) (bqz 44 134217727) rfl rfl qza qzd (Or.inr ⟨by rfl, rfl⟩) ?_ ?_
            rotate_left
            {
            simp only [qzs]
            rfl
            }
            refine pure_ (i := 27) (N := some 53) (v := undef) (a' := ?_) (bqz 44 268435455) rfl rfl qza qzd (Or.inr ⟨by rfl, rfl⟩) ?_ ?_
            rotate_left
            {
            simp only [qzs]
            rfl
            }
            refine pure_ (i := 28) (N := some 54) (v := ?_) (a' := ?_) (bqz 44 536870911) rfl rfl qza qzd (Or.inl ⟨by rfl, ?_⟩) ?_ ?_
            rotate_left
            {
            intro w'
            go_simp
            with_reducible rfl
            }
            rotate_left
            {
            simp only [qzs]
            rfl
            }
            refine pure_ (i := 29) (N := some 55) (v := ?_) (a' := ?_) (bqz 44 1073741823) rfl rfl qza qzd (Or.inl ⟨by rfl, ?_⟩) ?_ ?_
            rotate_left
            {
            intro w'
            go_simp
            with_reducible rfl
            }
            rotate_left
            {
            simp only [qzs]
            rfl
            }
            refine pure_ (i := 30) (N := some 56) (v := undef) (a' := ?_) (bqz 44 2147483647) rfl rfl qza qzd (Or.inr ⟨by rfl, rfl⟩) ?_ ?_
            rotate_left
            {
            simp only [qzs]
            rfl
            }
            refine pure_ (i := 31) (N := some 57) (v := undef) (a' := ?_) (bqz 44 4294967295) rfl rfl qza qzd (Or.inr ⟨by rfl, rfl⟩) ?_ ?_
            rotate_left
            {
            simp only [qzs]
            rfl
            }
            refine pure_ (i := 32) (N := some 58) (v := undef) (a' := ?_) (bqz 44 8589934591) rfl rfl qza qzd (Or.inr ⟨by rfl, rfl⟩) ?_ ?_
            rotate_left
            {
            simp only [qzs]
            rfl
            }
            refine pure_ (i := 33) (N := some 59) (v := undef) (a' := ?_) (bqz 44 17179869183) rfl rfl qza qzd (Or.inr ⟨by rfl, rfl⟩) ?_ ?_
            rotate_left
            {
            simp only [qzs]
            rfl
            }
            refine pure_ (i := 34) (N := some 60) (v := undef) (a' := ?_) (bqz 44 34359738367) rfl rfl qza qzd (Or.inr ⟨by rfl, rfl⟩) ?_ ?_
            rotate_left
            {
            simp only [qzs]
            rfl
            }
            refine pure_ (i := 35) (N := some 61) (v := undef) (a' := ?_) (bqz 44 68719476735) rfl rfl qza qzd (Or.inr ⟨by rfl, rfl⟩) ?_ ?_
            rotate_left
            {
            simp only [qzs]
            rfl
            }
            refine pure_ (i := 36) (N := some 62) (v := undef) (a' := ?_) (bqz 44 137438953471) rfl rfl qza qzd (Or.inr ⟨by rfl, rfl⟩) ?_ ?_
            rotate_left
            {
            simp only [qzs]
            rfl
            }
            refine pure_ (i := 37) (N := some 63) (v := undef) (a' := ?_) (bqz 44 274877906943) rfl rfl qza qzd (Or.inr ⟨by rfl, rfl⟩) ?_ ?_
            rotate_left
            {
            simp only [qzs]
            rfl
            }
            refine pure_ (i := 38) (N := some 64) (v := undef) (a' := ?_) (bqz 44 549755813887) rfl rfl qza qzd (Or.inr ⟨by rfl, rfl⟩) ?_ ?_
            rotate_left
            {
            simp only [qzs]
            rfl
            }
            refine pure_ (i := 39) (N := some 65) (v := undef) (a' := ?_) (bqz 44 1099511627775) rfl rfl qza qzd (Or.inr ⟨by rfl, rfl⟩) ?_ ?_
            rotate_left
            {
            simp only [qzs]
            rfl
            }
            refine pure_ (i := 40) (N := some 66) (v := undef) (a' := ?_) (bqz 44 2199023255551) rfl rfl qza qzd (Or.inr ⟨by rfl, rfl⟩) ?_ ?_
            rotate_left
            {
            simp only [qzs]
            rfl
            }
            refine pure_ (i := 41) (N := some 67) (v := undef) (a' := ?_) (bqz 44 4398046511103) rfl rfl qza qzd (Or.inr ⟨by rfl, rfl⟩) ?_ ?_
            rotate_left
            {
            simp only [qzs]
            rfl
            }
            refine pure_ (i := 42) (N := some 68) (v := undef) (a' := ?_) (bqz 44 8796093022207) rfl rfl qza qzd (Or.inr ⟨by rfl, rfl⟩) ?_ ?_
            rotate_left
            {
            simp only [qzs]
            rfl
            }
            refine pure_ (i := 43) (N := some 69) (v := ?_) (a' := ?_) (bqz 44 17592186044415) rfl rfl qza qzd (Or.inl ⟨by rfl, ?_⟩) ?_ ?_
            rotate_left
            {
            intro w'
            go_simp
            with_reducible rfl
            }
            rotate_left
            {
            simp only [qzs]
            rfl
            }
            refine done_ (done_of HT_.out (by kernel_rfl)) ?_
            try go_wp2
            go_meet
            case rel => exact ⟨_, (true), qz14, H', ⟨by have := HJ2.out; have := HK2.out; first | omega | exact Nat.le_refl _⟩, ⟨by (with_reducible repeat (first | refine blk_drewN ?_ _ | refine blk_drew ?_ | refine blk_alloc ?_ _)); exact BK158.out⟩, ⟨by (with_reducible repeat (first | refine blk_drewN ?_ _ | refine blk_drew ?_ | refine blk_alloc ?_ _)); exact BK161.out⟩, ⟨by repeat (first | (with_reducible first | exact HB.out | apply below_alloc | apply pw_below_drewN | apply below_drew1 | refine below_set ?_ GE158.out | refine below_set ?_ GE161.out) | exact HB.out)⟩⟩
            }
            }
            }
            {
            replace c21 := Bool.eq_false_iff.mpr c21
            subst c21
            have H1 : (spec_CrewOk.j2 k2 l1 x5_2 true a0_0 a0_1 l0_2 ((rd_T34 l1 x5_2).f0) ((rd_T34 l1 x5_2).f1) ((rd_T34 l1 x5_2).f2) ((rd_T34 l1 x5_2).f3) ((rd_T34 l1 x5_2).f4)) = some r := by rw [if_neg (show ¬ (false = true) by decide)] at H; exact H
            clear H
            have H := H1
            clear H1
            have H' := Aside0.mk H
            clear H
            try go_wp2
            generalize hq_ : (((((w15.setCell ⟨gb161, 0, none⟩ (.int .i64 ((rd_T34 l1 x5_2).f0))).setCell ⟨gb161, 1, none⟩ (.int .i64 ((rd_T34 l1 x5_2).f1))).setCell ⟨gb161, 2, none⟩ (.int .i64 ((rd_T34 l1 x5_2).f2))).setCell ⟨gb161, 3, none⟩ (.bool ((rd_T34 l1 x5_2).f3))).setCell ⟨gb161, 4, none⟩ (.int .i64 ((rd_T34 l1 x5_2).f4))) = w62
            have n0_ : Aside0 (w62.heap[gb158]? = some (.cells #[.int .i64 a0_0, .int .i64 a0_1, .slice A0_2 l0_2.length c0_2] 26 (0, 0))) := ⟨by rw [← hq_]; exact qz3⟩
            have n1_ : Aside0 (w62.heap[gb161]? = some (.cells #[.int .i64 ((rd_T34 l1 x5_2).f0), .int .i64 ((rd_T34 l1 x5_2).f1), .int .i64 ((rd_T34 l1 x5_2).f2), .bool ((rd_T34 l1 x5_2).f3), .int .i64 ((rd_T34 l1 x5_2).f4)] 34 (0, 0))) := ⟨by rw [← hq_]; exact (by (with_reducible repeat (first | refine blk_drewN ?_ _ | refine blk_drew ?_ | refine blk_alloc ?_ _)); refine blk_put (cs := #[.int .i64 ((rd_T34 l1 x5_2).f0), .int .i64 ((rd_T34 l1 x5_2).f1), .int .i64 ((rd_T34 l1 x5_2).f2), .bool ((rd_T34 l1 x5_2).f3), .int .i64 0]) ?_ 4 _ rfl; (with_reducible repeat (first | refine blk_drewN ?_ _ | refine blk_drew ?_ | refine blk_alloc ?_ _)); refine blk_put (cs := #[.int .i64 ((rd_T34 l1 x5_2).f0), .int .i64 ((rd_T34 l1 x5_2).f1), .int .i64 ((rd_T34 l1 x5_2).f2), .bool false, .int .i64 0]) ?_ 3 _ rfl; (with_reducible repeat (first | refine blk_drewN ?_ _ | refine blk_drew ?_ | refine blk_alloc ?_ _)); refine blk_put (cs := #[.int .i64 ((rd_T34 l1 x5_2).f0), .int .i64 ((rd_T34 l1 x5_2).f1), .int .i64 0, .bool false, .int .i64 0]) ?_ 2 _ rfl; (with_reducible repeat (first | refine blk_drewN ?_ _ | refine blk_drew ?_ | refine blk_alloc ?_ _)); refine blk_put (cs := #[.int .i64 ((rd_T34 l1 x5_2).f0), .int .i64 0, .int .i64 0, .bool false, .int .i64 0]) ?_ 1 _ rfl; (with_reducible repeat (first | refine blk_drewN ?_ _ | refine blk_drew ?_ | refine blk_alloc ?_ _)); refine blk_put (cs := #[.int .i64 0, .int .i64 0, .int .i64 0, .bool false, .int .i64 0]) ?_ 0 _ rfl; (with_reducible repeat (first | refine blk_drewN ?_ _ | refine blk_drew ?_ | refine blk_alloc ?_ _)); exact BK161.out)⟩
            have n2_ : Aside0 (Below w.heap.size w w62) := ⟨by rw [← hq_]; exact qz4⟩
            (try clear BK158)
            (try clear BK161)
            (try clear HB)
            clear hq_
            have BK158 := n0_
            have BK161 := n1_
            have HB := n2_
            clear n0_ n1_ n2_
            have n0_ := Aside0.mk (blk_drew BK158.out)
            have n1_ := Aside0.mk (blk_drew BK161.out)
            have n2_ := Aside0.mk (below_drew1 HB.out)
            clear BK158
            clear BK161
            clear HB
            have BK158 := n0_
            have BK161 := n1_
            have HB := n2_
            clear n0_ n1_ n2_
            refine start_ (n := 44) (S := fun w' => w'.cell? ⟨gb161, 0, none⟩ = some (.int .i64 ((rd_T34 l1 x5_2).f0)) ∧ w'.cell? ⟨gb161, 1, none⟩ = some (.int .i64 ((rd_T34 l1 x5_2).f1)) ∧ w'.cell? ⟨gb161, 2, none⟩ = some (.int .i64 ((rd_T34 l1 x5_2).f2)) ∧ w'.cell? ⟨gb161, 3, none⟩ = some (.bool ((rd_T34 l1 x5_2).f3)) ∧ w'.cell? ⟨gb161, 4, none⟩ = some (.int .i64 ((rd_T34 l1 x5_2).f4)) ∧ w'.cell? ⟨gb158, 0, none⟩ = some (.int .i64 a0_0) ∧ w'.cell? ⟨gb158, 1, none⟩ = some (.int .i64 a0_1) ∧ w'.cell? ⟨gb158, 2, none⟩ = some (.slice A0_2 l0_2.length c0_2)) (ds := []) #[false, false, false, false, false, false, false, false, false, false, false, false, false, false, false, false, false, false, false, false, false, false, false, false, false, false, false, false, false, false, false, false, false, false, false, false, false, false, false, false, false, false, false, false] (by kernel_rfl) rfl rfl ⟨(blk_cell BK161.out 0).trans rfl, (blk_cell BK161.out 1).trans rfl, (blk_cell BK161.out 2).trans rfl, (blk_cell BK161.out 3).trans rfl, (blk_cell BK161.out 4).trans rfl, (blk_cell BK158.out 0).trans rfl, (blk_cell BK158.out 1).trans rfl, (blk_cell BK158.out 2).trans rfl⟩ (fun hHeld => ?_); refine with_tabW spec_CrewOk.tab7 spec_CrewOk.bits7 (fun HT_ HW_ => ?_)
            generalize w62.drew = w63 at BK158 BK161 HB hHeld ⊢
            refine pure_ (i := 0) (N := some 26) (v := ?_) (a' := ?_) (bqz 44 1) rfl rfl qza qzd (Or.inl ⟨by rfl, ?_⟩) ?_ ?_
            rotate_left
            {
            intro w'
            go_simp
            with_reducible rfl
            }
            rotate_left
            {
            simp only [qzs]
            rfl
            }
            refine take_ (i := 1) (N := some 27) (v := ?_) (a' := ?_) (bqz 44 3) rfl rfl qzb qzd (Or.inl ⟨by rfl, ?_⟩) hHeld ?_ ?_
            rotate_left
            {
            rintro w' ⟨s0, s1, s2, s3, s4, s5, s6, s7⟩
            go_simp
            with_reducible rfl
            }
            rotate_left
            {
            simp only [qzs]
            rfl
            }
            refine one_ (i := 2) (N := some 28) (bqz 44 7) rfl rfl qzc (by decide) (fun K hK => ?_)
            refine goes_ Try.func90 (by kernel_rfl) rfl #[.int .i64 ((rd_T34 l1 x5_2).f0), .int .i64 1, .int .i64 99] (by rfl) rfl rfl qz2 ?_
            with_reducible refine (spec_l1In.calls ((rd_T34 l1 x5_2).f0) 1 99 true _ A18.out).mono ?_
            rintro e w' ⟨rfl, ⟨nd, rfl⟩⟩
            refine ⟨_, rfl, ?_⟩
            refine hK.out _ _ ⟨(blk_cell BK161.out 0).trans rfl, (blk_cell BK161.out 1).trans rfl, (blk_cell BK161.out 2).trans rfl, (blk_cell BK161.out 3).trans rfl, (blk_cell BK161.out 4).trans rfl, (blk_cell BK158.out 0).trans rfl, (blk_cell BK158.out 1).trans rfl, (blk_cell BK158.out 2).trans rfl⟩ (fun hHeld => ?_)
            clear hK K
            refine norm_ (a' := ?_) ?_ ?_
            rotate_left
            {
            show Act.put _ (some 28) _ = _
            simp only [qzs]
            rfl
            }
            refine pure_ (i := 3) (N := some 29) (v := ?_) (a' := ?_) (bqz 44 15) rfl rfl qza qzd (Or.inl ⟨by rfl, ?_⟩) ?_ ?_
            rotate_left
            {
            intro w'
            go_simp
            with_reducible rfl
            }
            rotate_left
            {
            simp only [qzs]
            rfl
            }
            refine pure_ (i := 4) (N := some 30) (v := ?_) (a' := ?_) (bqz 44 31) rfl rfl qza qzd (Or.inl ⟨by rfl, ?_⟩) ?_ ?_
            rotate_left
            {
            intro w'
            go_simp
            with_reducible rfl
            }
            rotate_left
            {
            simp only [qzs]
            rfl
            }
            refine pure_ (i := 6) (N := some 32) (v := ?_) (a' := ?_) (bqz 44 95) rfl rfl qza qzd (Or.inl ⟨by rfl, ?_⟩) ?_ ?_
            rotate_left
            {
            intro w'
            go_simp
            with_reducible rfl
            }
            rotate_left
            {
            simp only [qzs]
            rfl
            }
            refine take_ (i := 5) (N := some 31) (v := ?_) (a' := ?_) (bqz 44 127) rfl rfl qzb qzd (Or.inl ⟨by rfl, ?_⟩) hHeld ?_ ?_
            rotate_left
            {
            rintro w' ⟨s0, s1, s2, s3, s4, s5, s6, s7⟩
            go_simp
            with_reducible rfl
            }
            rotate_left
            {
            simp only [qzs]
            rfl
            }
            refine take_ (i := 7) (N := some 33) (v := ?_) (a' := ?_) (bqz 44 255) rfl rfl qzb qzd (Or.inl ⟨by rfl, ?_⟩) hHeld ?_ ?_
            rotate_left
            {
            rintro w' ⟨s0, s1, s2, s3, s4, s5, s6, s7⟩
            go_simp
            with_reducible rfl
            }
            rotate_left
            {
            simp only [qzs]
            rfl
            }
            refine one_ (i := 8) (N := some 34) (bqz 44 511) rfl rfl qzc (by decide) (fun K hK => ?_)
            refine goes_ Try.func107 (by kernel_rfl) rfl #[.agg #[.int .i64 a0_0, .int .i64 a0_1, .slice A0_2 l0_2.length c0_2], .int .i64 ((rd_T34 l1 x5_2).f1)] (by rfl) rfl rfl qz2 ?_
            with_reducible refine (spec_l7Free.calls a0_0 a0_1 _ _ l0_2 ((rd_T34 l1 x5_2).f1) false _ ?side1 ?side2 A20.out).mono ?_
            (case side1 => repeat (first | exact (Kd.C_below HR0_2.out qz4) | (with_reducible refine Kd.C_alloc ?_ _) | (with_reducible refine Kd.C_drewN ?_ _) | (with_reducible refine Kd.C_drew ?_)))
            (case side2 => exact HC0_2.out)
            rintro e w64 ⟨rfl, hb⟩
            refine ⟨_, rfl, ?_⟩
            have n0_ := Aside0.mk (blk_below (g := gb158) (o := .cells #[.int .i64 a0_0, .int .i64 a0_1, .slice A0_2 l0_2.length c0_2] 26 (0, 0)) qz11 hb)
            have n1_ := Aside0.mk (blk_below (g := gb161) (o := .cells #[.int .i64 ((rd_T34 l1 x5_2).f0), .int .i64 ((rd_T34 l1 x5_2).f1), .int .i64 ((rd_T34 l1 x5_2).f2), .bool ((rd_T34 l1 x5_2).f3), .int .i64 ((rd_T34 l1 x5_2).f4)] 34 (0, 0)) (by (with_reducible repeat (first | refine blk_drewN ?_ _ | refine blk_drew ?_ | refine blk_alloc ?_ _)); exact BK161.out) hb)
            have n2_ := Aside0.mk (below_step qz4 hb)
            clear BK158
            clear BK161
            clear HB
            have BK158 := n0_
            have BK161 := n1_
            have HB := n2_
            clear n0_ n1_ n2_
            (try clear hb)
            (try clear hb2)
            (try clear hk)
            (try clear hi)
            refine hK.out _ _ ⟨(blk_cell BK161.out 0).trans rfl, (blk_cell BK161.out 1).trans rfl, (blk_cell BK161.out 2).trans rfl, (blk_cell BK161.out 3).trans rfl, (blk_cell BK161.out 4).trans rfl, (blk_cell BK158.out 0).trans rfl, (blk_cell BK158.out 1).trans rfl, (blk_cell BK158.out 2).trans rfl⟩ (fun hHeld => ?_)
            clear hK K
            refine norm_ (a' := ?_) ?_ ?_
            rotate_left
            {
            show Act.put _ (some 34) _ = _
            simp only [qzs]
            rfl
            }
            refine pure_ (i := 9) (N := some 35) (v := ?_) (a' := ?_) (bqz 44 1023) rfl rfl qza qzd (Or.inl ⟨by rfl, ?_⟩) ?_ ?_
            rotate_left
            {
            intro w'
            go_simp
            with_reducible rfl
            }
            rotate_left
            {
            simp only [qzs]
            rfl
            }
            refine pure_ (i := 10) (N := some 36) (v := ?_) (a' := ?_) (bqz 44 2047) rfl rfl qza qzd (Or.inl ⟨by rfl, ?_⟩) ?_ ?_
            rotate_left
            {
            intro w'
            go_simp
            with_reducible rfl
            }
            rotate_left
            {
            simp only [qzs]
            rfl
            }
            refine pure_ (i := 11) (N := some 37) (v := ?_) (a' := ?_) (bqz 44 4095) rfl rfl qza qzd (Or.inl ⟨by rfl, ?_⟩) ?_ ?_
            rotate_left
            {
            intro w'
            go_simp
            with_reducible rfl
            }
            rotate_left
            {
            simp only [qzs]
            rfl
            }
            refine pure_ (i := 12) (N := some 38) (v := undef) (a' := ?_) (bqz 44 8191) rfl rfl qza qzd (Or.inr ⟨by rfl, rfl⟩) ?_ ?_
            rotate_left
            {
            simp only [qzs]
            rfl
            }
            refine pure_ (i := 13) (N := some 39) (v := undef) (a' := ?_) (bqz 44 16383) rfl rfl qza qzd (Or.inr ⟨by rfl, rfl⟩) ?_ ?_
            rotate_left
            {
            simp only [qzs]
            rfl
            }
            refine pure_ (i := 14) (N := some 40) (v := undef) (a' := ?_) (bqz 44 32767) rfl rfl qza qzd (Or.inr ⟨by rfl, rfl⟩) ?_ ?_
            rotate_left
            {
            simp only [qzs]
            rfl
            }
            refine pure_ (i := 15) (N := some 41) (v := undef) (a' := ?_) (bqz 44 65535) rfl rfl qza qzd (Or.inr ⟨by rfl, rfl⟩) ?_ ?_
            rotate_left
            {
            simp only [qzs]
            rfl
            }
            refine pure_ (i := 16) (N := some 42) (v := undef) (a' := ?_) (bqz 44 131071) rfl rfl qza qzd (Or.inr ⟨by rfl, rfl⟩) ?_ ?_
            rotate_left
            {
            simp only [qzs]
            rfl
            }
            refine pure_ (i := 17) (N := some 43) (v := undef) (a' := ?_) (bqz 44 262143) rfl rfl qza qzd (Or.inr ⟨by rfl, rfl⟩) ?_ ?_
            rotate_left
            {
            simp only [qzs]
            rfl
            }
            refine pure_ (i := 18) (N := some 44) (v := undef) (a' := ?_) (bqz 44 524287) rfl rfl qza qzd (Or.inr ⟨by rfl, rfl⟩) ?_ ?_
            rotate_left
            {
            simp only [qzs]
            rfl
            }
            refine pure_ (i := 19) (N := some 45) (v := undef) (a' := ?_) (bqz 44 1048575) rfl rfl qza qzd (Or.inr ⟨by rfl, rfl⟩) ?_ ?_
            rotate_left
            {
            simp only [qzs]
            rfl
            }
            refine pure_ (i := 20) (N := some 46) (v := undef) (a' := ?_) (bqz 44 2097151) rfl rfl qza qzd (Or.inr ⟨by rfl, rfl⟩) ?_ ?_
            rotate_left
            {
            simp only [qzs]
            rfl
            }
            refine pure_ (i := 21) (N := some 47) (v := undef) (a' := ?_) (bqz 44 4194303) rfl rfl qza qzd (Or.inr ⟨by rfl, rfl⟩) ?_ ?_
            rotate_left
            {
            simp only [qzs]
            rfl
            }
            refine pure_ (i := 22) (N := some 48) (v := ?_) (a' := ?_) (bqz 44 8388607) rfl rfl qza qzd (Or.inl ⟨by rfl, ?_⟩) ?_ ?_
            rotate_left
            {
            intro w'
            go_simp
            with_reducible rfl
            }
            rotate_left
            {
            simp only [qzs]
            rfl
            }
            refine pure_ (i := 23) (N := some 49) (v := ?_) (a' := ?_) (bqz 44 16777215) rfl rfl qza qzd (Or.inl ⟨by rfl, ?_⟩) ?_ ?_
            rotate_left
            {
            intro w'
            go_simp
            with_reducible rfl
            }
            rotate_left
            {
            simp only [qzs]
            rfl
            }
            refine pure_ (i := 24) (N := some 50) (v := undef) (a' := ?_) (bqz 44 33554431) rfl rfl qza qzd (Or.inr ⟨by rfl, rfl⟩) ?_ ?_
            rotate_left
            {
            simp only [qzs]
            rfl
            }
            refine pure_ (i := 25) (N := some 51) (v := undef) (a' := ?_) (bqz 44 67108863) rfl rfl qza qzd (Or.inr ⟨by rfl, rfl⟩) ?_ ?_
            rotate_left
            {
            simp only [qzs]
            rfl
            }
            refine pure_ (i := 26) (N := some 52) (v := undef) (a' := ?_) (bqz 44 134217727) rfl rfl qza qzd (Or.inr ⟨by rfl, rfl⟩) ?_ ?_
            rotate_left
            {
            simp only [qzs]
            rfl
            }
            refine pure_ (i := 27) (N := some 53) (v := undef) (a' := ?_) (bqz 44 268435455) rfl rfl qza qzd (Or.inr ⟨by rfl, rfl⟩) ?_ ?_
            rotate_left
            {
            simp only [qzs]
            rfl
            }
            refine pure_ (i := 28) (N := some 54) (v := ?_) (a' := ?_) (bqz 44 536870911) rfl rfl qza qzd (Or.inl ⟨by rfl, ?_⟩) ?_ ?_
            rotate_left
            {
            intro w'
            go_simp
            with_reducible rfl
            }
            rotate_left
            {
            simp only [qzs]
            rfl
            }
            refine pure_ (i := 29) (N := some 55) (v := ?_) (a' := ?_) (bqz 44 1073741823) rfl rfl qza qzd (Or.inl ⟨by rfl, ?_⟩) ?_ ?_
            rotate_left
            {
            intro w'
            go_simp
            with_reducible rfl
            }
            rotate_left
            {
            simp only [qzs]
            rfl
            }
            refine pure_ (i := 30) (N := some 56) (v := undef) (a' := ?_) (bqz 44 2147483647) rfl rfl qza qzd (Or.inr ⟨by rfl, rfl⟩) ?_ ?_
            rotate_left
            {
            simp only [qzs]
            rfl
            }
            refine pure_ (i := 31) (N := some 57) (v := undef) (a' := ?_) (bqz 44 4294967295) rfl rfl qza qzd (Or.inr ⟨by rfl, rfl⟩) ?_ ?_
            rotate_left
            {
            simp only [qzs]
            rfl
            }
            refine pure_ (i := 32) (N := some 58) (v := undef) (a' := ?_) (bqz 44 8589934591) rfl rfl qza qzd (Or.inr ⟨by rfl, rfl⟩) ?_ ?_
            rotate_left
            {
            simp only [qzs]
            rfl
            }
            refine pure_ (i := 33) (N := some 59) (v := undef) (a' := ?_) (bqz 44 17179869183) rfl rfl qza qzd (Or.inr ⟨by rfl, rfl⟩) ?_ ?_
            rotate_left
            {
            simp only [qzs]
            rfl
            }
            refine pure_ (i := 34) (N := some 60) (v := undef) (a' := ?_) (bqz 44 34359738367) rfl rfl qza qzd (Or.inr ⟨by rfl, rfl⟩) ?_ ?_
            rotate_left
            {
            simp only [qzs]
            rfl
            }
            refine pure_ (i := 35) (N := some 61) (v := undef) (a' := ?_) (bqz 44 68719476735) rfl rfl qza qzd (Or.inr ⟨by rfl, rfl⟩) ?_ ?_
            rotate_left
            {
            simp only [qzs]
            rfl
            }
            refine pure_ (i := 36) (N := some 62) (v := undef) (a' := ?_) (bqz 44 137438953471) rfl rfl qza qzd (Or.inr ⟨by rfl, rfl⟩) ?_ ?_
            rotate_left
            {
            simp only [qzs]
            rfl
            }
            refine pure_ (i := 37) (N := some 63) (v := undef) (a' := ?_) (bqz 44 274877906943) rfl rfl qza qzd (Or.inr ⟨by rfl, rfl⟩) ?_ ?_
            rotate_left
            {
            simp only [qzs]
            rfl
            }
            refine pure_ (i := 38) (N := some 64) (v := undef) (a' := ?_) (bqz 44 549755813887) rfl rfl qza qzd (Or.inr ⟨by rfl, rfl⟩) ?_ ?_
            rotate_left
            {
            simp only [qzs]
            rfl
            }
            refine pure_ (i := 39) (N := some 65) (v := undef) (a' := ?_) (bqz 44 1099511627775) rfl rfl qza qzd (Or.inr ⟨by rfl, rfl⟩) ?_ ?_
            rotate_left
            {
            simp only [qzs]
            rfl
            }
            refine pure_ (i := 40) (N := some 66) (v := undef) (a' := ?_) (bqz 44 2199023255551) rfl rfl qza qzd (Or.inr ⟨by rfl, rfl⟩) ?_ ?_
            rotate_left
            {
            simp only [qzs]
            rfl
            }
            refine pure_ (i := 41) (N := some 67) (v := undef) (a' := ?_) (bqz 44 4398046511103) rfl rfl qza qzd (Or.inr ⟨by rfl, rfl⟩) ?_ ?_
            rotate_left
            {
            simp only [qzs]
            rfl
            }
            refine pure_ (i := 42) (N := some 68) (v := undef) (a' := ?_) (bqz 44 8796093022207) rfl rfl qza qzd (Or.inr ⟨by rfl, rfl⟩) ?_ ?_
            rotate_left
            {
            simp only [qzs]
            rfl
            }
            refine pure_ (i := 43) (N := some 69) (v := ?_) (a' := ?_) (bqz 44 17592186044415) rfl rfl qza qzd (Or.inl ⟨by rfl, ?_⟩) ?_ ?_
            rotate_left
            {
            intro w'
            go_simp
            with_reducible rfl
            }
            rotate_left
            {
            simp only [qzs]
            rfl
            }
            refine done_ (done_of HT_.out (by kernel_rfl)) ?_
            try go_wp2
            go_meet
            case rel => exact ⟨_, (true), qz14, H', ⟨by have := HJ2.out; have := HK2.out; first | omega | exact Nat.le_refl _⟩, ⟨by (with_reducible repeat (first | refine blk_drewN ?_ _ | refine blk_drew ?_ | refine blk_alloc ?_ _)); exact BK158.out⟩, ⟨by (with_reducible repeat (first | refine blk_drewN ?_ _ | refine blk_drew ?_ | refine blk_alloc ?_ _)); exact BK161.out⟩, ⟨by repeat (first | (with_reducible first | exact HB.out | apply below_alloc | apply pw_below_drewN | apply below_drew1 | refine below_set ?_ GE158.out | refine below_set ?_ GE161.out) | exact HB.out)⟩⟩
            }
            }
            {
            replace c19 := Bool.eq_false_iff.mpr c19
            subst c19
            have H1 : (spec_CrewOk.j2 k2 l1 x5_2 true a0_0 a0_1 l0_2 ((rd_T34 l1 x5_2).f0) ((rd_T34 l1 x5_2).f1) ((rd_T34 l1 x5_2).f2) ((rd_T34 l1 x5_2).f3) ((rd_T34 l1 x5_2).f4)) = some r := by rw [if_neg (show ¬ (false = true) by decide)] at H; exact H
            clear H
            have H := H1
            clear H1
            have H' := Aside0.mk H
            clear H
            try go_wp2
            generalize hq_ : (((((w15.setCell ⟨gb161, 0, none⟩ (.int .i64 ((rd_T34 l1 x5_2).f0))).setCell ⟨gb161, 1, none⟩ (.int .i64 ((rd_T34 l1 x5_2).f1))).setCell ⟨gb161, 2, none⟩ (.int .i64 ((rd_T34 l1 x5_2).f2))).setCell ⟨gb161, 3, none⟩ (.bool ((rd_T34 l1 x5_2).f3))).setCell ⟨gb161, 4, none⟩ (.int .i64 ((rd_T34 l1 x5_2).f4))) = w65
            have n0_ : Aside0 (w65.heap[gb158]? = some (.cells #[.int .i64 a0_0, .int .i64 a0_1, .slice A0_2 l0_2.length c0_2] 26 (0, 0))) := ⟨by rw [← hq_]; exact qz3⟩
            have n1_ : Aside0 (w65.heap[gb161]? = some (.cells #[.int .i64 ((rd_T34 l1 x5_2).f0), .int .i64 ((rd_T34 l1 x5_2).f1), .int .i64 ((rd_T34 l1 x5_2).f2), .bool ((rd_T34 l1 x5_2).f3), .int .i64 ((rd_T34 l1 x5_2).f4)] 34 (0, 0))) := ⟨by rw [← hq_]; exact (by (with_reducible repeat (first | refine blk_drewN ?_ _ | refine blk_drew ?_ | refine blk_alloc ?_ _)); refine blk_put (cs := #[.int .i64 ((rd_T34 l1 x5_2).f0), .int .i64 ((rd_T34 l1 x5_2).f1), .int .i64 ((rd_T34 l1 x5_2).f2), .bool ((rd_T34 l1 x5_2).f3), .int .i64 0]) ?_ 4 _ rfl; (with_reducible repeat (first | refine blk_drewN ?_ _ | refine blk_drew ?_ | refine blk_alloc ?_ _)); refine blk_put (cs := #[.int .i64 ((rd_T34 l1 x5_2).f0), .int .i64 ((rd_T34 l1 x5_2).f1), .int .i64 ((rd_T34 l1 x5_2).f2), .bool false, .int .i64 0]) ?_ 3 _ rfl; (with_reducible repeat (first | refine blk_drewN ?_ _ | refine blk_drew ?_ | refine blk_alloc ?_ _)); refine blk_put (cs := #[.int .i64 ((rd_T34 l1 x5_2).f0), .int .i64 ((rd_T34 l1 x5_2).f1), .int .i64 0, .bool false, .int .i64 0]) ?_ 2 _ rfl; (with_reducible repeat (first | refine blk_drewN ?_ _ | refine blk_drew ?_ | refine blk_alloc ?_ _)); refine blk_put (cs := #[.int .i64 ((rd_T34 l1 x5_2).f0), .int .i64 0, .int .i64 0, .bool false, .int .i64 0]) ?_ 1 _ rfl; (with_reducible repeat (first | refine blk_drewN ?_ _ | refine blk_drew ?_ | refine blk_alloc ?_ _)); refine blk_put (cs := #[.int .i64 0, .int .i64 0, .int .i64 0, .bool false, .int .i64 0]) ?_ 0 _ rfl; (with_reducible repeat (first | refine blk_drewN ?_ _ | refine blk_drew ?_ | refine blk_alloc ?_ _)); exact BK161.out)⟩
            have n2_ : Aside0 (Below w.heap.size w w65) := ⟨by rw [← hq_]; exact qz4⟩
            (try clear BK158)
            (try clear BK161)
            (try clear HB)
            clear hq_
            have BK158 := n0_
            have BK161 := n1_
            have HB := n2_
            clear n0_ n1_ n2_
            have n0_ := Aside0.mk (blk_drew BK158.out)
            have n1_ := Aside0.mk (blk_drew BK161.out)
            have n2_ := Aside0.mk (below_drew1 HB.out)
            clear BK158
            clear BK161
            clear HB
            have BK158 := n0_
            have BK161 := n1_
            have HB := n2_
            clear n0_ n1_ n2_
            refine start_ (n := 44) (S := fun w' => w'.cell? ⟨gb161, 0, none⟩ = some (.int .i64 ((rd_T34 l1 x5_2).f0)) ∧ w'.cell? ⟨gb161, 1, none⟩ = some (.int .i64 ((rd_T34 l1 x5_2).f1)) ∧ w'.cell? ⟨gb161, 2, none⟩ = some (.int .i64 ((rd_T34 l1 x5_2).f2)) ∧ w'.cell? ⟨gb161, 3, none⟩ = some (.bool ((rd_T34 l1 x5_2).f3)) ∧ w'.cell? ⟨gb161, 4, none⟩ = some (.int .i64 ((rd_T34 l1 x5_2).f4))) (ds := []) #[false, false, false, false, false, false, false, false, false, false, false, false, false, false, false, false, false, false, false, false, false, false, false, false, false, false, false, false, false, false, false, false, false, false, false, false, false, false, false, false, false, false, false, false] (by kernel_rfl) rfl rfl ⟨(blk_cell BK161.out 0).trans rfl, (blk_cell BK161.out 1).trans rfl, (blk_cell BK161.out 2).trans rfl, (blk_cell BK161.out 3).trans rfl, (blk_cell BK161.out 4).trans rfl⟩ (fun hHeld => ?_); refine with_tabW spec_CrewOk.tab7 spec_CrewOk.bits7 (fun HT_ HW_ => ?_)
            generalize w65.drew = w66 at BK158 BK161 HB hHeld ⊢
            refine pure_ (i := 0) (N := some 26) (v := ?_) (a' := ?_) (bqz 44 1) rfl rfl qza qzd (Or.inl ⟨by rfl, ?_⟩) ?_ ?_
            rotate_left
            {
            intro w'
            go_simp
            with_reducible rfl
            }
            rotate_left
            {
            simp only [qzs]
            rfl
            }
            refine take_ (i := 1) (N := some 27) (v := ?_) (a' := ?_) (bqz 44 3) rfl rfl qzb qzd (Or.inl ⟨by rfl, ?_⟩) hHeld ?_ ?_
            rotate_left
            {
            rintro w' ⟨s0, s1, s2, s3, s4⟩
            go_simp
            with_reducible rfl
            }
            rotate_left
            {
            simp only [qzs]
            rfl
            }
            refine one_ (i := 2) (N := some 28) (bqz 44 7) rfl rfl qzc (by decide) (fun K hK => ?_)
            refine goes_ Try.func90 (by kernel_rfl) rfl #[.int .i64 ((rd_T34 l1 x5_2).f0), .int .i64 1, .int .i64 99] (by rfl) rfl rfl qz2 ?_
            with_reducible refine (spec_l1In.calls ((rd_T34 l1 x5_2).f0) 1 99 false _ A18.out).mono ?_
            rintro e w' ⟨rfl, ⟨nd, rfl⟩⟩
            refine ⟨_, rfl, ?_⟩
            refine hK.out _ _ ⟨(blk_cell BK161.out 0).trans rfl, (blk_cell BK161.out 1).trans rfl, (blk_cell BK161.out 2).trans rfl, (blk_cell BK161.out 3).trans rfl, (blk_cell BK161.out 4).trans rfl⟩ (fun hHeld => ?_)
            clear hK K
            refine norm_ (a' := ?_) ?_ ?_
            rotate_left
            {
            show Act.put _ (some 28) _ = _
            simp only [qzs]
            rfl
            }
            refine pure_ (i := 3) (N := some 29) (v := ?_) (a' := ?_) (bqz 44 15) rfl rfl qza qzd (Or.inl ⟨by rfl, ?_⟩) ?_ ?_
            rotate_left
            {
            intro w'
            go_simp
            with_reducible rfl
            }
            rotate_left
            {
            simp only [qzs]
            rfl
            }
            refine pure_ (i := 4) (N := some 30) (v := ?_) (a' := ?_) (bqz 44 31) rfl rfl qza qzd (Or.inl ⟨by rfl, ?_⟩) ?_ ?_
            rotate_left
            {
            intro w'
            go_simp
            with_reducible rfl
            }
            rotate_left
            {
            simp only [qzs]
            rfl
            }
            refine pure_ (i := 5) (N := some 31) (v := undef) (a' := ?_) (bqz 44 63) rfl rfl qza qzd (Or.inr ⟨by rfl, rfl⟩) ?_ ?_
            rotate_left
            {
            simp only [qzs]
            rfl
            }
            refine pure_ (i := 6) (N := some 32) (v := undef) (a' := ?_) (bqz 44 127) rfl rfl qza qzd (Or.inr ⟨by rfl, rfl⟩) ?_ ?_
            rotate_left
            {
            simp only [qzs]
            rfl
            }
            refine pure_ (i := 7) (N := some 33) (v := undef) (a' := ?_) (bqz 44 255) rfl rfl qza qzd (Or.inr ⟨by rfl, rfl⟩) ?_ ?_
            rotate_left
            {
            simp only [qzs]
            rfl
            }
            refine pure_ (i := 8) (N := some 34) (v := undef) (a' := ?_) (bqz 44 511) rfl rfl qza qzd (Or.inr ⟨by rfl, rfl⟩) ?_ ?_
            rotate_left
            {
            simp only [qzs]
            rfl
            }
            refine pure_ (i := 9) (N := some 35) (v := undef) (a' := ?_) (bqz 44 1023) rfl rfl qza qzd (Or.inr ⟨by rfl, rfl⟩) ?_ ?_
            rotate_left
            {
            simp only [qzs]
            rfl
            }
            refine pure_ (i := 10) (N := some 36) (v := ?_) (a' := ?_) (bqz 44 2047) rfl rfl qza qzd (Or.inl ⟨by rfl, ?_⟩) ?_ ?_
            rotate_left
            {
            intro w'
            go_simp
            with_reducible rfl
            }
            rotate_left
            {
            simp only [qzs]
            rfl
            }
            refine pure_ (i := 11) (N := some 37) (v := ?_) (a' := ?_) (bqz 44 4095) rfl rfl qza qzd (Or.inl ⟨by rfl, ?_⟩) ?_ ?_
            rotate_left
            {
            intro w'
            go_simp
            with_reducible rfl
            }
            rotate_left
            {
            simp only [qzs]
            rfl
            }
            refine pure_ (i := 12) (N := some 38) (v := undef) (a' := ?_) (bqz 44 8191) rfl rfl qza qzd (Or.inr ⟨by rfl, rfl⟩) ?_ ?_
            rotate_left
            {
            simp only [qzs]
            rfl
            }
            refine pure_ (i := 13) (N := some 39) (v := undef) (a' := ?_) (bqz 44 16383) rfl rfl qza qzd (Or.inr ⟨by rfl, rfl⟩) ?_ ?_
            rotate_left
            {
            simp only [qzs]
            rfl
            }
            refine pure_ (i := 14) (N := some 40) (v := undef) (a' := ?_) (bqz 44 32767) rfl rfl qza qzd (Or.inr ⟨by rfl, rfl⟩) ?_ ?_
            rotate_left
            {
            simp only [qzs]
            rfl
            }
            refine pure_ (i := 15) (N := some 41) (v := undef) (a' := ?_) (bqz 44 65535) rfl rfl qza qzd (Or.inr ⟨by rfl, rfl⟩) ?_ ?_
            rotate_left
            {
            simp only [qzs]
            rfl
            }
            refine pure_ (i := 16) (N := some 42) (v := undef) (a' := ?_) (bqz 44 131071) rfl rfl qza qzd (Or.inr ⟨by rfl, rfl⟩) ?_ ?_
            rotate_left
            {
            simp only [qzs]
            rfl
            }
            refine pure_ (i := 17) (N := some 43) (v := undef) (a' := ?_) (bqz 44 262143) rfl rfl qza qzd (Or.inr ⟨by rfl, rfl⟩) ?_ ?_
            rotate_left
            {
            simp only [qzs]
            rfl
            }
            refine pure_ (i := 18) (N := some 44) (v := undef) (a' := ?_) (bqz 44 524287) rfl rfl qza qzd (Or.inr ⟨by rfl, rfl⟩) ?_ ?_
            rotate_left
            {
            simp only [qzs]
            rfl
            }
            refine pure_ (i := 19) (N := some 45) (v := undef) (a' := ?_) (bqz 44 1048575) rfl rfl qza qzd (Or.inr ⟨by rfl, rfl⟩) ?_ ?_
            rotate_left
            {
            simp only [qzs]
            rfl
            }
            refine pure_ (i := 20) (N := some 46) (v := undef) (a' := ?_) (bqz 44 2097151) rfl rfl qza qzd (Or.inr ⟨by rfl, rfl⟩) ?_ ?_
            rotate_left
            {
            simp only [qzs]
            rfl
            }
            refine pure_ (i := 21) (N := some 47) (v := undef) (a' := ?_) (bqz 44 4194303) rfl rfl qza qzd (Or.inr ⟨by rfl, rfl⟩) ?_ ?_
            rotate_left
            {
            simp only [qzs]
            rfl
            }
            refine pure_ (i := 22) (N := some 48) (v := ?_) (a' := ?_) (bqz 44 8388607) rfl rfl qza qzd (Or.inl ⟨by rfl, ?_⟩) ?_ ?_
            rotate_left
            {
            intro w'
            go_simp
            with_reducible rfl
            }
            rotate_left
            {
            simp only [qzs]
            rfl
            }
            refine pure_ (i := 23) (N := some 49) (v := ?_) (a' := ?_) (bqz 44 16777215) rfl rfl qza qzd (Or.inl ⟨by rfl, ?_⟩) ?_ ?_
            rotate_left
            {
            intro w'
            go_simp
            with_reducible rfl
            }
            rotate_left
            {
            simp only [qzs]
            rfl
            }
            refine pure_ (i := 24) (N := some 50) (v := undef) (a' := ?_) (bqz 44 33554431) rfl rfl qza qzd (Or.inr ⟨by rfl, rfl⟩) ?_ ?_
            rotate_left
            {
            simp only [qzs]
            rfl
            }
            refine pure_ (i := 25) (N := some 51) (v := undef) (a' := ?_) (bqz 44 67108863) rfl rfl qza qzd (Or.inr ⟨by rfl, rfl⟩) ?_ ?_
            rotate_left
            {
            simp only [qzs]
            rfl
            }
            refine pure_ (i := 26) (N := some 52) (v := undef) (a' := ?_) (bqz 44 134217727) rfl rfl qza qzd (Or.inr ⟨by rfl, rfl⟩) ?_ ?_
            rotate_left
            {
            simp only [qzs]
            rfl
            }
            refine pure_ (i := 27) (N := some 53) (v := undef) (a' := ?_) (bqz 44 268435455) rfl rfl qza qzd (Or.inr ⟨by rfl, rfl⟩) ?_ ?_
            rotate_left
            {
            simp only [qzs]
            rfl
            }
            refine pure_ (i := 28) (N := some 54) (v := ?_) (a' := ?_) (bqz 44 536870911) rfl rfl qza qzd (Or.inl ⟨by rfl, ?_⟩) ?_ ?_
            rotate_left
            {
            intro w'
            go_simp
            with_reducible rfl
            }
            rotate_left
            {
            simp only [qzs]
            rfl
            }
            refine pure_ (i := 29) (N := some 55) (v := ?_) (a' := ?_) (bqz 44 1073741823) rfl rfl qza qzd (Or.inl ⟨by rfl, ?_⟩) ?_ ?_
            rotate_left
            {
            intro w'
            go_simp
            with_reducible rfl
            }
            rotate_left
            {
            simp only [qzs]
            rfl
            }
            refine pure_ (i := 30) (N := some 56) (v := undef) (a' := ?_) (bqz 44 2147483647) rfl rfl qza qzd (Or.inr ⟨by rfl, rfl⟩) ?_ ?_
            rotate_left
            {
            simp only [qzs]
            rfl
            }
            refine pure_ (i := 31) (N := some 57) (v := undef) (a' := ?_) (bqz 44 4294967295) rfl rfl qza qzd (Or.inr ⟨by rfl, rfl⟩) ?_ ?_
            rotate_left
            {
            simp only [qzs]
            rfl
            }
            refine pure_ (i := 32) (N := some 58) (v := undef) (a' := ?_) (bqz 44 8589934591) rfl rfl qza qzd (Or.inr ⟨by rfl, rfl⟩) ?_ ?_
            rotate_left
            {
            simp only [qzs]
            rfl
            }
            refine pure_ (i := 33) (N := some 59) (v := undef) (a' := ?_) (bqz 44 17179869183) rfl rfl qza qzd (Or.inr ⟨by rfl, rfl⟩) ?_ ?_
            rotate_left
            {
            simp only [qzs]
            rfl
            }
            refine pure_ (i := 34) (N := some 60) (v := undef) (a' := ?_) (bqz 44 34359738367) rfl rfl qza qzd (Or.inr ⟨by rfl, rfl⟩) ?_ ?_
            rotate_left
            {
            simp only [qzs]
            rfl
            }
            refine pure_ (i := 35) (N := some 61) (v := undef) (a' := ?_) (bqz 44 68719476735) rfl rfl qza qzd (Or.inr ⟨by rfl, rfl⟩) ?_ ?_
            rotate_left
            {
            simp only [qzs]
            rfl
            }
            refine pure_ (i := 36) (N := some 62) (v := undef) (a' := ?_) (bqz 44 137438953471) rfl rfl qza qzd (Or.inr ⟨by rfl, rfl⟩) ?_ ?_
            rotate_left
            {
            simp only [qzs]
            rfl
            }
            refine pure_ (i := 37) (N := some 63) (v := undef) (a' := ?_) (bqz 44 274877906943) rfl rfl qza qzd (Or.inr ⟨by rfl, rfl⟩) ?_ ?_
            rotate_left
            {
            simp only [qzs]
            rfl
            }
            refine pure_ (i := 38) (N := some 64) (v := undef) (a' := ?_) (bqz 44 549755813887) rfl rfl qza qzd (Or.inr ⟨by rfl, rfl⟩) ?_ ?_
            rotate_left
            {
            simp only [qzs]
            rfl
            }
            refine pure_ (i := 39) (N := some 65) (v := undef) (a' := ?_) (bqz 44 1099511627775) rfl rfl qza qzd (Or.inr ⟨by rfl, rfl⟩) ?_ ?_
            rotate_left
            {
            simp only [qzs]
            rfl
            }
            refine pure_ (i := 40) (N := some 66) (v := undef) (a' := ?_) (bqz 44 2199023255551) rfl rfl qza qzd (Or.inr ⟨by rfl, rfl⟩) ?_ ?_
            rotate_left
            {
            simp only [qzs]
            rfl
            }
            refine pure_ (i := 41) (N := some 67) (v := undef) (a' := ?_) (bqz 44 4398046511103) rfl rfl qza qzd (Or.inr ⟨by rfl, rfl⟩) ?_ ?_
            rotate_left
            {
            simp only [qzs]
            rfl
            }
            refine pure_ (i := 42) (N := some 68) (v := undef) (a' := ?_) (bqz 44 8796093022207) rfl rfl qza qzd (Or.inr ⟨by rfl, rfl⟩) ?_ ?_
            rotate_left
            {
            simp only [qzs]
            rfl
            }
            refine pure_ (i := 43) (N := some 69) (v := ?_) (a' := ?_) (bqz 44 17592186044415) rfl rfl qza qzd (Or.inl ⟨by rfl, ?_⟩) ?_ ?_
            rotate_left
            {
            intro w'
            go_simp
            with_reducible rfl
            }
            rotate_left
            {
            simp only [qzs]
            rfl
            }
            refine done_ (done_of HT_.out (by kernel_rfl)) ?_
            try go_wp2
            go_meet
            case rel => exact ⟨_, (true), qz14, H', ⟨by have := HJ2.out; have := HK2.out; first | omega | exact Nat.le_refl _⟩, ⟨by (with_reducible repeat (first | refine blk_drewN ?_ _ | refine blk_drew ?_ | refine blk_alloc ?_ _)); exact BK158.out⟩, ⟨by (with_reducible repeat (first | refine blk_drewN ?_ _ | refine blk_drew ?_ | refine blk_alloc ?_ _)); exact BK161.out⟩, ⟨by repeat (first | (with_reducible first | exact HB.out | apply below_alloc | apply pw_below_drewN | apply below_drew1 | refine below_set ?_ GE158.out | refine below_set ?_ GE161.out) | exact HB.out)⟩⟩
            }
          case rest =>
            clear HC14
            try clear c1
            try clear c2
            try clear p2
            try clear c9
            try clear c10
            try clear c19
            try clear c21
            obtain ⟨kq, x69_13, rfl, HA, HJ13, BK158, BK161, HB⟩ := hcut
            cases kq with
            | zero => exact absurd HA.out (by simp [spec_CrewOk.j2])
            | succ kj13 =>
              have H := HA.out
              clear HA
              simp only [spec_CrewOk.j2] at H
              by_cases c67 : x69_13 = true
              {
              subst c67
              have H1 : (some false) = some r := by rw [if_pos rfl] at H; exact H
              clear H
              have H := H1
              clear H1
              obtain rfl := Option.some.inj H
              simp only [Option.some.injEq, Prod.mk.injEq] at H
              obtain ⟨rfl⟩ := H
              go_wp2
              go_ret
              exact ⟨by first | rfl | (simp [errW_none, errW_some] <;> rfl) | (simp [*, errW_none, errW_some] <;> rfl), by repeat (first | (with_reducible first | exact HB.out | apply below_alloc | apply pw_below_drewN | apply below_drew1 | refine below_set ?_ GE158.out | refine below_set ?_ GE161.out) | exact HB.out)⟩
              }
              {
              replace c67 := Bool.eq_false_iff.mpr c67
              subst c67
              have H1 : (spec_CrewOk.l1 kj13 l1 x5_2 0 a0_0 a0_1 l0_2 ((rd_T34 l1 x5_2).f0) ((rd_T34 l1 x5_2).f1) ((rd_T34 l1 x5_2).f2) ((rd_T34 l1 x5_2).f3) ((rd_T34 l1 x5_2).f4)) = some r := by rw [if_neg (show ¬ (false = true) by decide)] at H; exact H
              clear H
              have H := H1
              clear H1
              have H' := Aside0.mk H
              clear H
              go_wp2
              go_loopg [7] kj13 (fun kq v7 w' => ∃ (x7_4 : Int), v7 = .int .i64 x7_4 ∧ Aside0 (spec_CrewOk.l1 kq l1 x5_2 x7_4 a0_0 a0_1 l0_2 ((rd_T34 l1 x5_2).f0) ((rd_T34 l1 x5_2).f1) ((rd_T34 l1 x5_2).f2) ((rd_T34 l1 x5_2).f3) ((rd_T34 l1 x5_2).f4) = some r) ∧ Aside0 (kq ≤ kj13) ∧ Aside0 (w'.heap[gb158]? = some (.cells #[.int .i64 a0_0, .int .i64 a0_1, (.slice A0_2 l0_2.length c0_2)] 26 (0, 0))) ∧ Aside0 (w'.heap[gb161]? = some (.cells #[.int .i64 ((rd_T34 l1 x5_2).f0), .int .i64 ((rd_T34 l1 x5_2).f1), .int .i64 ((rd_T34 l1 x5_2).f2), .bool ((rd_T34 l1 x5_2).f3), .int .i64 ((rd_T34 l1 x5_2).f4)] 34 (0, 0))) ∧ Aside0 (Below w.heap.size w w'))
              case atStart => exact ⟨(0), qz14, H', ⟨Nat.le_refl _⟩, ⟨by (with_reducible repeat (first | refine blk_drewN ?_ _ | refine blk_drew ?_ | refine blk_alloc ?_ _)); exact BK158.out⟩, ⟨by (with_reducible repeat (first | refine blk_drewN ?_ _ | refine blk_drew ?_ | refine blk_alloc ?_ _)); exact BK161.out⟩, ⟨by repeat (first | (with_reducible first | exact HB.out | apply below_alloc | apply pw_below_drewN | apply below_drew1 | refine below_set ?_ GE158.out | refine below_set ?_ GE161.out) | exact HB.out)⟩⟩
              case round =>
                clear H'
                try clear c1
                try clear c2
                try clear p2
                try clear c6
                try clear c9
                try clear c10
                try clear c19
                try clear c21
                try clear c67
                try clear p2
                obtain ⟨x7_4, rfl, HA, HK4, BK158, BK161, HB⟩ := hrel
                cases gk with
                | zero => exact absurd HA.out (by simp [spec_CrewOk.l1])
                | succ k4 =>
                  have H := HA.out
                  clear HA
                  simp only [spec_CrewOk.l1] at H
                  by_cases c68 : x7_4 < x5_2
                  {
                  rw [if_pos c68] at H
                  have c68b0 : decide (x7_4 < x5_2) = true := decide_eq_true c68
                  clear c68
                  by_cases c69 : 0 ≤ x7_4
                  {
                  rw [if_pos c69] at H
                  have c69b0 : decide (0 ≤ x7_4) = true := decide_eq_true c69
                  clear c69
                  by_cases c70 : x7_4 < (l1.length : Int)
                  {
                  rw [if_pos c70] at H
                  have c70b0 : decide (x7_4 < (l1.length : Int)) = true := decide_eq_true c70
                  clear c70
                  by_cases c71 : ((rd_T34 l1 x7_4).f1) = ((rd_T34 l1 x5_2).f1)
                  {
                  rw [if_pos c71] at H
                  have c71b0 : (((rd_T34 l1 x7_4).f1) == ((rd_T34 l1 x5_2).f1)) = true := beq_iff_eq.mpr c71
                  have c71b1 : (((rd_T34 l1 x7_4).f1) != ((rd_T34 l1 x5_2).f1)) = false := bne_eq_false_iff_eq.mpr c71
                  clear c71
                  obtain rfl := Option.some.inj H
                  simp only [Option.some.injEq, Prod.mk.injEq] at H
                  obtain ⟨rfl⟩ := H
                  try go_wp2
                  have n0_ := Aside0.mk (blk_drew BK158.out)
                  have n1_ := Aside0.mk (blk_drew BK161.out)
                  have n2_ := Aside0.mk (below_drew1 HB.out)
                  clear BK158
                  clear BK161
                  clear HB
                  have BK158 := n0_
                  have BK161 := n1_
                  have HB := n2_
                  clear n0_ n1_ n2_
                  have p169 : 0 ≤ (x7_4 : Int) := of_decide_eq_true qz7
                  have q169 : x7_4 < (l1.length : Int) := of_decide_eq_true qz7
                  obtain ⟨ad169, e169, hx169_0, hx169_1, hx169_2, hx169_3, hx169_4⟩ := at_T34 HR1.out x7_4 p169 q169
                  have hw169_4 := hx169_4
                  have hw169_3 := hx169_3
                  have hw169_2 := hx169_2
                  have hw169_1 := hx169_1
                  have hw169_0 := hx169_0
                  obtain rfl : ad160 = ad169 := (by injection e169)
                  replace hx169_0 := (HB.out.cell (World.block_lt_of_cell? w _ hx169_0)).trans hx169_0
                  replace hx169_1 := (HB.out.cell (World.block_lt_of_cell? w _ hx169_1)).trans hx169_1
                  replace hx169_2 := (HB.out.cell (World.block_lt_of_cell? w _ hx169_2)).trans hx169_2
                  replace hx169_3 := (HB.out.cell (World.block_lt_of_cell? w _ hx169_3)).trans hx169_3
                  replace hx169_4 := (HB.out.cell (World.block_lt_of_cell? w _ hx169_4)).trans hx169_4
                  replace p169 := eq_true p169
                  replace q169 := eq_true q169
                  refine start_ (n := 8) (S := fun w' => w'.cell? ⟨gb161, 0, none⟩ = some (.int .i64 ((rd_T34 l1 x5_2).f0)) ∧ w'.cell? ⟨gb161, 1, none⟩ = some (.int .i64 ((rd_T34 l1 x5_2).f1)) ∧ w'.cell? ⟨gb161, 2, none⟩ = some (.int .i64 ((rd_T34 l1 x5_2).f2)) ∧ w'.cell? ⟨gb161, 3, none⟩ = some (.bool ((rd_T34 l1 x5_2).f3)) ∧ w'.cell? ⟨gb161, 4, none⟩ = some (.int .i64 ((rd_T34 l1 x5_2).f4)) ∧ w'.cell? (ad160.add ((x7_4).toNat * 5)) = some (.int .i64 ((rd_T34 l1 x7_4).f0)) ∧ w'.cell? ⟨(ad160.add ((x7_4).toNat * 5)).block, (ad160.add ((x7_4).toNat * 5)).off + 1, none⟩ = some (.int .i64 ((rd_T34 l1 x7_4).f1)) ∧ w'.cell? ⟨(ad160.add ((x7_4).toNat * 5)).block, (ad160.add ((x7_4).toNat * 5)).off + 2, none⟩ = some (.int .i64 ((rd_T34 l1 x7_4).f2)) ∧ w'.cell? ⟨(ad160.add ((x7_4).toNat * 5)).block, (ad160.add ((x7_4).toNat * 5)).off + 3, none⟩ = some (.bool ((rd_T34 l1 x7_4).f3)) ∧ w'.cell? ⟨(ad160.add ((x7_4).toNat * 5)).block, (ad160.add ((x7_4).toNat * 5)).off + 4, none⟩ = some (.int .i64 ((rd_T34 l1 x7_4).f4))) (ds := []) #[false, false, false, false, false, false, false, false] (by kernel_rfl) rfl rfl ⟨(blk_cell BK161.out 0).trans rfl, (blk_cell BK161.out 1).trans rfl, (blk_cell BK161.out 2).trans rfl, (blk_cell BK161.out 3).trans rfl, (blk_cell BK161.out 4).trans rfl, ((HB.out.cell (World.block_lt_of_cell? w _ hw169_0)).trans hw169_0), ((HB.out.cell (World.block_lt_of_cell? w _ hw169_1)).trans hw169_1), ((HB.out.cell (World.block_lt_of_cell? w _ hw169_2)).trans hw169_2), ((HB.out.cell (World.block_lt_of_cell? w _ hw169_3)).trans hw169_3), ((HB.out.cell (World.block_lt_of_cell? w _ hw169_4)).trans hw169_4)⟩ (fun hHeld => ?_); refine with_tabW spec_CrewOk.tab12 spec_CrewOk.bits12 (fun HT_ HW_ => ?_)
                  generalize wr.drew = w72 at BK158 BK161 HB hx169_0 hx169_1 hx169_2 hx169_3 hx169_4 hHeld ⊢
                  refine pure_ (i := 0) (N := some 75) (v := ?_) (a' := ?_) (bqz 8 1) rfl rfl qza qzd (Or.inl ⟨by rfl, ?_⟩) ?_ ?_
                  rotate_left
                  {
                  intro w'
                  go_simp
                  with_reducible rfl
                  }
                  rotate_left
                  {
                  simp only [qzs]
                  rfl
                  }
                  refine pure_ (i := 1) (N := some 76) (v := ?_) (a' := ?_) (bqz 8 3) rfl rfl qza qzd (Or.inl ⟨by rfl, ?_⟩) ?_ ?_
                  rotate_left
                  {
                  intro w'
                  go_simp
                  with_reducible rfl
                  }
                  rotate_left
                  {
                  simp only [qzs]
                  rfl
                  }
                  refine pure_ (i := 2) (N := some 77) (v := ?_) (a' := ?_) (bqz 8 7) rfl rfl qza qzd (Or.inl ⟨by rfl, ?_⟩) ?_ ?_
                  rotate_left
                  {
                  intro w'
                  go_simp
                  with_reducible rfl
                  }
                  rotate_left
                  {
                  simp only [qzs]
                  rfl
                  }
                  refine pure_ (i := 3) (N := some 78) (v := ?_) (a' := ?_) (bqz 8 15) rfl rfl qza qzd (Or.inl ⟨by rfl, ?_⟩) ?_ ?_
                  rotate_left
                  {
                  intro w'
                  go_simp
                  with_reducible rfl
                  }
                  rotate_left
                  {
                  simp only [qzs]
                  rfl
                  }
                  refine pure_ (i := 5) (N := some 80) (v := ?_) (a' := ?_) (bqz 8 47) rfl rfl qza qzd (Or.inl ⟨by rfl, ?_⟩) ?_ ?_
                  rotate_left
                  {
                  intro w'
                  go_simp
                  with_reducible rfl
                  }
                  rotate_left
                  {
                  simp only [qzs]
                  rfl
                  }
                  refine take_ (i := 4) (N := some 79) (v := ?_) (a' := ?_) (bqz 8 63) rfl rfl qzb qzd (Or.inl ⟨by rfl, ?_⟩) hHeld ?_ ?_
                  rotate_left
                  {
                  rintro w' ⟨s0, s1, s2, s3, s4, s5, s6, s7, s8, s9⟩
                  go_simp
                  with_reducible rfl
                  }
                  rotate_left
                  {
                  simp only [qzs]
                  rfl
                  }
                  refine take_ (i := 6) (N := some 81) (v := ?_) (a' := ?_) (bqz 8 127) rfl rfl qzb qzd (Or.inl ⟨by rfl, ?_⟩) hHeld ?_ ?_
                  rotate_left
                  {
                  rintro w' ⟨s0, s1, s2, s3, s4, s5, s6, s7, s8, s9⟩
                  go_simp
                  with_reducible rfl
                  }
                  rotate_left
                  {
                  simp only [qzs]
                  rfl
                  }
                  refine pure_ (i := 7) (N := some 82) (v := ?_) (a' := ?_) (bqz 8 255) rfl rfl qza qzd (Or.inl ⟨by rfl, ?_⟩) ?_ ?_
                  rotate_left
                  {
                  intro w'
                  go_simp
                  with_reducible rfl
                  }
                  rotate_left
                  {
                  simp only [qzs]
                  rfl
                  }
                  refine done_ (done_of HT_.out (by kernel_rfl)) ?_
                  try go_wp2
                  go_ret
                  exact ⟨by first | rfl | (simp [errW_none, errW_some] <;> rfl) | (simp [*, errW_none, errW_some] <;> rfl), by repeat (first | (with_reducible first | exact HB.out | apply below_alloc | apply pw_below_drewN | apply below_drew1 | refine below_set ?_ GE158.out | refine below_set ?_ GE161.out) | exact HB.out)⟩
                  }
                  {
                  rw [if_neg c71] at H
                  have c71b0 : (((rd_T34 l1 x7_4).f1) == ((rd_T34 l1 x5_2).f1)) = false := beq_eq_false_iff_ne.mpr c71
                  have c71b1 : (((rd_T34 l1 x7_4).f1) != ((rd_T34 l1 x5_2).f1)) = true := bne_iff_ne.mpr c71
                  have H' := Aside0.mk H
                  clear H
                  try go_wp2
                  have n0_ := Aside0.mk (blk_drew BK158.out)
                  have n1_ := Aside0.mk (blk_drew BK161.out)
                  have n2_ := Aside0.mk (below_drew1 HB.out)
                  clear BK158
                  clear BK161
                  clear HB
                  have BK158 := n0_
                  have BK161 := n1_
                  have HB := n2_
                  clear n0_ n1_ n2_
                  have p169 : 0 ≤ (x7_4 : Int) := of_decide_eq_true qz7
                  have q169 : x7_4 < (l1.length : Int) := of_decide_eq_true qz7
                  obtain ⟨ad169, e169, hx169_0, hx169_1, hx169_2, hx169_3, hx169_4⟩ := at_T34 HR1.out x7_4 p169 q169
                  have hw169_4 := hx169_4
                  have hw169_3 := hx169_3
                  have hw169_2 := hx169_2
                  have hw169_1 := hx169_1
                  have hw169_0 := hx169_0
                  obtain rfl : ad160 = ad169 := (by injection e169)
                  replace hx169_0 := (HB.out.cell (World.block_lt_of_cell? w _ hx169_0)).trans hx169_0
                  replace hx169_1 := (HB.out.cell (World.block_lt_of_cell? w _ hx169_1)).trans hx169_1
                  replace hx169_2 := (HB.out.cell (World.block_lt_of_cell? w _ hx169_2)).trans hx169_2
                  replace hx169_3 := (HB.out.cell (World.block_lt_of_cell? w _ hx169_3)).trans hx169_3
                  replace hx169_4 := (HB.out.cell (World.block_lt_of_cell? w _ hx169_4)).trans hx169_4
                  replace p169 := eq_true p169
                  replace q169 := eq_true q169
                  refine start_ (n := 8) (S := fun w' => w'.cell? ⟨gb161, 0, none⟩ = some (.int .i64 ((rd_T34 l1 x5_2).f0)) ∧ w'.cell? ⟨gb161, 1, none⟩ = some (.int .i64 ((rd_T34 l1 x5_2).f1)) ∧ w'.cell? ⟨gb161, 2, none⟩ = some (.int .i64 ((rd_T34 l1 x5_2).f2)) ∧ w'.cell? ⟨gb161, 3, none⟩ = some (.bool ((rd_T34 l1 x5_2).f3)) ∧ w'.cell? ⟨gb161, 4, none⟩ = some (.int .i64 ((rd_T34 l1 x5_2).f4)) ∧ w'.cell? (ad160.add ((x7_4).toNat * 5)) = some (.int .i64 ((rd_T34 l1 x7_4).f0)) ∧ w'.cell? ⟨(ad160.add ((x7_4).toNat * 5)).block, (ad160.add ((x7_4).toNat * 5)).off + 1, none⟩ = some (.int .i64 ((rd_T34 l1 x7_4).f1)) ∧ w'.cell? ⟨(ad160.add ((x7_4).toNat * 5)).block, (ad160.add ((x7_4).toNat * 5)).off + 2, none⟩ = some (.int .i64 ((rd_T34 l1 x7_4).f2)) ∧ w'.cell? ⟨(ad160.add ((x7_4).toNat * 5)).block, (ad160.add ((x7_4).toNat * 5)).off + 3, none⟩ = some (.bool ((rd_T34 l1 x7_4).f3)) ∧ w'.cell? ⟨(ad160.add ((x7_4).toNat * 5)).block, (ad160.add ((x7_4).toNat * 5)).off + 4, none⟩ = some (.int .i64 ((rd_T34 l1 x7_4).f4))) (ds := []) #[false, false, false, false, false, false, false, false] (by kernel_rfl) rfl rfl ⟨(blk_cell BK161.out 0).trans rfl, (blk_cell BK161.out 1).trans rfl, (blk_cell BK161.out 2).trans rfl, (blk_cell BK161.out 3).trans rfl, (blk_cell BK161.out 4).trans rfl, ((HB.out.cell (World.block_lt_of_cell? w _ hw169_0)).trans hw169_0), ((HB.out.cell (World.block_lt_of_cell? w _ hw169_1)).trans hw169_1), ((HB.out.cell (World.block_lt_of_cell? w _ hw169_2)).trans hw169_2), ((HB.out.cell (World.block_lt_of_cell? w _ hw169_3)).trans hw169_3), ((HB.out.cell (World.block_lt_of_cell? w _ hw169_4)).trans hw169_4)⟩ (fun hHeld => ?_); refine with_tabW spec_CrewOk.tab12 spec_CrewOk.bits12 (fun HT_ HW_ => ?_)
                  generalize wr.drew = w73 at BK158 BK161 HB hx169_0 hx169_1 hx169_2 hx169_3 hx169_4 hHeld ⊢
                  refine pure_ (i := 0) (N := some 75) (v := ?_) (a' := ?_) (bqz 8 1) rfl rfl qza qzd (Or.inl ⟨by rfl, ?_⟩) ?_ ?_
                  rotate_left
                  {
                  intro w'
                  go_simp
                  with_reducible rfl
                  }
                  rotate_left
                  {
                  simp only [qzs]
                  rfl
                  }
                  refine pure_ (i := 1) (N := some 76) (v := ?_) (a' := ?_) (bqz 8 3) rfl rfl qza qzd (Or.inl ⟨by rfl, ?_⟩) ?_ ?_
                  rotate_left
                  {
                  intro w'
                  go_simp
                  with_reducible rfl
                  }
                  rotate_left
                  {
                  simp only [qzs]
                  rfl
                  }
                  refine pure_ (i := 2) (N := some 77) (v := ?_) (a' := ?_) (bqz 8 7) rfl rfl qza qzd (Or.inl ⟨by rfl, ?_⟩) ?_ ?_
                  rotate_left
                  {
                  intro w'
                  go_simp
                  with_reducible rfl
                  }
                  rotate_left
                  {
                  simp only [qzs]
                  rfl
                  }
                  refine pure_ (i := 3) (N := some 78) (v := ?_) (a' := ?_) (bqz 8 15) rfl rfl qza qzd (Or.inl ⟨by rfl, ?_⟩) ?_ ?_
                  rotate_left
                  {
                  intro w'
                  go_simp
                  with_reducible rfl
                  }
                  rotate_left
                  {
                  simp only [qzs]
                  rfl
                  }
                  refine pure_ (i := 5) (N := some 80) (v := ?_) (a' := ?_) (bqz 8 47) rfl rfl qza qzd (Or.inl ⟨by rfl, ?_⟩) ?_ ?_
                  rotate_left
                  {
                  intro w'
                  go_simp
                  with_reducible rfl
                  }
                  rotate_left
                  {
                  simp only [qzs]
                  rfl
                  }
                  refine take_ (i := 4) (N := some 79) (v := ?_) (a' := ?_) (bqz 8 63) rfl rfl qzb qzd (Or.inl ⟨by rfl, ?_⟩) hHeld ?_ ?_
                  rotate_left
                  {
                  rintro w' ⟨s0, s1, s2, s3, s4, s5, s6, s7, s8, s9⟩
                  go_simp
                  with_reducible rfl
                  }
                  rotate_left
                  {
                  simp only [qzs]
                  rfl
                  }
                  refine take_ (i := 6) (N := some 81) (v := ?_) (a' := ?_) (bqz 8 127) rfl rfl qzb qzd (Or.inl ⟨by rfl, ?_⟩) hHeld ?_ ?_
                  rotate_left
                  {
                  rintro w' ⟨s0, s1, s2, s3, s4, s5, s6, s7, s8, s9⟩
                  go_simp
                  with_reducible rfl
                  }
                  rotate_left
                  {
                  simp only [qzs]
                  rfl
                  }
                  refine pure_ (i := 7) (N := some 82) (v := ?_) (a' := ?_) (bqz 8 255) rfl rfl qza qzd (Or.inl ⟨by rfl, ?_⟩) ?_ ?_
                  rotate_left
                  {
                  intro w'
                  go_simp
                  with_reducible rfl
                  }
                  rotate_left
                  {
                  simp only [qzs]
                  rfl
                  }
                  refine done_ (done_of HT_.out (by kernel_rfl)) ?_
                  try go_wp2
                  go_roundg k4
                  case measure => have := HJ2.out; have := HK2.out; have := HJ13.out; have := HK4.out; omega
                  case rel => exact ⟨(wrap64 (x7_4 + 1)), qz14, H', ⟨by have := HJ2.out; have := HK2.out; have := HJ13.out; have := HK4.out; omega⟩, ⟨by (with_reducible repeat (first | refine blk_drewN ?_ _ | refine blk_drew ?_ | refine blk_alloc ?_ _)); exact BK158.out⟩, ⟨by (with_reducible repeat (first | refine blk_drewN ?_ _ | refine blk_drew ?_ | refine blk_alloc ?_ _)); exact BK161.out⟩, ⟨by repeat (first | (with_reducible first | exact HB.out | apply below_alloc | apply pw_below_drewN | apply below_drew1 | refine below_set ?_ GE158.out | refine below_set ?_ GE161.out) | exact HB.out)⟩⟩
                  }
                  }
                  {
                  rw [if_neg c70] at H
                  exact absurd H (by simp)
                  }
                  }
                  {
                  rw [if_neg c69] at H
                  exact absurd H (by simp)
                  }
                  }
                  {
                  rw [if_neg c68] at H
                  have c68b0 : decide (x7_4 < x5_2) = false := decide_eq_false c68
                  clear c68
                  have H' := Aside0.mk H
                  clear H
                  go_wp2
                  go_roundg k4
                  case measure => have := HJ2.out; have := HK2.out; have := HJ13.out; have := HK4.out; omega
                  case rel => exact ⟨(wrap64 (x5_2 + 1)), qz14, H', ⟨by have := HJ2.out; have := HK2.out; have := HJ13.out; have := HK4.out; omega⟩, ⟨by (with_reducible repeat (first | refine blk_drewN ?_ _ | refine blk_drew ?_ | refine blk_alloc ?_ _)); exact BK158.out⟩, ⟨by repeat (first | (with_reducible first | exact HB.out | apply below_alloc | apply pw_below_drewN | apply below_drew1 | refine below_set ?_ GE158.out | refine below_set ?_ GE161.out) | exact HB.out)⟩⟩
                  }
              }
          }
          {
          rw [if_neg c13] at H
          exact absurd H (by simp)
          }
          }
          {
          rw [if_neg c12] at H
          have c12b0 : decide (x5_2 < (l1.length : Int)) = false := decide_eq_false c12
          clear c12
          obtain rfl := Option.some.inj H
          simp only [Option.some.injEq, Prod.mk.injEq] at H
          obtain ⟨rfl⟩ := H
          go_wp2
          go_ret
          exact ⟨by first | rfl | (simp [errW_none, errW_some] <;> rfl) | (simp [*, errW_none, errW_some] <;> rfl), by repeat (first | (with_reducible first | exact HB.out | apply below_alloc | apply pw_below_drewN | apply below_drew1 | refine below_set ?_ GE158.out) | exact HB.out)⟩

          }
      }
end Go.Proofs.Ytjeonneegmhcdaa.PFnExactCrewOk
