-- Made by a program of this session out of the translation. Lean checks it.
import Derived.Test.YtjeonneegmhcdaaPFnExactProvesx0
import Derived.Test.YtjeonneegmhcdaaPFnExactProvesx3
namespace Go.Proofs.Ytjeonneegmhcdaa.PFnExactProves
open Go.RowKit Go.Proofs.YtjeonneegmhcdaaW.PrintWords Go.Proofs.YtjeonneegmhcdaaW.PrintLast Go.Proofs.YtjeonneegmhcdaaW.PrintMore
attribute [local go_sem] max2_int min2_int max_two min_two max_three min_three max_four min_four   -- for this text's walks alone
set_option linter.unusedVariables false
set_option linter.unusedSimpArgs false

/-! ### spec_Proves: function 66 -/
mutual
def spec_Proves.j0 : Nat → List (List Int) → List Int → List Int → List Int → Bool → Option (Bool)
  | 0, _, _, _, _, _ => none
  | k + 1, x0, x1, x2, x3, x43 => if x43 = true then (some false) else (if 0 ≤ (x3.length : Int) then (if ((x3.length : Int) : Int).toNat ≤ 281474976710656 then (spec_Proves.l0 k x0 x1 x2 x3 (List.replicate ((x3.length : Int) : Int).toNat false) 0) else (none)) else (none))
def spec_Proves.l0 : Nat → List (List Int) → List Int → List Int → List Int → List Bool → Int → Option (Bool)
  | 0, _, _, _, _, _, _ => none
  | k + 1, x0, x1, x2, x3, x9, x10 => if x10 < (x0.length : Int) then (if 0 ≤ x10 then (if ((rd_L1 x0 x10).length : Int) = (x3.length : Int) then (spec_Proves.l1 k x0 x1 x2 x3 x9 x10 0) else (some false)) else (none)) else (spec_Proves.l2 k x3 x9 0)
def spec_Proves.l1 : Nat → List (List Int) → List Int → List Int → List Int → List Bool → Int → Int → Option (Bool)
  | 0, _, _, _, _, _, _, _ => none
  | k + 1, x0, x1, x2, x3, x9, x10, x11 => if x11 < (x3.length : Int) then (if 0 ≤ x10 then (if x10 < (x2.length : Int) then (if 0 ≤ x11 then (if x10 < (x0.length : Int) then (if x11 < ((rd_L1 x0 x10).length : Int) then (if (wrap64 ((rd x2 x10) + (rd x3 x11))) > (rd (rd_L1 x0 x10) x11) then (some false) else (if x10 < (x1.length : Int) then (if (rd x1 x10) = x11 then (if (wrap64 ((rd x2 x10) + (rd x3 x11))) = (rd (rd_L1 x0 x10) x11) then (if x11 < (x9.length : Int) then (if rdOf false x9 x11 = true then (spec_Proves.l1 k x0 x1 x2 x3 (x9.set (x11 : Int).toNat true) x10 (wrap64 (x11 + 1))) else (spec_Proves.l1 k x0 x1 x2 x3 (x9.set (x11 : Int).toNat ((rd x1 x10) == x11)) x10 (wrap64 (x11 + 1)))) else (none)) else (some false)) else (if x11 < (x9.length : Int) then (if rdOf false x9 x11 = true then (spec_Proves.l1 k x0 x1 x2 x3 (x9.set (x11 : Int).toNat true) x10 (wrap64 (x11 + 1))) else (spec_Proves.l1 k x0 x1 x2 x3 (x9.set (x11 : Int).toNat ((rd x1 x10) == x11)) x10 (wrap64 (x11 + 1)))) else (none))) else (none))) else (none)) else (none)) else (none)) else (none)) else (none)) else (spec_Proves.l0 k x0 x1 x2 x3 x9 (wrap64 (x10 + 1)))
def spec_Proves.l2 : Nat → List Int → List Bool → Int → Option (Bool)
  | 0, _, _, _ => none
  | k + 1, x3, x9, x12 => if x12 < (x3.length : Int) then (if 0 ≤ x12 then (if (rd x3 x12) > 0 then (some false) else (if x12 < (x9.length : Int) then (if rdOf false x9 x12 = true then (spec_Proves.l2 k x3 x9 (wrap64 (x12 + 1))) else (if (rd x3 x12) = 0 then (spec_Proves.l2 k x3 x9 (wrap64 (x12 + 1))) else (some false))) else (none))) else (none)) else (some true)
end
def spec_Proves.f (k : Nat) (l0 : List (List Int)) (l1 : List Int) (l2 : List Int) (l3 : List Int) : Option (Bool) := (spec_SumOf.f k l0 l1).bind fun t140 => (if t140 < 0 then (spec_Proves.j0 k l0 l1 l2 l3 true) else (if (l0.length : Int) = 0 then (if (l3.length : Int) > 0 then (spec_Proves.j0 k l0 l1 l2 l3 true) else (if (l2.length : Int) = (l0.length : Int) then ((spec_l4Small.f k l2).bind fun t141 => (if t141 = true then ((spec_l4Small.f k l3).bind fun t142 => (spec_Proves.j0 k l0 l1 l2 l3 (!t142))) else (spec_Proves.j0 k l0 l1 l2 l3 true))) else (spec_Proves.j0 k l0 l1 l2 l3 true))) else (if (l2.length : Int) = (l0.length : Int) then ((spec_l4Small.f k l2).bind fun t143 => (if t143 = true then ((spec_l4Small.f k l3).bind fun t144 => (spec_Proves.j0 k l0 l1 l2 l3 (!t144))) else (spec_Proves.j0 k l0 l1 l2 l3 true))) else (spec_Proves.j0 k l0 l1 l2 l3 true))))
theorem spec_Proves.mono_l : ∀ k, (∀ y0 y1 y2 y3 y4, LeO (spec_Proves.j0 k y0 y1 y2 y3 y4) (spec_Proves.j0 (k + 1) y0 y1 y2 y3 y4)) ∧ (∀ y0 y1 y2 y3 y4 y5, LeO (spec_Proves.l0 k y0 y1 y2 y3 y4 y5) (spec_Proves.l0 (k + 1) y0 y1 y2 y3 y4 y5)) ∧ (∀ y0 y1 y2 y3 y4 y5 y6, LeO (spec_Proves.l1 k y0 y1 y2 y3 y4 y5 y6) (spec_Proves.l1 (k + 1) y0 y1 y2 y3 y4 y5 y6)) ∧ (∀ y0 y1 y2, LeO (spec_Proves.l2 k y0 y1 y2) (spec_Proves.l2 (k + 1) y0 y1 y2))
  | 0 => ⟨fun _ _ _ _ _ r h => by simp [spec_Proves.j0] at h, fun _ _ _ _ _ _ r h => by simp [spec_Proves.l0] at h, fun _ _ _ _ _ _ _ r h => by simp [spec_Proves.l1] at h, fun _ _ _ r h => by simp [spec_Proves.l2] at h⟩
  | k + 1 => by
    obtain ⟨ih0, ih1, ih2, ih3⟩ := spec_Proves.mono_l k
    refine ⟨?_, ?_, ?_, ?_⟩
    {
    intro y0 y1 y2 y3 y4
    unfold spec_Proves.j0
    repeat' first
    | (with_reducible exact ih0 _ _ _ _ _)
    | (with_reducible exact ih1 _ _ _ _ _ _)
    | (with_reducible exact ih2 _ _ _ _ _ _ _)
    | (with_reducible exact ih3 _ _ _)
    | (with_reducible exact spec_SumOf.mono _ _ _)
    | (with_reducible exact spec_l4Small.mono _ _)
    | (with_reducible exact LeO.refl _)
    | (with_reducible exact LeO.none _)
    | (with_reducible refine LeO.ite ?_ ?_)
    | (with_reducible refine LeO.bind ?_ (fun _ => ?_))
    | exact ih0 _ _ _ _ _
    | exact ih1 _ _ _ _ _ _
    | exact ih2 _ _ _ _ _ _ _
    | exact ih3 _ _ _
    | exact spec_SumOf.mono _ _ _
    | exact spec_l4Small.mono _ _
    | exact LeO.none _
    | refine LeO.ite ?_ ?_
    | refine LeO.bind ?_ (fun _ => ?_)
    }
    {
    intro y0 y1 y2 y3 y4 y5
    unfold spec_Proves.l0
    repeat' first
    | (with_reducible exact ih0 _ _ _ _ _)
    | (with_reducible exact ih1 _ _ _ _ _ _)
    | (with_reducible exact ih2 _ _ _ _ _ _ _)
    | (with_reducible exact ih3 _ _ _)
    | (with_reducible exact spec_SumOf.mono _ _ _)
    | (with_reducible exact spec_l4Small.mono _ _)
    | (with_reducible exact LeO.refl _)
    | (with_reducible exact LeO.none _)
    | (with_reducible refine LeO.ite ?_ ?_)
    | (with_reducible refine LeO.bind ?_ (fun _ => ?_))
    | exact ih0 _ _ _ _ _
    | exact ih1 _ _ _ _ _ _
    | exact ih2 _ _ _ _ _ _ _
    | exact ih3 _ _ _
    | exact spec_SumOf.mono _ _ _
    | exact spec_l4Small.mono _ _
    | exact LeO.none _
    | refine LeO.ite ?_ ?_
    | refine LeO.bind ?_ (fun _ => ?_)
    }
    {
    intro y0 y1 y2 y3 y4 y5 y6
    unfold spec_Proves.l1
    repeat' first
    | (with_reducible exact ih0 _ _ _ _ _)
    | (with_reducible exact ih1 _ _ _ _ _ _)
    | (with_reducible exact ih2 _ _ _ _ _ _ _)
    | (with_reducible exact ih3 _ _ _)
    | (with_reducible exact spec_SumOf.mono _ _ _)
    | (with_reducible exact spec_l4Small.mono _ _)
    | (with_reducible exact LeO.refl _)
    | (with_reducible exact LeO.none _)
    | (with_reducible refine LeO.ite ?_ ?_)
    | (with_reducible refine LeO.bind ?_ (fun _ => ?_))
    | exact ih0 _ _ _ _ _
    | exact ih1 _ _ _ _ _ _
    | exact ih2 _ _ _ _ _ _ _
    | exact ih3 _ _ _
    | exact spec_SumOf.mono _ _ _
    | exact spec_l4Small.mono _ _
    | exact LeO.none _
    | refine LeO.ite ?_ ?_
    | refine LeO.bind ?_ (fun _ => ?_)
    }
    {
    intro y0 y1 y2
    unfold spec_Proves.l2
    repeat' first
    | (with_reducible exact ih0 _ _ _ _ _)
    | (with_reducible exact ih1 _ _ _ _ _ _)
    | (with_reducible exact ih2 _ _ _ _ _ _ _)
    | (with_reducible exact ih3 _ _ _)
    | (with_reducible exact spec_SumOf.mono _ _ _)
    | (with_reducible exact spec_l4Small.mono _ _)
    | (with_reducible exact LeO.refl _)
    | (with_reducible exact LeO.none _)
    | (with_reducible refine LeO.ite ?_ ?_)
    | (with_reducible refine LeO.bind ?_ (fun _ => ?_))
    | exact ih0 _ _ _ _ _
    | exact ih1 _ _ _ _ _ _
    | exact ih2 _ _ _ _ _ _ _
    | exact ih3 _ _ _
    | exact spec_SumOf.mono _ _ _
    | exact spec_l4Small.mono _ _
    | exact LeO.none _
    | refine LeO.ite ?_ ?_
    | refine LeO.bind ?_ (fun _ => ?_)
    }
theorem spec_Proves.mono : ∀ a0 a1 a2 a3 k, LeO (spec_Proves.f k a0 a1 a2 a3) (spec_Proves.f (k + 1) a0 a1 a2 a3) := by
  intro a0 a1 a2 a3 k
  obtain ⟨ih0, ih1, ih2, ih3⟩ := spec_Proves.mono_l k
  unfold spec_Proves.f
  repeat' first
      | (with_reducible exact ih0 _ _ _ _ _)
      | (with_reducible exact ih1 _ _ _ _ _ _)
      | (with_reducible exact ih2 _ _ _ _ _ _ _)
      | (with_reducible exact ih3 _ _ _)
      | (with_reducible exact spec_SumOf.mono _ _ _)
      | (with_reducible exact spec_l4Small.mono _ _)
      | (with_reducible exact LeO.refl _)
      | (with_reducible exact LeO.none _)
      | (with_reducible refine LeO.ite ?_ ?_)
      | (with_reducible refine LeO.bind ?_ (fun _ => ?_))
      | exact ih0 _ _ _ _ _
      | exact ih1 _ _ _ _ _ _
      | exact ih2 _ _ _ _ _ _ _
      | exact ih3 _ _ _
      | exact spec_SumOf.mono _ _ _
      | exact spec_l4Small.mono _ _
      | exact LeO.none _
      | refine LeO.ite ?_ ?_
      | refine LeO.bind ?_ (fun _ => ?_)
set_option maxHeartbeats 8000000 in
set_option maxRecDepth 100000 in
theorem spec_Proves.calls (k : Nat) (A0 : Option Addr) (c0 : Nat) (l0 : List (List Int)) (A1 : Option Addr) (c1 : Nat) (l1 : List Int) (A2 : Option Addr) (c2 : Nat) (l2 : List Int) (A3 : Option Addr) (c3 : Nat) (l3 : List Int) (r : Bool) (w : World) (hr0 : Kd.C (Kd.slice 3 (Kd.int .i64)) w A0 l0.length l0) (hc0 : l0.length ≤ c0) (hr1 : Kd.C (Kd.int .i64) w A1 l1.length l1) (hc1 : l1.length ≤ c1) (hr2 : Kd.C (Kd.int .i64) w A2 l2.length l2) (hc2 : l2.length ≤ c2) (hr3 : Kd.C (Kd.int .i64) w A3 l3.length l3) (hc3 : l3.length ≤ c3) (h : spec_Proves.f k l0 l1 l2 l3 = some r) :
    Calls Try.prog 66 #[.slice A0 l0.length c0, .slice A1 l1.length c1, .slice A2 l2.length c2, .slice A3 l3.length c3] w fun e w' => e = .returned (.bool r) ∧ Below w.heap.size w w' := by
  have HR0 := Aside0.mk hr0
  have HC0 := Aside0.mk hc0
  clear hr0 hc0
  have HR1 := Aside0.mk hr1
  have HC1 := Aside0.mk hc1
  clear hr1 hc1
  have HR2 := Aside0.mk hr2
  have HC2 := Aside0.mk hc2
  clear hr2 hc2
  have HR3 := Aside0.mk hr3
  have HC3 := Aside0.mk hc3
  clear hr3 hc3
  have HB := Aside0.mk (Below.refl w.heap.size w)
  have H : ((spec_SumOf.f k l0 l1).bind fun t140 => (if t140 < 0 then (spec_Proves.j0 k l0 l1 l2 l3 true) else (if (l0.length : Int) = 0 then (if (l3.length : Int) > 0 then (spec_Proves.j0 k l0 l1 l2 l3 true) else (if (l2.length : Int) = (l0.length : Int) then ((spec_l4Small.f k l2).bind fun t141 => (if t141 = true then ((spec_l4Small.f k l3).bind fun t142 => (spec_Proves.j0 k l0 l1 l2 l3 (!t142))) else (spec_Proves.j0 k l0 l1 l2 l3 true))) else (spec_Proves.j0 k l0 l1 l2 l3 true))) else (if (l2.length : Int) = (l0.length : Int) then ((spec_l4Small.f k l2).bind fun t143 => (if t143 = true then ((spec_l4Small.f k l3).bind fun t144 => (spec_Proves.j0 k l0 l1 l2 l3 (!t144))) else (spec_Proves.j0 k l0 l1 l2 l3 true))) else (spec_Proves.j0 k l0 l1 l2 l3 true))))) = some r := h
  clear h
  have HC5 := Aside0.mk H
  clear H
  go_enter Try.func66, Try.ntmps66
  go_upto_region 1 with (fail)
  repeat (go_quiet (fail); go_upto_region 1 with (fail))
  go_cut [43] (fun v43 wc => ∃ (kq : Nat) (x43_4 : Bool), v43 = .bool x43_4 ∧ Aside0 (spec_Proves.j0 kq l0 l1 l2 l3 x43_4 = some r) ∧ Aside0 (kq ≤ k) ∧ Aside0 (Below w.heap.size w wc))
  case first =>
    have H := HC5.out
    clear HC5
    replace H := Option.bind_eq_some_iff.mp H
    obtain ⟨t140, A60, H⟩ := H
    replace H : (if t140 < 0 then (spec_Proves.j0 k l0 l1 l2 l3 true) else (if (l0.length : Int) = 0 then (if (l3.length : Int) > 0 then (spec_Proves.j0 k l0 l1 l2 l3 true) else (if (l2.length : Int) = (l0.length : Int) then ((spec_l4Small.f k l2).bind fun t141 => (if t141 = true then ((spec_l4Small.f k l3).bind fun t142 => (spec_Proves.j0 k l0 l1 l2 l3 (!t142))) else (spec_Proves.j0 k l0 l1 l2 l3 true))) else (spec_Proves.j0 k l0 l1 l2 l3 true))) else (if (l2.length : Int) = (l0.length : Int) then ((spec_l4Small.f k l2).bind fun t143 => (if t143 = true then ((spec_l4Small.f k l3).bind fun t144 => (spec_Proves.j0 k l0 l1 l2 l3 (!t144))) else (spec_Proves.j0 k l0 l1 l2 l3 true))) else (spec_Proves.j0 k l0 l1 l2 l3 true)))) = some r := H
    have A6 := Aside0.mk A60
    clear A60
    by_cases c7 : t140 < 0
    {
    rw [if_pos c7] at H
    have c7b0 : decide (t140 < 0) = true := decide_eq_true c7
    clear c7
    (first | rw [c7b0] | (simp only [i64_w, i32_w]; rw [c7b0]) | rw [@decide_eq_true _ _ (of_decide_eq_true c7b0)] | rw [@decide_eq_true _ _ (of_decide_eq_true c7b1)] | skip)
    have H' := Aside0.mk H
    clear H
    go_wp2_with (first | (go_at_call 38; (with_reducible refine (spec_SumOf.calls k _ _ l0 _ _ l1 t140 _ ?side1 ?side2 ?side3 ?side4 A6.out).mono ?_); (case side1 => repeat (first | exact (Kd.C_below HR0.out HB.out) | (with_reducible refine Kd.C_alloc ?_ _) | (with_reducible refine Kd.C_drewN ?_ _) | (with_reducible refine Kd.C_drew ?_))); (case side2 => exact HC0.out); (case side3 => repeat (first | exact (Kd.C_below HR1.out HB.out) | (with_reducible refine Kd.C_alloc ?_ _) | (with_reducible refine Kd.C_drewN ?_ _) | (with_reducible refine Kd.C_drew ?_))); (case side4 => exact HC1.out); rintro e w' ⟨rfl, ⟨nd, rfl⟩⟩; (try first | exact ⟨rfl, _, World.drewN_drewN _ _ _⟩ | exact ⟨rfl, _, Eq.trans (World.drewN_drewN _ _ _) (congrArg (World.drewN _) (Nat.add_assoc _ _ _))⟩)))
    repeat (go_quiet (first | (go_at_call 38; (with_reducible refine (spec_SumOf.calls k _ _ l0 _ _ l1 t140 _ ?side1 ?side2 ?side3 ?side4 A6.out).mono ?_); (case side1 => repeat (first | exact (Kd.C_below HR0.out HB.out) | (with_reducible refine Kd.C_alloc ?_ _) | (with_reducible refine Kd.C_drewN ?_ _) | (with_reducible refine Kd.C_drew ?_))); (case side2 => exact HC0.out); (case side3 => repeat (first | exact (Kd.C_below HR1.out HB.out) | (with_reducible refine Kd.C_alloc ?_ _) | (with_reducible refine Kd.C_drewN ?_ _) | (with_reducible refine Kd.C_drew ?_))); (case side4 => exact HC1.out); rintro e w' ⟨rfl, ⟨nd, rfl⟩⟩; (try first | exact ⟨rfl, _, World.drewN_drewN _ _ _⟩ | exact ⟨rfl, _, Eq.trans (World.drewN_drewN _ _ _) (congrArg (World.drewN _) (Nat.add_assoc _ _ _))⟩))); try go_wp2_with (first | (go_at_call 38; (with_reducible refine (spec_SumOf.calls k _ _ l0 _ _ l1 t140 _ ?side1 ?side2 ?side3 ?side4 A6.out).mono ?_); (case side1 => repeat (first | exact (Kd.C_below HR0.out HB.out) | (with_reducible refine Kd.C_alloc ?_ _) | (with_reducible refine Kd.C_drewN ?_ _) | (with_reducible refine Kd.C_drew ?_))); (case side2 => exact HC0.out); (case side3 => repeat (first | exact (Kd.C_below HR1.out HB.out) | (with_reducible refine Kd.C_alloc ?_ _) | (with_reducible refine Kd.C_drewN ?_ _) | (with_reducible refine Kd.C_drew ?_))); (case side4 => exact HC1.out); rintro e w' ⟨rfl, ⟨nd, rfl⟩⟩; (try first | exact ⟨rfl, _, World.drewN_drewN _ _ _⟩ | exact ⟨rfl, _, Eq.trans (World.drewN_drewN _ _ _) (congrArg (World.drewN _) (Nat.add_assoc _ _ _))⟩))))
    go_meet
    case rel => exact ⟨_, (true), qz4, H', ⟨by first | omega | exact Nat.le_refl _⟩, ⟨by repeat (first | (with_reducible first | exact HB.out | apply below_alloc | apply pw_below_drewN | apply below_drew1) | exact HB.out)⟩⟩
    }
    {
    rw [if_neg c7] at H
    have c7b0 : decide (t140 < 0) = false := decide_eq_false c7
    clear c7
    (first | rw [c7b0] | (simp only [i64_w, i32_w]; rw [c7b0]) | rw [@decide_eq_false _ _ (of_decide_eq_false c7b0)] | rw [@decide_eq_false _ _ (of_decide_eq_false c7b1)] | skip)
    by_cases c8 : (l0.length : Int) = 0
    {
    rw [if_pos c8] at H
    have c8b0 : ((l0.length : Int) == 0) = true := beq_iff_eq.mpr c8
    have c8b1 : ((l0.length : Int) != 0) = false := bne_eq_false_iff_eq.mpr c8
    clear c8
    by_cases c9 : (l3.length : Int) > 0
    {
    rw [if_pos c9] at H
    have c9b0 : decide (0 < (l3.length : Int)) = true := decide_eq_true c9
    have c9b1 : decide (0 < l3.length) = true := decide_eq_true (by omega)
    clear c9
    have H' := Aside0.mk H
    clear H
    go_wp2_with (first | (go_at_call 38; (with_reducible refine (spec_SumOf.calls k _ _ l0 _ _ l1 t140 _ ?side1 ?side2 ?side3 ?side4 A6.out).mono ?_); (case side1 => repeat (first | exact (Kd.C_below HR0.out HB.out) | (with_reducible refine Kd.C_alloc ?_ _) | (with_reducible refine Kd.C_drewN ?_ _) | (with_reducible refine Kd.C_drew ?_))); (case side2 => exact HC0.out); (case side3 => repeat (first | exact (Kd.C_below HR1.out HB.out) | (with_reducible refine Kd.C_alloc ?_ _) | (with_reducible refine Kd.C_drewN ?_ _) | (with_reducible refine Kd.C_drew ?_))); (case side4 => exact HC1.out); rintro e w' ⟨rfl, ⟨nd, rfl⟩⟩; (try first | exact ⟨rfl, _, World.drewN_drewN _ _ _⟩ | exact ⟨rfl, _, Eq.trans (World.drewN_drewN _ _ _) (congrArg (World.drewN _) (Nat.add_assoc _ _ _))⟩)))
    repeat (go_quiet (first | (go_at_call 38; (with_reducible refine (spec_SumOf.calls k _ _ l0 _ _ l1 t140 _ ?side1 ?side2 ?side3 ?side4 A6.out).mono ?_); (case side1 => repeat (first | exact (Kd.C_below HR0.out HB.out) | (with_reducible refine Kd.C_alloc ?_ _) | (with_reducible refine Kd.C_drewN ?_ _) | (with_reducible refine Kd.C_drew ?_))); (case side2 => exact HC0.out); (case side3 => repeat (first | exact (Kd.C_below HR1.out HB.out) | (with_reducible refine Kd.C_alloc ?_ _) | (with_reducible refine Kd.C_drewN ?_ _) | (with_reducible refine Kd.C_drew ?_))); (case side4 => exact HC1.out); rintro e w' ⟨rfl, ⟨nd, rfl⟩⟩; (try first | exact ⟨rfl, _, World.drewN_drewN _ _ _⟩ | exact ⟨rfl, _, Eq.trans (World.drewN_drewN _ _ _) (congrArg (World.drewN _) (Nat.add_assoc _ _ _))⟩))); try go_wp2_with (first | (go_at_call 38; (with_reducible refine (spec_SumOf.calls k _ _ l0 _ _ l1 t140 _ ?side1 ?side2 ?side3 ?side4 A6.out).mono ?_); (case side1 => repeat (first | exact (Kd.C_below HR0.out HB.out) | (with_reducible refine Kd.C_alloc ?_ _) | (with_reducible refine Kd.C_drewN ?_ _) | (with_reducible refine Kd.C_drew ?_))); (case side2 => exact HC0.out); (case side3 => repeat (first | exact (Kd.C_below HR1.out HB.out) | (with_reducible refine Kd.C_alloc ?_ _) | (with_reducible refine Kd.C_drewN ?_ _) | (with_reducible refine Kd.C_drew ?_))); (case side4 => exact HC1.out); rintro e w' ⟨rfl, ⟨nd, rfl⟩⟩; (try first | exact ⟨rfl, _, World.drewN_drewN _ _ _⟩ | exact ⟨rfl, _, Eq.trans (World.drewN_drewN _ _ _) (congrArg (World.drewN _) (Nat.add_assoc _ _ _))⟩))))
    go_meet
    case rel => exact ⟨_, (true), qz4, H', ⟨by first | omega | exact Nat.le_refl _⟩, ⟨by repeat (first | (with_reducible first | exact HB.out | apply below_alloc | apply pw_below_drewN | apply below_drew1) | exact HB.out)⟩⟩
    }
    {
    rw [if_neg c9] at H
    have c9b0 : decide (0 < (l3.length : Int)) = false := decide_eq_false c9
    have c9b1 : decide (0 < l3.length) = false := decide_eq_false (by omega)
    clear c9
    by_cases c10 : (l2.length : Int) = (l0.length : Int)
    {
    rw [if_pos c10] at H
    have c10b0 : ((l2.length : Int) == (l0.length : Int)) = true := beq_iff_eq.mpr c10
    have c10b1 : ((l2.length : Int) != (l0.length : Int)) = false := bne_eq_false_iff_eq.mpr c10
    have c10b2 : (l2.length == l0.length) = true := by first | simpa using c10 | (simp at c10 ⊢; omega)
    clear c10
    replace H := Option.bind_eq_some_iff.mp H
    obtain ⟨t141, A110, H⟩ := H
    replace H : (if t141 = true then ((spec_l4Small.f k l3).bind fun t142 => (spec_Proves.j0 k l0 l1 l2 l3 (!t142))) else (spec_Proves.j0 k l0 l1 l2 l3 true)) = some r := H
    have A11 := Aside0.mk A110
    clear A110
    by_cases c12 : t141 = true
    {
    subst c12
    have H1 : ((spec_l4Small.f k l3).bind fun t142 => (spec_Proves.j0 k l0 l1 l2 l3 (!t142))) = some r := by rw [if_pos rfl] at H; exact H
    clear H
    have H := H1
    clear H1
    replace H := Option.bind_eq_some_iff.mp H
    obtain ⟨t142, A130, H⟩ := H
    replace H : (spec_Proves.j0 k l0 l1 l2 l3 (!t142)) = some r := H
    have A13 := Aside0.mk A130
    clear A130
    have H' := Aside0.mk H
    clear H
    go_wp2_with (first | (go_at_call 38; (with_reducible refine (spec_SumOf.calls k _ _ l0 _ _ l1 t140 _ ?side1 ?side2 ?side3 ?side4 A6.out).mono ?_); (case side1 => repeat (first | exact (Kd.C_below HR0.out HB.out) | (with_reducible refine Kd.C_alloc ?_ _) | (with_reducible refine Kd.C_drewN ?_ _) | (with_reducible refine Kd.C_drew ?_))); (case side2 => exact HC0.out); (case side3 => repeat (first | exact (Kd.C_below HR1.out HB.out) | (with_reducible refine Kd.C_alloc ?_ _) | (with_reducible refine Kd.C_drewN ?_ _) | (with_reducible refine Kd.C_drew ?_))); (case side4 => exact HC1.out); rintro e w' ⟨rfl, ⟨nd, rfl⟩⟩; (try first | exact ⟨rfl, _, World.drewN_drewN _ _ _⟩ | exact ⟨rfl, _, Eq.trans (World.drewN_drewN _ _ _) (congrArg (World.drewN _) (Nat.add_assoc _ _ _))⟩)) | (go_at_call 112; (with_reducible refine (spec_l4Small.calls k _ _ l2 true _ ?side1 ?side2 A11.out).mono ?_); (case side1 => repeat (first | exact (Kd.C_below HR2.out qz2) | (with_reducible refine Kd.C_alloc ?_ _) | (with_reducible refine Kd.C_drewN ?_ _) | (with_reducible refine Kd.C_drew ?_))); (case side2 => exact HC2.out); rintro e w' ⟨rfl, ⟨nd, rfl⟩⟩; (try first | exact ⟨rfl, _, World.drewN_drewN _ _ _⟩ | exact ⟨rfl, _, Eq.trans (World.drewN_drewN _ _ _) (congrArg (World.drewN _) (Nat.add_assoc _ _ _))⟩)) | (go_at_call 112; (with_reducible refine (spec_l4Small.calls k _ _ l3 t142 _ ?side1 ?side2 A13.out).mono ?_); (case side1 => repeat (first | exact (Kd.C_below HR3.out qz2) | (with_reducible refine Kd.C_alloc ?_ _) | (with_reducible refine Kd.C_drewN ?_ _) | (with_reducible refine Kd.C_drew ?_))); (case side2 => exact HC3.out); rintro e w' ⟨rfl, ⟨nd, rfl⟩⟩; (try first | exact ⟨rfl, _, World.drewN_drewN _ _ _⟩ | exact ⟨rfl, _, Eq.trans (World.drewN_drewN _ _ _) (congrArg (World.drewN _) (Nat.add_assoc _ _ _))⟩)))
    repeat (go_quiet (first | (go_at_call 38; (with_reducible refine (spec_SumOf.calls k _ _ l0 _ _ l1 t140 _ ?side1 ?side2 ?side3 ?side4 A6.out).mono ?_); (case side1 => repeat (first | exact (Kd.C_below HR0.out HB.out) | (with_reducible refine Kd.C_alloc ?_ _) | (with_reducible refine Kd.C_drewN ?_ _) | (with_reducible refine Kd.C_drew ?_))); (case side2 => exact HC0.out); (case side3 => repeat (first | exact (Kd.C_below HR1.out HB.out) | (with_reducible refine Kd.C_alloc ?_ _) | (with_reducible refine Kd.C_drewN ?_ _) | (with_reducible refine Kd.C_drew ?_))); (case side4 => exact HC1.out); rintro e w' ⟨rfl, ⟨nd, rfl⟩⟩; (try first | exact ⟨rfl, _, World.drewN_drewN _ _ _⟩ | exact ⟨rfl, _, Eq.trans (World.drewN_drewN _ _ _) (congrArg (World.drewN _) (Nat.add_assoc _ _ _))⟩)) | (go_at_call 112; (with_reducible refine (spec_l4Small.calls k _ _ l2 true _ ?side1 ?side2 A11.out).mono ?_); (case side1 => repeat (first | exact (Kd.C_below HR2.out qz2) | (with_reducible refine Kd.C_alloc ?_ _) | (with_reducible refine Kd.C_drewN ?_ _) | (with_reducible refine Kd.C_drew ?_))); (case side2 => exact HC2.out); rintro e w' ⟨rfl, ⟨nd, rfl⟩⟩; (try first | exact ⟨rfl, _, World.drewN_drewN _ _ _⟩ | exact ⟨rfl, _, Eq.trans (World.drewN_drewN _ _ _) (congrArg (World.drewN _) (Nat.add_assoc _ _ _))⟩)) | (go_at_call 112; (with_reducible refine (spec_l4Small.calls k _ _ l3 t142 _ ?side1 ?side2 A13.out).mono ?_); (case side1 => repeat (first | exact (Kd.C_below HR3.out qz2) | (with_reducible refine Kd.C_alloc ?_ _) | (with_reducible refine Kd.C_drewN ?_ _) | (with_reducible refine Kd.C_drew ?_))); (case side2 => exact HC3.out); rintro e w' ⟨rfl, ⟨nd, rfl⟩⟩; (try first | exact ⟨rfl, _, World.drewN_drewN _ _ _⟩ | exact ⟨rfl, _, Eq.trans (World.drewN_drewN _ _ _) (congrArg (World.drewN _) (Nat.add_assoc _ _ _))⟩))); try go_wp2_with (first | (go_at_call 38; (with_reducible refine (spec_SumOf.calls k _ _ l0 _ _ l1 t140 _ ?side1 ?side2 ?side3 ?side4 A6.out).mono ?_); (case side1 => repeat (first | exact (Kd.C_below HR0.out HB.out) | (with_reducible refine Kd.C_alloc ?_ _) | (with_reducible refine Kd.C_drewN ?_ _) | (with_reducible refine Kd.C_drew ?_))); (case side2 => exact HC0.out); (case side3 => repeat (first | exact (Kd.C_below HR1.out HB.out) | (with_reducible refine Kd.C_alloc ?_ _) | (with_reducible refine Kd.C_drewN ?_ _) | (with_reducible refine Kd.C_drew ?_))); (case side4 => exact HC1.out); rintro e w' ⟨rfl, ⟨nd, rfl⟩⟩; (try first | exact ⟨rfl, _, World.drewN_drewN _ _ _⟩ | exact ⟨rfl, _, Eq.trans (World.drewN_drewN _ _ _) (congrArg (World.drewN _) (Nat.add_assoc _ _ _))⟩)) | (go_at_call 112; (with_reducible refine (spec_l4Small.calls k _ _ l2 true _ ?side1 ?side2 A11.out).mono ?_); (case side1 => repeat (first | exact (Kd.C_below HR2.out qz2) | (with_reducible refine Kd.C_alloc ?_ _) | (with_reducible refine Kd.C_drewN ?_ _) | (with_reducible refine Kd.C_drew ?_))); (case side2 => exact HC2.out); rintro e w' ⟨rfl, ⟨nd, rfl⟩⟩; (try first | exact ⟨rfl, _, World.drewN_drewN _ _ _⟩ | exact ⟨rfl, _, Eq.trans (World.drewN_drewN _ _ _) (congrArg (World.drewN _) (Nat.add_assoc _ _ _))⟩)) | (go_at_call 112; (with_reducible refine (spec_l4Small.calls k _ _ l3 t142 _ ?side1 ?side2 A13.out).mono ?_); (case side1 => repeat (first | exact (Kd.C_below HR3.out qz2) | (with_reducible refine Kd.C_alloc ?_ _) | (with_reducible refine Kd.C_drewN ?_ _) | (with_reducible refine Kd.C_drew ?_))); (case side2 => exact HC3.out); rintro e w' ⟨rfl, ⟨nd, rfl⟩⟩; (try first | exact ⟨rfl, _, World.drewN_drewN _ _ _⟩ | exact ⟨rfl, _, Eq.trans (World.drewN_drewN _ _ _) (congrArg (World.drewN _) (Nat.add_assoc _ _ _))⟩))))
    go_meet
    case rel => exact ⟨_, (!t142), qz4, H', ⟨by first | omega | exact Nat.le_refl _⟩, ⟨by repeat (first | (with_reducible first | exact HB.out | apply below_alloc | apply pw_below_drewN | apply below_drew1) | exact HB.out)⟩⟩
    }
    {
    replace c12 := Bool.eq_false_iff.mpr c12
    subst c12
    have H1 : (spec_Proves.j0 k l0 l1 l2 l3 true) = some r := by rw [if_neg (show ¬ (false = true) by decide)] at H; exact H
    clear H
    have H := H1
    clear H1
    have H' := Aside0.mk H
    clear H
    go_wp2_with (first | (go_at_call 38; (with_reducible refine (spec_SumOf.calls k _ _ l0 _ _ l1 t140 _ ?side1 ?side2 ?side3 ?side4 A6.out).mono ?_); (case side1 => repeat (first | exact (Kd.C_below HR0.out HB.out) | (with_reducible refine Kd.C_alloc ?_ _) | (with_reducible refine Kd.C_drewN ?_ _) | (with_reducible refine Kd.C_drew ?_))); (case side2 => exact HC0.out); (case side3 => repeat (first | exact (Kd.C_below HR1.out HB.out) | (with_reducible refine Kd.C_alloc ?_ _) | (with_reducible refine Kd.C_drewN ?_ _) | (with_reducible refine Kd.C_drew ?_))); (case side4 => exact HC1.out); rintro e w' ⟨rfl, ⟨nd, rfl⟩⟩; (try first | exact ⟨rfl, _, World.drewN_drewN _ _ _⟩ | exact ⟨rfl, _, Eq.trans (World.drewN_drewN _ _ _) (congrArg (World.drewN _) (Nat.add_assoc _ _ _))⟩)) | (go_at_call 112; (with_reducible refine (spec_l4Small.calls k _ _ l2 false _ ?side1 ?side2 A11.out).mono ?_); (case side1 => repeat (first | exact (Kd.C_below HR2.out qz2) | (with_reducible refine Kd.C_alloc ?_ _) | (with_reducible refine Kd.C_drewN ?_ _) | (with_reducible refine Kd.C_drew ?_))); (case side2 => exact HC2.out); rintro e w' ⟨rfl, ⟨nd, rfl⟩⟩; (try first | exact ⟨rfl, _, World.drewN_drewN _ _ _⟩ | exact ⟨rfl, _, Eq.trans (World.drewN_drewN _ _ _) (congrArg (World.drewN _) (Nat.add_assoc _ _ _))⟩)))
    repeat (go_quiet (first | (go_at_call 38; (with_reducible refine (spec_SumOf.calls k _ _ l0 _ _ l1 t140 _ ?side1 ?side2 ?side3 ?side4 A6.out).mono ?_); (case side1 => repeat (first | exact (Kd.C_below HR0.out HB.out) | (with_reducible refine Kd.C_alloc ?_ _) | (with_reducible refine Kd.C_drewN ?_ _) | (with_reducible refine Kd.C_drew ?_))); (case side2 => exact HC0.out); (case side3 => repeat (first | exact (Kd.C_below HR1.out HB.out) | (with_reducible refine Kd.C_alloc ?_ _) | (with_reducible refine Kd.C_drewN ?_ _) | (with_reducible refine Kd.C_drew ?_))); (case side4 => exact HC1.out); rintro e w' ⟨rfl, ⟨nd, rfl⟩⟩; (try first | exact ⟨rfl, _, World.drewN_drewN _ _ _⟩ | exact ⟨rfl, _, Eq.trans (World.drewN_drewN _ _ _) (congrArg (World.drewN _) (Nat.add_assoc _ _ _))⟩)) | (go_at_call 112; (with_reducible refine (spec_l4Small.calls k _ _ l2 false _ ?side1 ?side2 A11.out).mono ?_); (case side1 => repeat (first | exact (Kd.C_below HR2.out qz2) | (with_reducible refine Kd.C_alloc ?_ _) | (with_reducible refine Kd.C_drewN ?_ _) | (with_reducible refine Kd.C_drew ?_))); (case side2 => exact HC2.out); rintro e w' ⟨rfl, ⟨nd, rfl⟩⟩; (try first | exact ⟨rfl, _, World.drewN_drewN _ _ _⟩ | exact ⟨rfl, _, Eq.trans (World.drewN_drewN _ _ _) (congrArg (World.drewN _) (Nat.add_assoc _ _ _))⟩))); try go_wp2_with (first | (go_at_call 38; (with_reducible refine (spec_SumOf.calls k _ _ l0 _ _ l1 t140 _ ?side1 ?side2 ?side3 ?side4 A6.out).mono ?_); (case side1 => repeat (first | exact (Kd.C_below HR0.out HB.out) | (with_reducible refine Kd.C_alloc ?_ _) | (with_reducible refine Kd.C_drewN ?_ _) | (with_reducible refine Kd.C_drew ?_))); (case side2 => exact HC0.out); (case side3 => repeat (first | exact (Kd.C_below HR1.out HB.out) | (with_reducible refine Kd.C_alloc ?_ _) | (with_reducible refine Kd.C_drewN ?_ _) | (with_reducible refine Kd.C_drew ?_))); (case side4 => exact HC1.out); rintro e w' ⟨rfl, ⟨nd, rfl⟩⟩; (try first | exact ⟨rfl, _, World.drewN_drewN _ _ _⟩ | exact ⟨rfl, _, Eq.trans (World.drewN_drewN _ _ _) (congrArg (World.drewN _) (Nat.add_assoc _ _ _))⟩)) | (go_at_call 112; (with_reducible refine (spec_l4Small.calls k _ _ l2 false _ ?side1 ?side2 A11.out).mono ?_); (case side1 => repeat (first | exact (Kd.C_below HR2.out qz2) | (with_reducible refine Kd.C_alloc ?_ _) | (with_reducible refine Kd.C_drewN ?_ _) | (with_reducible refine Kd.C_drew ?_))); (case side2 => exact HC2.out); rintro e w' ⟨rfl, ⟨nd, rfl⟩⟩; (try first | exact ⟨rfl, _, World.drewN_drewN _ _ _⟩ | exact ⟨rfl, _, Eq.trans (World.drewN_drewN _ _ _) (congrArg (World.drewN _) (Nat.add_assoc _ _ _))⟩))))
    go_meet
    case rel => exact ⟨_, (true), qz4, H', ⟨by first | omega | exact Nat.le_refl _⟩, ⟨by repeat (first | (with_reducible first | exact HB.out | apply below_alloc | apply pw_below_drewN | apply below_drew1) | exact HB.out)⟩⟩
    }
    }
    {
    rw [if_neg c10] at H
    have c10b0 : ((l2.length : Int) == (l0.length : Int)) = false := beq_eq_false_iff_ne.mpr c10
    have c10b1 : ((l2.length : Int) != (l0.length : Int)) = true := bne_iff_ne.mpr c10
    have c10b2 : (l2.length == l0.length) = false := by first | simpa using c10 | (simp at c10 ⊢; omega)
    have H' := Aside0.mk H
    clear H
    go_wp2_with (first | (go_at_call 38; (with_reducible refine (spec_SumOf.calls k _ _ l0 _ _ l1 t140 _ ?side1 ?side2 ?side3 ?side4 A6.out).mono ?_); (case side1 => repeat (first | exact (Kd.C_below HR0.out HB.out) | (with_reducible refine Kd.C_alloc ?_ _) | (with_reducible refine Kd.C_drewN ?_ _) | (with_reducible refine Kd.C_drew ?_))); (case side2 => exact HC0.out); (case side3 => repeat (first | exact (Kd.C_below HR1.out HB.out) | (with_reducible refine Kd.C_alloc ?_ _) | (with_reducible refine Kd.C_drewN ?_ _) | (with_reducible refine Kd.C_drew ?_))); (case side4 => exact HC1.out); rintro e w' ⟨rfl, ⟨nd, rfl⟩⟩; (try first | exact ⟨rfl, _, World.drewN_drewN _ _ _⟩ | exact ⟨rfl, _, Eq.trans (World.drewN_drewN _ _ _) (congrArg (World.drewN _) (Nat.add_assoc _ _ _))⟩)))
    repeat (go_quiet (first | (go_at_call 38; (with_reducible refine (spec_SumOf.calls k _ _ l0 _ _ l1 t140 _ ?side1 ?side2 ?side3 ?side4 A6.out).mono ?_); (case side1 => repeat (first | exact (Kd.C_below HR0.out HB.out) | (with_reducible refine Kd.C_alloc ?_ _) | (with_reducible refine Kd.C_drewN ?_ _) | (with_reducible refine Kd.C_drew ?_))); (case side2 => exact HC0.out); (case side3 => repeat (first | exact (Kd.C_below HR1.out HB.out) | (with_reducible refine Kd.C_alloc ?_ _) | (with_reducible refine Kd.C_drewN ?_ _) | (with_reducible refine Kd.C_drew ?_))); (case side4 => exact HC1.out); rintro e w' ⟨rfl, ⟨nd, rfl⟩⟩; (try first | exact ⟨rfl, _, World.drewN_drewN _ _ _⟩ | exact ⟨rfl, _, Eq.trans (World.drewN_drewN _ _ _) (congrArg (World.drewN _) (Nat.add_assoc _ _ _))⟩))); try go_wp2_with (first | (go_at_call 38; (with_reducible refine (spec_SumOf.calls k _ _ l0 _ _ l1 t140 _ ?side1 ?side2 ?side3 ?side4 A6.out).mono ?_); (case side1 => repeat (first | exact (Kd.C_below HR0.out HB.out) | (with_reducible refine Kd.C_alloc ?_ _) | (with_reducible refine Kd.C_drewN ?_ _) | (with_reducible refine Kd.C_drew ?_))); (case side2 => exact HC0.out); (case side3 => repeat (first | exact (Kd.C_below HR1.out HB.out) | (with_reducible refine Kd.C_alloc ?_ _) | (with_reducible refine Kd.C_drewN ?_ _) | (with_reducible refine Kd.C_drew ?_))); (case side4 => exact HC1.out); rintro e w' ⟨rfl, ⟨nd, rfl⟩⟩; (try first | exact ⟨rfl, _, World.drewN_drewN _ _ _⟩ | exact ⟨rfl, _, Eq.trans (World.drewN_drewN _ _ _) (congrArg (World.drewN _) (Nat.add_assoc _ _ _))⟩))))
    go_meet
    case rel => exact ⟨_, (true), qz4, H', ⟨by first | omega | exact Nat.le_refl _⟩, ⟨by repeat (first | (with_reducible first | exact HB.out | apply below_alloc | apply pw_below_drewN | apply below_drew1) | exact HB.out)⟩⟩
    }
    }
    }
    {
    rw [if_neg c8] at H
    have c8b0 : ((l0.length : Int) == 0) = false := beq_eq_false_iff_ne.mpr c8
    have c8b1 : ((l0.length : Int) != 0) = true := bne_iff_ne.mpr c8
    have c8b2 : ¬ (l0 = []) := fun h_ => c8 (by rw [h_]; rfl)
    by_cases c14 : (l2.length : Int) = (l0.length : Int)
    {
    rw [if_pos c14] at H
    have c14b0 : ((l2.length : Int) == (l0.length : Int)) = true := beq_iff_eq.mpr c14
    have c14b1 : ((l2.length : Int) != (l0.length : Int)) = false := bne_eq_false_iff_eq.mpr c14
    have c14b2 : (l2.length == l0.length) = true := by first | simpa using c14 | (simp at c14 ⊢; omega)
    clear c14
    replace H := Option.bind_eq_some_iff.mp H
    obtain ⟨t143, A150, H⟩ := H
    replace H : (if t143 = true then ((spec_l4Small.f k l3).bind fun t144 => (spec_Proves.j0 k l0 l1 l2 l3 (!t144))) else (spec_Proves.j0 k l0 l1 l2 l3 true)) = some r := H
    have A15 := Aside0.mk A150
    clear A150
    by_cases c16 : t143 = true
    {
    subst c16
    have H1 : ((spec_l4Small.f k l3).bind fun t144 => (spec_Proves.j0 k l0 l1 l2 l3 (!t144))) = some r := by rw [if_pos rfl] at H; exact H
    clear H
    have H := H1
    clear H1
    replace H := Option.bind_eq_some_iff.mp H
    obtain ⟨t144, A170, H⟩ := H
    replace H : (spec_Proves.j0 k l0 l1 l2 l3 (!t144)) = some r := H
    have A17 := Aside0.mk A170
    clear A170
    have H' := Aside0.mk H
    clear H
    go_wp2_with (first | (go_at_call 38; (with_reducible refine (spec_SumOf.calls k _ _ l0 _ _ l1 t140 _ ?side1 ?side2 ?side3 ?side4 A6.out).mono ?_); (case side1 => repeat (first | exact (Kd.C_below HR0.out HB.out) | (with_reducible refine Kd.C_alloc ?_ _) | (with_reducible refine Kd.C_drewN ?_ _) | (with_reducible refine Kd.C_drew ?_))); (case side2 => exact HC0.out); (case side3 => repeat (first | exact (Kd.C_below HR1.out HB.out) | (with_reducible refine Kd.C_alloc ?_ _) | (with_reducible refine Kd.C_drewN ?_ _) | (with_reducible refine Kd.C_drew ?_))); (case side4 => exact HC1.out); rintro e w' ⟨rfl, ⟨nd, rfl⟩⟩; (try first | exact ⟨rfl, _, World.drewN_drewN _ _ _⟩ | exact ⟨rfl, _, Eq.trans (World.drewN_drewN _ _ _) (congrArg (World.drewN _) (Nat.add_assoc _ _ _))⟩)) | (go_at_call 112; (with_reducible refine (spec_l4Small.calls k _ _ l2 true _ ?side1 ?side2 A15.out).mono ?_); (case side1 => repeat (first | exact (Kd.C_below HR2.out qz2) | (with_reducible refine Kd.C_alloc ?_ _) | (with_reducible refine Kd.C_drewN ?_ _) | (with_reducible refine Kd.C_drew ?_))); (case side2 => exact HC2.out); rintro e w' ⟨rfl, ⟨nd, rfl⟩⟩; (try first | exact ⟨rfl, _, World.drewN_drewN _ _ _⟩ | exact ⟨rfl, _, Eq.trans (World.drewN_drewN _ _ _) (congrArg (World.drewN _) (Nat.add_assoc _ _ _))⟩)) | (go_at_call 112; (with_reducible refine (spec_l4Small.calls k _ _ l3 t144 _ ?side1 ?side2 A17.out).mono ?_); (case side1 => repeat (first | exact (Kd.C_below HR3.out qz2) | (with_reducible refine Kd.C_alloc ?_ _) | (with_reducible refine Kd.C_drewN ?_ _) | (with_reducible refine Kd.C_drew ?_))); (case side2 => exact HC3.out); rintro e w' ⟨rfl, ⟨nd, rfl⟩⟩; (try first | exact ⟨rfl, _, World.drewN_drewN _ _ _⟩ | exact ⟨rfl, _, Eq.trans (World.drewN_drewN _ _ _) (congrArg (World.drewN _) (Nat.add_assoc _ _ _))⟩)))
    repeat (go_quiet (first | (go_at_call 38; (with_reducible refine (spec_SumOf.calls k _ _ l0 _ _ l1 t140 _ ?side1 ?side2 ?side3 ?side4 A6.out).mono ?_); (case side1 => repeat (first | exact (Kd.C_below HR0.out HB.out) | (with_reducible refine Kd.C_alloc ?_ _) | (with_reducible refine Kd.C_drewN ?_ _) | (with_reducible refine Kd.C_drew ?_))); (case side2 => exact HC0.out); (case side3 => repeat (first | exact (Kd.C_below HR1.out HB.out) | (with_reducible refine Kd.C_alloc ?_ _) | (with_reducible refine Kd.C_drewN ?_ _) | (with_reducible refine Kd.C_drew ?_))); (case side4 => exact HC1.out); rintro e w' ⟨rfl, ⟨nd, rfl⟩⟩; (try first | exact ⟨rfl, _, World.drewN_drewN _ _ _⟩ | exact ⟨rfl, _, Eq.trans (World.drewN_drewN _ _ _) (congrArg (World.drewN _) (Nat.add_assoc _ _ _))⟩)) | (go_at_call 112; (with_reducible refine (spec_l4Small.calls k _ _ l2 true _ ?side1 ?side2 A15.out).mono ?_); (case side1 => repeat (first | exact (Kd.C_below HR2.out qz2) | (with_reducible refine Kd.C_alloc ?_ _) | (with_reducible refine Kd.C_drewN ?_ _) | (with_reducible refine Kd.C_drew ?_))); (case side2 => exact HC2.out); rintro e w' ⟨rfl, ⟨nd, rfl⟩⟩; (try first | exact ⟨rfl, _, World.drewN_drewN _ _ _⟩ | exact ⟨rfl, _, Eq.trans (World.drewN_drewN _ _ _) (congrArg (World.drewN _) (Nat.add_assoc _ _ _))⟩)) | (go_at_call 112; (with_reducible refine (spec_l4Small.calls k _ _ l3 t144 _ ?side1 ?side2 A17.out).mono ?_); (case side1 => repeat (first | exact (Kd.C_below HR3.out qz2) | (with_reducible refine Kd.C_alloc ?_ _) | (with_reducible refine Kd.C_drewN ?_ _) | (with_reducible refine Kd.C_drew ?_))); (case side2 => exact HC3.out); rintro e w' ⟨rfl, ⟨nd, rfl⟩⟩; (try first | exact ⟨rfl, _, World.drewN_drewN _ _ _⟩ | exact ⟨rfl, _, Eq.trans (World.drewN_drewN _ _ _) (congrArg (World.drewN _) (Nat.add_assoc _ _ _))⟩))); try go_wp2_with (first | (go_at_call 38; (with_reducible refine (spec_SumOf.calls k _ _ l0 _ _ l1 t140 _ ?side1 ?side2 ?side3 ?side4 A6.out).mono ?_); (case side1 => repeat (first | exact (Kd.C_below HR0.out HB.out) | (with_reducible refine Kd.C_alloc ?_ _) | (with_reducible refine Kd.C_drewN ?_ _) | (with_reducible refine Kd.C_drew ?_))); (case side2 => exact HC0.out); (case side3 => repeat (first | exact (Kd.C_below HR1.out HB.out) | (with_reducible refine Kd.C_alloc ?_ _) | (with_reducible refine Kd.C_drewN ?_ _) | (with_reducible refine Kd.C_drew ?_))); (case side4 => exact HC1.out); rintro e w' ⟨rfl, ⟨nd, rfl⟩⟩; (try first | exact ⟨rfl, _, World.drewN_drewN _ _ _⟩ | exact ⟨rfl, _, Eq.trans (World.drewN_drewN _ _ _) (congrArg (World.drewN _) (Nat.add_assoc _ _ _))⟩)) | (go_at_call 112; (with_reducible refine (spec_l4Small.calls k _ _ l2 true _ ?side1 ?side2 A15.out).mono ?_); (case side1 => repeat (first | exact (Kd.C_below HR2.out qz2) | (with_reducible refine Kd.C_alloc ?_ _) | (with_reducible refine Kd.C_drewN ?_ _) | (with_reducible refine Kd.C_drew ?_))); (case side2 => exact HC2.out); rintro e w' ⟨rfl, ⟨nd, rfl⟩⟩; (try first | exact ⟨rfl, _, World.drewN_drewN _ _ _⟩ | exact ⟨rfl, _, Eq.trans (World.drewN_drewN _ _ _) (congrArg (World.drewN _) (Nat.add_assoc _ _ _))⟩)) | (go_at_call 112; (with_reducible refine (spec_l4Small.calls k _ _ l3 t144 _ ?side1 ?side2 A17.out).mono ?_); (case side1 => repeat (first | exact (Kd.C_below HR3.out qz2) | (with_reducible refine Kd.C_alloc ?_ _) | (with_reducible refine Kd.C_drewN ?_ _) | (with_reducible refine Kd.C_drew ?_))); (case side2 => exact HC3.out); rintro e w' ⟨rfl, ⟨nd, rfl⟩⟩; (try first | exact ⟨rfl, _, World.drewN_drewN _ _ _⟩ | exact ⟨rfl, _, Eq.trans (World.drewN_drewN _ _ _) (congrArg (World.drewN _) (Nat.add_assoc _ _ _))⟩))))
    go_meet
    case rel => exact ⟨_, (!t144), qz4, H', ⟨by first | omega | exact Nat.le_refl _⟩, ⟨by repeat (first | (with_reducible first | exact HB.out | apply below_alloc | apply pw_below_drewN | apply below_drew1) | exact HB.out)⟩⟩
    }
    {
    replace c16 := Bool.eq_false_iff.mpr c16
    subst c16
    have H1 : (spec_Proves.j0 k l0 l1 l2 l3 true) = some r := by rw [if_neg (show ¬ (false = true) by decide)] at H; exact H
    clear H
    have H := H1
    clear H1
    have H' := Aside0.mk H
    clear H
    go_wp2_with (first | (go_at_call 38; (with_reducible refine (spec_SumOf.calls k _ _ l0 _ _ l1 t140 _ ?side1 ?side2 ?side3 ?side4 A6.out).mono ?_); (case side1 => repeat (first | exact (Kd.C_below HR0.out HB.out) | (with_reducible refine Kd.C_alloc ?_ _) | (with_reducible refine Kd.C_drewN ?_ _) | (with_reducible refine Kd.C_drew ?_))); (case side2 => exact HC0.out); (case side3 => repeat (first | exact (Kd.C_below HR1.out HB.out) | (with_reducible refine Kd.C_alloc ?_ _) | (with_reducible refine Kd.C_drewN ?_ _) | (with_reducible refine Kd.C_drew ?_))); (case side4 => exact HC1.out); rintro e w' ⟨rfl, ⟨nd, rfl⟩⟩; (try first | exact ⟨rfl, _, World.drewN_drewN _ _ _⟩ | exact ⟨rfl, _, Eq.trans (World.drewN_drewN _ _ _) (congrArg (World.drewN _) (Nat.add_assoc _ _ _))⟩)) | (go_at_call 112; (with_reducible refine (spec_l4Small.calls k _ _ l2 false _ ?side1 ?side2 A15.out).mono ?_); (case side1 => repeat (first | exact (Kd.C_below HR2.out qz2) | (with_reducible refine Kd.C_alloc ?_ _) | (with_reducible refine Kd.C_drewN ?_ _) | (with_reducible refine Kd.C_drew ?_))); (case side2 => exact HC2.out); rintro e w' ⟨rfl, ⟨nd, rfl⟩⟩; (try first | exact ⟨rfl, _, World.drewN_drewN _ _ _⟩ | exact ⟨rfl, _, Eq.trans (World.drewN_drewN _ _ _) (congrArg (World.drewN _) (Nat.add_assoc _ _ _))⟩)))
    repeat (go_quiet (first | (go_at_call 38; (with_reducible refine (spec_SumOf.calls k _ _ l0 _ _ l1 t140 _ ?side1 ?side2 ?side3 ?side4 A6.out).mono ?_); (case side1 => repeat (first | exact (Kd.C_below HR0.out HB.out) | (with_reducible refine Kd.C_alloc ?_ _) | (with_reducible refine Kd.C_drewN ?_ _) | (with_reducible refine Kd.C_drew ?_))); (case side2 => exact HC0.out); (case side3 => repeat (first | exact (Kd.C_below HR1.out HB.out) | (with_reducible refine Kd.C_alloc ?_ _) | (with_reducible refine Kd.C_drewN ?_ _) | (with_reducible refine Kd.C_drew ?_))); (case side4 => exact HC1.out); rintro e w' ⟨rfl, ⟨nd, rfl⟩⟩; (try first | exact ⟨rfl, _, World.drewN_drewN _ _ _⟩ | exact ⟨rfl, _, Eq.trans (World.drewN_drewN _ _ _) (congrArg (World.drewN _) (Nat.add_assoc _ _ _))⟩)) | (go_at_call 112; (with_reducible refine (spec_l4Small.calls k _ _ l2 false _ ?side1 ?side2 A15.out).mono ?_); (case side1 => repeat (first | exact (Kd.C_below HR2.out qz2) | (with_reducible refine Kd.C_alloc ?_ _) | (with_reducible refine Kd.C_drewN ?_ _) | (with_reducible refine Kd.C_drew ?_))); (case side2 => exact HC2.out); rintro e w' ⟨rfl, ⟨nd, rfl⟩⟩; (try first | exact ⟨rfl, _, World.drewN_drewN _ _ _⟩ | exact ⟨rfl, _, Eq.trans (World.drewN_drewN _ _ _) (congrArg (World.drewN _) (Nat.add_assoc _ _ _))⟩))); try go_wp2_with (first | (go_at_call 38; (with_reducible refine (spec_SumOf.calls k _ _ l0 _ _ l1 t140 _ ?side1 ?side2 ?side3 ?side4 A6.out).mono ?_); (case side1 => repeat (first | exact (Kd.C_below HR0.out HB.out) | (with_reducible refine Kd.C_alloc ?_ _) | (with_reducible refine Kd.C_drewN ?_ _) | (with_reducible refine Kd.C_drew ?_))); (case side2 => exact HC0.out); (case side3 => repeat (first | exact (Kd.C_below HR1.out HB.out) | (with_reducible refine Kd.C_alloc ?_ _) | (with_reducible refine Kd.C_drewN ?_ _) | (with_reducible refine Kd.C_drew ?_))); (case side4 => exact HC1.out); rintro e w' ⟨rfl, ⟨nd, rfl⟩⟩; (try first | exact ⟨rfl, _, World.drewN_drewN _ _ _⟩ | exact ⟨rfl, _, Eq.trans (World.drewN_drewN _ _ _) (congrArg (World.drewN _) (Nat.add_assoc _ _ _))⟩)) | (go_at_call 112; (with_reducible refine (spec_l4Small.calls k _ _ l2 false _ ?side1 ?side2 A15.out).mono ?_); (case side1 => repeat (first | exact (Kd.C_below HR2.out qz2) | (with_reducible refine Kd.C_alloc ?_ _) | (with_reducible refine Kd.C_drewN ?_ _) | (with_reducible refine Kd.C_drew ?_))); (case side2 => exact HC2.out); rintro e w' ⟨rfl, ⟨nd, rfl⟩⟩; (try first | exact ⟨rfl, _, World.drewN_drewN _ _ _⟩ | exact ⟨rfl, _, Eq.trans (World.drewN_drewN _ _ _) (congrArg (World.drewN _) (Nat.add_assoc _ _ _))⟩))))
    go_meet
    case rel => exact ⟨_, (true), qz4, H', ⟨by first | omega | exact Nat.le_refl _⟩, ⟨by repeat (first | (with_reducible first | exact HB.out | apply below_alloc | apply pw_below_drewN | apply below_drew1) | exact HB.out)⟩⟩
    }
    }
    {
    rw [if_neg c14] at H
    have c14b0 : ((l2.length : Int) == (l0.length : Int)) = false := beq_eq_false_iff_ne.mpr c14
    have c14b1 : ((l2.length : Int) != (l0.length : Int)) = true := bne_iff_ne.mpr c14
    have c14b2 : (l2.length == l0.length) = false := by first | simpa using c14 | (simp at c14 ⊢; omega)
    have H' := Aside0.mk H
    clear H
    go_wp2_with (first | (go_at_call 38; (with_reducible refine (spec_SumOf.calls k _ _ l0 _ _ l1 t140 _ ?side1 ?side2 ?side3 ?side4 A6.out).mono ?_); (case side1 => repeat (first | exact (Kd.C_below HR0.out HB.out) | (with_reducible refine Kd.C_alloc ?_ _) | (with_reducible refine Kd.C_drewN ?_ _) | (with_reducible refine Kd.C_drew ?_))); (case side2 => exact HC0.out); (case side3 => repeat (first | exact (Kd.C_below HR1.out HB.out) | (with_reducible refine Kd.C_alloc ?_ _) | (with_reducible refine Kd.C_drewN ?_ _) | (with_reducible refine Kd.C_drew ?_))); (case side4 => exact HC1.out); rintro e w' ⟨rfl, ⟨nd, rfl⟩⟩; (try first | exact ⟨rfl, _, World.drewN_drewN _ _ _⟩ | exact ⟨rfl, _, Eq.trans (World.drewN_drewN _ _ _) (congrArg (World.drewN _) (Nat.add_assoc _ _ _))⟩)))
    repeat (go_quiet (first | (go_at_call 38; (with_reducible refine (spec_SumOf.calls k _ _ l0 _ _ l1 t140 _ ?side1 ?side2 ?side3 ?side4 A6.out).mono ?_); (case side1 => repeat (first | exact (Kd.C_below HR0.out HB.out) | (with_reducible refine Kd.C_alloc ?_ _) | (with_reducible refine Kd.C_drewN ?_ _) | (with_reducible refine Kd.C_drew ?_))); (case side2 => exact HC0.out); (case side3 => repeat (first | exact (Kd.C_below HR1.out HB.out) | (with_reducible refine Kd.C_alloc ?_ _) | (with_reducible refine Kd.C_drewN ?_ _) | (with_reducible refine Kd.C_drew ?_))); (case side4 => exact HC1.out); rintro e w' ⟨rfl, ⟨nd, rfl⟩⟩; (try first | exact ⟨rfl, _, World.drewN_drewN _ _ _⟩ | exact ⟨rfl, _, Eq.trans (World.drewN_drewN _ _ _) (congrArg (World.drewN _) (Nat.add_assoc _ _ _))⟩))); try go_wp2_with (first | (go_at_call 38; (with_reducible refine (spec_SumOf.calls k _ _ l0 _ _ l1 t140 _ ?side1 ?side2 ?side3 ?side4 A6.out).mono ?_); (case side1 => repeat (first | exact (Kd.C_below HR0.out HB.out) | (with_reducible refine Kd.C_alloc ?_ _) | (with_reducible refine Kd.C_drewN ?_ _) | (with_reducible refine Kd.C_drew ?_))); (case side2 => exact HC0.out); (case side3 => repeat (first | exact (Kd.C_below HR1.out HB.out) | (with_reducible refine Kd.C_alloc ?_ _) | (with_reducible refine Kd.C_drewN ?_ _) | (with_reducible refine Kd.C_drew ?_))); (case side4 => exact HC1.out); rintro e w' ⟨rfl, ⟨nd, rfl⟩⟩; (try first | exact ⟨rfl, _, World.drewN_drewN _ _ _⟩ | exact ⟨rfl, _, Eq.trans (World.drewN_drewN _ _ _) (congrArg (World.drewN _) (Nat.add_assoc _ _ _))⟩))))
    go_meet
    case rel => exact ⟨_, (true), qz4, H', ⟨by first | omega | exact Nat.le_refl _⟩, ⟨by repeat (first | (with_reducible first | exact HB.out | apply below_alloc | apply pw_below_drewN | apply below_drew1) | exact HB.out)⟩⟩
    }
    }
    }
  case rest =>
    clear HC5
    try clear c1
    try clear c2
    try clear p2
    try clear c3
    try clear c6
    try clear c7
    try clear c7b0
    try clear c7b1
    try clear c8
    try clear c8b0
    try clear c8b1
    try clear c8b2
    try clear c9
    try clear c9b0
    try clear c9b1
    try clear c10
    try clear c10b0
    try clear c10b1
    try clear c10b2
    try clear c12
    try clear c14
    try clear c14b0
    try clear c14b1
    try clear c14b2
    try clear c16
    obtain ⟨kq, x43_4, rfl, HA, HJ4, HB⟩ := hcut
    cases kq with
    | zero => exact absurd HA.out (by simp [spec_Proves.j0])
    | succ kj4 =>
      have H := HA.out
      clear HA
      simp only [spec_Proves.j0] at H
      by_cases c18 : x43_4 = true
      {
      subst c18
      have H1 : (some false) = some r := by rw [if_pos rfl] at H; exact H
      clear H
      have H := H1
      clear H1
      obtain rfl := Option.some.inj H
      simp only [Option.some.injEq, Prod.mk.injEq] at H
      obtain ⟨rfl⟩ := H
      go_wp2
      repeat (go_quiet (fail); try go_wp2)
      go_ret
      exact ⟨by first | rfl | (simp [errW_none, errW_some] <;> rfl) | (simp [*, errW_none, errW_some] <;> rfl), by repeat (first | (with_reducible first | exact HB.out | apply below_alloc | apply pw_below_drewN | apply below_drew1) | exact HB.out)⟩
      }
      {
      replace c18 := Bool.eq_false_iff.mpr c18
      subst c18
      have H1 : (if 0 ≤ (l3.length : Int) then (if ((l3.length : Int) : Int).toNat ≤ 281474976710656 then (spec_Proves.l0 kj4 l0 l1 l2 l3 (List.replicate ((l3.length : Int) : Int).toNat false) 0) else (none)) else (none)) = some r := by rw [if_neg (show ¬ (false = true) by decide)] at H; exact H
      clear H
      have H := H1
      clear H1
      by_cases c19 : 0 ≤ (l3.length : Int)
      {
      rw [if_pos c19] at H
      have c19b0 := eq_true c19
      have c19b1 : decide (0 ≤ (l3.length : Int)) = true := decide_eq_true c19
      clear c19
      by_cases c20 : ((l3.length : Int) : Int).toNat ≤ 281474976710656
      {
      rw [if_pos c20] at H
      have c20b0 := eq_true c20
      have c20b1 : decide (((l3.length : Int) : Int).toNat ≤ 281474976710656) = true := decide_eq_true c20
      clear c20
      obtain ⟨y145, hy145⟩ : ∃ y_ : List Bool, y_ = (List.replicate ((l3.length : Int) : Int).toNat false) := ⟨_, rfl⟩
      replace H : (spec_Proves.l0 kj4 l0 l1 l2 l3 y145 0) = some r := by first | (rw [hy145]; with_reducible exact H) | (have H2_ := (Option.bind_some _ _).symm.trans H; rw [hy145]; with_reducible exact H2_) | (have H2_ := (Option.bind_some _ _).symm.trans H; with_reducible exact H2_) | with_reducible exact H | (rw [hy145]; exact H) | exact H
      have Ny145 := Aside0.mk hy145
      clear hy145
      have H' := Aside0.mk H
      clear H
      go_wp2_with (first | ((with_reducible refine gate_dst (N := 46) rfl ?_); (try (refine gate_guard (by rfl) ?_; dsimp only)); refine Kd.R_make Kd.bool _ 4 rfl (N := 46) rfl 68 _ _ rfl (l3.length : Int) rfl rfl Try.underlying68 (.bool false) 1 info4 rfl (by decide) (by omega) false (ok := fun _ => True) (okp := fun _ => True) rfl (fun _ hk => hk) trivial (of_decide_eq_true qz1) (Nat.le_trans (Nat.mul_le_mul_right _ (of_decide_eq_true qz1 : (l3.length : Int).toNat ≤ 281474976710656)) (by omega)) (Below.refl _ _) (Nat.le_refl _) ?_; intro v146 w21 ho22 hb hg_ hnew_; clear hg_ hnew_; (first | rw [← Ny145.out] at ho22 | (simp only [Int.reduceToNat] at ho22; rw [← Ny145.out] at ho22)); have n0_ := Aside0.mk (Kd.R_lower ho22 (below_size qz2)); have n1_ := Aside0.mk (below_step qz2 hb); clear HB; have HO147 := n0_; have HB := n1_; clear n0_ n1_; clear hb ho22))
      repeat (go_quiet (first | ((with_reducible refine gate_dst (N := 46) rfl ?_); (try (refine gate_guard (by rfl) ?_; dsimp only)); refine Kd.R_make Kd.bool _ 4 rfl (N := 46) rfl 68 _ _ rfl (l3.length : Int) rfl rfl Try.underlying68 (.bool false) 1 info4 rfl (by decide) (by omega) false (ok := fun _ => True) (okp := fun _ => True) rfl (fun _ hk => hk) trivial (of_decide_eq_true qz1) (Nat.le_trans (Nat.mul_le_mul_right _ (of_decide_eq_true qz1 : (l3.length : Int).toNat ≤ 281474976710656)) (by omega)) (Below.refl _ _) (Nat.le_refl _) ?_; intro v146 w21 ho22 hb hg_ hnew_; clear hg_ hnew_; (first | rw [← Ny145.out] at ho22 | (simp only [Int.reduceToNat] at ho22; rw [← Ny145.out] at ho22)); have n0_ := Aside0.mk (Kd.R_lower ho22 (below_size qz2)); have n1_ := Aside0.mk (below_step qz2 hb); clear HB; have HO147 := n0_; have HB := n1_; clear n0_ n1_; clear hb ho22)); try go_wp2_with (first | ((with_reducible refine gate_dst (N := 46) rfl ?_); (try (refine gate_guard (by rfl) ?_; dsimp only)); refine Kd.R_make Kd.bool _ 4 rfl (N := 46) rfl 68 _ _ rfl (l3.length : Int) rfl rfl Try.underlying68 (.bool false) 1 info4 rfl (by decide) (by omega) false (ok := fun _ => True) (okp := fun _ => True) rfl (fun _ hk => hk) trivial (of_decide_eq_true qz1) (Nat.le_trans (Nat.mul_le_mul_right _ (of_decide_eq_true qz1 : (l3.length : Int).toNat ≤ 281474976710656)) (by omega)) (Below.refl _ _) (Nat.le_refl _) ?_; intro v146 w21 ho22 hb hg_ hnew_; clear hg_ hnew_; (first | rw [← Ny145.out] at ho22 | (simp only [Int.reduceToNat] at ho22; rw [← Ny145.out] at ho22)); have n0_ := Aside0.mk (Kd.R_lower ho22 (below_size qz2)); have n1_ := Aside0.mk (below_step qz2 hb); clear HB; have HO147 := n0_; have HB := n1_; clear n0_ n1_; clear hb ho22)))
      go_loopg [10] kj4 (fun kq v10 w' => ∃ (x9_2 : List Bool) (x10_2 : Int), v10 = .int .i64 x10_2 ∧ Aside0 (spec_Proves.l0 kq l0 l1 l2 l3 x9_2 x10_2 = some r) ∧ Aside0 (kq ≤ kj4) ∧ Aside0 (Kd.R Kd.bool 4 w' w.heap.size (fun _ => True) v146 x9_2) ∧ Aside0 (Below w.heap.size w w'))
      case atStart => exact ⟨(y145), (0), qz4, H', ⟨Nat.le_refl _⟩, ⟨by (with_reducible repeat (first | apply Kd.R_alloc | apply Kd.R_drewN | apply Kd.R_drew)); exact HO147.out⟩, ⟨by repeat (first | (with_reducible first | exact HB.out | apply below_alloc | apply pw_below_drewN | apply below_drew1) | exact HB.out)⟩⟩
      case round =>
        clear H'
        try clear c1
        try clear c2
        try clear p2
        try clear c3
        try clear c6
        try clear c7
        try clear c7b0
        try clear c7b1
        try clear c8
        try clear c8b0
        try clear c8b1
        try clear c8b2
        try clear c9
        try clear c9b0
        try clear c9b1
        try clear c10
        try clear c10b0
        try clear c10b1
        try clear c10b2
        try clear c12
        try clear c14
        try clear c14b0
        try clear c14b1
        try clear c14b2
        try clear c16
        try clear c18
        try clear c19
        try clear c19b0
        try clear c19b1
        try clear c20
        try clear c20b0
        try clear c20b1
        try clear p2
        obtain ⟨x9_2, x10_2, rfl, HA, HK2, HO_9, HB⟩ := hrel
        cases gk with
        | zero => exact absurd HA.out (by simp [spec_Proves.l0])
        | succ k2 =>
          have H := HA.out
          clear HA
          simp only [spec_Proves.l0] at H
          by_cases c23 : x10_2 < (l0.length : Int)
          {
          rw [if_pos c23] at H
          have c23b0 : decide (x10_2 < (l0.length : Int)) = true := decide_eq_true c23
          clear c23
          by_cases c24 : 0 ≤ x10_2
          {
          rw [if_pos c24] at H
          have c24b0 : decide (0 ≤ x10_2) = true := decide_eq_true c24
          clear c24
          by_cases c25 : ((rd_L1 l0 x10_2).length : Int) = (l3.length : Int)
          {
          rw [if_pos c25] at H
          have c25b0 : (((rd_L1 l0 x10_2).length : Int) == (l3.length : Int)) = true := beq_iff_eq.mpr c25
          have c25b1 : (((rd_L1 l0 x10_2).length : Int) != (l3.length : Int)) = false := bne_eq_false_iff_eq.mpr c25
          have c25b2 : ((rd_L1 l0 x10_2).length == l3.length) = true := by first | simpa using c25 | (simp at c25 ⊢; omega)
          clear c25
          have H' := Aside0.mk H
          clear H
          have p148 : 0 ≤ (x10_2 : Int) := of_decide_eq_true qz1
          have q148 : x10_2 < (l0.length : Int) := of_decide_eq_true qz1
          obtain ⟨ad148, A148_0, c148_0, e148, hx148_0, hl148_0, hi148_0⟩ := at_L1 HR0.out x10_2 p148 q148
          cases e148
          replace hx148_0 := (HB.out.cell (World.block_lt_of_cell? w _ hx148_0)).trans hx148_0
          have HR148_0 := Aside0.mk hi148_0
          have HC148_0 := Aside0.mk hl148_0
          clear hi148_0 hl148_0
          replace p148 := eq_true p148
          replace q148 := eq_true q148
          go_wp2
          repeat (go_quiet (fail); try go_wp2)
          go_loopg [11] k2 (fun kq v11 w' => ∃ (x9_3 : List Bool) (x11_3 : Int), v11 = .int .i64 x11_3 ∧ Aside0 (spec_Proves.l1 kq l0 l1 l2 l3 x9_3 x10_2 x11_3 = some r) ∧ Aside0 (kq ≤ k2) ∧ Aside0 (Kd.R Kd.bool 4 w' w.heap.size (fun _ => True) v146 x9_3) ∧ Aside0 (Below w.heap.size w w'))
          case atStart => exact ⟨(x9_2), (0), qz4, H', ⟨Nat.le_refl _⟩, ⟨by (with_reducible repeat (first | apply Kd.R_alloc | apply Kd.R_drewN | apply Kd.R_drew)); exact HO_9.out⟩, ⟨by repeat (first | (with_reducible first | exact HB.out | apply below_alloc | apply pw_below_drewN | apply below_drew1) | exact HB.out)⟩⟩
          case round =>
            clear H'
            try clear c1
            try clear p1
            try clear q1
            try clear hx1
            try clear c2
            try clear p2
            try clear c3
            try clear c6
            try clear c7
            try clear c7b0
            try clear c7b1
            try clear c8
            try clear c8b0
            try clear c8b1
            try clear c8b2
            try clear c9
            try clear c9b0
            try clear c9b1
            try clear c10
            try clear c10b0
            try clear c10b1
            try clear c10b2
            try clear c12
            try clear c14
            try clear c14b0
            try clear c14b1
            try clear c14b2
            try clear p14
            try clear q14
            try clear hx14
            try clear c16
            try clear c18
            try clear c19
            try clear c19b0
            try clear c19b1
            try clear c20
            try clear c20b0
            try clear c20b1
            try clear c23
            try clear c23b0
            try clear c24
            try clear c24b0
            try clear c25
            try clear c25b0
            try clear c25b1
            try clear c25b2
            try clear hx148_0
            try clear p148
            try clear p2
            try clear q148
            obtain ⟨x9_3, x11_3, rfl, HA, HK3, HO_9, HB⟩ := hrel
            cases gk with
            | zero => exact absurd HA.out (by simp [spec_Proves.l1])
            | succ k3 =>
              have H := HA.out
              clear HA
              simp only [spec_Proves.l1] at H
              by_cases c26 : x11_3 < (l3.length : Int)
              {
              rw [if_pos c26] at H
              have c26b0 : decide (x11_3 < (l3.length : Int)) = true := decide_eq_true c26
              clear c26
              by_cases c27 : 0 ≤ x10_2
              {
              rw [if_pos c27] at H
              have c27b0 : decide (0 ≤ x10_2) = true := decide_eq_true c27
              clear c27
              by_cases c28 : x10_2 < (l2.length : Int)
              {
              rw [if_pos c28] at H
              have c28b0 : decide (x10_2 < (l2.length : Int)) = true := decide_eq_true c28
              clear c28
              by_cases c29 : 0 ≤ x11_3
              {
              rw [if_pos c29] at H
              have c29b0 : decide (0 ≤ x11_3) = true := decide_eq_true c29
              clear c29
              by_cases c30 : x10_2 < (l0.length : Int)
              {
              rw [if_pos c30] at H
              have c30b0 : decide (x10_2 < (l0.length : Int)) = true := decide_eq_true c30
              clear c30
              by_cases c31 : x11_3 < ((rd_L1 l0 x10_2).length : Int)
              {
              rw [if_pos c31] at H
              have c31b0 : decide (x11_3 < ((rd_L1 l0 x10_2).length : Int)) = true := decide_eq_true c31
              clear c31
              by_cases c32 : (wrap64 ((rd l2 x10_2) + (rd l3 x11_3))) > (rd (rd_L1 l0 x10_2) x11_3)
              {
              rw [if_pos c32] at H
              have c32b0 : decide ((rd (rd_L1 l0 x10_2) x11_3) < (wrap64 ((rd l2 x10_2) + (rd l3 x11_3)))) = true := decide_eq_true c32
              clear c32
              obtain rfl := Option.some.inj H
              simp only [Option.some.injEq, Prod.mk.injEq] at H
              obtain ⟨rfl⟩ := H
              have p149 : 0 ≤ (x10_2 : Int) := of_decide_eq_true qz1
              have q149 : x10_2 < (l2.length : Int) := of_decide_eq_true qz1
              obtain ⟨ad149, e149, hx149_0⟩ := Kd.at_int HR2.out x10_2 p149 q149
              cases e149
              replace hx149_0 := (HB.out.cell (World.block_lt_of_cell? w _ hx149_0)).trans hx149_0
              replace p149 := eq_true p149
              replace q149 := eq_true q149
              have p150 : 0 ≤ (x11_3 : Int) := of_decide_eq_true qz1
              have q150 : x11_3 < (l3.length : Int) := of_decide_eq_true qz1
              obtain ⟨ad150, e150, hx150_0⟩ := Kd.at_int HR3.out x11_3 p150 q150
              cases e150
              replace hx150_0 := (HB.out.cell (World.block_lt_of_cell? w _ hx150_0)).trans hx150_0
              replace p150 := eq_true p150
              replace q150 := eq_true q150
              have p151 : 0 ≤ (x10_2 : Int) := of_decide_eq_true qz1
              have q151 : x10_2 < (l0.length : Int) := of_decide_eq_true qz1
              obtain ⟨ad151, A151_0, c151_0, e151, hx151_0, hl151_0, hi151_0⟩ := at_L1 HR0.out x10_2 p151 q151
              obtain rfl : ad148 = ad151 := (by injection e151)
              replace hx151_0 := (HB.out.cell (World.block_lt_of_cell? w _ hx151_0)).trans hx151_0
              have HR151_0 := Aside0.mk hi151_0
              have HC151_0 := Aside0.mk hl151_0
              clear hi151_0 hl151_0
              replace p151 := eq_true p151
              replace q151 := eq_true q151
              have p152 : 0 ≤ (x11_3 : Int) := of_decide_eq_true qz1
              have q152 : x11_3 < ((rd_L1 l0 x10_2).length : Int) := of_decide_eq_true qz1
              obtain ⟨ad152, e152, hx152_0⟩ := Kd.at_int HR151_0.out x11_3 p152 q152
              cases e152
              replace hx152_0 := (HB.out.cell (World.block_lt_of_cell? w _ hx152_0)).trans hx152_0
              replace p152 := eq_true p152
              replace q152 := eq_true q152
              go_wp2
              repeat (go_quiet (fail); try go_wp2)
              go_ret
              exact ⟨by first | rfl | (simp [errW_none, errW_some] <;> rfl) | (simp [*, errW_none, errW_some] <;> rfl), by repeat (first | (with_reducible first | exact HB.out | apply below_alloc | apply pw_below_drewN | apply below_drew1) | exact HB.out)⟩
              }
              {
              rw [if_neg c32] at H
              have c32b0 : decide ((rd (rd_L1 l0 x10_2) x11_3) < (wrap64 ((rd l2 x10_2) + (rd l3 x11_3)))) = false := decide_eq_false c32
              clear c32
              by_cases c33 : x10_2 < (l1.length : Int)
              {
              rw [if_pos c33] at H
              have c33b0 : decide (x10_2 < (l1.length : Int)) = true := decide_eq_true c33
              clear c33
              by_cases c34 : (rd l1 x10_2) = x11_3
              {
              rw [if_pos c34] at H
              have c34b0 : ((rd l1 x10_2) == x11_3) = true := beq_iff_eq.mpr c34
              have c34b1 : ((rd l1 x10_2) != x11_3) = false := bne_eq_false_iff_eq.mpr c34
              clear c34
              by_cases c35 : (wrap64 ((rd l2 x10_2) + (rd l3 x11_3))) = (rd (rd_L1 l0 x10_2) x11_3)
              {
              rw [if_pos c35] at H
              have c35b0 : ((wrap64 ((rd l2 x10_2) + (rd l3 x11_3))) == (rd (rd_L1 l0 x10_2) x11_3)) = true := beq_iff_eq.mpr c35
              have c35b1 : ((wrap64 ((rd l2 x10_2) + (rd l3 x11_3))) != (rd (rd_L1 l0 x10_2) x11_3)) = false := bne_eq_false_iff_eq.mpr c35
              clear c35
              by_cases c36 : x11_3 < (x9_3.length : Int)
              {
              rw [if_pos c36] at H
              have c36b0 : decide (x11_3 < (x9_3.length : Int)) = true := decide_eq_true c36
              clear c36
              obtain ⟨bq37, hbq37⟩ : ∃ b_ : Bool, b_ = (rdOf false x9_3 x11_3) := ⟨_, rfl⟩
              replace H : (if bq37 = true then (spec_Proves.l1 k3 l0 l1 l2 l3 (x9_3.set (x11_3 : Int).toNat true) x10_2 (wrap64 (x11_3 + 1))) else (spec_Proves.l1 k3 l0 l1 l2 l3 (x9_3.set (x11_3 : Int).toNat ((rd l1 x10_2) == x11_3)) x10_2 (wrap64 (x11_3 + 1)))) = some r := by rw [← hbq37] at H; exact H
              have Nbq37 := Aside0.mk hbq37
              clear hbq37
              by_cases c38 : bq37 = true
              {
              subst c38
              have H1 : (spec_Proves.l1 k3 l0 l1 l2 l3 (x9_3.set (x11_3 : Int).toNat true) x10_2 (wrap64 (x11_3 + 1))) = some r := by rw [if_pos rfl] at H; exact H
              clear H
              have H := H1
              clear H1
              obtain ⟨y159, hy159⟩ : ∃ y_ : List Bool, y_ = (x9_3.set (x11_3 : Int).toNat true) := ⟨_, rfl⟩
              replace H : (spec_Proves.l1 k3 l0 l1 l2 l3 y159 x10_2 (wrap64 (x11_3 + 1))) = some r := by first | (rw [hy159]; with_reducible exact H) | (have H2_ := (Option.bind_some _ _).symm.trans H; rw [hy159]; with_reducible exact H2_) | (have H2_ := (Option.bind_some _ _).symm.trans H; with_reducible exact H2_) | with_reducible exact H | (rw [hy159]; exact H) | exact H
              have Ny159 := Aside0.mk hy159
              clear hy159
              have H' := Aside0.mk H
              clear H
              have p149 : 0 ≤ (x10_2 : Int) := of_decide_eq_true qz1
              have q149 : x10_2 < (l2.length : Int) := of_decide_eq_true qz1
              obtain ⟨ad149, e149, hx149_0⟩ := Kd.at_int HR2.out x10_2 p149 q149
              cases e149
              replace hx149_0 := (HB.out.cell (World.block_lt_of_cell? w _ hx149_0)).trans hx149_0
              replace p149 := eq_true p149
              replace q149 := eq_true q149
              have p150 : 0 ≤ (x11_3 : Int) := of_decide_eq_true qz1
              have q150 : x11_3 < (l3.length : Int) := of_decide_eq_true qz1
              obtain ⟨ad150, e150, hx150_0⟩ := Kd.at_int HR3.out x11_3 p150 q150
              cases e150
              replace hx150_0 := (HB.out.cell (World.block_lt_of_cell? w _ hx150_0)).trans hx150_0
              replace p150 := eq_true p150
              replace q150 := eq_true q150
              have p151 : 0 ≤ (x10_2 : Int) := of_decide_eq_true qz1
              have q151 : x10_2 < (l0.length : Int) := of_decide_eq_true qz1
              obtain ⟨ad151, A151_0, c151_0, e151, hx151_0, hl151_0, hi151_0⟩ := at_L1 HR0.out x10_2 p151 q151
              obtain rfl : ad148 = ad151 := (by injection e151)
              replace hx151_0 := (HB.out.cell (World.block_lt_of_cell? w _ hx151_0)).trans hx151_0
              have HR151_0 := Aside0.mk hi151_0
              have HC151_0 := Aside0.mk hl151_0
              clear hi151_0 hl151_0
              replace p151 := eq_true p151
              replace q151 := eq_true q151
              have p152 : 0 ≤ (x11_3 : Int) := of_decide_eq_true qz1
              have q152 : x11_3 < ((rd_L1 l0 x10_2).length : Int) := of_decide_eq_true qz1
              obtain ⟨ad152, e152, hx152_0⟩ := Kd.at_int HR151_0.out x11_3 p152 q152
              cases e152
              replace hx152_0 := (HB.out.cell (World.block_lt_of_cell? w _ hx152_0)).trans hx152_0
              replace p152 := eq_true p152
              replace q152 := eq_true q152
              have p153 : 0 ≤ (x10_2 : Int) := of_decide_eq_true qz1
              have q153 : x10_2 < (l1.length : Int) := of_decide_eq_true qz1
              obtain ⟨ad153, e153, hx153_0⟩ := Kd.at_int HR1.out x10_2 p153 q153
              cases e153
              replace hx153_0 := (HB.out.cell (World.block_lt_of_cell? w _ hx153_0)).trans hx153_0
              replace p153 := eq_true p153
              replace q153 := eq_true q153
              have p154 : 0 ≤ (x10_2 : Int) := of_decide_eq_true qz1
              have q154 : x10_2 < (l2.length : Int) := of_decide_eq_true qz1
              obtain ⟨ad154, e154, hx154_0⟩ := Kd.at_int HR2.out x10_2 p154 q154
              obtain rfl : ad149 = ad154 := (by injection e154)
              replace hx154_0 := (HB.out.cell (World.block_lt_of_cell? w _ hx154_0)).trans hx154_0
              replace p154 := eq_true p154
              replace q154 := eq_true q154
              have p155 : 0 ≤ (x11_3 : Int) := of_decide_eq_true qz1
              have q155 : x11_3 < (l3.length : Int) := of_decide_eq_true qz1
              obtain ⟨ad155, e155, hx155_0⟩ := Kd.at_int HR3.out x11_3 p155 q155
              obtain rfl : ad150 = ad155 := (by injection e155)
              replace hx155_0 := (HB.out.cell (World.block_lt_of_cell? w _ hx155_0)).trans hx155_0
              replace p155 := eq_true p155
              replace q155 := eq_true q155
              have p156 : 0 ≤ (x10_2 : Int) := of_decide_eq_true qz1
              have q156 : x10_2 < (l0.length : Int) := of_decide_eq_true qz1
              obtain ⟨ad156, A156_0, c156_0, e156, hx156_0, hl156_0, hi156_0⟩ := at_L1 HR0.out x10_2 p156 q156
              obtain rfl : ad148 = ad156 := (by injection e156)
              replace hx156_0 := (HB.out.cell (World.block_lt_of_cell? w _ hx156_0)).trans hx156_0
              have HR156_0 := Aside0.mk hi156_0
              have HC156_0 := Aside0.mk hl156_0
              clear hi156_0 hl156_0
              replace p156 := eq_true p156
              replace q156 := eq_true q156
              have ea_ := Option.some.inj (hx151_0.symm.trans hx156_0)
              injection ea_ with ea_ en_ ec_
              subst ea_
              subst ec_
              clear en_
              have p157 : 0 ≤ (x11_3 : Int) := of_decide_eq_true qz1
              have q157 : x11_3 < ((rd_L1 l0 x10_2).length : Int) := of_decide_eq_true qz1
              obtain ⟨ad157, e157, hx157_0⟩ := Kd.at_int HR156_0.out x11_3 p157 q157
              cases e157
              replace hx157_0 := (HB.out.cell (World.block_lt_of_cell? w _ hx157_0)).trans hx157_0
              replace p157 := eq_true p157
              replace q157 := eq_true q157
              obtain ⟨Ao40, co40, eo40⟩ := Kd.R_slice HO_9.out
              subst eo40
              have p158 : 0 ≤ (x11_3 : Int) := of_decide_eq_true qz1
              have q158 : x11_3 < (x9_3.length : Int) := of_decide_eq_true qz1
              obtain ⟨ad158, e158, hx158_0⟩ := Kd.at_bool (Kd.R_reads' HO_9.out).2.2 x11_3 p158 q158
              (try rw [← Nbq37.out] at hx158_0)
              cases e158
              replace p158 := eq_true p158
              replace q158 := eq_true q158
              have p39 : 0 ≤ (x11_3 : Int) := of_decide_eq_true qz1
              have q39 : (x11_3 : Int) < ((x9_3.length : Int) : Int) := of_decide_eq_true qz1
              obtain ⟨go39, co39, eo39, gb39, gl39, cl39, HG39⟩ := Kd.R_form HO_9.out (by omega)
              (first | cases eo39 | (injection eo39 with ea_ en_ ec_; (first | subst ea_ | (injection ea_ with ea_; subst ea_)); subst ec_; clear en_))
              have GB39 := Aside0.mk gb39
              have GG39 := Aside0.mk HG39
              clear gb39 gl39 HG39
              (first | simp only [add_plain] at hx158_0 | skip)
              obtain ⟨hx39_0, hf39_0⟩ := Kd.R_celln false HO_9.out (x11_3 : Int) p39 q39
              replace p39 := eq_true p39
              replace q39 := eq_true q39
              obtain ⟨hy41_, hz41_⟩ := Kd.R_celln false HO_9.out (x11_3 : Int) (of_decide_eq_true qz1) (of_decide_eq_true qz1)
              have HP41 := Kd.R_putg HO_9.out (x11_3 : Int) true
              go_wp2_with (first | ((with_reducible refine gate_store (t := 4) (p := 125) rfl ?_); (try (rw [drewN_self wr]; generalize hq_ : World.drewN wr _ = wr; have n0_ := Aside0.mk (Kd.R_at hq_ HO_9.out); have n1_ := Aside0.mk (below_at hq_ HB.out); clear hq_ HO_9 HB; have HO_9 := n0_; have HB := n1_; clear n0_ n1_; (try (obtain ⟨hy41_, hz41_⟩ := Kd.R_celln false HO_9.out (x11_3 : Int) (of_decide_eq_true qz1) (of_decide_eq_true qz1))); (try (have HP41 := Kd.R_putg HO_9.out (x11_3 : Int) true)))); refine store_event (t := 4) (p := 125) (v := ?vo_w42) (w1 := (wr.setCell ⟨go39, (x11_3 : Int).toNat, none⟩ (.bool true))) ?hg ?ho ?hn ?hr ?_; (case ho => rfl); (case hg => rfl); (case hn => rfl); (case hr => first | (go_simp; done) | (go_simp; rfl)); intro w42 hw; have hg : wr.grownBy w42 (some go39) := (by rw [hw]; exact HP41.2); have hp_ : Kd.R Kd.bool 4 w42 w.heap.size (fun _ => True) (.slice (some ⟨go39, 0, none⟩) x9_3.length co40) y159 := (by rw [hw, Ny159.out]; exact HP41.1); clear HP41; have n0_ := Aside0.mk (hp_); have n1_ := Aside0.mk ((by rw [hw]; exact below_set (HB.out) GB39.out : Below w.heap.size w w42)); clear HO_9; clear HB; have HO_9 := n0_; have HB := n1_; clear n0_ n1_; clear hg hw hp_))
              repeat (go_quiet (first | ((with_reducible refine gate_store (t := 4) (p := 125) rfl ?_); (try (rw [drewN_self wr]; generalize hq_ : World.drewN wr _ = wr; have n0_ := Aside0.mk (Kd.R_at hq_ HO_9.out); have n1_ := Aside0.mk (below_at hq_ HB.out); clear hq_ HO_9 HB; have HO_9 := n0_; have HB := n1_; clear n0_ n1_; (try (obtain ⟨hy41_, hz41_⟩ := Kd.R_celln false HO_9.out (x11_3 : Int) (of_decide_eq_true qz1) (of_decide_eq_true qz1))); (try (have HP41 := Kd.R_putg HO_9.out (x11_3 : Int) true)))); refine store_event (t := 4) (p := 125) (v := ?vo_w42) (w1 := (wr.setCell ⟨go39, (x11_3 : Int).toNat, none⟩ (.bool true))) ?hg ?ho ?hn ?hr ?_; (case ho => rfl); (case hg => rfl); (case hn => rfl); (case hr => first | (go_simp; done) | (go_simp; rfl)); intro w42 hw; have hg : wr.grownBy w42 (some go39) := (by rw [hw]; exact HP41.2); have hp_ : Kd.R Kd.bool 4 w42 w.heap.size (fun _ => True) (.slice (some ⟨go39, 0, none⟩) x9_3.length co40) y159 := (by rw [hw, Ny159.out]; exact HP41.1); clear HP41; have n0_ := Aside0.mk (hp_); have n1_ := Aside0.mk ((by rw [hw]; exact below_set (HB.out) GB39.out : Below w.heap.size w w42)); clear HO_9; clear HB; have HO_9 := n0_; have HB := n1_; clear n0_ n1_; clear hg hw hp_)); try go_wp2_with (first | ((with_reducible refine gate_store (t := 4) (p := 125) rfl ?_); (try (rw [drewN_self wr]; generalize hq_ : World.drewN wr _ = wr; have n0_ := Aside0.mk (Kd.R_at hq_ HO_9.out); have n1_ := Aside0.mk (below_at hq_ HB.out); clear hq_ HO_9 HB; have HO_9 := n0_; have HB := n1_; clear n0_ n1_; (try (obtain ⟨hy41_, hz41_⟩ := Kd.R_celln false HO_9.out (x11_3 : Int) (of_decide_eq_true qz1) (of_decide_eq_true qz1))); (try (have HP41 := Kd.R_putg HO_9.out (x11_3 : Int) true)))); refine store_event (t := 4) (p := 125) (v := ?vo_w42) (w1 := (wr.setCell ⟨go39, (x11_3 : Int).toNat, none⟩ (.bool true))) ?hg ?ho ?hn ?hr ?_; (case ho => rfl); (case hg => rfl); (case hn => rfl); (case hr => first | (go_simp; done) | (go_simp; rfl)); intro w42 hw; have hg : wr.grownBy w42 (some go39) := (by rw [hw]; exact HP41.2); have hp_ : Kd.R Kd.bool 4 w42 w.heap.size (fun _ => True) (.slice (some ⟨go39, 0, none⟩) x9_3.length co40) y159 := (by rw [hw, Ny159.out]; exact HP41.1); clear HP41; have n0_ := Aside0.mk (hp_); have n1_ := Aside0.mk ((by rw [hw]; exact below_set (HB.out) GB39.out : Below w.heap.size w w42)); clear HO_9; clear HB; have HO_9 := n0_; have HB := n1_; clear n0_ n1_; clear hg hw hp_)))
              go_roundg k3
              case measure => have := HJ4.out; have := HK2.out; have := HK3.out; omega
              case rel => exact ⟨(y159), (wrap64 (x11_3 + 1)), qz4, H', ⟨by have := HJ4.out; have := HK2.out; have := HK3.out; omega⟩, ⟨by (with_reducible repeat (first | apply Kd.R_alloc | apply Kd.R_drewN | apply Kd.R_drew)); exact HO_9.out⟩, ⟨by repeat (first | (with_reducible first | exact HB.out | apply below_alloc | apply pw_below_drewN | apply below_drew1) | exact HB.out)⟩⟩
              }
              {
              replace c38 := Bool.eq_false_iff.mpr c38
              subst c38
              have H1 : (spec_Proves.l1 k3 l0 l1 l2 l3 (x9_3.set (x11_3 : Int).toNat ((rd l1 x10_2) == x11_3)) x10_2 (wrap64 (x11_3 + 1))) = some r := by rw [if_neg (show ¬ (false = true) by decide)] at H; exact H
              clear H
              have H := H1
              clear H1
              obtain ⟨y161, hy161⟩ : ∃ y_ : List Bool, y_ = (x9_3.set (x11_3 : Int).toNat ((rd l1 x10_2) == x11_3)) := ⟨_, rfl⟩
              replace H : (spec_Proves.l1 k3 l0 l1 l2 l3 y161 x10_2 (wrap64 (x11_3 + 1))) = some r := by first | (rw [hy161]; with_reducible exact H) | (have H2_ := (Option.bind_some _ _).symm.trans H; rw [hy161]; with_reducible exact H2_) | (have H2_ := (Option.bind_some _ _).symm.trans H; with_reducible exact H2_) | with_reducible exact H | (rw [hy161]; exact H) | exact H
              have Ny161 := Aside0.mk hy161
              clear hy161
              have H' := Aside0.mk H
              clear H
              have p149 : 0 ≤ (x10_2 : Int) := of_decide_eq_true qz1
              have q149 : x10_2 < (l2.length : Int) := of_decide_eq_true qz1
              obtain ⟨ad149, e149, hx149_0⟩ := Kd.at_int HR2.out x10_2 p149 q149
              cases e149
              replace hx149_0 := (HB.out.cell (World.block_lt_of_cell? w _ hx149_0)).trans hx149_0
              replace p149 := eq_true p149
              replace q149 := eq_true q149
              have p150 : 0 ≤ (x11_3 : Int) := of_decide_eq_true qz1
              have q150 : x11_3 < (l3.length : Int) := of_decide_eq_true qz1
              obtain ⟨ad150, e150, hx150_0⟩ := Kd.at_int HR3.out x11_3 p150 q150
              cases e150
              replace hx150_0 := (HB.out.cell (World.block_lt_of_cell? w _ hx150_0)).trans hx150_0
              replace p150 := eq_true p150
              replace q150 := eq_true q150
              have p151 : 0 ≤ (x10_2 : Int) := of_decide_eq_true qz1
              have q151 : x10_2 < (l0.length : Int) := of_decide_eq_true qz1
              obtain ⟨ad151, A151_0, c151_0, e151, hx151_0, hl151_0, hi151_0⟩ := at_L1 HR0.out x10_2 p151 q151
              obtain rfl : ad148 = ad151 := (by injection e151)
              replace hx151_0 := (HB.out.cell (World.block_lt_of_cell? w _ hx151_0)).trans hx151_0
              have HR151_0 := Aside0.mk hi151_0
              have HC151_0 := Aside0.mk hl151_0
              clear hi151_0 hl151_0
              replace p151 := eq_true p151
              replace q151 := eq_true q151
              have p152 : 0 ≤ (x11_3 : Int) := of_decide_eq_true qz1
              have q152 : x11_3 < ((rd_L1 l0 x10_2).length : Int) := of_decide_eq_true qz1
              obtain ⟨ad152, e152, hx152_0⟩ := Kd.at_int HR151_0.out x11_3 p152 q152
              cases e152
              replace hx152_0 := (HB.out.cell (World.block_lt_of_cell? w _ hx152_0)).trans hx152_0
              replace p152 := eq_true p152
              replace q152 := eq_true q152
              have p153 : 0 ≤ (x10_2 : Int) := of_decide_eq_true qz1
              have q153 : x10_2 < (l1.length : Int) := of_decide_eq_true qz1
              obtain ⟨ad153, e153, hx153_0⟩ := Kd.at_int HR1.out x10_2 p153 q153
              cases e153
              replace hx153_0 := (HB.out.cell (World.block_lt_of_cell? w _ hx153_0)).trans hx153_0
              replace p153 := eq_true p153
              replace q153 := eq_true q153
              have p154 : 0 ≤ (x10_2 : Int) := of_decide_eq_true qz1
              have q154 : x10_2 < (l2.length : Int) := of_decide_eq_true qz1
              obtain ⟨ad154, e154, hx154_0⟩ := Kd.at_int HR2.out x10_2 p154 q154
              obtain rfl : ad149 = ad154 := (by injection e154)
              replace hx154_0 := (HB.out.cell (World.block_lt_of_cell? w _ hx154_0)).trans hx154_0
              replace p154 := eq_true p154
              replace q154 := eq_true q154
              have p155 : 0 ≤ (x11_3 : Int) := of_decide_eq_true qz1
              have q155 : x11_3 < (l3.length : Int) := of_decide_eq_true qz1
              obtain ⟨ad155, e155, hx155_0⟩ := Kd.at_int HR3.out x11_3 p155 q155
              obtain rfl : ad150 = ad155 := (by injection e155)
              replace hx155_0 := (HB.out.cell (World.block_lt_of_cell? w _ hx155_0)).trans hx155_0
              replace p155 := eq_true p155
              replace q155 := eq_true q155
              have p156 : 0 ≤ (x10_2 : Int) := of_decide_eq_true qz1
              have q156 : x10_2 < (l0.length : Int) := of_decide_eq_true qz1
              obtain ⟨ad156, A156_0, c156_0, e156, hx156_0, hl156_0, hi156_0⟩ := at_L1 HR0.out x10_2 p156 q156
              obtain rfl : ad148 = ad156 := (by injection e156)
              replace hx156_0 := (HB.out.cell (World.block_lt_of_cell? w _ hx156_0)).trans hx156_0
              have HR156_0 := Aside0.mk hi156_0
              have HC156_0 := Aside0.mk hl156_0
              clear hi156_0 hl156_0
              replace p156 := eq_true p156
              replace q156 := eq_true q156
              have ea_ := Option.some.inj (hx151_0.symm.trans hx156_0)
              injection ea_ with ea_ en_ ec_
              subst ea_
              subst ec_
              clear en_
              have p157 : 0 ≤ (x11_3 : Int) := of_decide_eq_true qz1
              have q157 : x11_3 < ((rd_L1 l0 x10_2).length : Int) := of_decide_eq_true qz1
              obtain ⟨ad157, e157, hx157_0⟩ := Kd.at_int HR156_0.out x11_3 p157 q157
              cases e157
              replace hx157_0 := (HB.out.cell (World.block_lt_of_cell? w _ hx157_0)).trans hx157_0
              replace p157 := eq_true p157
              replace q157 := eq_true q157
              obtain ⟨Ao44, co44, eo44⟩ := Kd.R_slice HO_9.out
              subst eo44
              have p158 : 0 ≤ (x11_3 : Int) := of_decide_eq_true qz1
              have q158 : x11_3 < (x9_3.length : Int) := of_decide_eq_true qz1
              obtain ⟨ad158, e158, hx158_0⟩ := Kd.at_bool (Kd.R_reads' HO_9.out).2.2 x11_3 p158 q158
              (try rw [← Nbq37.out] at hx158_0)
              cases e158
              replace p158 := eq_true p158
              replace q158 := eq_true q158
              have p160 : 0 ≤ (x10_2 : Int) := of_decide_eq_true qz1
              have q160 : x10_2 < (l1.length : Int) := of_decide_eq_true qz1
              obtain ⟨ad160, e160, hx160_0⟩ := Kd.at_int HR1.out x10_2 p160 q160
              obtain rfl : ad153 = ad160 := (by injection e160)
              replace hx160_0 := (HB.out.cell (World.block_lt_of_cell? w _ hx160_0)).trans hx160_0
              replace p160 := eq_true p160
              replace q160 := eq_true q160
              have p43 : 0 ≤ (x11_3 : Int) := of_decide_eq_true qz1
              have q43 : (x11_3 : Int) < ((x9_3.length : Int) : Int) := of_decide_eq_true qz1
              obtain ⟨go43, co43, eo43, gb43, gl43, cl43, HG43⟩ := Kd.R_form HO_9.out (by omega)
              (first | cases eo43 | (injection eo43 with ea_ en_ ec_; (first | subst ea_ | (injection ea_ with ea_; subst ea_)); subst ec_; clear en_))
              have GB43 := Aside0.mk gb43
              have GG43 := Aside0.mk HG43
              clear gb43 gl43 HG43
              (first | simp only [add_plain] at hx158_0 | skip)
              obtain ⟨hx43_0, hf43_0⟩ := Kd.R_celln false HO_9.out (x11_3 : Int) p43 q43
              replace p43 := eq_true p43
              replace q43 := eq_true q43
              obtain ⟨hy45_, hz45_⟩ := Kd.R_celln false HO_9.out (x11_3 : Int) (of_decide_eq_true qz1) (of_decide_eq_true qz1)
              have HP45 := Kd.R_putg HO_9.out (x11_3 : Int) ((rd l1 x10_2) == x11_3)
              go_wp2_with (first | ((with_reducible refine gate_store (t := 4) (p := 125) rfl ?_); (try (rw [drewN_self wr]; generalize hq_ : World.drewN wr _ = wr; have n0_ := Aside0.mk (Kd.R_at hq_ HO_9.out); have n1_ := Aside0.mk (below_at hq_ HB.out); clear hq_ HO_9 HB; have HO_9 := n0_; have HB := n1_; clear n0_ n1_; (try (obtain ⟨hy45_, hz45_⟩ := Kd.R_celln false HO_9.out (x11_3 : Int) (of_decide_eq_true qz1) (of_decide_eq_true qz1))); (try (have HP45 := Kd.R_putg HO_9.out (x11_3 : Int) ((rd l1 x10_2) == x11_3))))); refine store_event (t := 4) (p := 125) (v := ?vo_w46) (w1 := (wr.setCell ⟨go43, (x11_3 : Int).toNat, none⟩ (.bool ((rd l1 x10_2) == x11_3)))) ?hg ?ho ?hn ?hr ?_; (case ho => rfl); (case hg => rfl); (case hn => rfl); (case hr => first | (go_simp; done) | (go_simp; rfl)); intro w46 hw; have hg : wr.grownBy w46 (some go43) := (by rw [hw]; exact HP45.2); have hp_ : Kd.R Kd.bool 4 w46 w.heap.size (fun _ => True) (.slice (some ⟨go43, 0, none⟩) x9_3.length co44) y161 := (by rw [hw, Ny161.out]; exact HP45.1); clear HP45; have n0_ := Aside0.mk (hp_); have n1_ := Aside0.mk ((by rw [hw]; exact below_set (HB.out) GB43.out : Below w.heap.size w w46)); clear HO_9; clear HB; have HO_9 := n0_; have HB := n1_; clear n0_ n1_; clear hg hw hp_))
              repeat (go_quiet (first | ((with_reducible refine gate_store (t := 4) (p := 125) rfl ?_); (try (rw [drewN_self wr]; generalize hq_ : World.drewN wr _ = wr; have n0_ := Aside0.mk (Kd.R_at hq_ HO_9.out); have n1_ := Aside0.mk (below_at hq_ HB.out); clear hq_ HO_9 HB; have HO_9 := n0_; have HB := n1_; clear n0_ n1_; (try (obtain ⟨hy45_, hz45_⟩ := Kd.R_celln false HO_9.out (x11_3 : Int) (of_decide_eq_true qz1) (of_decide_eq_true qz1))); (try (have HP45 := Kd.R_putg HO_9.out (x11_3 : Int) ((rd l1 x10_2) == x11_3))))); refine store_event (t := 4) (p := 125) (v := ?vo_w46) (w1 := (wr.setCell ⟨go43, (x11_3 : Int).toNat, none⟩ (.bool ((rd l1 x10_2) == x11_3)))) ?hg ?ho ?hn ?hr ?_; (case ho => rfl); (case hg => rfl); (case hn => rfl); (case hr => first | (go_simp; done) | (go_simp; rfl)); intro w46 hw; have hg : wr.grownBy w46 (some go43) := (by rw [hw]; exact HP45.2); have hp_ : Kd.R Kd.bool 4 w46 w.heap.size (fun _ => True) (.slice (some ⟨go43, 0, none⟩) x9_3.length co44) y161 := (by rw [hw, Ny161.out]; exact HP45.1); clear HP45; have n0_ := Aside0.mk (hp_); have n1_ := Aside0.mk ((by rw [hw]; exact below_set (HB.out) GB43.out : Below w.heap.size w w46)); clear HO_9; clear HB; have HO_9 := n0_; have HB := n1_; clear n0_ n1_; clear hg hw hp_)); try go_wp2_with (first | ((with_reducible refine gate_store (t := 4) (p := 125) rfl ?_); (try (rw [drewN_self wr]; generalize hq_ : World.drewN wr _ = wr; have n0_ := Aside0.mk (Kd.R_at hq_ HO_9.out); have n1_ := Aside0.mk (below_at hq_ HB.out); clear hq_ HO_9 HB; have HO_9 := n0_; have HB := n1_; clear n0_ n1_; (try (obtain ⟨hy45_, hz45_⟩ := Kd.R_celln false HO_9.out (x11_3 : Int) (of_decide_eq_true qz1) (of_decide_eq_true qz1))); (try (have HP45 := Kd.R_putg HO_9.out (x11_3 : Int) ((rd l1 x10_2) == x11_3))))); refine store_event (t := 4) (p := 125) (v := ?vo_w46) (w1 := (wr.setCell ⟨go43, (x11_3 : Int).toNat, none⟩ (.bool ((rd l1 x10_2) == x11_3)))) ?hg ?ho ?hn ?hr ?_; (case ho => rfl); (case hg => rfl); (case hn => rfl); (case hr => first | (go_simp; done) | (go_simp; rfl)); intro w46 hw; have hg : wr.grownBy w46 (some go43) := (by rw [hw]; exact HP45.2); have hp_ : Kd.R Kd.bool 4 w46 w.heap.size (fun _ => True) (.slice (some ⟨go43, 0, none⟩) x9_3.length co44) y161 := (by rw [hw, Ny161.out]; exact HP45.1); clear HP45; have n0_ := Aside0.mk (hp_); have n1_ := Aside0.mk ((by rw [hw]; exact below_set (HB.out) GB43.out : Below w.heap.size w w46)); clear HO_9; clear HB; have HO_9 := n0_; have HB := n1_; clear n0_ n1_; clear hg hw hp_)))
              go_roundg k3
              case measure => have := HJ4.out; have := HK2.out; have := HK3.out; omega
              case rel => exact ⟨(y161), (wrap64 (x11_3 + 1)), qz4, H', ⟨by have := HJ4.out; have := HK2.out; have := HK3.out; omega⟩, ⟨by (with_reducible repeat (first | apply Kd.R_alloc | apply Kd.R_drewN | apply Kd.R_drew)); exact HO_9.out⟩, ⟨by repeat (first | (with_reducible first | exact HB.out | apply below_alloc | apply pw_below_drewN | apply below_drew1) | exact HB.out)⟩⟩
              }
              }
              {
              rw [if_neg c36] at H
              exact absurd H (by simp)
              }
              }
              {
              rw [if_neg c35] at H
              have c35b0 : ((wrap64 ((rd l2 x10_2) + (rd l3 x11_3))) == (rd (rd_L1 l0 x10_2) x11_3)) = false := beq_eq_false_iff_ne.mpr c35
              have c35b1 : ((wrap64 ((rd l2 x10_2) + (rd l3 x11_3))) != (rd (rd_L1 l0 x10_2) x11_3)) = true := bne_iff_ne.mpr c35
              obtain rfl := Option.some.inj H
              simp only [Option.some.injEq, Prod.mk.injEq] at H
              obtain ⟨rfl⟩ := H
              have p149 : 0 ≤ (x10_2 : Int) := of_decide_eq_true qz1
              have q149 : x10_2 < (l2.length : Int) := of_decide_eq_true qz1
              obtain ⟨ad149, e149, hx149_0⟩ := Kd.at_int HR2.out x10_2 p149 q149
              cases e149
              replace hx149_0 := (HB.out.cell (World.block_lt_of_cell? w _ hx149_0)).trans hx149_0
              replace p149 := eq_true p149
              replace q149 := eq_true q149
              have p150 : 0 ≤ (x11_3 : Int) := of_decide_eq_true qz1
              have q150 : x11_3 < (l3.length : Int) := of_decide_eq_true qz1
              obtain ⟨ad150, e150, hx150_0⟩ := Kd.at_int HR3.out x11_3 p150 q150
              cases e150
              replace hx150_0 := (HB.out.cell (World.block_lt_of_cell? w _ hx150_0)).trans hx150_0
              replace p150 := eq_true p150
              replace q150 := eq_true q150
              have p151 : 0 ≤ (x10_2 : Int) := of_decide_eq_true qz1
              have q151 : x10_2 < (l0.length : Int) := of_decide_eq_true qz1
              obtain ⟨ad151, A151_0, c151_0, e151, hx151_0, hl151_0, hi151_0⟩ := at_L1 HR0.out x10_2 p151 q151
              obtain rfl : ad148 = ad151 := (by injection e151)
              replace hx151_0 := (HB.out.cell (World.block_lt_of_cell? w _ hx151_0)).trans hx151_0
              have HR151_0 := Aside0.mk hi151_0
              have HC151_0 := Aside0.mk hl151_0
              clear hi151_0 hl151_0
              replace p151 := eq_true p151
              replace q151 := eq_true q151
              have p152 : 0 ≤ (x11_3 : Int) := of_decide_eq_true qz1
              have q152 : x11_3 < ((rd_L1 l0 x10_2).length : Int) := of_decide_eq_true qz1
              obtain ⟨ad152, e152, hx152_0⟩ := Kd.at_int HR151_0.out x11_3 p152 q152
              cases e152
              replace hx152_0 := (HB.out.cell (World.block_lt_of_cell? w _ hx152_0)).trans hx152_0
              replace p152 := eq_true p152
              replace q152 := eq_true q152
              have p153 : 0 ≤ (x10_2 : Int) := of_decide_eq_true qz1
              have q153 : x10_2 < (l1.length : Int) := of_decide_eq_true qz1
              obtain ⟨ad153, e153, hx153_0⟩ := Kd.at_int HR1.out x10_2 p153 q153
              cases e153
              replace hx153_0 := (HB.out.cell (World.block_lt_of_cell? w _ hx153_0)).trans hx153_0
              replace p153 := eq_true p153
              replace q153 := eq_true q153
              have p154 : 0 ≤ (x10_2 : Int) := of_decide_eq_true qz1
              have q154 : x10_2 < (l2.length : Int) := of_decide_eq_true qz1
              obtain ⟨ad154, e154, hx154_0⟩ := Kd.at_int HR2.out x10_2 p154 q154
              obtain rfl : ad149 = ad154 := (by injection e154)
              replace hx154_0 := (HB.out.cell (World.block_lt_of_cell? w _ hx154_0)).trans hx154_0
              replace p154 := eq_true p154
              replace q154 := eq_true q154
              have p155 : 0 ≤ (x11_3 : Int) := of_decide_eq_true qz1
              have q155 : x11_3 < (l3.length : Int) := of_decide_eq_true qz1
              obtain ⟨ad155, e155, hx155_0⟩ := Kd.at_int HR3.out x11_3 p155 q155
              obtain rfl : ad150 = ad155 := (by injection e155)
              replace hx155_0 := (HB.out.cell (World.block_lt_of_cell? w _ hx155_0)).trans hx155_0
              replace p155 := eq_true p155
              replace q155 := eq_true q155
              have p156 : 0 ≤ (x10_2 : Int) := of_decide_eq_true qz1
              have q156 : x10_2 < (l0.length : Int) := of_decide_eq_true qz1
              obtain ⟨ad156, A156_0, c156_0, e156, hx156_0, hl156_0, hi156_0⟩ := at_L1 HR0.out x10_2 p156 q156
              obtain rfl : ad148 = ad156 := (by injection e156)
              replace hx156_0 := (HB.out.cell (World.block_lt_of_cell? w _ hx156_0)).trans hx156_0
              have HR156_0 := Aside0.mk hi156_0
              have HC156_0 := Aside0.mk hl156_0
              clear hi156_0 hl156_0
              replace p156 := eq_true p156
              replace q156 := eq_true q156
              have ea_ := Option.some.inj (hx151_0.symm.trans hx156_0)
              injection ea_ with ea_ en_ ec_
              subst ea_
              subst ec_
              clear en_
              have p157 : 0 ≤ (x11_3 : Int) := of_decide_eq_true qz1
              have q157 : x11_3 < ((rd_L1 l0 x10_2).length : Int) := of_decide_eq_true qz1
              obtain ⟨ad157, e157, hx157_0⟩ := Kd.at_int HR156_0.out x11_3 p157 q157
              cases e157
              replace hx157_0 := (HB.out.cell (World.block_lt_of_cell? w _ hx157_0)).trans hx157_0
              replace p157 := eq_true p157
              replace q157 := eq_true q157
              go_wp2
              repeat (go_quiet (fail); try go_wp2)
              go_ret
              exact ⟨by first | rfl | (simp [errW_none, errW_some] <;> rfl) | (simp [*, errW_none, errW_some] <;> rfl), by repeat (first | (with_reducible first | exact HB.out | apply below_alloc | apply pw_below_drewN | apply below_drew1) | exact HB.out)⟩
              }
              }
              {
              rw [if_neg c34] at H
              have c34b0 : ((rd l1 x10_2) == x11_3) = false := beq_eq_false_iff_ne.mpr c34
              have c34b1 : ((rd l1 x10_2) != x11_3) = true := bne_iff_ne.mpr c34
              by_cases c47 : x11_3 < (x9_3.length : Int)
              {
              rw [if_pos c47] at H
              have c47b0 : decide (x11_3 < (x9_3.length : Int)) = true := decide_eq_true c47
              clear c47
              obtain ⟨bq48, hbq48⟩ : ∃ b_ : Bool, b_ = (rdOf false x9_3 x11_3) := ⟨_, rfl⟩
              replace H : (if bq48 = true then (spec_Proves.l1 k3 l0 l1 l2 l3 (x9_3.set (x11_3 : Int).toNat true) x10_2 (wrap64 (x11_3 + 1))) else (spec_Proves.l1 k3 l0 l1 l2 l3 (x9_3.set (x11_3 : Int).toNat ((rd l1 x10_2) == x11_3)) x10_2 (wrap64 (x11_3 + 1)))) = some r := by rw [← hbq48] at H; exact H
              have Nbq48 := Aside0.mk hbq48
              clear hbq48
              by_cases c49 : bq48 = true
              {
              subst c49
              have H1 : (spec_Proves.l1 k3 l0 l1 l2 l3 (x9_3.set (x11_3 : Int).toNat true) x10_2 (wrap64 (x11_3 + 1))) = some r := by rw [if_pos rfl] at H; exact H
              clear H
              have H := H1
              clear H1
              obtain ⟨y163, hy163⟩ : ∃ y_ : List Bool, y_ = (x9_3.set (x11_3 : Int).toNat true) := ⟨_, rfl⟩
              replace H : (spec_Proves.l1 k3 l0 l1 l2 l3 y163 x10_2 (wrap64 (x11_3 + 1))) = some r := by first | (rw [hy163]; with_reducible exact H) | (have H2_ := (Option.bind_some _ _).symm.trans H; rw [hy163]; with_reducible exact H2_) | (have H2_ := (Option.bind_some _ _).symm.trans H; with_reducible exact H2_) | with_reducible exact H | (rw [hy163]; exact H) | exact H
              have Ny163 := Aside0.mk hy163
              clear hy163
              have H' := Aside0.mk H
              clear H
              have p149 : 0 ≤ (x10_2 : Int) := of_decide_eq_true qz1
              have q149 : x10_2 < (l2.length : Int) := of_decide_eq_true qz1
              obtain ⟨ad149, e149, hx149_0⟩ := Kd.at_int HR2.out x10_2 p149 q149
              cases e149
              replace hx149_0 := (HB.out.cell (World.block_lt_of_cell? w _ hx149_0)).trans hx149_0
              replace p149 := eq_true p149
              replace q149 := eq_true q149
              have p150 : 0 ≤ (x11_3 : Int) := of_decide_eq_true qz1
              have q150 : x11_3 < (l3.length : Int) := of_decide_eq_true qz1
              obtain ⟨ad150, e150, hx150_0⟩ := Kd.at_int HR3.out x11_3 p150 q150
              cases e150
              replace hx150_0 := (HB.out.cell (World.block_lt_of_cell? w _ hx150_0)).trans hx150_0
              replace p150 := eq_true p150
              replace q150 := eq_true q150
              have p151 : 0 ≤ (x10_2 : Int) := of_decide_eq_true qz1
              have q151 : x10_2 < (l0.length : Int) := of_decide_eq_true qz1
              obtain ⟨ad151, A151_0, c151_0, e151, hx151_0, hl151_0, hi151_0⟩ := at_L1 HR0.out x10_2 p151 q151
              obtain rfl : ad148 = ad151 := (by injection e151)
              replace hx151_0 := (HB.out.cell (World.block_lt_of_cell? w _ hx151_0)).trans hx151_0
              have HR151_0 := Aside0.mk hi151_0
              have HC151_0 := Aside0.mk hl151_0
              clear hi151_0 hl151_0
              replace p151 := eq_true p151
              replace q151 := eq_true q151
              have p152 : 0 ≤ (x11_3 : Int) := of_decide_eq_true qz1
              have q152 : x11_3 < ((rd_L1 l0 x10_2).length : Int) := of_decide_eq_true qz1
              obtain ⟨ad152, e152, hx152_0⟩ := Kd.at_int HR151_0.out x11_3 p152 q152
              cases e152
              replace hx152_0 := (HB.out.cell (World.block_lt_of_cell? w _ hx152_0)).trans hx152_0
              replace p152 := eq_true p152
              replace q152 := eq_true q152
              have p153 : 0 ≤ (x10_2 : Int) := of_decide_eq_true qz1
              have q153 : x10_2 < (l1.length : Int) := of_decide_eq_true qz1
              obtain ⟨ad153, e153, hx153_0⟩ := Kd.at_int HR1.out x10_2 p153 q153
              cases e153
              replace hx153_0 := (HB.out.cell (World.block_lt_of_cell? w _ hx153_0)).trans hx153_0
              replace p153 := eq_true p153
              replace q153 := eq_true q153
              obtain ⟨Ao51, co51, eo51⟩ := Kd.R_slice HO_9.out
              subst eo51
              have p162 : 0 ≤ (x11_3 : Int) := of_decide_eq_true qz1
              have q162 : x11_3 < (x9_3.length : Int) := of_decide_eq_true qz1
              obtain ⟨ad162, e162, hx162_0⟩ := Kd.at_bool (Kd.R_reads' HO_9.out).2.2 x11_3 p162 q162
              (try rw [← Nbq48.out] at hx162_0)
              cases e162
              replace p162 := eq_true p162
              replace q162 := eq_true q162
              have p50 : 0 ≤ (x11_3 : Int) := of_decide_eq_true qz1
              have q50 : (x11_3 : Int) < ((x9_3.length : Int) : Int) := of_decide_eq_true qz1
              obtain ⟨go50, co50, eo50, gb50, gl50, cl50, HG50⟩ := Kd.R_form HO_9.out (by omega)
              (first | cases eo50 | (injection eo50 with ea_ en_ ec_; (first | subst ea_ | (injection ea_ with ea_; subst ea_)); subst ec_; clear en_))
              have GB50 := Aside0.mk gb50
              have GG50 := Aside0.mk HG50
              clear gb50 gl50 HG50
              (first | simp only [add_plain] at hx162_0 | skip)
              obtain ⟨hx50_0, hf50_0⟩ := Kd.R_celln false HO_9.out (x11_3 : Int) p50 q50
              replace p50 := eq_true p50
              replace q50 := eq_true q50
              obtain ⟨hy52_, hz52_⟩ := Kd.R_celln false HO_9.out (x11_3 : Int) (of_decide_eq_true qz1) (of_decide_eq_true qz1)
              have HP52 := Kd.R_putg HO_9.out (x11_3 : Int) true
              go_wp2_with (first | ((with_reducible refine gate_store (t := 4) (p := 125) rfl ?_); (try (rw [drewN_self wr]; generalize hq_ : World.drewN wr _ = wr; have n0_ := Aside0.mk (Kd.R_at hq_ HO_9.out); have n1_ := Aside0.mk (below_at hq_ HB.out); clear hq_ HO_9 HB; have HO_9 := n0_; have HB := n1_; clear n0_ n1_; (try (obtain ⟨hy52_, hz52_⟩ := Kd.R_celln false HO_9.out (x11_3 : Int) (of_decide_eq_true qz1) (of_decide_eq_true qz1))); (try (have HP52 := Kd.R_putg HO_9.out (x11_3 : Int) true)))); refine store_event (t := 4) (p := 125) (v := ?vo_w53) (w1 := (wr.setCell ⟨go50, (x11_3 : Int).toNat, none⟩ (.bool true))) ?hg ?ho ?hn ?hr ?_; (case ho => rfl); (case hg => rfl); (case hn => rfl); (case hr => first | (go_simp; done) | (go_simp; rfl)); intro w53 hw; have hg : wr.grownBy w53 (some go50) := (by rw [hw]; exact HP52.2); have hp_ : Kd.R Kd.bool 4 w53 w.heap.size (fun _ => True) (.slice (some ⟨go50, 0, none⟩) x9_3.length co51) y163 := (by rw [hw, Ny163.out]; exact HP52.1); clear HP52; have n0_ := Aside0.mk (hp_); have n1_ := Aside0.mk ((by rw [hw]; exact below_set (HB.out) GB50.out : Below w.heap.size w w53)); clear HO_9; clear HB; have HO_9 := n0_; have HB := n1_; clear n0_ n1_; clear hg hw hp_))
              repeat (go_quiet (first | ((with_reducible refine gate_store (t := 4) (p := 125) rfl ?_); (try (rw [drewN_self wr]; generalize hq_ : World.drewN wr _ = wr; have n0_ := Aside0.mk (Kd.R_at hq_ HO_9.out); have n1_ := Aside0.mk (below_at hq_ HB.out); clear hq_ HO_9 HB; have HO_9 := n0_; have HB := n1_; clear n0_ n1_; (try (obtain ⟨hy52_, hz52_⟩ := Kd.R_celln false HO_9.out (x11_3 : Int) (of_decide_eq_true qz1) (of_decide_eq_true qz1))); (try (have HP52 := Kd.R_putg HO_9.out (x11_3 : Int) true)))); refine store_event (t := 4) (p := 125) (v := ?vo_w53) (w1 := (wr.setCell ⟨go50, (x11_3 : Int).toNat, none⟩ (.bool true))) ?hg ?ho ?hn ?hr ?_; (case ho => rfl); (case hg => rfl); (case hn => rfl); (case hr => first | (go_simp; done) | (go_simp; rfl)); intro w53 hw; have hg : wr.grownBy w53 (some go50) := (by rw [hw]; exact HP52.2); have hp_ : Kd.R Kd.bool 4 w53 w.heap.size (fun _ => True) (.slice (some ⟨go50, 0, none⟩) x9_3.length co51) y163 := (by rw [hw, Ny163.out]; exact HP52.1); clear HP52; have n0_ := Aside0.mk (hp_); have n1_ := Aside0.mk ((by rw [hw]; exact below_set (HB.out) GB50.out : Below w.heap.size w w53)); clear HO_9; clear HB; have HO_9 := n0_; have HB := n1_; clear n0_ n1_; clear hg hw hp_)); try go_wp2_with (first | ((with_reducible refine gate_store (t := 4) (p := 125) rfl ?_); (try (rw [drewN_self wr]; generalize hq_ : World.drewN wr _ = wr; have n0_ := Aside0.mk (Kd.R_at hq_ HO_9.out); have n1_ := Aside0.mk (below_at hq_ HB.out); clear hq_ HO_9 HB; have HO_9 := n0_; have HB := n1_; clear n0_ n1_; (try (obtain ⟨hy52_, hz52_⟩ := Kd.R_celln false HO_9.out (x11_3 : Int) (of_decide_eq_true qz1) (of_decide_eq_true qz1))); (try (have HP52 := Kd.R_putg HO_9.out (x11_3 : Int) true)))); refine store_event (t := 4) (p := 125) (v := ?vo_w53) (w1 := (wr.setCell ⟨go50, (x11_3 : Int).toNat, none⟩ (.bool true))) ?hg ?ho ?hn ?hr ?_; (case ho => rfl); (case hg => rfl); (case hn => rfl); (case hr => first | (go_simp; done) | (go_simp; rfl)); intro w53 hw; have hg : wr.grownBy w53 (some go50) := (by rw [hw]; exact HP52.2); have hp_ : Kd.R Kd.bool 4 w53 w.heap.size (fun _ => True) (.slice (some ⟨go50, 0, none⟩) x9_3.length co51) y163 := (by rw [hw, Ny163.out]; exact HP52.1); clear HP52; have n0_ := Aside0.mk (hp_); have n1_ := Aside0.mk ((by rw [hw]; exact below_set (HB.out) GB50.out : Below w.heap.size w w53)); clear HO_9; clear HB; have HO_9 := n0_; have HB := n1_; clear n0_ n1_; clear hg hw hp_)))
              go_roundg k3
              case measure => have := HJ4.out; have := HK2.out; have := HK3.out; omega
              case rel => exact ⟨(y163), (wrap64 (x11_3 + 1)), qz4, H', ⟨by have := HJ4.out; have := HK2.out; have := HK3.out; omega⟩, ⟨by (with_reducible repeat (first | apply Kd.R_alloc | apply Kd.R_drewN | apply Kd.R_drew)); exact HO_9.out⟩, ⟨by repeat (first | (with_reducible first | exact HB.out | apply below_alloc | apply pw_below_drewN | apply below_drew1) | exact HB.out)⟩⟩
              }
              {
              replace c49 := Bool.eq_false_iff.mpr c49
              subst c49
              have H1 : (spec_Proves.l1 k3 l0 l1 l2 l3 (x9_3.set (x11_3 : Int).toNat ((rd l1 x10_2) == x11_3)) x10_2 (wrap64 (x11_3 + 1))) = some r := by rw [if_neg (show ¬ (false = true) by decide)] at H; exact H
              clear H
              have H := H1
              clear H1
              obtain ⟨y165, hy165⟩ : ∃ y_ : List Bool, y_ = (x9_3.set (x11_3 : Int).toNat ((rd l1 x10_2) == x11_3)) := ⟨_, rfl⟩
              replace H : (spec_Proves.l1 k3 l0 l1 l2 l3 y165 x10_2 (wrap64 (x11_3 + 1))) = some r := by first | (rw [hy165]; with_reducible exact H) | (have H2_ := (Option.bind_some _ _).symm.trans H; rw [hy165]; with_reducible exact H2_) | (have H2_ := (Option.bind_some _ _).symm.trans H; with_reducible exact H2_) | with_reducible exact H | (rw [hy165]; exact H) | exact H
              have Ny165 := Aside0.mk hy165
              clear hy165
              have H' := Aside0.mk H
              clear H
              have p149 : 0 ≤ (x10_2 : Int) := of_decide_eq_true qz1
              have q149 : x10_2 < (l2.length : Int) := of_decide_eq_true qz1
              obtain ⟨ad149, e149, hx149_0⟩ := Kd.at_int HR2.out x10_2 p149 q149
              cases e149
              replace hx149_0 := (HB.out.cell (World.block_lt_of_cell? w _ hx149_0)).trans hx149_0
              replace p149 := eq_true p149
              replace q149 := eq_true q149
              have p150 : 0 ≤ (x11_3 : Int) := of_decide_eq_true qz1
              have q150 : x11_3 < (l3.length : Int) := of_decide_eq_true qz1
              obtain ⟨ad150, e150, hx150_0⟩ := Kd.at_int HR3.out x11_3 p150 q150
              cases e150
              replace hx150_0 := (HB.out.cell (World.block_lt_of_cell? w _ hx150_0)).trans hx150_0
              replace p150 := eq_true p150
              replace q150 := eq_true q150
              have p151 : 0 ≤ (x10_2 : Int) := of_decide_eq_true qz1
              have q151 : x10_2 < (l0.length : Int) := of_decide_eq_true qz1
              obtain ⟨ad151, A151_0, c151_0, e151, hx151_0, hl151_0, hi151_0⟩ := at_L1 HR0.out x10_2 p151 q151
              obtain rfl : ad148 = ad151 := (by injection e151)
              replace hx151_0 := (HB.out.cell (World.block_lt_of_cell? w _ hx151_0)).trans hx151_0
              have HR151_0 := Aside0.mk hi151_0
              have HC151_0 := Aside0.mk hl151_0
              clear hi151_0 hl151_0
              replace p151 := eq_true p151
              replace q151 := eq_true q151
              have p152 : 0 ≤ (x11_3 : Int) := of_decide_eq_true qz1
              have q152 : x11_3 < ((rd_L1 l0 x10_2).length : Int) := of_decide_eq_true qz1
              obtain ⟨ad152, e152, hx152_0⟩ := Kd.at_int HR151_0.out x11_3 p152 q152
              cases e152
              replace hx152_0 := (HB.out.cell (World.block_lt_of_cell? w _ hx152_0)).trans hx152_0
              replace p152 := eq_true p152
              replace q152 := eq_true q152
              have p153 : 0 ≤ (x10_2 : Int) := of_decide_eq_true qz1
              have q153 : x10_2 < (l1.length : Int) := of_decide_eq_true qz1
              obtain ⟨ad153, e153, hx153_0⟩ := Kd.at_int HR1.out x10_2 p153 q153
              cases e153
              replace hx153_0 := (HB.out.cell (World.block_lt_of_cell? w _ hx153_0)).trans hx153_0
              replace p153 := eq_true p153
              replace q153 := eq_true q153
              obtain ⟨Ao55, co55, eo55⟩ := Kd.R_slice HO_9.out
              subst eo55
              have p162 : 0 ≤ (x11_3 : Int) := of_decide_eq_true qz1
              have q162 : x11_3 < (x9_3.length : Int) := of_decide_eq_true qz1
              obtain ⟨ad162, e162, hx162_0⟩ := Kd.at_bool (Kd.R_reads' HO_9.out).2.2 x11_3 p162 q162
              (try rw [← Nbq48.out] at hx162_0)
              cases e162
              replace p162 := eq_true p162
              replace q162 := eq_true q162
              have p164 : 0 ≤ (x10_2 : Int) := of_decide_eq_true qz1
              have q164 : x10_2 < (l1.length : Int) := of_decide_eq_true qz1
              obtain ⟨ad164, e164, hx164_0⟩ := Kd.at_int HR1.out x10_2 p164 q164
              obtain rfl : ad153 = ad164 := (by injection e164)
              replace hx164_0 := (HB.out.cell (World.block_lt_of_cell? w _ hx164_0)).trans hx164_0
              replace p164 := eq_true p164
              replace q164 := eq_true q164
              have p54 : 0 ≤ (x11_3 : Int) := of_decide_eq_true qz1
              have q54 : (x11_3 : Int) < ((x9_3.length : Int) : Int) := of_decide_eq_true qz1
              obtain ⟨go54, co54, eo54, gb54, gl54, cl54, HG54⟩ := Kd.R_form HO_9.out (by omega)
              (first | cases eo54 | (injection eo54 with ea_ en_ ec_; (first | subst ea_ | (injection ea_ with ea_; subst ea_)); subst ec_; clear en_))
              have GB54 := Aside0.mk gb54
              have GG54 := Aside0.mk HG54
              clear gb54 gl54 HG54
              (first | simp only [add_plain] at hx162_0 | skip)
              obtain ⟨hx54_0, hf54_0⟩ := Kd.R_celln false HO_9.out (x11_3 : Int) p54 q54
              replace p54 := eq_true p54
              replace q54 := eq_true q54
              obtain ⟨hy56_, hz56_⟩ := Kd.R_celln false HO_9.out (x11_3 : Int) (of_decide_eq_true qz1) (of_decide_eq_true qz1)
              have HP56 := Kd.R_putg HO_9.out (x11_3 : Int) ((rd l1 x10_2) == x11_3)
              go_wp2_with (first | ((with_reducible refine gate_store (t := 4) (p := 125) rfl ?_); (try (rw [drewN_self wr]; generalize hq_ : World.drewN wr _ = wr; have n0_ := Aside0.mk (Kd.R_at hq_ HO_9.out); have n1_ := Aside0.mk (below_at hq_ HB.out); clear hq_ HO_9 HB; have HO_9 := n0_; have HB := n1_; clear n0_ n1_; (try (obtain ⟨hy56_, hz56_⟩ := Kd.R_celln false HO_9.out (x11_3 : Int) (of_decide_eq_true qz1) (of_decide_eq_true qz1))); (try (have HP56 := Kd.R_putg HO_9.out (x11_3 : Int) ((rd l1 x10_2) == x11_3))))); refine store_event (t := 4) (p := 125) (v := ?vo_w57) (w1 := (wr.setCell ⟨go54, (x11_3 : Int).toNat, none⟩ (.bool ((rd l1 x10_2) == x11_3)))) ?hg ?ho ?hn ?hr ?_; (case ho => rfl); (case hg => rfl); (case hn => rfl); (case hr => first | (go_simp; done) | (go_simp; rfl)); intro w57 hw; have hg : wr.grownBy w57 (some go54) := (by rw [hw]; exact HP56.2); have hp_ : Kd.R Kd.bool 4 w57 w.heap.size (fun _ => True) (.slice (some ⟨go54, 0, none⟩) x9_3.length co55) y165 := (by rw [hw, Ny165.out]; exact HP56.1); clear HP56; have n0_ := Aside0.mk (hp_); have n1_ := Aside0.mk ((by rw [hw]; exact below_set (HB.out) GB54.out : Below w.heap.size w w57)); clear HO_9; clear HB; have HO_9 := n0_; have HB := n1_; clear n0_ n1_; clear hg hw hp_))
              repeat (go_quiet (first | ((with_reducible refine gate_store (t := 4) (p := 125) rfl ?_); (try (rw [drewN_self wr]; generalize hq_ : World.drewN wr _ = wr; have n0_ := Aside0.mk (Kd.R_at hq_ HO_9.out); have n1_ := Aside0.mk (below_at hq_ HB.out); clear hq_ HO_9 HB; have HO_9 := n0_; have HB := n1_; clear n0_ n1_; (try (obtain ⟨hy56_, hz56_⟩ := Kd.R_celln false HO_9.out (x11_3 : Int) (of_decide_eq_true qz1) (of_decide_eq_true qz1))); (try (have HP56 := Kd.R_putg HO_9.out (x11_3 : Int) ((rd l1 x10_2) == x11_3))))); refine store_event (t := 4) (p := 125) (v := ?vo_w57) (w1 := (wr.setCell ⟨go54, (x11_3 : Int).toNat, none⟩ (.bool ((rd l1 x10_2) == x11_3)))) ?hg ?ho ?hn ?hr ?_; (case ho => rfl); (case hg => rfl); (case hn => rfl); (case hr => first | (go_simp; done) | (go_simp; rfl)); intro w57 hw; have hg : wr.grownBy w57 (some go54) := (by rw [hw]; exact HP56.2); have hp_ : Kd.R Kd.bool 4 w57 w.heap.size (fun _ => True) (.slice (some ⟨go54, 0, none⟩) x9_3.length co55) y165 := (by rw [hw, Ny165.out]; exact HP56.1); clear HP56; have n0_ := Aside0.mk (hp_); have n1_ := Aside0.mk ((by rw [hw]; exact below_set (HB.out) GB54.out : Below w.heap.size w w57)); clear HO_9; clear HB; have HO_9 := n0_; have HB := n1_; clear n0_ n1_; clear hg hw hp_)); try go_wp2_with (first | ((with_reducible refine gate_store (t := 4) (p := 125) rfl ?_); (try (rw [drewN_self wr]; generalize hq_ : World.drewN wr _ = wr; have n0_ := Aside0.mk (Kd.R_at hq_ HO_9.out); have n1_ := Aside0.mk (below_at hq_ HB.out); clear hq_ HO_9 HB; have HO_9 := n0_; have HB := n1_; clear n0_ n1_; (try (obtain ⟨hy56_, hz56_⟩ := Kd.R_celln false HO_9.out (x11_3 : Int) (of_decide_eq_true qz1) (of_decide_eq_true qz1))); (try (have HP56 := Kd.R_putg HO_9.out (x11_3 : Int) ((rd l1 x10_2) == x11_3))))); refine store_event (t := 4) (p := 125) (v := ?vo_w57) (w1 := (wr.setCell ⟨go54, (x11_3 : Int).toNat, none⟩ (.bool ((rd l1 x10_2) == x11_3)))) ?hg ?ho ?hn ?hr ?_; (case ho => rfl); (case hg => rfl); (case hn => rfl); (case hr => first | (go_simp; done) | (go_simp; rfl)); intro w57 hw; have hg : wr.grownBy w57 (some go54) := (by rw [hw]; exact HP56.2); have hp_ : Kd.R Kd.bool 4 w57 w.heap.size (fun _ => True) (.slice (some ⟨go54, 0, none⟩) x9_3.length co55) y165 := (by rw [hw, Ny165.out]; exact HP56.1); clear HP56; have n0_ := Aside0.mk (hp_); have n1_ := Aside0.mk ((by rw [hw]; exact below_set (HB.out) GB54.out : Below w.heap.size w w57)); clear HO_9; clear HB; have HO_9 := n0_; have HB := n1_; clear n0_ n1_; clear hg hw hp_)))
              go_roundg k3
              case measure => have := HJ4.out; have := HK2.out; have := HK3.out; omega
              case rel => exact ⟨(y165), (wrap64 (x11_3 + 1)), qz4, H', ⟨by have := HJ4.out; have := HK2.out; have := HK3.out; omega⟩, ⟨by (with_reducible repeat (first | apply Kd.R_alloc | apply Kd.R_drewN | apply Kd.R_drew)); exact HO_9.out⟩, ⟨by repeat (first | (with_reducible first | exact HB.out | apply below_alloc | apply pw_below_drewN | apply below_drew1) | exact HB.out)⟩⟩
              }
              }
              {
              rw [if_neg c47] at H
              exact absurd H (by simp)
              }
              }
              }
              {
              rw [if_neg c33] at H
              exact absurd H (by simp)
              }
              }
              }
              {
              rw [if_neg c31] at H
              exact absurd H (by simp)
              }
              }
              {
              rw [if_neg c30] at H
              exact absurd H (by simp)
              }
              }
              {
              rw [if_neg c29] at H
              exact absurd H (by simp)
              }
              }
              {
              rw [if_neg c28] at H
              exact absurd H (by simp)
              }
              }
              {
              rw [if_neg c27] at H
              exact absurd H (by simp)
              }
              }
              {
              rw [if_neg c26] at H
              have c26b0 : decide (x11_3 < (l3.length : Int)) = false := decide_eq_false c26
              clear c26
              have H' := Aside0.mk H
              clear H
              go_wp2
              repeat (go_quiet (fail); try go_wp2)
              go_roundg k3
              case measure => have := HJ4.out; have := HK2.out; have := HK3.out; omega
              case rel => exact ⟨(x9_3), (wrap64 (x10_2 + 1)), qz4, H', ⟨by have := HJ4.out; have := HK2.out; have := HK3.out; omega⟩, ⟨by (with_reducible repeat (first | apply Kd.R_alloc | apply Kd.R_drewN | apply Kd.R_drew)); exact HO_9.out⟩, ⟨by repeat (first | (with_reducible first | exact HB.out | apply below_alloc | apply pw_below_drewN | apply below_drew1) | exact HB.out)⟩⟩
              }
          }
          {
          rw [if_neg c25] at H
          have c25b0 : (((rd_L1 l0 x10_2).length : Int) == (l3.length : Int)) = false := beq_eq_false_iff_ne.mpr c25
          have c25b1 : (((rd_L1 l0 x10_2).length : Int) != (l3.length : Int)) = true := bne_iff_ne.mpr c25
          have c25b2 : ((rd_L1 l0 x10_2).length == l3.length) = false := by first | simpa using c25 | (simp at c25 ⊢; omega)
          obtain rfl := Option.some.inj H
          simp only [Option.some.injEq, Prod.mk.injEq] at H
          obtain ⟨rfl⟩ := H
          have p148 : 0 ≤ (x10_2 : Int) := of_decide_eq_true qz1
          have q148 : x10_2 < (l0.length : Int) := of_decide_eq_true qz1
          obtain ⟨ad148, A148_0, c148_0, e148, hx148_0, hl148_0, hi148_0⟩ := at_L1 HR0.out x10_2 p148 q148
          cases e148
          replace hx148_0 := (HB.out.cell (World.block_lt_of_cell? w _ hx148_0)).trans hx148_0
          have HR148_0 := Aside0.mk hi148_0
          have HC148_0 := Aside0.mk hl148_0
          clear hi148_0 hl148_0
          replace p148 := eq_true p148
          replace q148 := eq_true q148
          go_wp2
          repeat (go_quiet (fail); try go_wp2)
          go_ret
          exact ⟨by first | rfl | (simp [errW_none, errW_some] <;> rfl) | (simp [*, errW_none, errW_some] <;> rfl), by repeat (first | (with_reducible first | exact HB.out | apply below_alloc | apply pw_below_drewN | apply below_drew1) | exact HB.out)⟩
          }
          }
          {
          rw [if_neg c24] at H
          exact absurd H (by simp)
          }
          }
          {
          rw [if_neg c23] at H
          have c23b0 : decide (x10_2 < (l0.length : Int)) = false := decide_eq_false c23
          clear c23
          have H' := Aside0.mk H
          clear H
          go_wp2
          repeat (go_quiet (fail); try go_wp2)
          go_loopg [12] k2 (fun kq v12 w' => ∃ (x12_3 : Int), v12 = .int .i64 x12_3 ∧ Aside0 (spec_Proves.l2 kq l3 x9_2 x12_3 = some r) ∧ Aside0 (kq ≤ k2) ∧ Aside0 (Kd.R Kd.bool 4 w' w.heap.size (fun _ => True) v146 x9_2) ∧ Aside0 (Below w.heap.size w w'))
          case atStart => exact ⟨(0), qz4, H', ⟨Nat.le_refl _⟩, ⟨by (with_reducible repeat (first | apply Kd.R_alloc | apply Kd.R_drewN | apply Kd.R_drew)); exact HO_9.out⟩, ⟨by repeat (first | (with_reducible first | exact HB.out | apply below_alloc | apply pw_below_drewN | apply below_drew1) | exact HB.out)⟩⟩
          case round =>
            clear H'
            try clear c1
            try clear p1
            try clear q1
            try clear hx1
            try clear c2
            try clear p2
            try clear c3
            try clear p3
            try clear q3
            try clear hx3
            try clear c4
            try clear p4
            try clear q4
            try clear hx4
            try clear hf4
            try clear p5
            try clear q5
            try clear hx5
            try clear hf5
            try clear p6
            try clear c14
            try clear p14
            try clear q14
            try clear hx14
            try clear c15
            try clear p15
            try clear q15
            try clear hx15
            try clear p16
            try clear q16
            try clear hx16
            try clear c23
            try clear c23b0
            try clear c24
            try clear c25
            try clear c25b0
            try clear c25b1
            try clear c25b2
            try clear c26
            try clear c26b0
            try clear c27
            try clear c28
            try clear c29
            try clear c30
            try clear c31
            try clear c32
            try clear c32b0
            try clear c33
            try clear c33b0
            try clear c34
            try clear c34b0
            try clear c34b1
            try clear c35
            try clear c35b0
            try clear c35b1
            try clear c36
            try clear c36b0
            try clear q37
            try clear c38
            try clear p39
            try clear q39
            try clear hx39
            try clear hf39
            try clear p43
            try clear q43
            try clear hx43
            try clear hf43
            try clear c47
            try clear c47b0
            try clear q48
            try clear c49
            try clear p50
            try clear q50
            try clear hx50
            try clear hf50
            try clear p54
            try clear q54
            try clear hx54
            try clear hf54
            try clear hx148_0
            try clear hx149_0
            try clear hx150_0
            try clear hx151_0
            try clear hx152_0
            try clear hx153_0
            try clear hx154_0
            try clear hx155_0
            try clear hx156_0
            try clear hx157_0
            try clear hx158_0
            try clear hx160_0
            try clear hx162_0
            try clear hx164_0
            try clear hx39_0
            try clear hx43_0
            try clear hx50_0
            try clear hx54_0
            try clear p148
            try clear p149
            try clear p150
            try clear p151
            try clear p152
            try clear p153
            try clear p154
            try clear p155
            try clear p156
            try clear p157
            try clear p158
            try clear p160
            try clear p162
            try clear p164
            try clear p39
            try clear p43
            try clear p50
            try clear p54
            try clear q148
            try clear q149
            try clear q150
            try clear q151
            try clear q152
            try clear q153
            try clear q154
            try clear q155
            try clear q156
            try clear q157
            try clear q158
            try clear q160
            try clear q162
            try clear q164
            try clear q39
            try clear q43
            try clear q50
            try clear q54
            obtain ⟨x12_3, rfl, HA, HK3, HO_9, HB⟩ := hrel
            cases gk with
            | zero => exact absurd HA.out (by simp [spec_Proves.l2])
            | succ k3 =>
              have H := HA.out
              clear HA
              simp only [spec_Proves.l2] at H
              by_cases c58 : x12_3 < (l3.length : Int)
              {
              rw [if_pos c58] at H
              have c58b0 : decide (x12_3 < (l3.length : Int)) = true := decide_eq_true c58
              clear c58
              by_cases c59 : 0 ≤ x12_3
              {
              rw [if_pos c59] at H
              have c59b0 : decide (0 ≤ x12_3) = true := decide_eq_true c59
              clear c59
              by_cases c60 : (rd l3 x12_3) > 0
              {
              rw [if_pos c60] at H
              have c60b0 : decide (0 < (rd l3 x12_3)) = true := decide_eq_true c60
              clear c60
              obtain rfl := Option.some.inj H
              simp only [Option.some.injEq, Prod.mk.injEq] at H
              obtain ⟨rfl⟩ := H
              have p166 : 0 ≤ (x12_3 : Int) := of_decide_eq_true qz1
              have q166 : x12_3 < (l3.length : Int) := of_decide_eq_true qz1
              obtain ⟨ad166, e166, hx166_0⟩ := Kd.at_int HR3.out x12_3 p166 q166
              cases e166
              replace hx166_0 := (HB.out.cell (World.block_lt_of_cell? w _ hx166_0)).trans hx166_0
              replace p166 := eq_true p166
              replace q166 := eq_true q166
              go_wp2
              repeat (go_quiet (fail); try go_wp2)
              go_ret
              exact ⟨by first | rfl | (simp [errW_none, errW_some] <;> rfl) | (simp [*, errW_none, errW_some] <;> rfl), by repeat (first | (with_reducible first | exact HB.out | apply below_alloc | apply pw_below_drewN | apply below_drew1) | exact HB.out)⟩
              }
              {
              rw [if_neg c60] at H
              have c60b0 : decide (0 < (rd l3 x12_3)) = false := decide_eq_false c60
              clear c60
              by_cases c61 : x12_3 < (x9_2.length : Int)
              {
              rw [if_pos c61] at H
              have c61b0 : decide (x12_3 < (x9_2.length : Int)) = true := decide_eq_true c61
              clear c61
              obtain ⟨bq62, hbq62⟩ : ∃ b_ : Bool, b_ = (rdOf false x9_2 x12_3) := ⟨_, rfl⟩
              replace H : (if bq62 = true then (spec_Proves.l2 k3 l3 x9_2 (wrap64 (x12_3 + 1))) else (if (rd l3 x12_3) = 0 then (spec_Proves.l2 k3 l3 x9_2 (wrap64 (x12_3 + 1))) else (some false))) = some r := by rw [← hbq62] at H; exact H
              have Nbq62 := Aside0.mk hbq62
              clear hbq62
              by_cases c63 : bq62 = true
              {
              subst c63
              have H1 : (spec_Proves.l2 k3 l3 x9_2 (wrap64 (x12_3 + 1))) = some r := by rw [if_pos rfl] at H; exact H
              clear H
              have H := H1
              clear H1
              have H' := Aside0.mk H
              clear H
              have p166 : 0 ≤ (x12_3 : Int) := of_decide_eq_true qz1
              have q166 : x12_3 < (l3.length : Int) := of_decide_eq_true qz1
              obtain ⟨ad166, e166, hx166_0⟩ := Kd.at_int HR3.out x12_3 p166 q166
              cases e166
              replace hx166_0 := (HB.out.cell (World.block_lt_of_cell? w _ hx166_0)).trans hx166_0
              replace p166 := eq_true p166
              replace q166 := eq_true q166
              obtain ⟨Ao64, co64, eo64⟩ := Kd.R_slice HO_9.out
              subst eo64
              have p167 : 0 ≤ (x12_3 : Int) := of_decide_eq_true qz1
              have q167 : x12_3 < (x9_2.length : Int) := of_decide_eq_true qz1
              obtain ⟨ad167, e167, hx167_0⟩ := Kd.at_bool (Kd.R_reads' HO_9.out).2.2 x12_3 p167 q167
              (try rw [← Nbq62.out] at hx167_0)
              cases e167
              replace p167 := eq_true p167
              replace q167 := eq_true q167
              go_wp2
              repeat (go_quiet (fail); try go_wp2)
              go_roundg k3
              case measure => have := HJ4.out; have := HK2.out; have := HK3.out; omega
              case rel => exact ⟨(wrap64 (x12_3 + 1)), qz4, H', ⟨by have := HJ4.out; have := HK2.out; have := HK3.out; omega⟩, ⟨by (with_reducible repeat (first | apply Kd.R_alloc | apply Kd.R_drewN | apply Kd.R_drew)); exact HO_9.out⟩, ⟨by repeat (first | (with_reducible first | exact HB.out | apply below_alloc | apply pw_below_drewN | apply below_drew1) | exact HB.out)⟩⟩
              }
              {
              replace c63 := Bool.eq_false_iff.mpr c63
              subst c63
              have H1 : (if (rd l3 x12_3) = 0 then (spec_Proves.l2 k3 l3 x9_2 (wrap64 (x12_3 + 1))) else (some false)) = some r := by rw [if_neg (show ¬ (false = true) by decide)] at H; exact H
              clear H
              have H := H1
              clear H1
              by_cases c65 : (rd l3 x12_3) = 0
              {
              rw [if_pos c65] at H
              have c65b0 : ((rd l3 x12_3) == 0) = true := beq_iff_eq.mpr c65
              have c65b1 : ((rd l3 x12_3) != 0) = false := bne_eq_false_iff_eq.mpr c65
              clear c65
              have H' := Aside0.mk H
              clear H
              have p166 : 0 ≤ (x12_3 : Int) := of_decide_eq_true qz1
              have q166 : x12_3 < (l3.length : Int) := of_decide_eq_true qz1
              obtain ⟨ad166, e166, hx166_0⟩ := Kd.at_int HR3.out x12_3 p166 q166
              cases e166
              replace hx166_0 := (HB.out.cell (World.block_lt_of_cell? w _ hx166_0)).trans hx166_0
              replace p166 := eq_true p166
              replace q166 := eq_true q166
              obtain ⟨Ao66, co66, eo66⟩ := Kd.R_slice HO_9.out
              subst eo66
              have p167 : 0 ≤ (x12_3 : Int) := of_decide_eq_true qz1
              have q167 : x12_3 < (x9_2.length : Int) := of_decide_eq_true qz1
              obtain ⟨ad167, e167, hx167_0⟩ := Kd.at_bool (Kd.R_reads' HO_9.out).2.2 x12_3 p167 q167
              (try rw [← Nbq62.out] at hx167_0)
              cases e167
              replace p167 := eq_true p167
              replace q167 := eq_true q167
              have p168 : 0 ≤ (x12_3 : Int) := of_decide_eq_true qz1
              have q168 : x12_3 < (l3.length : Int) := of_decide_eq_true qz1
              obtain ⟨ad168, e168, hx168_0⟩ := Kd.at_int HR3.out x12_3 p168 q168
              obtain rfl : ad166 = ad168 := (by injection e168)
              replace hx168_0 := (HB.out.cell (World.block_lt_of_cell? w _ hx168_0)).trans hx168_0
              replace p168 := eq_true p168
              replace q168 := eq_true q168
              go_wp2
              repeat (go_quiet (fail); try go_wp2)
              go_roundg k3
              case measure => have := HJ4.out; have := HK2.out; have := HK3.out; omega
              case rel => exact ⟨(wrap64 (x12_3 + 1)), qz4, H', ⟨by have := HJ4.out; have := HK2.out; have := HK3.out; omega⟩, ⟨by (with_reducible repeat (first | apply Kd.R_alloc | apply Kd.R_drewN | apply Kd.R_drew)); exact HO_9.out⟩, ⟨by repeat (first | (with_reducible first | exact HB.out | apply below_alloc | apply pw_below_drewN | apply below_drew1) | exact HB.out)⟩⟩
              }
              {
              rw [if_neg c65] at H
              have c65b0 : ((rd l3 x12_3) == 0) = false := beq_eq_false_iff_ne.mpr c65
              have c65b1 : ((rd l3 x12_3) != 0) = true := bne_iff_ne.mpr c65
              obtain rfl := Option.some.inj H
              simp only [Option.some.injEq, Prod.mk.injEq] at H
              obtain ⟨rfl⟩ := H
              have p166 : 0 ≤ (x12_3 : Int) := of_decide_eq_true qz1
              have q166 : x12_3 < (l3.length : Int) := of_decide_eq_true qz1
              obtain ⟨ad166, e166, hx166_0⟩ := Kd.at_int HR3.out x12_3 p166 q166
              cases e166
              replace hx166_0 := (HB.out.cell (World.block_lt_of_cell? w _ hx166_0)).trans hx166_0
              replace p166 := eq_true p166
              replace q166 := eq_true q166
              obtain ⟨Ao67, co67, eo67⟩ := Kd.R_slice HO_9.out
              subst eo67
              have p167 : 0 ≤ (x12_3 : Int) := of_decide_eq_true qz1
              have q167 : x12_3 < (x9_2.length : Int) := of_decide_eq_true qz1
              obtain ⟨ad167, e167, hx167_0⟩ := Kd.at_bool (Kd.R_reads' HO_9.out).2.2 x12_3 p167 q167
              (try rw [← Nbq62.out] at hx167_0)
              cases e167
              replace p167 := eq_true p167
              replace q167 := eq_true q167
              have p168 : 0 ≤ (x12_3 : Int) := of_decide_eq_true qz1
              have q168 : x12_3 < (l3.length : Int) := of_decide_eq_true qz1
              obtain ⟨ad168, e168, hx168_0⟩ := Kd.at_int HR3.out x12_3 p168 q168
              obtain rfl : ad166 = ad168 := (by injection e168)
              replace hx168_0 := (HB.out.cell (World.block_lt_of_cell? w _ hx168_0)).trans hx168_0
              replace p168 := eq_true p168
              replace q168 := eq_true q168
              go_wp2
              repeat (go_quiet (fail); try go_wp2)
              go_ret
              exact ⟨by first | rfl | (simp [errW_none, errW_some] <;> rfl) | (simp [*, errW_none, errW_some] <;> rfl), by repeat (first | (with_reducible first | exact HB.out | apply below_alloc | apply pw_below_drewN | apply below_drew1) | exact HB.out)⟩
              }
              }
              }
              {
              rw [if_neg c61] at H
              exact absurd H (by simp)
              }
              }
              }
              {
              rw [if_neg c59] at H
              exact absurd H (by simp)
              }
              }
              {
              rw [if_neg c58] at H
              have c58b0 : decide (x12_3 < (l3.length : Int)) = false := decide_eq_false c58
              clear c58
              obtain rfl := Option.some.inj H
              simp only [Option.some.injEq, Prod.mk.injEq] at H
              obtain ⟨rfl⟩ := H
              go_wp2
              repeat (go_quiet (fail); try go_wp2)
              go_ret
              exact ⟨by first | rfl | (simp [errW_none, errW_some] <;> rfl) | (simp [*, errW_none, errW_some] <;> rfl), by repeat (first | (with_reducible first | exact HB.out | apply below_alloc | apply pw_below_drewN | apply below_drew1) | exact HB.out)⟩
              }
          }
      }
      {
      rw [if_neg c20] at H
      exact absurd H (by simp)
      }
      }
      {
      rw [if_neg c19] at H
      exact absurd H (by simp)

      }
      }
end Go.Proofs.Ytjeonneegmhcdaa.PFnExactProves
