-- Made by a program of this session out of the translation. Lean checks it.
import Derived.Test.YtdlkmjilakaklaaPFnCutsx0
import Derived.Test.YtdlkmjilakaklaaPFnCutsx5
import Derived.Test.YtdlkmjilakaklaaPFnCutsx9
import Derived.Test.YtdlkmjilakaklaaPFnCutsx12
import Derived.Test.YtdlkmjilakaklaaPFnCutsx13
namespace Go.Proofs.Ytdlkmjilakaklaa.PFnCuts
open Go.RowKit Go.Proofs.YtdlkmjilakaklaaW.PrintWords Go.Proofs.YtdlkmjilakaklaaW.PrintLast Go.Proofs.YtdlkmjilakaklaaW.PrintMore
attribute [local go_sem] max2_int min2_int max_two min_two max_three min_three max_four min_four   -- for this text's walks alone
set_option linter.unusedVariables false
set_option linter.unusedSimpArgs false

/-! ### laws_FnCuts: function 9 -/
def laws_FnCuts.l0 : Nat → Int → List Int → Bool → List Int → Bool → Int → Int → Int → List Int → Option (Bool)
  | 0, _, _, _, _, _, _, _, _, _ => none
  | k + 1, x4, x6, x8, x9, x10, x11, x449000, x449001, x449002 => if x11 < (x9.length : Int) then (if x10 = true then (laws_FnCuts.l0 k x4 x6 x8 x9 true (wrap64 (x11 + 1)) x449000 x449001 x449002) else (if 0 < (x9.length : Int) then (if 0 ≤ x11 then ((impl_Steps.f k x449000 x449001 x449002 (rd x9 0) (rd x9 x11)).bind fun t456 => (laws_FnCuts.l0 k x4 x6 x8 x9 (decide (t456 < 0)) (wrap64 (x11 + 1)) x449000 x449001 x449002)) else (none)) else (none))) else (if x8 = true then ((impl_KindAt.f k x449000 x449001 x449002 x4).bind fun t457 => (if t457 = 0 then ((laws_among.f k x6 x4).bind fun t458 => (some (t458 == x10))) else (some false))) else (some false))
def laws_FnCuts.f (k : Nat) (l0 : List Int) : Option (Bool) := (laws_big.f l0).bind fun t427 => (if t427 = true then (some true) else ((spec_DrawFloor.f k l0).bind fun bt428 => ((impl_Cuts.f k bt428.1 bt428.2.1 bt428.2.2.1).bind fun t436 => ((spec_Cuts.f k bt428.1 bt428.2.1 bt428.2.2.1).bind fun t439 => (if (t436.length : Int) = (t439.length : Int) then ((impl_Block.f k bt428.1 bt428.2.1 bt428.2.2.1 bt428.2.2.2.1).bind fun bt442 => ((impl_KindAt.f k bt428.1 bt428.2.1 bt428.2.2.1 bt428.2.2.2.1).bind fun t449 => (if t449 = 0 then (if bt442.2.2.2 = true then (some false) else ((laws_among.f k t436 bt428.2.2.2.1).bind fun t450 => (some (!t450)))) else ((impl_Near.f k bt428.1 bt428.2.1 bt428.2.2.1 bt428.2.2.2.1 false).bind fun t451 => (laws_FnCuts.l0 k bt428.2.2.2.1 t436 bt442.2.2.2 t451 false 1 bt442.1 bt442.2.1 bt442.2.2.1))))) else (some false))))))
theorem laws_FnCuts.mono_l : ∀ k, (∀ y0 y1 y2 y3 y4 y5 y6 y7 y8, LeO (laws_FnCuts.l0 k y0 y1 y2 y3 y4 y5 y6 y7 y8) (laws_FnCuts.l0 (k + 1) y0 y1 y2 y3 y4 y5 y6 y7 y8))
  | 0 => fun _ _ _ _ _ _ _ _ _ r h => by simp [laws_FnCuts.l0] at h
  | k + 1 => by
    have ih0 := laws_FnCuts.mono_l k
    · intro y0 y1 y2 y3 y4 y5 y6 y7 y8
      unfold laws_FnCuts.l0
      repeat' first
      | (with_reducible exact ih0 _ _ _ _ _ _ _ _ _)
      | (with_reducible exact impl_Block.mono _ _ _ _ _)
      | (with_reducible exact impl_Cuts.mono _ _ _ _)
      | (with_reducible exact impl_KindAt.mono _ _ _ _ _)
      | (with_reducible exact impl_Near.mono _ _ _ _ _ _)
      | (with_reducible exact impl_Steps.mono _ _ _ _ _ _)
      | (with_reducible exact laws_among.mono _ _ _)
      | (with_reducible exact spec_Cuts.mono _ _ _ _)
      | (with_reducible exact spec_DrawFloor.mono _ _)
      | (with_reducible exact LeO.refl _)
      | (with_reducible exact LeO.none _)
      | (with_reducible refine LeO.ite ?_ ?_)
      | (with_reducible refine LeO.bind ?_ (fun _ => ?_))
      | exact ih0 _ _ _ _ _ _ _ _ _
      | exact impl_Block.mono _ _ _ _ _
      | exact impl_Cuts.mono _ _ _ _
      | exact impl_KindAt.mono _ _ _ _ _
      | exact impl_Near.mono _ _ _ _ _ _
      | exact impl_Steps.mono _ _ _ _ _ _
      | exact laws_among.mono _ _ _
      | exact spec_Cuts.mono _ _ _ _
      | exact spec_DrawFloor.mono _ _
      | exact LeO.none _
      | refine LeO.ite ?_ ?_
      | refine LeO.bind ?_ (fun _ => ?_)
theorem laws_FnCuts.mono : ∀ a0 k, LeO (laws_FnCuts.f k a0) (laws_FnCuts.f (k + 1) a0) := by
  intro a0 k
  have ih0 := laws_FnCuts.mono_l k
  unfold laws_FnCuts.f
  repeat' first
      | (with_reducible exact ih0 _ _ _ _ _ _ _ _ _)
      | (with_reducible exact impl_Block.mono _ _ _ _ _)
      | (with_reducible exact impl_Cuts.mono _ _ _ _)
      | (with_reducible exact impl_KindAt.mono _ _ _ _ _)
      | (with_reducible exact impl_Near.mono _ _ _ _ _ _)
      | (with_reducible exact impl_Steps.mono _ _ _ _ _ _)
      | (with_reducible exact laws_among.mono _ _ _)
      | (with_reducible exact spec_Cuts.mono _ _ _ _)
      | (with_reducible exact spec_DrawFloor.mono _ _)
      | (with_reducible exact LeO.refl _)
      | (with_reducible exact LeO.none _)
      | (with_reducible refine LeO.ite ?_ ?_)
      | (with_reducible refine LeO.bind ?_ (fun _ => ?_))
      | exact ih0 _ _ _ _ _ _ _ _ _
      | exact impl_Block.mono _ _ _ _ _
      | exact impl_Cuts.mono _ _ _ _
      | exact impl_KindAt.mono _ _ _ _ _
      | exact impl_Near.mono _ _ _ _ _ _
      | exact impl_Steps.mono _ _ _ _ _ _
      | exact laws_among.mono _ _ _
      | exact spec_Cuts.mono _ _ _ _
      | exact spec_DrawFloor.mono _ _
      | exact LeO.none _
      | refine LeO.ite ?_ ?_
      | refine LeO.bind ?_ (fun _ => ?_)
def laws_FnCuts.T15 : Bool × List (List Nat × List Nat) := (true, [([], []), ([0], [0]), ([1], [1]), ([1], [1]), ([3, 1], [1, 3]), ([4, 1], [1, 4]), ([1], [1]), ([1], [1]), ([6, 7, 1], [1, 6, 7]), ([8, 1], [1, 8]), ([2, 5, 9, 1, 1], [1, 2, 5, 9]), ([10, 1], [1, 10]), ([1, 11], [1, 11]), ([12, 10, 0, 1, 2, 3, 4, 5, 6, 7, 8, 9, 10, 11, 12], [0, 12])])
def laws_FnCuts.B15 : List Nat := [0, 1, 3, 3, 11, 27, 3, 3, 195, 451, 1023, 2047, 4095, 8191]
theorem laws_FnCuts.tab15 : rtab .any (opsOf Try.f9 15) = laws_FnCuts.T15 := by kernel_rfl
theorem laws_FnCuts.bits15 : waitsOk laws_FnCuts.T15.2 laws_FnCuts.B15 = true := by kernel_rfl
set_option maxHeartbeats 8000000 in
set_option maxRecDepth 100000 in
theorem laws_FnCuts.calls (k : Nat) (A0 : Option Addr) (c0 : Nat) (l0 : List Int) (r : Bool) (w : World) (hr0 : Kd.C (Kd.int .u8) w A0 l0.length l0) (hc0 : l0.length ≤ c0) (hT : r = true) (h : laws_FnCuts.f k l0 = some r) :
    Calls Try.prog 9 #[.slice A0 l0.length c0] w fun e w' => e = .returned (.bool r) ∧ Below w.heap.size w w' := by
  have HTR_ := Aside0.mk hT
  clear hT
  have hu27 := Try.underlying27
  have HR0 := Aside0.mk hr0
  have HC0 := Aside0.mk hc0
  clear hr0 hc0
  have HB := Aside0.mk (Below.refl w.heap.size w)
  have H : ((laws_big.f l0).bind fun t427 => (if t427 = true then (some true) else ((spec_DrawFloor.f k l0).bind fun bt428 => ((impl_Cuts.f k bt428.1 bt428.2.1 bt428.2.2.1).bind fun t436 => ((spec_Cuts.f k bt428.1 bt428.2.1 bt428.2.2.1).bind fun t439 => (if (t436.length : Int) = (t439.length : Int) then ((impl_Block.f k bt428.1 bt428.2.1 bt428.2.2.1 bt428.2.2.2.1).bind fun bt442 => ((impl_KindAt.f k bt428.1 bt428.2.1 bt428.2.2.1 bt428.2.2.2.1).bind fun t449 => (if t449 = 0 then (if bt442.2.2.2 = true then (some false) else ((laws_among.f k t436 bt428.2.2.2.1).bind fun t450 => (some (!t450)))) else ((impl_Near.f k bt428.1 bt428.2.1 bt428.2.2.1 bt428.2.2.2.1 false).bind fun t451 => (laws_FnCuts.l0 k bt428.2.2.2.1 t436 bt442.2.2.2 t451 false 1 bt442.1 bt442.2.1 bt442.2.2.1))))) else (some false))))))) = some r := h
  clear h
  replace H := Option.bind_eq_some_iff.mp H
  obtain ⟨t427, A20, H⟩ := H
  replace H : (if t427 = true then (some true) else ((spec_DrawFloor.f k l0).bind fun bt428 => ((impl_Cuts.f k bt428.1 bt428.2.1 bt428.2.2.1).bind fun t436 => ((spec_Cuts.f k bt428.1 bt428.2.1 bt428.2.2.1).bind fun t439 => (if (t436.length : Int) = (t439.length : Int) then ((impl_Block.f k bt428.1 bt428.2.1 bt428.2.2.1 bt428.2.2.2.1).bind fun bt442 => ((impl_KindAt.f k bt428.1 bt428.2.1 bt428.2.2.1 bt428.2.2.2.1).bind fun t449 => (if t449 = 0 then (if bt442.2.2.2 = true then (some false) else ((laws_among.f k t436 bt428.2.2.2.1).bind fun t450 => (some (!t450)))) else ((impl_Near.f k bt428.1 bt428.2.1 bt428.2.2.1 bt428.2.2.2.1 false).bind fun t451 => (laws_FnCuts.l0 k bt428.2.2.2.1 t436 bt442.2.2.2 t451 false 1 bt442.1 bt442.2.1 bt442.2.2.1))))) else (some false)))))) = some r := H
  have A2 := Aside0.mk A20
  clear A20
  by_cases c3 : t427 = true
  · subst c3
    have H1 : (some true) = some r := by rw [if_pos rfl] at H; exact H
    clear H
    have H := H1
    clear H1
    obtain rfl := Option.some.inj H
    simp only [Option.some.injEq, Prod.mk.injEq] at H
    obtain ⟨rfl⟩ := H
    go_enter Try.func9, Try.ntmps9
    go_wp2_with (first | ((with_reducible refine gate_callee (f := 26) rfl ?_); refine goesL_ (some 13) rfl rfl Try.func26 (by kernel_rfl) rfl #[.slice A0 l0.length c0] rfl qz2 ?_; (with_reducible refine (laws_big.calls _ _ l0 true _ ?side1 ?side2 A2.out).mono ?_); (case side1 => repeat (first | exact HR0.out | (with_reducible refine Kd.C_alloc ?_ _) | (with_reducible refine Kd.C_drewN ?_ _) | (with_reducible refine Kd.C_drew ?_))); (case side2 => exact HC0.out); rintro e w' ⟨rfl, ⟨nd, rfl⟩⟩; refine ⟨_, rfl, ?_⟩))
    go_ret
    exact ⟨by first | rfl | (simp [errW_none, errW_some] <;> rfl) | (simp [*, errW_none, errW_some] <;> rfl), by repeat (first | (with_reducible first | exact HB.out | apply below_alloc | apply pw_below_drewN | apply below_drew1) | exact HB.out)⟩
  · replace c3 := Bool.eq_false_iff.mpr c3
    subst c3
    have H1 : ((spec_DrawFloor.f k l0).bind fun bt428 => ((impl_Cuts.f k bt428.1 bt428.2.1 bt428.2.2.1).bind fun t436 => ((spec_Cuts.f k bt428.1 bt428.2.1 bt428.2.2.1).bind fun t439 => (if (t436.length : Int) = (t439.length : Int) then ((impl_Block.f k bt428.1 bt428.2.1 bt428.2.2.1 bt428.2.2.2.1).bind fun bt442 => ((impl_KindAt.f k bt428.1 bt428.2.1 bt428.2.2.1 bt428.2.2.2.1).bind fun t449 => (if t449 = 0 then (if bt442.2.2.2 = true then (some false) else ((laws_among.f k t436 bt428.2.2.2.1).bind fun t450 => (some (!t450)))) else ((impl_Near.f k bt428.1 bt428.2.1 bt428.2.2.1 bt428.2.2.2.1 false).bind fun t451 => (laws_FnCuts.l0 k bt428.2.2.2.1 t436 bt442.2.2.2 t451 false 1 bt442.1 bt442.2.1 bt442.2.2.1))))) else (some false))))) = some r := by rw [if_neg (show ¬ (false = true) by decide)] at H; exact H
    clear H
    have H := H1
    clear H1
    replace H := Option.bind_eq_some_iff.mp H
    obtain ⟨⟨t428, t429, t430, t433, t434⟩, A40, H⟩ := H
    replace H : ((impl_Cuts.f k t428 t429 t430).bind fun t436 => ((spec_Cuts.f k t428 t429 t430).bind fun t439 => (if (t436.length : Int) = (t439.length : Int) then ((impl_Block.f k t428 t429 t430 t433).bind fun bt442 => ((impl_KindAt.f k t428 t429 t430 t433).bind fun t449 => (if t449 = 0 then (if bt442.2.2.2 = true then (some false) else ((laws_among.f k t436 t433).bind fun t450 => (some (!t450)))) else ((impl_Near.f k t428 t429 t430 t433 false).bind fun t451 => (laws_FnCuts.l0 k t433 t436 bt442.2.2.2 t451 false 1 bt442.1 bt442.2.1 bt442.2.2.1))))) else (some false)))) = some r := H
    have A4 := Aside0.mk A40
    clear A40
    replace H := Option.bind_eq_some_iff.mp H
    obtain ⟨t436, A50, H⟩ := H
    replace H : ((spec_Cuts.f k t428 t429 t430).bind fun t439 => (if (t436.length : Int) = (t439.length : Int) then ((impl_Block.f k t428 t429 t430 t433).bind fun bt442 => ((impl_KindAt.f k t428 t429 t430 t433).bind fun t449 => (if t449 = 0 then (if bt442.2.2.2 = true then (some false) else ((laws_among.f k t436 t433).bind fun t450 => (some (!t450)))) else ((impl_Near.f k t428 t429 t430 t433 false).bind fun t451 => (laws_FnCuts.l0 k t433 t436 bt442.2.2.2 t451 false 1 bt442.1 bt442.2.1 bt442.2.2.1))))) else (some false))) = some r := H
    have A5 := Aside0.mk A50
    clear A50
    replace H := Option.bind_eq_some_iff.mp H
    obtain ⟨t439, A60, H⟩ := H
    replace H : (if (t436.length : Int) = (t439.length : Int) then ((impl_Block.f k t428 t429 t430 t433).bind fun bt442 => ((impl_KindAt.f k t428 t429 t430 t433).bind fun t449 => (if t449 = 0 then (if bt442.2.2.2 = true then (some false) else ((laws_among.f k t436 t433).bind fun t450 => (some (!t450)))) else ((impl_Near.f k t428 t429 t430 t433 false).bind fun t451 => (laws_FnCuts.l0 k t433 t436 bt442.2.2.2 t451 false 1 bt442.1 bt442.2.1 bt442.2.2.1))))) else (some false)) = some r := H
    have A6 := Aside0.mk A60
    clear A60
    by_cases c7 : (t436.length : Int) = (t439.length : Int)
    · rw [if_pos c7] at H
      have c7b0 : ((t436.length : Int) == (t439.length : Int)) = true := beq_iff_eq.mpr c7
      have c7b1 : ((t436.length : Int) != (t439.length : Int)) = false := bne_eq_false_iff_eq.mpr c7
      have c7b2 : (t436.length == t439.length) = true := by first | simpa using c7 | (simp at c7 ⊢; omega)
      clear c7
      replace H := Option.bind_eq_some_iff.mp H
      obtain ⟨⟨t442, t443, t444, t447⟩, A80, H⟩ := H
      replace H : ((impl_KindAt.f k t428 t429 t430 t433).bind fun t449 => (if t449 = 0 then (if t447 = true then (some false) else ((laws_among.f k t436 t433).bind fun t450 => (some (!t450)))) else ((impl_Near.f k t428 t429 t430 t433 false).bind fun t451 => (laws_FnCuts.l0 k t433 t436 t447 t451 false 1 t442 t443 t444)))) = some r := H
      have A8 := Aside0.mk A80
      clear A80
      replace H := Option.bind_eq_some_iff.mp H
      obtain ⟨t449, A90, H⟩ := H
      replace H : (if t449 = 0 then (if t447 = true then (some false) else ((laws_among.f k t436 t433).bind fun t450 => (some (!t450)))) else ((impl_Near.f k t428 t429 t430 t433 false).bind fun t451 => (laws_FnCuts.l0 k t433 t436 t447 t451 false 1 t442 t443 t444))) = some r := H
      have A9 := Aside0.mk A90
      clear A90
      by_cases c10 : t449 = 0
      · rw [if_pos c10] at H
        have c10b0 : (t449 == 0) = true := beq_iff_eq.mpr c10
        have c10b1 : (t449 != 0) = false := bne_eq_false_iff_eq.mpr c10
        clear c10
        by_cases c11 : t447 = true
        · subst c11
          have H1 : (some false) = some r := by rw [if_pos rfl] at H; exact H
          clear H
          have H := H1
          clear H1
          obtain rfl := Option.some.inj H
          exact absurd HTR_.out (by decide)
        · replace c11 := Bool.eq_false_iff.mpr c11
          subst c11
          have H1 : ((laws_among.f k t436 t433).bind fun t450 => (some (!t450))) = some r := by rw [if_neg (show ¬ (false = true) by decide)] at H; exact H
          clear H
          have H := H1
          clear H1
          replace H := Option.bind_eq_some_iff.mp H
          obtain ⟨t450, A120, H⟩ := H
          replace H : (some (!t450)) = some r := H
          have A12 := Aside0.mk A120
          clear A120
          obtain rfl := Option.some.inj H
          simp only [Option.some.injEq, Prod.mk.injEq] at H
          obtain ⟨rfl⟩ := H
          go_enter Try.func9, Try.ntmps9
          go_wp2_with (first | ((with_reducible refine gate_callee (f := 26) rfl ?_); refine goesL_ (some 13) rfl rfl Try.func26 (by kernel_rfl) rfl #[.slice A0 l0.length c0] rfl qz2 ?_; (with_reducible refine (laws_big.calls _ _ l0 false _ ?side1 ?side2 A2.out).mono ?_); (case side1 => repeat (first | exact HR0.out | (with_reducible refine Kd.C_alloc ?_ _) | (with_reducible refine Kd.C_drewN ?_ _) | (with_reducible refine Kd.C_drew ?_))); (case side2 => exact HC0.out); rintro e w' ⟨rfl, ⟨nd, rfl⟩⟩; refine ⟨_, rfl, ?_⟩) | ((with_reducible refine gate_callee (f := 27) rfl ?_); refine goesL_ (some 16) rfl rfl Try.func27 (by kernel_rfl) rfl #[.slice A0 l0.length c0] rfl qz2 ?_; (with_reducible refine (spec_DrawFloor.calls k _ _ l0 t428 t429 t430 t433 t434 _ ?side1 ?side2 A4.out).mono ?_); (case side1 => repeat (first | exact HR0.out | (with_reducible refine Kd.C_alloc ?_ _) | (with_reducible refine Kd.C_drewN ?_ _) | (with_reducible refine Kd.C_drew ?_))); (case side2 => exact HC0.out); rintro e w13 ⟨v431, rfl, ho0, hb⟩; refine ⟨_, rfl, ?_⟩; have n0_ := Aside0.mk (Kd.R_lower ho0 (below_size qz1)); have n1_ := Aside0.mk (below_step qz1 hb); clear HB; have HO432 := n0_; have HB := n1_; clear n0_ n1_; (try clear hb); (try clear hb2); (try clear hk); (try clear hi); (try clear ho0)) | ((with_reducible refine gate_dst (N := 3) rfl ?_); refine box_event ?hg (N := 3) ?hd (cs := #[.int .i64 0, .int .i64 0, .slice none 0 0]) (t := 27) ?hr ?_; (case hd => rfl); (case hg => rfl); (case hr => first | (go_simp; done) | (go_simp; rfl)); intro gb435 hg w14 hbox hb; have n0_ := Aside0.mk (Kd.R_below (by (with_reducible repeat (first | apply Kd.R_alloc | apply Kd.R_drewN | apply Kd.R_drew)); exact HO432.out) hb); have n1_ := Aside0.mk (below_step qz1 hb); have n2_ := Aside0.mk (hbox); have n3_ := Aside0.mk ((by rw [hg]; exact (below_size qz1) : w.heap.size ≤ gb435)); have n4_ := Aside0.mk ((by rw [hg]; exact (below_size qz1) : w.heap.size ≤ gb435)); clear HO432; clear HB; have HO432 := n0_; have HB := n1_; have BK435 := n2_; have GW435 := n3_; have GE435 := n4_; clear n0_ n1_ n2_ n3_ n4_; clear hb hbox hg; have hcz15_0 : w14.cell? ⟨gb435, 0, none⟩ = some (.int .i64 0) := (blk_cell BK435.out 0).trans rfl; have hcz15_1 : w14.cell? ⟨gb435, 1, none⟩ = some (.int .i64 0) := (blk_cell BK435.out 1).trans rfl; have hcz15_2 : w14.cell? ⟨gb435, 2, none⟩ = some (.slice none 0 0) := (blk_cell BK435.out 2).trans rfl; have hfz15_0 := blk_frozen BK435.out 0; have hfz15_1 := blk_frozen BK435.out 1; have hfz15_2 := blk_frozen BK435.out 2; obtain ⟨Ao16, co16, eo16⟩ := Kd.R_slice HO432.out; subst eo16) | ((with_reducible refine gate_callee (f := 18) rfl ?_); refine goesL_ (some 21) rfl rfl Try.func18 (by kernel_rfl) rfl #[.agg #[.int .i64 t428, .int .i64 t429, .slice Ao16 t430.length co16]] rfl qz2 ?_; (with_reducible refine (impl_Cuts.calls k t428 t429 _ _ t430 t436 _ ?side1 ?side2 A5.out).mono ?_); (case side1 => refine (Kd.R_reads' (e := 3) (base := w.heap.size) (ok := fun k_ => True) (n := t430.length) (c := co16) ?_).2.2; exact (by (with_reducible repeat (first | apply Kd.R_alloc | apply Kd.R_drewN | apply Kd.R_drew)); exact (Kd.R_mono (Kd.R_far (p := ⟨gb435, 2, none⟩) (Kd.R_far (p := ⟨gb435, 1, none⟩) (Kd.R_far (p := ⟨gb435, 0, none⟩) (Kd.R_types HO432.out BK435.out (by decide)) (fun _ hk => hk.2) (.int .i64 t428)) (fun _ hk => hk.2) (.int .i64 t429)) (fun _ hk => hk.2) (.slice Ao16 t430.length co16)) (fun _ h_ => h_.1)))); (case side2 => exact (Kd.R_reads' HO432.out).2.1); rintro e w17 ⟨v437, rfl, ho0, hb⟩; refine ⟨_, rfl, ?_⟩; have n0_ := Aside0.mk (Kd.R_elder' (by (with_reducible repeat (first | apply Kd.R_alloc | apply Kd.R_drewN | apply Kd.R_drew)); exact (Kd.R_mono (Kd.R_far (p := ⟨gb435, 2, none⟩) (Kd.R_far (p := ⟨gb435, 1, none⟩) (Kd.R_far (p := ⟨gb435, 0, none⟩) (Kd.R_types HO432.out BK435.out (by decide)) (fun _ hk => hk.2) (.int .i64 t428)) (fun _ hk => hk.2) (.int .i64 t429)) (fun _ hk => hk.2) (.slice Ao16 t430.length co16)) (fun _ h_ => h_.1))) (Kd.R_base ho0) hb); have n1_ := Aside0.mk (Kd.R_lower (Kd.R_new' ho0 (Kd.R_lt (by (with_reducible repeat (first | apply Kd.R_alloc | apply Kd.R_drewN | apply Kd.R_drew)); exact (Kd.R_mono (Kd.R_far (p := ⟨gb435, 2, none⟩) (Kd.R_far (p := ⟨gb435, 1, none⟩) (Kd.R_far (p := ⟨gb435, 0, none⟩) (Kd.R_types HO432.out BK435.out (by decide)) (fun _ hk => hk.2) (.int .i64 t428)) (fun _ hk => hk.2) (.int .i64 t429)) (fun _ hk => hk.2) (.slice Ao16 t430.length co16)) (fun _ h_ => h_.1))))) (below_size qz8)); have n2_ := Aside0.mk (blk_below (g := gb435) (o := .cells #[.int .i64 t428, .int .i64 t429, .slice Ao16 t430.length co16] 27 (0, 0)) (by (with_reducible repeat (first | refine blk_drewN ?_ _ | refine blk_drew ?_ | refine blk_alloc ?_ _)); refine blk_put (cs := #[.int .i64 t428, .int .i64 t429, .slice none 0 0]) ?_ 2 _ rfl; (with_reducible repeat (first | refine blk_drewN ?_ _ | refine blk_drew ?_ | refine blk_alloc ?_ _)); refine blk_put (cs := #[.int .i64 t428, .int .i64 0, .slice none 0 0]) ?_ 1 _ rfl; (with_reducible repeat (first | refine blk_drewN ?_ _ | refine blk_drew ?_ | refine blk_alloc ?_ _)); refine blk_put (cs := #[.int .i64 0, .int .i64 0, .slice none 0 0]) ?_ 0 _ rfl; (with_reducible repeat (first | refine blk_drewN ?_ _ | refine blk_drew ?_ | refine blk_alloc ?_ _)); exact BK435.out) hb); have n3_ := Aside0.mk (below_step qz8 hb); clear HO432; clear BK435; clear HB; have HO432 := n0_; have HO438 := n1_; have BK435 := n2_; have HB := n3_; clear n0_ n1_ n2_ n3_; (try clear hb); (try clear hb2); (try clear hk); (try clear hi); (try clear ho0); obtain ⟨Ao18, co18, eo18⟩ := Kd.R_slice HO438.out; subst eo18; have hcz19_0 : w17.cell? ⟨gb435, 0, none⟩ = some (.int .i64 t428) := (blk_cell BK435.out 0).trans rfl; have hcz19_1 : w17.cell? ⟨gb435, 1, none⟩ = some (.int .i64 t429) := (blk_cell BK435.out 1).trans rfl; have hcz19_2 : w17.cell? ⟨gb435, 2, none⟩ = some (.slice Ao16 t430.length co16) := (blk_cell BK435.out 2).trans rfl; have hfz19_0 := blk_frozen BK435.out 0; have hfz19_1 := blk_frozen BK435.out 1; have hfz19_2 := blk_frozen BK435.out 2) | ((with_reducible refine gate_callee (f := 16) rfl ?_); refine goesL_ (some 25) rfl rfl Try.func16 (by kernel_rfl) rfl #[.agg #[.int .i64 t428, .int .i64 t429, .slice Ao16 t430.length co16]] rfl qz2 ?_; (with_reducible refine (spec_Cuts.calls k t428 t429 _ _ t430 t439 _ ?side1 ?side2 A6.out).mono ?_); (case side1 => repeat (first | exact (Kd.R_reads' HO432.out).2.2 | (with_reducible refine Kd.C_alloc ?_ _) | (with_reducible refine Kd.C_drewN ?_ _) | (with_reducible refine Kd.C_drew ?_))); (case side2 => exact (Kd.R_reads' HO432.out).2.1); rintro e w20 ⟨v440, rfl, ho0, hb⟩; refine ⟨_, rfl, ?_⟩; have n0_ := Aside0.mk (Kd.R_elder' (by (with_reducible repeat (first | apply Kd.R_alloc | apply Kd.R_drewN | apply Kd.R_drew)); exact HO432.out) (Kd.R_base ho0) hb); have n1_ := Aside0.mk (Kd.R_elder' (by (with_reducible repeat (first | apply Kd.R_alloc | apply Kd.R_drewN | apply Kd.R_drew)); exact HO438.out) (Kd.R_base ho0) hb); have n2_ := Aside0.mk (Kd.R_lower (Kd.R_new' (Kd.R_new' ho0 (Kd.R_lt (by (with_reducible repeat (first | apply Kd.R_alloc | apply Kd.R_drewN | apply Kd.R_drew)); exact HO432.out))) (Kd.R_lt (by (with_reducible repeat (first | apply Kd.R_alloc | apply Kd.R_drewN | apply Kd.R_drew)); exact HO438.out))) (below_size qz8)); have n3_ := Aside0.mk (blk_below (g := gb435) (o := .cells #[.int .i64 t428, .int .i64 t429, .slice Ao16 t430.length co16] 27 (0, 0)) qz21 hb); have n4_ := Aside0.mk (below_step qz8 hb); clear HO432; clear HO438; clear BK435; clear HB; have HO432 := n0_; have HO438 := n1_; have HO441 := n2_; have BK435 := n3_; have HB := n4_; clear n0_ n1_ n2_ n3_ n4_; (try clear hb); (try clear hb2); (try clear hk); (try clear hi); (try clear ho0); obtain ⟨Ao21, co21, eo21⟩ := Kd.R_slice HO441.out; subst eo21; have hcz22_0 : w20.cell? ⟨gb435, 0, none⟩ = some (.int .i64 t428) := (blk_cell BK435.out 0).trans rfl; have hcz22_1 : w20.cell? ⟨gb435, 1, none⟩ = some (.int .i64 t429) := (blk_cell BK435.out 1).trans rfl; have hcz22_2 : w20.cell? ⟨gb435, 2, none⟩ = some (.slice Ao16 t430.length co16) := (blk_cell BK435.out 2).trans rfl; have hfz22_0 := blk_frozen BK435.out 0; have hfz22_1 := blk_frozen BK435.out 1; have hfz22_2 := blk_frozen BK435.out 2) | ((with_reducible refine gate_callee (f := 52) rfl ?_); refine goesL_ (some 31) rfl rfl Try.func52 (by kernel_rfl) rfl #[.agg #[.int .i64 t428, .int .i64 t429, .slice Ao16 t430.length co16], .int .i64 t433] rfl qz2 ?_; (with_reducible refine (impl_Block.calls k t428 t429 _ _ t430 t433 t442 t443 t444 false _ ?side1 ?side2 A8.out).mono ?_); (case side1 => repeat (first | exact (Kd.R_reads' HO432.out).2.2 | (with_reducible refine Kd.C_alloc ?_ _) | (with_reducible refine Kd.C_drewN ?_ _) | (with_reducible refine Kd.C_drew ?_))); (case side2 => exact (Kd.R_reads' HO432.out).2.1); rintro e w23 ⟨v445, rfl, ho0, hb⟩; refine ⟨_, rfl, ?_⟩; have n0_ := Aside0.mk (Kd.R_elder' (by (with_reducible repeat (first | apply Kd.R_alloc | apply Kd.R_drewN | apply Kd.R_drew)); exact HO432.out) (Kd.R_base ho0) hb); have n1_ := Aside0.mk (Kd.R_elder' (by (with_reducible repeat (first | apply Kd.R_alloc | apply Kd.R_drewN | apply Kd.R_drew)); exact HO438.out) (Kd.R_base ho0) hb); have n2_ := Aside0.mk (Kd.R_elder' (by (with_reducible repeat (first | apply Kd.R_alloc | apply Kd.R_drewN | apply Kd.R_drew)); exact HO441.out) (Kd.R_base ho0) hb); have n3_ := Aside0.mk (Kd.R_lower (Kd.R_new' (Kd.R_new' (Kd.R_new' ho0 (Kd.R_lt (by (with_reducible repeat (first | apply Kd.R_alloc | apply Kd.R_drewN | apply Kd.R_drew)); exact HO432.out))) (Kd.R_lt (by (with_reducible repeat (first | apply Kd.R_alloc | apply Kd.R_drewN | apply Kd.R_drew)); exact HO438.out))) (Kd.R_lt (by (with_reducible repeat (first | apply Kd.R_alloc | apply Kd.R_drewN | apply Kd.R_drew)); exact HO441.out))) (below_size qz8)); have n4_ := Aside0.mk (blk_below (g := gb435) (o := .cells #[.int .i64 t428, .int .i64 t429, .slice Ao16 t430.length co16] 27 (0, 0)) qz21 hb); have n5_ := Aside0.mk (below_step qz8 hb); clear HO432; clear HO438; clear HO441; clear BK435; clear HB; have HO432 := n0_; have HO438 := n1_; have HO441 := n2_; have HO446 := n3_; have BK435 := n4_; have HB := n5_; clear n0_ n1_ n2_ n3_ n4_ n5_; (try clear hb); (try clear hb2); (try clear hk); (try clear hi); (try clear ho0)) | ((with_reducible refine gate_dst (N := 7) rfl ?_); refine box_event ?hg (N := 7) ?hd (cs := #[.int .i64 0, .int .i64 0, .slice none 0 0]) (t := 27) ?hr ?_; (case hd => rfl); (case hg => rfl); (case hr => first | (go_simp; done) | (go_simp; rfl)); intro gb448 hg w24 hbox hb; have n0_ := Aside0.mk (Kd.R_below (by (with_reducible repeat (first | apply Kd.R_alloc | apply Kd.R_drewN | apply Kd.R_drew)); exact HO432.out) hb); have n1_ := Aside0.mk (Kd.R_below (by (with_reducible repeat (first | apply Kd.R_alloc | apply Kd.R_drewN | apply Kd.R_drew)); exact HO438.out) hb); have n2_ := Aside0.mk (Kd.R_below (by (with_reducible repeat (first | apply Kd.R_alloc | apply Kd.R_drewN | apply Kd.R_drew)); exact HO441.out) hb); have n3_ := Aside0.mk (Kd.R_below (by (with_reducible repeat (first | apply Kd.R_alloc | apply Kd.R_drewN | apply Kd.R_drew)); exact HO446.out) hb); have n4_ := Aside0.mk (blk_below (g := gb435) (o := .cells #[.int .i64 t428, .int .i64 t429, .slice Ao16 t430.length co16] 27 (0, 0)) qz21 hb); have n5_ := Aside0.mk (below_step qz8 hb); have n6_ := Aside0.mk (hbox); have n7_ := Aside0.mk ((by rw [hg]; exact (below_size qz8) : w.heap.size ≤ gb448)); have n8_ := Aside0.mk ((by rw [hg]; exact (below_size qz8) : w.heap.size ≤ gb448)); have n9_ := Aside0.mk ((by rw [hg]; exact Nat.ne_of_lt (blk_lt (g := gb435) (o := .cells #[.int .i64 t428, .int .i64 t429, .slice Ao16 t430.length co16] 27 (0, 0)) qz21) : gb435 ≠ gb448)); have n10_ := Aside0.mk ((by rw [hg]; exact Nat.ne_of_gt (blk_lt (g := gb435) (o := .cells #[.int .i64 t428, .int .i64 t429, .slice Ao16 t430.length co16] 27 (0, 0)) qz21) : gb448 ≠ gb435)); clear HO432; clear HO438; clear HO441; clear HO446; clear BK435; clear HB; have HO432 := n0_; have HO438 := n1_; have HO441 := n2_; have HO446 := n3_; have BK435 := n4_; have HB := n5_; have BK448 := n6_; have GW448 := n7_; have GE448 := n8_; have NB435_448 := n9_; have NB448_435 := n10_; clear n0_ n1_ n2_ n3_ n4_ n5_ n6_ n7_ n8_ n9_ n10_; clear hb hbox hg; have hnb25 := NB448_435.out; have hnc25 := NB435_448.out; have hcz26_0 : w24.cell? ⟨gb448, 0, none⟩ = some (.int .i64 0) := (blk_cell BK448.out 0).trans rfl; have hcz26_1 : w24.cell? ⟨gb448, 1, none⟩ = some (.int .i64 0) := (blk_cell BK448.out 1).trans rfl; have hcz26_2 : w24.cell? ⟨gb448, 2, none⟩ = some (.slice none 0 0) := (blk_cell BK448.out 2).trans rfl; have hfz26_0 := blk_frozen BK448.out 0; have hfz26_1 := blk_frozen BK448.out 1; have hfz26_2 := blk_frozen BK448.out 2; obtain ⟨Ao27, co27, eo27⟩ := Kd.R_slice HO446.out; subst eo27; have hcz28_0 : w24.cell? ⟨gb435, 0, none⟩ = some (.int .i64 t428) := (blk_cell BK435.out 0).trans rfl; have hcz28_1 : w24.cell? ⟨gb435, 1, none⟩ = some (.int .i64 t429) := (blk_cell BK435.out 1).trans rfl; have hcz28_2 : w24.cell? ⟨gb435, 2, none⟩ = some (.slice Ao16 t430.length co16) := (blk_cell BK435.out 2).trans rfl; have hfz28_0 := blk_frozen BK435.out 0; have hfz28_1 := blk_frozen BK435.out 1; have hfz28_2 := blk_frozen BK435.out 2) | ((with_reducible refine gate_callee (f := 35) rfl ?_); refine goesL_ (some 36) rfl rfl Try.func35 (by kernel_rfl) rfl #[.agg #[.int .i64 t428, .int .i64 t429, .slice Ao16 t430.length co16], .int .i64 t433] rfl qz2 ?_; (with_reducible refine (impl_KindAt.calls k t428 t429 _ _ t430 t433 t449 _ ?side1 ?side2 A9.out).mono ?_); (case side1 => refine (Kd.R_reads' (e := 3) (base := w.heap.size) (ok := fun k_ => (((True ∧ some k_ ≠ (.slice Ao18 t436.length co18 : Value).ownBlock) ∧ some k_ ≠ (.slice Ao21 t439.length co21 : Value).ownBlock) ∧ some k_ ≠ (.slice Ao27 t444.length co27 : Value).ownBlock)) (n := t430.length) (c := co16) ?_).2.2; exact (by (with_reducible repeat (first | apply Kd.R_alloc | apply Kd.R_drewN | apply Kd.R_drew)); exact (Kd.R_mono (Kd.R_far (p := ⟨gb448, 2, none⟩) (Kd.R_far (p := ⟨gb448, 1, none⟩) (Kd.R_far (p := ⟨gb448, 0, none⟩) (Kd.R_types HO432.out BK448.out (by decide)) (fun _ hk => hk.2) (.int .i64 t442)) (fun _ hk => hk.2) (.int .i64 t443)) (fun _ hk => hk.2) (.slice Ao27 t444.length co27)) (fun _ h_ => h_.1)))); (case side2 => exact (Kd.R_reads' HO432.out).2.1); rintro e w29 ⟨rfl, hb⟩; refine ⟨_, rfl, ?_⟩; have n0_ := Aside0.mk (Kd.R_below (by (with_reducible repeat (first | apply Kd.R_alloc | apply Kd.R_drewN | apply Kd.R_drew)); exact (Kd.R_mono (Kd.R_far (p := ⟨gb448, 2, none⟩) (Kd.R_far (p := ⟨gb448, 1, none⟩) (Kd.R_far (p := ⟨gb448, 0, none⟩) (Kd.R_types HO432.out BK448.out (by decide)) (fun _ hk => hk.2) (.int .i64 t442)) (fun _ hk => hk.2) (.int .i64 t443)) (fun _ hk => hk.2) (.slice Ao27 t444.length co27)) (fun _ h_ => h_.1))) hb); have n1_ := Aside0.mk (Kd.R_below (by (with_reducible repeat (first | apply Kd.R_alloc | apply Kd.R_drewN | apply Kd.R_drew)); exact (Kd.R_mono (Kd.R_far (p := ⟨gb448, 2, none⟩) (Kd.R_far (p := ⟨gb448, 1, none⟩) (Kd.R_far (p := ⟨gb448, 0, none⟩) (Kd.R_types HO438.out BK448.out (by decide)) (fun _ hk => hk.2) (.int .i64 t442)) (fun _ hk => hk.2) (.int .i64 t443)) (fun _ hk => hk.2) (.slice Ao27 t444.length co27)) (fun _ h_ => h_.1))) hb); have n2_ := Aside0.mk (Kd.R_below (by (with_reducible repeat (first | apply Kd.R_alloc | apply Kd.R_drewN | apply Kd.R_drew)); exact (Kd.R_mono (Kd.R_far (p := ⟨gb448, 2, none⟩) (Kd.R_far (p := ⟨gb448, 1, none⟩) (Kd.R_far (p := ⟨gb448, 0, none⟩) (Kd.R_types HO441.out BK448.out (by decide)) (fun _ hk => hk.2) (.int .i64 t442)) (fun _ hk => hk.2) (.int .i64 t443)) (fun _ hk => hk.2) (.slice Ao27 t444.length co27)) (fun _ h_ => h_.1))) hb); have n3_ := Aside0.mk (Kd.R_below (by (with_reducible repeat (first | apply Kd.R_alloc | apply Kd.R_drewN | apply Kd.R_drew)); exact (Kd.R_mono (Kd.R_far (p := ⟨gb448, 2, none⟩) (Kd.R_far (p := ⟨gb448, 1, none⟩) (Kd.R_far (p := ⟨gb448, 0, none⟩) (Kd.R_types HO446.out BK448.out (by decide)) (fun _ hk => hk.2) (.int .i64 t442)) (fun _ hk => hk.2) (.int .i64 t443)) (fun _ hk => hk.2) (.slice Ao27 t444.length co27)) (fun _ h_ => h_.1))) hb); have n4_ := Aside0.mk (blk_below (g := gb435) (o := .cells #[.int .i64 t428, .int .i64 t429, .slice Ao16 t430.length co16] 27 (0, 0)) (by (with_reducible repeat (first | refine blk_drewN ?_ _ | refine blk_drew ?_ | refine blk_alloc ?_ _)); refine blk_far ?_ NB435_448.out _; (with_reducible repeat (first | refine blk_drewN ?_ _ | refine blk_drew ?_ | refine blk_alloc ?_ _)); refine blk_far ?_ NB435_448.out _; (with_reducible repeat (first | refine blk_drewN ?_ _ | refine blk_drew ?_ | refine blk_alloc ?_ _)); refine blk_far ?_ NB435_448.out _; (with_reducible repeat (first | refine blk_drewN ?_ _ | refine blk_drew ?_ | refine blk_alloc ?_ _)); exact BK435.out) hb); have n5_ := Aside0.mk (blk_below (g := gb448) (o := .cells #[.int .i64 t442, .int .i64 t443, .slice Ao27 t444.length co27] 27 (0, 0)) (by (with_reducible repeat (first | refine blk_drewN ?_ _ | refine blk_drew ?_ | refine blk_alloc ?_ _)); refine blk_put (cs := #[.int .i64 t442, .int .i64 t443, .slice none 0 0]) ?_ 2 _ rfl; (with_reducible repeat (first | refine blk_drewN ?_ _ | refine blk_drew ?_ | refine blk_alloc ?_ _)); refine blk_put (cs := #[.int .i64 t442, .int .i64 0, .slice none 0 0]) ?_ 1 _ rfl; (with_reducible repeat (first | refine blk_drewN ?_ _ | refine blk_drew ?_ | refine blk_alloc ?_ _)); refine blk_put (cs := #[.int .i64 0, .int .i64 0, .slice none 0 0]) ?_ 0 _ rfl; (with_reducible repeat (first | refine blk_drewN ?_ _ | refine blk_drew ?_ | refine blk_alloc ?_ _)); exact BK448.out) hb); have n6_ := Aside0.mk (below_step (by repeat (first | (with_reducible first | exact HB.out | apply below_alloc | apply pw_below_drewN | apply below_drew1 | refine below_set ?_ GE435.out | refine below_set ?_ GE448.out) | exact HB.out)) hb); clear HO432; clear HO438; clear HO441; clear HO446; clear BK435; clear BK448; clear HB; have HO432 := n0_; have HO438 := n1_; have HO441 := n2_; have HO446 := n3_; have BK435 := n4_; have BK448 := n5_; have HB := n6_; clear n0_ n1_ n2_ n3_ n4_ n5_ n6_; (try clear hb); (try clear hb2); (try clear hk); (try clear hi)) | (go_at_call 50; (with_reducible refine (laws_among.calls k _ _ t436 t433 t450 _ ?side1 ?side2 A12.out).mono ?_); (case side1 => repeat (first | exact (Kd.R_reads' HO438.out).2.2 | (with_reducible refine Kd.C_alloc ?_ _) | (with_reducible refine Kd.C_drewN ?_ _) | (with_reducible refine Kd.C_drew ?_))); (case side2 => exact (Kd.R_reads' HO438.out).2.1); rintro e w' ⟨rfl, ⟨nd, rfl⟩⟩))
          go_ret
          exact ⟨by first | rfl | (simp [errW_none, errW_some] <;> rfl) | (simp [*, errW_none, errW_some] <;> rfl), by repeat (first | (with_reducible first | exact HB.out | apply below_alloc | apply pw_below_drewN | apply below_drew1 | refine below_set ?_ GE435.out | refine below_set ?_ GE448.out) | exact HB.out)⟩
      · rw [if_neg c10] at H
        have c10b0 : (t449 == 0) = false := beq_eq_false_iff_ne.mpr c10
        have c10b1 : (t449 != 0) = true := bne_iff_ne.mpr c10
        replace H := Option.bind_eq_some_iff.mp H
        obtain ⟨t451, A300, H⟩ := H
        replace H : (laws_FnCuts.l0 k t433 t436 t447 t451 false 1 t442 t443 t444) = some r := H
        have A30 := Aside0.mk A300
        clear A300
        have H' := Aside0.mk H
        clear H
        go_enter Try.func9, Try.ntmps9
        go_wp2_with (first | ((with_reducible refine gate_callee (f := 26) rfl ?_); refine goesL_ (some 13) rfl rfl Try.func26 (by kernel_rfl) rfl #[.slice A0 l0.length c0] rfl qz2 ?_; (with_reducible refine (laws_big.calls _ _ l0 false _ ?side1 ?side2 A2.out).mono ?_); (case side1 => repeat (first | exact HR0.out | (with_reducible refine Kd.C_alloc ?_ _) | (with_reducible refine Kd.C_drewN ?_ _) | (with_reducible refine Kd.C_drew ?_))); (case side2 => exact HC0.out); rintro e w' ⟨rfl, ⟨nd, rfl⟩⟩; refine ⟨_, rfl, ?_⟩) | ((with_reducible refine gate_callee (f := 27) rfl ?_); refine goesL_ (some 16) rfl rfl Try.func27 (by kernel_rfl) rfl #[.slice A0 l0.length c0] rfl qz2 ?_; (with_reducible refine (spec_DrawFloor.calls k _ _ l0 t428 t429 t430 t433 t434 _ ?side1 ?side2 A4.out).mono ?_); (case side1 => repeat (first | exact HR0.out | (with_reducible refine Kd.C_alloc ?_ _) | (with_reducible refine Kd.C_drewN ?_ _) | (with_reducible refine Kd.C_drew ?_))); (case side2 => exact HC0.out); rintro e w31 ⟨v431, rfl, ho0, hb⟩; refine ⟨_, rfl, ?_⟩; have n0_ := Aside0.mk (Kd.R_lower ho0 (below_size qz1)); have n1_ := Aside0.mk (below_step qz1 hb); clear HB; have HO432 := n0_; have HB := n1_; clear n0_ n1_; (try clear hb); (try clear hb2); (try clear hk); (try clear hi); (try clear ho0)) | ((with_reducible refine gate_dst (N := 3) rfl ?_); refine box_event ?hg (N := 3) ?hd (cs := #[.int .i64 0, .int .i64 0, .slice none 0 0]) (t := 27) ?hr ?_; (case hd => rfl); (case hg => rfl); (case hr => first | (go_simp; done) | (go_simp; rfl)); intro gb435 hg w32 hbox hb; have n0_ := Aside0.mk (Kd.R_below (by (with_reducible repeat (first | apply Kd.R_alloc | apply Kd.R_drewN | apply Kd.R_drew)); exact HO432.out) hb); have n1_ := Aside0.mk (below_step qz1 hb); have n2_ := Aside0.mk (hbox); have n3_ := Aside0.mk ((by rw [hg]; exact (below_size qz1) : w.heap.size ≤ gb435)); have n4_ := Aside0.mk ((by rw [hg]; exact (below_size qz1) : w.heap.size ≤ gb435)); clear HO432; clear HB; have HO432 := n0_; have HB := n1_; have BK435 := n2_; have GW435 := n3_; have GE435 := n4_; clear n0_ n1_ n2_ n3_ n4_; clear hb hbox hg; have hcz33_0 : w32.cell? ⟨gb435, 0, none⟩ = some (.int .i64 0) := (blk_cell BK435.out 0).trans rfl; have hcz33_1 : w32.cell? ⟨gb435, 1, none⟩ = some (.int .i64 0) := (blk_cell BK435.out 1).trans rfl; have hcz33_2 : w32.cell? ⟨gb435, 2, none⟩ = some (.slice none 0 0) := (blk_cell BK435.out 2).trans rfl; have hfz33_0 := blk_frozen BK435.out 0; have hfz33_1 := blk_frozen BK435.out 1; have hfz33_2 := blk_frozen BK435.out 2; obtain ⟨Ao34, co34, eo34⟩ := Kd.R_slice HO432.out; subst eo34) | ((with_reducible refine gate_callee (f := 18) rfl ?_); refine goesL_ (some 21) rfl rfl Try.func18 (by kernel_rfl) rfl #[.agg #[.int .i64 t428, .int .i64 t429, .slice Ao34 t430.length co34]] rfl qz2 ?_; (with_reducible refine (impl_Cuts.calls k t428 t429 _ _ t430 t436 _ ?side1 ?side2 A5.out).mono ?_); (case side1 => refine (Kd.R_reads' (e := 3) (base := w.heap.size) (ok := fun k_ => True) (n := t430.length) (c := co34) ?_).2.2; exact (by (with_reducible repeat (first | apply Kd.R_alloc | apply Kd.R_drewN | apply Kd.R_drew)); exact (Kd.R_mono (Kd.R_far (p := ⟨gb435, 2, none⟩) (Kd.R_far (p := ⟨gb435, 1, none⟩) (Kd.R_far (p := ⟨gb435, 0, none⟩) (Kd.R_types HO432.out BK435.out (by decide)) (fun _ hk => hk.2) (.int .i64 t428)) (fun _ hk => hk.2) (.int .i64 t429)) (fun _ hk => hk.2) (.slice Ao34 t430.length co34)) (fun _ h_ => h_.1)))); (case side2 => exact (Kd.R_reads' HO432.out).2.1); rintro e w35 ⟨v437, rfl, ho0, hb⟩; refine ⟨_, rfl, ?_⟩; have n0_ := Aside0.mk (Kd.R_elder' (by (with_reducible repeat (first | apply Kd.R_alloc | apply Kd.R_drewN | apply Kd.R_drew)); exact (Kd.R_mono (Kd.R_far (p := ⟨gb435, 2, none⟩) (Kd.R_far (p := ⟨gb435, 1, none⟩) (Kd.R_far (p := ⟨gb435, 0, none⟩) (Kd.R_types HO432.out BK435.out (by decide)) (fun _ hk => hk.2) (.int .i64 t428)) (fun _ hk => hk.2) (.int .i64 t429)) (fun _ hk => hk.2) (.slice Ao34 t430.length co34)) (fun _ h_ => h_.1))) (Kd.R_base ho0) hb); have n1_ := Aside0.mk (Kd.R_lower (Kd.R_new' ho0 (Kd.R_lt (by (with_reducible repeat (first | apply Kd.R_alloc | apply Kd.R_drewN | apply Kd.R_drew)); exact (Kd.R_mono (Kd.R_far (p := ⟨gb435, 2, none⟩) (Kd.R_far (p := ⟨gb435, 1, none⟩) (Kd.R_far (p := ⟨gb435, 0, none⟩) (Kd.R_types HO432.out BK435.out (by decide)) (fun _ hk => hk.2) (.int .i64 t428)) (fun _ hk => hk.2) (.int .i64 t429)) (fun _ hk => hk.2) (.slice Ao34 t430.length co34)) (fun _ h_ => h_.1))))) (below_size qz8)); have n2_ := Aside0.mk (blk_below (g := gb435) (o := .cells #[.int .i64 t428, .int .i64 t429, .slice Ao34 t430.length co34] 27 (0, 0)) (by (with_reducible repeat (first | refine blk_drewN ?_ _ | refine blk_drew ?_ | refine blk_alloc ?_ _)); refine blk_put (cs := #[.int .i64 t428, .int .i64 t429, .slice none 0 0]) ?_ 2 _ rfl; (with_reducible repeat (first | refine blk_drewN ?_ _ | refine blk_drew ?_ | refine blk_alloc ?_ _)); refine blk_put (cs := #[.int .i64 t428, .int .i64 0, .slice none 0 0]) ?_ 1 _ rfl; (with_reducible repeat (first | refine blk_drewN ?_ _ | refine blk_drew ?_ | refine blk_alloc ?_ _)); refine blk_put (cs := #[.int .i64 0, .int .i64 0, .slice none 0 0]) ?_ 0 _ rfl; (with_reducible repeat (first | refine blk_drewN ?_ _ | refine blk_drew ?_ | refine blk_alloc ?_ _)); exact BK435.out) hb); have n3_ := Aside0.mk (below_step qz8 hb); clear HO432; clear BK435; clear HB; have HO432 := n0_; have HO438 := n1_; have BK435 := n2_; have HB := n3_; clear n0_ n1_ n2_ n3_; (try clear hb); (try clear hb2); (try clear hk); (try clear hi); (try clear ho0); obtain ⟨Ao36, co36, eo36⟩ := Kd.R_slice HO438.out; subst eo36; have hcz37_0 : w35.cell? ⟨gb435, 0, none⟩ = some (.int .i64 t428) := (blk_cell BK435.out 0).trans rfl; have hcz37_1 : w35.cell? ⟨gb435, 1, none⟩ = some (.int .i64 t429) := (blk_cell BK435.out 1).trans rfl; have hcz37_2 : w35.cell? ⟨gb435, 2, none⟩ = some (.slice Ao34 t430.length co34) := (blk_cell BK435.out 2).trans rfl; have hfz37_0 := blk_frozen BK435.out 0; have hfz37_1 := blk_frozen BK435.out 1; have hfz37_2 := blk_frozen BK435.out 2) | ((with_reducible refine gate_callee (f := 16) rfl ?_); refine goesL_ (some 25) rfl rfl Try.func16 (by kernel_rfl) rfl #[.agg #[.int .i64 t428, .int .i64 t429, .slice Ao34 t430.length co34]] rfl qz2 ?_; (with_reducible refine (spec_Cuts.calls k t428 t429 _ _ t430 t439 _ ?side1 ?side2 A6.out).mono ?_); (case side1 => repeat (first | exact (Kd.R_reads' HO432.out).2.2 | (with_reducible refine Kd.C_alloc ?_ _) | (with_reducible refine Kd.C_drewN ?_ _) | (with_reducible refine Kd.C_drew ?_))); (case side2 => exact (Kd.R_reads' HO432.out).2.1); rintro e w38 ⟨v440, rfl, ho0, hb⟩; refine ⟨_, rfl, ?_⟩; have n0_ := Aside0.mk (Kd.R_elder' (by (with_reducible repeat (first | apply Kd.R_alloc | apply Kd.R_drewN | apply Kd.R_drew)); exact HO432.out) (Kd.R_base ho0) hb); have n1_ := Aside0.mk (Kd.R_elder' (by (with_reducible repeat (first | apply Kd.R_alloc | apply Kd.R_drewN | apply Kd.R_drew)); exact HO438.out) (Kd.R_base ho0) hb); have n2_ := Aside0.mk (Kd.R_lower (Kd.R_new' (Kd.R_new' ho0 (Kd.R_lt (by (with_reducible repeat (first | apply Kd.R_alloc | apply Kd.R_drewN | apply Kd.R_drew)); exact HO432.out))) (Kd.R_lt (by (with_reducible repeat (first | apply Kd.R_alloc | apply Kd.R_drewN | apply Kd.R_drew)); exact HO438.out))) (below_size qz8)); have n3_ := Aside0.mk (blk_below (g := gb435) (o := .cells #[.int .i64 t428, .int .i64 t429, .slice Ao34 t430.length co34] 27 (0, 0)) qz21 hb); have n4_ := Aside0.mk (below_step qz8 hb); clear HO432; clear HO438; clear BK435; clear HB; have HO432 := n0_; have HO438 := n1_; have HO441 := n2_; have BK435 := n3_; have HB := n4_; clear n0_ n1_ n2_ n3_ n4_; (try clear hb); (try clear hb2); (try clear hk); (try clear hi); (try clear ho0); obtain ⟨Ao39, co39, eo39⟩ := Kd.R_slice HO441.out; subst eo39; have hcz40_0 : w38.cell? ⟨gb435, 0, none⟩ = some (.int .i64 t428) := (blk_cell BK435.out 0).trans rfl; have hcz40_1 : w38.cell? ⟨gb435, 1, none⟩ = some (.int .i64 t429) := (blk_cell BK435.out 1).trans rfl; have hcz40_2 : w38.cell? ⟨gb435, 2, none⟩ = some (.slice Ao34 t430.length co34) := (blk_cell BK435.out 2).trans rfl; have hfz40_0 := blk_frozen BK435.out 0; have hfz40_1 := blk_frozen BK435.out 1; have hfz40_2 := blk_frozen BK435.out 2) | ((with_reducible refine gate_callee (f := 52) rfl ?_); refine goesL_ (some 31) rfl rfl Try.func52 (by kernel_rfl) rfl #[.agg #[.int .i64 t428, .int .i64 t429, .slice Ao34 t430.length co34], .int .i64 t433] rfl qz2 ?_; (with_reducible refine (impl_Block.calls k t428 t429 _ _ t430 t433 t442 t443 t444 t447 _ ?side1 ?side2 A8.out).mono ?_); (case side1 => repeat (first | exact (Kd.R_reads' HO432.out).2.2 | (with_reducible refine Kd.C_alloc ?_ _) | (with_reducible refine Kd.C_drewN ?_ _) | (with_reducible refine Kd.C_drew ?_))); (case side2 => exact (Kd.R_reads' HO432.out).2.1); rintro e w41 ⟨v445, rfl, ho0, hb⟩; refine ⟨_, rfl, ?_⟩; have n0_ := Aside0.mk (Kd.R_elder' (by (with_reducible repeat (first | apply Kd.R_alloc | apply Kd.R_drewN | apply Kd.R_drew)); exact HO432.out) (Kd.R_base ho0) hb); have n1_ := Aside0.mk (Kd.R_elder' (by (with_reducible repeat (first | apply Kd.R_alloc | apply Kd.R_drewN | apply Kd.R_drew)); exact HO438.out) (Kd.R_base ho0) hb); have n2_ := Aside0.mk (Kd.R_elder' (by (with_reducible repeat (first | apply Kd.R_alloc | apply Kd.R_drewN | apply Kd.R_drew)); exact HO441.out) (Kd.R_base ho0) hb); have n3_ := Aside0.mk (Kd.R_lower (Kd.R_new' (Kd.R_new' (Kd.R_new' ho0 (Kd.R_lt (by (with_reducible repeat (first | apply Kd.R_alloc | apply Kd.R_drewN | apply Kd.R_drew)); exact HO432.out))) (Kd.R_lt (by (with_reducible repeat (first | apply Kd.R_alloc | apply Kd.R_drewN | apply Kd.R_drew)); exact HO438.out))) (Kd.R_lt (by (with_reducible repeat (first | apply Kd.R_alloc | apply Kd.R_drewN | apply Kd.R_drew)); exact HO441.out))) (below_size qz8)); have n4_ := Aside0.mk (blk_below (g := gb435) (o := .cells #[.int .i64 t428, .int .i64 t429, .slice Ao34 t430.length co34] 27 (0, 0)) qz21 hb); have n5_ := Aside0.mk (below_step qz8 hb); clear HO432; clear HO438; clear HO441; clear BK435; clear HB; have HO432 := n0_; have HO438 := n1_; have HO441 := n2_; have HO446 := n3_; have BK435 := n4_; have HB := n5_; clear n0_ n1_ n2_ n3_ n4_ n5_; (try clear hb); (try clear hb2); (try clear hk); (try clear hi); (try clear ho0)) | ((with_reducible refine gate_dst (N := 7) rfl ?_); refine box_event ?hg (N := 7) ?hd (cs := #[.int .i64 0, .int .i64 0, .slice none 0 0]) (t := 27) ?hr ?_; (case hd => rfl); (case hg => rfl); (case hr => first | (go_simp; done) | (go_simp; rfl)); intro gb448 hg w42 hbox hb; have n0_ := Aside0.mk (Kd.R_below (by (with_reducible repeat (first | apply Kd.R_alloc | apply Kd.R_drewN | apply Kd.R_drew)); exact HO432.out) hb); have n1_ := Aside0.mk (Kd.R_below (by (with_reducible repeat (first | apply Kd.R_alloc | apply Kd.R_drewN | apply Kd.R_drew)); exact HO438.out) hb); have n2_ := Aside0.mk (Kd.R_below (by (with_reducible repeat (first | apply Kd.R_alloc | apply Kd.R_drewN | apply Kd.R_drew)); exact HO441.out) hb); have n3_ := Aside0.mk (Kd.R_below (by (with_reducible repeat (first | apply Kd.R_alloc | apply Kd.R_drewN | apply Kd.R_drew)); exact HO446.out) hb); have n4_ := Aside0.mk (blk_below (g := gb435) (o := .cells #[.int .i64 t428, .int .i64 t429, .slice Ao34 t430.length co34] 27 (0, 0)) qz21 hb); have n5_ := Aside0.mk (below_step qz8 hb); have n6_ := Aside0.mk (hbox); have n7_ := Aside0.mk ((by rw [hg]; exact (below_size qz8) : w.heap.size ≤ gb448)); have n8_ := Aside0.mk ((by rw [hg]; exact (below_size qz8) : w.heap.size ≤ gb448)); have n9_ := Aside0.mk ((by rw [hg]; exact Nat.ne_of_lt (blk_lt (g := gb435) (o := .cells #[.int .i64 t428, .int .i64 t429, .slice Ao34 t430.length co34] 27 (0, 0)) qz21) : gb435 ≠ gb448)); have n10_ := Aside0.mk ((by rw [hg]; exact Nat.ne_of_gt (blk_lt (g := gb435) (o := .cells #[.int .i64 t428, .int .i64 t429, .slice Ao34 t430.length co34] 27 (0, 0)) qz21) : gb448 ≠ gb435)); clear HO432; clear HO438; clear HO441; clear HO446; clear BK435; clear HB; have HO432 := n0_; have HO438 := n1_; have HO441 := n2_; have HO446 := n3_; have BK435 := n4_; have HB := n5_; have BK448 := n6_; have GW448 := n7_; have GE448 := n8_; have NB435_448 := n9_; have NB448_435 := n10_; clear n0_ n1_ n2_ n3_ n4_ n5_ n6_ n7_ n8_ n9_ n10_; clear hb hbox hg; have hnb43 := NB448_435.out; have hnc43 := NB435_448.out; have hcz44_0 : w42.cell? ⟨gb448, 0, none⟩ = some (.int .i64 0) := (blk_cell BK448.out 0).trans rfl; have hcz44_1 : w42.cell? ⟨gb448, 1, none⟩ = some (.int .i64 0) := (blk_cell BK448.out 1).trans rfl; have hcz44_2 : w42.cell? ⟨gb448, 2, none⟩ = some (.slice none 0 0) := (blk_cell BK448.out 2).trans rfl; have hfz44_0 := blk_frozen BK448.out 0; have hfz44_1 := blk_frozen BK448.out 1; have hfz44_2 := blk_frozen BK448.out 2; obtain ⟨Ao45, co45, eo45⟩ := Kd.R_slice HO446.out; subst eo45; have hcz46_0 : w42.cell? ⟨gb435, 0, none⟩ = some (.int .i64 t428) := (blk_cell BK435.out 0).trans rfl; have hcz46_1 : w42.cell? ⟨gb435, 1, none⟩ = some (.int .i64 t429) := (blk_cell BK435.out 1).trans rfl; have hcz46_2 : w42.cell? ⟨gb435, 2, none⟩ = some (.slice Ao34 t430.length co34) := (blk_cell BK435.out 2).trans rfl; have hfz46_0 := blk_frozen BK435.out 0; have hfz46_1 := blk_frozen BK435.out 1; have hfz46_2 := blk_frozen BK435.out 2) | ((with_reducible refine gate_callee (f := 35) rfl ?_); refine goesL_ (some 36) rfl rfl Try.func35 (by kernel_rfl) rfl #[.agg #[.int .i64 t428, .int .i64 t429, .slice Ao34 t430.length co34], .int .i64 t433] rfl qz2 ?_; (with_reducible refine (impl_KindAt.calls k t428 t429 _ _ t430 t433 t449 _ ?side1 ?side2 A9.out).mono ?_); (case side1 => refine (Kd.R_reads' (e := 3) (base := w.heap.size) (ok := fun k_ => (((True ∧ some k_ ≠ (.slice Ao36 t436.length co36 : Value).ownBlock) ∧ some k_ ≠ (.slice Ao39 t439.length co39 : Value).ownBlock) ∧ some k_ ≠ (.slice Ao45 t444.length co45 : Value).ownBlock)) (n := t430.length) (c := co34) ?_).2.2; exact (by (with_reducible repeat (first | apply Kd.R_alloc | apply Kd.R_drewN | apply Kd.R_drew)); exact (Kd.R_mono (Kd.R_far (p := ⟨gb448, 2, none⟩) (Kd.R_far (p := ⟨gb448, 1, none⟩) (Kd.R_far (p := ⟨gb448, 0, none⟩) (Kd.R_types HO432.out BK448.out (by decide)) (fun _ hk => hk.2) (.int .i64 t442)) (fun _ hk => hk.2) (.int .i64 t443)) (fun _ hk => hk.2) (.slice Ao45 t444.length co45)) (fun _ h_ => h_.1)))); (case side2 => exact (Kd.R_reads' HO432.out).2.1); rintro e w47 ⟨rfl, hb⟩; refine ⟨_, rfl, ?_⟩; have n0_ := Aside0.mk (Kd.R_below (by (with_reducible repeat (first | apply Kd.R_alloc | apply Kd.R_drewN | apply Kd.R_drew)); exact (Kd.R_mono (Kd.R_far (p := ⟨gb448, 2, none⟩) (Kd.R_far (p := ⟨gb448, 1, none⟩) (Kd.R_far (p := ⟨gb448, 0, none⟩) (Kd.R_types HO432.out BK448.out (by decide)) (fun _ hk => hk.2) (.int .i64 t442)) (fun _ hk => hk.2) (.int .i64 t443)) (fun _ hk => hk.2) (.slice Ao45 t444.length co45)) (fun _ h_ => h_.1))) hb); have n1_ := Aside0.mk (Kd.R_below (by (with_reducible repeat (first | apply Kd.R_alloc | apply Kd.R_drewN | apply Kd.R_drew)); exact (Kd.R_mono (Kd.R_far (p := ⟨gb448, 2, none⟩) (Kd.R_far (p := ⟨gb448, 1, none⟩) (Kd.R_far (p := ⟨gb448, 0, none⟩) (Kd.R_types HO438.out BK448.out (by decide)) (fun _ hk => hk.2) (.int .i64 t442)) (fun _ hk => hk.2) (.int .i64 t443)) (fun _ hk => hk.2) (.slice Ao45 t444.length co45)) (fun _ h_ => h_.1))) hb); have n2_ := Aside0.mk (Kd.R_below (by (with_reducible repeat (first | apply Kd.R_alloc | apply Kd.R_drewN | apply Kd.R_drew)); exact (Kd.R_mono (Kd.R_far (p := ⟨gb448, 2, none⟩) (Kd.R_far (p := ⟨gb448, 1, none⟩) (Kd.R_far (p := ⟨gb448, 0, none⟩) (Kd.R_types HO441.out BK448.out (by decide)) (fun _ hk => hk.2) (.int .i64 t442)) (fun _ hk => hk.2) (.int .i64 t443)) (fun _ hk => hk.2) (.slice Ao45 t444.length co45)) (fun _ h_ => h_.1))) hb); have n3_ := Aside0.mk (Kd.R_below (by (with_reducible repeat (first | apply Kd.R_alloc | apply Kd.R_drewN | apply Kd.R_drew)); exact (Kd.R_mono (Kd.R_far (p := ⟨gb448, 2, none⟩) (Kd.R_far (p := ⟨gb448, 1, none⟩) (Kd.R_far (p := ⟨gb448, 0, none⟩) (Kd.R_types HO446.out BK448.out (by decide)) (fun _ hk => hk.2) (.int .i64 t442)) (fun _ hk => hk.2) (.int .i64 t443)) (fun _ hk => hk.2) (.slice Ao45 t444.length co45)) (fun _ h_ => h_.1))) hb); have n4_ := Aside0.mk (blk_below (g := gb435) (o := .cells #[.int .i64 t428, .int .i64 t429, .slice Ao34 t430.length co34] 27 (0, 0)) (by (with_reducible repeat (first | refine blk_drewN ?_ _ | refine blk_drew ?_ | refine blk_alloc ?_ _)); refine blk_far ?_ NB435_448.out _; (with_reducible repeat (first | refine blk_drewN ?_ _ | refine blk_drew ?_ | refine blk_alloc ?_ _)); refine blk_far ?_ NB435_448.out _; (with_reducible repeat (first | refine blk_drewN ?_ _ | refine blk_drew ?_ | refine blk_alloc ?_ _)); refine blk_far ?_ NB435_448.out _; (with_reducible repeat (first | refine blk_drewN ?_ _ | refine blk_drew ?_ | refine blk_alloc ?_ _)); exact BK435.out) hb); have n5_ := Aside0.mk (blk_below (g := gb448) (o := .cells #[.int .i64 t442, .int .i64 t443, .slice Ao45 t444.length co45] 27 (0, 0)) (by (with_reducible repeat (first | refine blk_drewN ?_ _ | refine blk_drew ?_ | refine blk_alloc ?_ _)); refine blk_put (cs := #[.int .i64 t442, .int .i64 t443, .slice none 0 0]) ?_ 2 _ rfl; (with_reducible repeat (first | refine blk_drewN ?_ _ | refine blk_drew ?_ | refine blk_alloc ?_ _)); refine blk_put (cs := #[.int .i64 t442, .int .i64 0, .slice none 0 0]) ?_ 1 _ rfl; (with_reducible repeat (first | refine blk_drewN ?_ _ | refine blk_drew ?_ | refine blk_alloc ?_ _)); refine blk_put (cs := #[.int .i64 0, .int .i64 0, .slice none 0 0]) ?_ 0 _ rfl; (with_reducible repeat (first | refine blk_drewN ?_ _ | refine blk_drew ?_ | refine blk_alloc ?_ _)); exact BK448.out) hb); have n6_ := Aside0.mk (below_step (by repeat (first | (with_reducible first | exact HB.out | apply below_alloc | apply pw_below_drewN | apply below_drew1 | refine below_set ?_ GE435.out | refine below_set ?_ GE448.out) | exact HB.out)) hb); clear HO432; clear HO438; clear HO441; clear HO446; clear BK435; clear BK448; clear HB; have HO432 := n0_; have HO438 := n1_; have HO441 := n2_; have HO446 := n3_; have BK435 := n4_; have BK448 := n5_; have HB := n6_; clear n0_ n1_ n2_ n3_ n4_ n5_ n6_; (try clear hb); (try clear hb2); (try clear hk); (try clear hi); have hcz48_0 : w47.cell? ⟨gb435, 0, none⟩ = some (.int .i64 t428) := (blk_cell BK435.out 0).trans rfl; have hcz48_1 : w47.cell? ⟨gb435, 1, none⟩ = some (.int .i64 t429) := (blk_cell BK435.out 1).trans rfl; have hcz48_2 : w47.cell? ⟨gb435, 2, none⟩ = some (.slice Ao34 t430.length co34) := (blk_cell BK435.out 2).trans rfl; have hfz48_0 := blk_frozen BK435.out 0; have hfz48_1 := blk_frozen BK435.out 1; have hfz48_2 := blk_frozen BK435.out 2) | ((with_reducible refine gate_callee (f := 51) rfl ?_); refine goesL_ (some 48) rfl rfl Try.func51 (by kernel_rfl) rfl #[.agg #[.int .i64 t428, .int .i64 t429, .slice Ao34 t430.length co34], .int .i64 t433, .bool false] rfl qz2 ?_; (with_reducible refine (impl_Near.calls k t428 t429 _ _ t430 t433 false t451 _ ?side1 ?side2 A30.out).mono ?_); (case side1 => repeat (first | exact (Kd.R_reads' HO432.out).2.2 | (with_reducible refine Kd.C_alloc ?_ _) | (with_reducible refine Kd.C_drewN ?_ _) | (with_reducible refine Kd.C_drew ?_))); (case side2 => exact (Kd.R_reads' HO432.out).2.1); rintro e w49 ⟨v452, rfl, ho0, hb⟩; refine ⟨_, rfl, ?_⟩; have n0_ := Aside0.mk (Kd.R_elder' (by (with_reducible repeat (first | apply Kd.R_alloc | apply Kd.R_drewN | apply Kd.R_drew)); exact HO432.out) (Kd.R_base ho0) hb); have n1_ := Aside0.mk (Kd.R_elder' (by (with_reducible repeat (first | apply Kd.R_alloc | apply Kd.R_drewN | apply Kd.R_drew)); exact HO438.out) (Kd.R_base ho0) hb); have n2_ := Aside0.mk (Kd.R_elder' (by (with_reducible repeat (first | apply Kd.R_alloc | apply Kd.R_drewN | apply Kd.R_drew)); exact HO441.out) (Kd.R_base ho0) hb); have n3_ := Aside0.mk (Kd.R_elder' (by (with_reducible repeat (first | apply Kd.R_alloc | apply Kd.R_drewN | apply Kd.R_drew)); exact HO446.out) (Kd.R_base ho0) hb); have n4_ := Aside0.mk (Kd.R_lower (Kd.R_new' (Kd.R_new' (Kd.R_new' (Kd.R_new' ho0 (Kd.R_lt (by (with_reducible repeat (first | apply Kd.R_alloc | apply Kd.R_drewN | apply Kd.R_drew)); exact HO432.out))) (Kd.R_lt (by (with_reducible repeat (first | apply Kd.R_alloc | apply Kd.R_drewN | apply Kd.R_drew)); exact HO438.out))) (Kd.R_lt (by (with_reducible repeat (first | apply Kd.R_alloc | apply Kd.R_drewN | apply Kd.R_drew)); exact HO441.out))) (Kd.R_lt (by (with_reducible repeat (first | apply Kd.R_alloc | apply Kd.R_drewN | apply Kd.R_drew)); exact HO446.out))) (below_size (by repeat (first | (with_reducible first | exact HB.out | apply below_alloc | apply pw_below_drewN | apply below_drew1 | refine below_set ?_ GE435.out | refine below_set ?_ GE448.out) | exact HB.out)))); have n5_ := Aside0.mk (blk_below (g := gb435) (o := .cells #[.int .i64 t428, .int .i64 t429, .slice Ao34 t430.length co34] 27 (0, 0)) qz21 hb); have n6_ := Aside0.mk (blk_below (g := gb448) (o := .cells #[.int .i64 t442, .int .i64 t443, .slice Ao45 t444.length co45] 27 (0, 0)) (by (with_reducible repeat (first | refine blk_drewN ?_ _ | refine blk_drew ?_ | refine blk_alloc ?_ _)); exact BK448.out) hb); have n7_ := Aside0.mk (below_step (by repeat (first | (with_reducible first | exact HB.out | apply below_alloc | apply pw_below_drewN | apply below_drew1 | refine below_set ?_ GE435.out | refine below_set ?_ GE448.out) | exact HB.out)) hb); clear HO432; clear HO438; clear HO441; clear HO446; clear BK435; clear BK448; clear HB; have HO432 := n0_; have HO438 := n1_; have HO441 := n2_; have HO446 := n3_; have HO453 := n4_; have BK435 := n5_; have BK448 := n6_; have HB := n7_; clear n0_ n1_ n2_ n3_ n4_ n5_ n6_ n7_; (try clear hb); (try clear hb2); (try clear hk); (try clear hi); (try clear ho0)))
        go_loopg [10, 11] k (fun kq v10 v11 w' => ∃ (x10_1 : Bool) (x11_1 : Int), v10 = .bool x10_1 ∧ v11 = .int .i64 x11_1 ∧ Aside0 (laws_FnCuts.l0 kq t433 t436 t447 t451 x10_1 x11_1 t442 t443 t444 = some r) ∧ Aside0 (kq ≤ k) ∧ Aside0 (Kd.R (Kd.int .i64) 3 w' w.heap.size (fun k_ => some k_ ≠ (v452 : Value).ownBlock ∧ some k_ ≠ ((.slice Ao34 t430.length co34) : Value).ownBlock ∧ some k_ ≠ ((.slice Ao45 t444.length co45) : Value).ownBlock) (.slice Ao36 t436.length co36) t436) ∧ Aside0 (Kd.R (Kd.int .i64) 3 w' w.heap.size (fun k_ => some k_ ≠ ((.slice Ao36 t436.length co36) : Value).ownBlock ∧ some k_ ≠ ((.slice Ao34 t430.length co34) : Value).ownBlock ∧ some k_ ≠ ((.slice Ao45 t444.length co45) : Value).ownBlock) v452 t451) ∧ Aside0 (Kd.R (Kd.int .i64) 3 w' w.heap.size (fun k_ => some k_ ≠ ((.slice Ao36 t436.length co36) : Value).ownBlock ∧ some k_ ≠ (v452 : Value).ownBlock ∧ some k_ ≠ ((.slice Ao45 t444.length co45) : Value).ownBlock) (.slice Ao34 t430.length co34) t430) ∧ Aside0 (Kd.R (Kd.int .i64) 3 w' w.heap.size (fun k_ => some k_ ≠ ((.slice Ao36 t436.length co36) : Value).ownBlock ∧ some k_ ≠ (v452 : Value).ownBlock ∧ some k_ ≠ ((.slice Ao34 t430.length co34) : Value).ownBlock) (.slice Ao45 t444.length co45) t444) ∧ Aside0 (w'.heap[gb435]? = some (.cells #[.int .i64 t428, .int .i64 t429, (.slice Ao34 t430.length co34)] 27 (0, 0))) ∧ Aside0 (w'.heap[gb448]? = some (.cells #[.int .i64 t442, .int .i64 t443, (.slice Ao45 t444.length co45)] 27 (0, 0))) ∧ Aside0 (Below w.heap.size w w'))
        case atStart => exact ⟨(false), (1), qz5, qz5, H', ⟨Nat.le_refl _⟩, ⟨by (with_reducible repeat (first | apply Kd.R_alloc | apply Kd.R_drewN | apply Kd.R_drew)); exact Kd.R_mono HO438.out (fun _ hk => ⟨hk.2, ⟨hk.1.1.1.2, hk.1.2⟩⟩)⟩, ⟨by (with_reducible repeat (first | apply Kd.R_alloc | apply Kd.R_drewN | apply Kd.R_drew)); exact Kd.R_mono HO453.out (fun _ hk => ⟨hk.1.1.2, ⟨hk.1.1.1.2, hk.2⟩⟩)⟩, ⟨by (with_reducible repeat (first | apply Kd.R_alloc | apply Kd.R_drewN | apply Kd.R_drew)); exact Kd.R_mono HO432.out (fun _ hk => ⟨hk.1.1.1.2, ⟨hk.2, hk.1.2⟩⟩)⟩, ⟨by (with_reducible repeat (first | apply Kd.R_alloc | apply Kd.R_drewN | apply Kd.R_drew)); exact Kd.R_mono HO446.out (fun _ hk => ⟨hk.1.1.2, ⟨hk.2, hk.1.1.1.2⟩⟩)⟩, ⟨by (with_reducible repeat (first | refine blk_drewN ?_ _ | refine blk_drew ?_ | refine blk_alloc ?_ _)); exact BK435.out⟩, ⟨by (with_reducible repeat (first | refine blk_drewN ?_ _ | refine blk_drew ?_ | refine blk_alloc ?_ _)); exact BK448.out⟩, ⟨by repeat (first | (with_reducible first | exact HB.out | apply below_alloc | apply pw_below_drewN | apply below_drew1 | refine below_set ?_ GE435.out | refine below_set ?_ GE448.out) | exact HB.out)⟩⟩
        case round =>
          clear H'
          try clear c1
          try clear c2
          try clear p2
          try clear c3
          try clear c4
          try clear c5
          try clear c7
          try clear c7b0
          try clear c7b1
          try clear c7b2
          try clear c9
          try clear c10
          try clear c10b0
          try clear c10b1
          try clear c11
          try clear c16
          try clear c18
          try clear c25
          try clear c26
          try clear c27
          try clear c35
          try clear c43
          try clear hcz15_0
          try clear hcz15_1
          try clear hcz15_2
          try clear hcz19_0
          try clear hcz19_1
          try clear hcz19_2
          try clear hcz22_0
          try clear hcz22_1
          try clear hcz22_2
          try clear hcz26_0
          try clear hcz26_1
          try clear hcz26_2
          try clear hcz28_0
          try clear hcz28_1
          try clear hcz28_2
          try clear hcz33_0
          try clear hcz33_1
          try clear hcz33_2
          try clear hcz37_0
          try clear hcz37_1
          try clear hcz37_2
          try clear hcz40_0
          try clear hcz40_1
          try clear hcz40_2
          try clear hcz44_0
          try clear hcz44_1
          try clear hcz44_2
          try clear hcz46_0
          try clear hcz46_1
          try clear hcz46_2
          try clear hcz48_0
          try clear hcz48_1
          try clear hcz48_2
          try clear hfz15_0
          try clear hfz15_1
          try clear hfz15_2
          try clear hfz19_0
          try clear hfz19_1
          try clear hfz19_2
          try clear hfz22_0
          try clear hfz22_1
          try clear hfz22_2
          try clear hfz26_0
          try clear hfz26_1
          try clear hfz26_2
          try clear hfz28_0
          try clear hfz28_1
          try clear hfz28_2
          try clear hfz33_0
          try clear hfz33_1
          try clear hfz33_2
          try clear hfz37_0
          try clear hfz37_1
          try clear hfz37_2
          try clear hfz40_0
          try clear hfz40_1
          try clear hfz40_2
          try clear hfz44_0
          try clear hfz44_1
          try clear hfz44_2
          try clear hfz46_0
          try clear hfz46_1
          try clear hfz46_2
          try clear hfz48_0
          try clear hfz48_1
          try clear hfz48_2
          obtain ⟨x10_1, x11_1, rfl, rfl, HA, HK1, HO_6, HO_9, HO_436002, HO_449002, BK435, BK448, HB⟩ := hrel
          cases gk with
          | zero => exact absurd HA.out (by simp [laws_FnCuts.l0])
          | succ k1 =>
            have H := HA.out
            clear HA
            simp only [laws_FnCuts.l0] at H
            by_cases c50 : x11_1 < (t451.length : Int)
            · rw [if_pos c50] at H
              have c50b0 : decide (x11_1 < (t451.length : Int)) = true := decide_eq_true c50
              clear c50
              by_cases c51 : x10_1 = true
              · subst c51
                have H1 : (laws_FnCuts.l0 k1 t433 t436 t447 t451 true (wrap64 (x11_1 + 1)) t442 t443 t444) = some r := by rw [if_pos rfl] at H; exact H
                clear H
                have H := H1
                clear H1
                have H' := Aside0.mk H
                clear H
                obtain ⟨Ao52, co52, eo52⟩ := Kd.R_slice HO_9.out
                subst eo52
                try go_wp2
                have n0_ := Aside0.mk (Kd.R_drew HO_6.out)
                have n1_ := Aside0.mk (Kd.R_drew HO_9.out)
                have n2_ := Aside0.mk (Kd.R_drew HO_436002.out)
                have n3_ := Aside0.mk (Kd.R_drew HO_449002.out)
                have n4_ := Aside0.mk (blk_drew BK435.out)
                have n5_ := Aside0.mk (blk_drew BK448.out)
                have n6_ := Aside0.mk (below_drew1 HB.out)
                clear HO_6
                clear HO_9
                clear HO_436002
                clear HO_449002
                clear BK435
                clear BK448
                clear HB
                have HO_6 := n0_
                have HO_9 := n1_
                have HO_436002 := n2_
                have HO_449002 := n3_
                have BK435 := n4_
                have BK448 := n5_
                have HB := n6_
                clear n0_ n1_ n2_ n3_ n4_ n5_ n6_
                refine start_ (n := 14) (S := fun w' => True) (ds := []) #[false, false, false, false, false, false, false, false, false, false, false, false, false, false] (by kernel_rfl) rfl rfl trivial (fun hHeld => ?_); refine with_tabW laws_FnCuts.tab15 laws_FnCuts.bits15 (fun HT_ HW_ => ?_)
                generalize wr.drew = w53 at HO_6 HO_9 HO_436002 HO_449002 BK435 BK448 HB hHeld ⊢
                refine pure_ (i := 0) (N := some 55) (v := ?_) (a' := ?_) #[true, false, false, false, false, false, false, false, false, false, false, false, false, false] rfl rfl (any_of HT_.out (by kernel_rfl)) (fun _ _ _ h => h) (Or.inl ⟨by rfl, ?_⟩) ?_ ?_
                rotate_left
                · intro w'
                  go_simp
                  with_reducible rfl
                rotate_left
                · simp only [Act.put, List.setIfInBounds_toArray, List.set_cons_zero, List.set_cons_succ, i64_w, i32_w]
                  rfl
                refine pure_ (i := 1) (N := some 56) (v := ?_) (a' := ?_) #[true, true, false, false, false, false, false, false, false, false, false, false, false, false] rfl rfl (any_of HT_.out (by kernel_rfl)) (fun _ _ _ h => h) (Or.inl ⟨by rfl, ?_⟩) ?_ ?_
                rotate_left
                · intro w'
                  go_simp
                  with_reducible rfl
                rotate_left
                · simp only [Act.put, List.setIfInBounds_toArray, List.set_cons_zero, List.set_cons_succ, i64_w, i32_w]
                  rfl
                refine pure_ (i := 2) (N := some 57) (v := undef) (a' := ?_) #[true, true, true, false, false, false, false, false, false, false, false, false, false, false] rfl rfl (any_of HT_.out (by kernel_rfl)) (fun _ _ _ h => h) (Or.inr ⟨by rfl, rfl⟩) ?_ ?_
                rotate_left
                · simp only [Act.put, List.setIfInBounds_toArray, List.set_cons_zero, List.set_cons_succ, i64_w, i32_w]
                  rfl
                refine pure_ (i := 3) (N := some 58) (v := undef) (a' := ?_) #[true, true, true, true, false, false, false, false, false, false, false, false, false, false] rfl rfl (any_of HT_.out (by kernel_rfl)) (fun _ _ _ h => h) (Or.inr ⟨by rfl, rfl⟩) ?_ ?_
                rotate_left
                · simp only [Act.put, List.setIfInBounds_toArray, List.set_cons_zero, List.set_cons_succ, i64_w, i32_w]
                  rfl
                refine pure_ (i := 4) (N := some 59) (v := undef) (a' := ?_) #[true, true, true, true, true, false, false, false, false, false, false, false, false, false] rfl rfl (any_of HT_.out (by kernel_rfl)) (fun _ _ _ h => h) (Or.inr ⟨by rfl, rfl⟩) ?_ ?_
                rotate_left
                · simp only [Act.put, List.setIfInBounds_toArray, List.set_cons_zero, List.set_cons_succ, i64_w, i32_w]
                  rfl
                refine pure_ (i := 5) (N := some 60) (v := undef) (a' := ?_) #[true, true, true, true, true, true, false, false, false, false, false, false, false, false] rfl rfl (any_of HT_.out (by kernel_rfl)) (fun _ _ _ h => h) (Or.inr ⟨by rfl, rfl⟩) ?_ ?_
                rotate_left
                · simp only [Act.put, List.setIfInBounds_toArray, List.set_cons_zero, List.set_cons_succ, i64_w, i32_w]
                  rfl
                refine pure_ (i := 6) (N := some 61) (v := undef) (a' := ?_) #[true, true, true, true, true, true, true, false, false, false, false, false, false, false] rfl rfl (any_of HT_.out (by kernel_rfl)) (fun _ _ _ h => h) (Or.inr ⟨by rfl, rfl⟩) ?_ ?_
                rotate_left
                · simp only [Act.put, List.setIfInBounds_toArray, List.set_cons_zero, List.set_cons_succ, i64_w, i32_w]
                  rfl
                refine pure_ (i := 7) (N := some 62) (v := undef) (a' := ?_) #[true, true, true, true, true, true, true, true, false, false, false, false, false, false] rfl rfl (any_of HT_.out (by kernel_rfl)) (fun _ _ _ h => h) (Or.inr ⟨by rfl, rfl⟩) ?_ ?_
                rotate_left
                · simp only [Act.put, List.setIfInBounds_toArray, List.set_cons_zero, List.set_cons_succ, i64_w, i32_w]
                  rfl
                refine pure_ (i := 8) (N := some 63) (v := undef) (a' := ?_) #[true, true, true, true, true, true, true, true, true, false, false, false, false, false] rfl rfl (any_of HT_.out (by kernel_rfl)) (fun _ _ _ h => h) (Or.inr ⟨by rfl, rfl⟩) ?_ ?_
                rotate_left
                · simp only [Act.put, List.setIfInBounds_toArray, List.set_cons_zero, List.set_cons_succ, i64_w, i32_w]
                  rfl
                refine pure_ (i := 9) (N := some 64) (v := undef) (a' := ?_) #[true, true, true, true, true, true, true, true, true, true, false, false, false, false] rfl rfl (any_of HT_.out (by kernel_rfl)) (fun _ _ _ h => h) (Or.inr ⟨by rfl, rfl⟩) ?_ ?_
                rotate_left
                · simp only [Act.put, List.setIfInBounds_toArray, List.set_cons_zero, List.set_cons_succ, i64_w, i32_w]
                  rfl
                refine pure_ (i := 10) (N := some 65) (v := undef) (a' := ?_) #[true, true, true, true, true, true, true, true, true, true, true, false, false, false] rfl rfl (any_of HT_.out (by kernel_rfl)) (fun _ _ _ h => h) (Or.inr ⟨by rfl, rfl⟩) ?_ ?_
                rotate_left
                · simp only [Act.put, List.setIfInBounds_toArray, List.set_cons_zero, List.set_cons_succ, i64_w, i32_w]
                  rfl
                refine pure_ (i := 11) (N := some 66) (v := undef) (a' := ?_) #[true, true, true, true, true, true, true, true, true, true, true, true, false, false] rfl rfl (any_of HT_.out (by kernel_rfl)) (fun _ _ _ h => h) (Or.inr ⟨by rfl, rfl⟩) ?_ ?_
                rotate_left
                · simp only [Act.put, List.setIfInBounds_toArray, List.set_cons_zero, List.set_cons_succ, i64_w, i32_w]
                  rfl
                refine pure_ (i := 12) (N := some 67) (v := ?_) (a' := ?_) #[true, true, true, true, true, true, true, true, true, true, true, true, true, false] rfl rfl (any_of HT_.out (by kernel_rfl)) (fun _ _ _ h => h) (Or.inl ⟨by rfl, ?_⟩) ?_ ?_
                rotate_left
                · intro w'
                  go_simp
                  with_reducible rfl
                rotate_left
                · simp only [Act.put, List.setIfInBounds_toArray, List.set_cons_zero, List.set_cons_succ, i64_w, i32_w]
                  rfl
                refine pure_ (i := 13) (N := some 10) (v := ?_) (a' := ?_) #[true, true, true, true, true, true, true, true, true, true, true, true, true, true] rfl rfl (any_of HT_.out (by kernel_rfl)) (fun _ _ _ h => h) (Or.inl ⟨by rfl, ?_⟩) ?_ ?_
                rotate_left
                · intro w'
                  go_simp
                  with_reducible rfl
                rotate_left
                · simp only [Act.put, List.setIfInBounds_toArray, List.set_cons_zero, List.set_cons_succ, i64_w, i32_w]
                  rfl
                refine done_ (done_of HT_.out (by kernel_rfl)) ?_
                try go_wp2
                go_roundg k1
                case measure => have := HK1.out; omega
                case rel => exact ⟨(true), (wrap64 (x11_1 + 1)), qz5, qz5, H', ⟨by have := HK1.out; omega⟩, ⟨by (with_reducible repeat (first | apply Kd.R_alloc | apply Kd.R_drewN | apply Kd.R_drew)); exact HO_6.out⟩, ⟨by (with_reducible repeat (first | apply Kd.R_alloc | apply Kd.R_drewN | apply Kd.R_drew)); exact HO_9.out⟩, ⟨by (with_reducible repeat (first | apply Kd.R_alloc | apply Kd.R_drewN | apply Kd.R_drew)); exact HO_436002.out⟩, ⟨by (with_reducible repeat (first | apply Kd.R_alloc | apply Kd.R_drewN | apply Kd.R_drew)); exact HO_449002.out⟩, ⟨by (with_reducible repeat (first | refine blk_drewN ?_ _ | refine blk_drew ?_ | refine blk_alloc ?_ _)); exact BK435.out⟩, ⟨by (with_reducible repeat (first | refine blk_drewN ?_ _ | refine blk_drew ?_ | refine blk_alloc ?_ _)); exact BK448.out⟩, ⟨by repeat (first | (with_reducible first | exact HB.out | apply below_alloc | apply pw_below_drewN | apply below_drew1 | refine below_set ?_ GE435.out | refine below_set ?_ GE448.out) | exact HB.out)⟩⟩
              · replace c51 := Bool.eq_false_iff.mpr c51
                subst c51
                have H1 : (if 0 < (t451.length : Int) then (if 0 ≤ x11_1 then ((impl_Steps.f k1 t442 t443 t444 (rd t451 0) (rd t451 x11_1)).bind fun t456 => (laws_FnCuts.l0 k1 t433 t436 t447 t451 (decide (t456 < 0)) (wrap64 (x11_1 + 1)) t442 t443 t444)) else (none)) else (none)) = some r := by rw [if_neg (show ¬ (false = true) by decide)] at H; exact H
                clear H
                have H := H1
                clear H1
                by_cases c54 : 0 < (t451.length : Int)
                · rw [if_pos c54] at H
                  have c54b0 : decide (0 < (t451.length : Int)) = true := decide_eq_true c54
                  have c54b1 : decide (0 < t451.length) = true := decide_eq_true (by omega)
                  clear c54
                  by_cases c55 : 0 ≤ x11_1
                  · rw [if_pos c55] at H
                    have c55b0 : decide (0 ≤ x11_1) = true := decide_eq_true c55
                    clear c55
                    replace H := Option.bind_eq_some_iff.mp H
                    obtain ⟨t456, A560, H⟩ := H
                    replace H : (laws_FnCuts.l0 k1 t433 t436 t447 t451 (decide (t456 < 0)) (wrap64 (x11_1 + 1)) t442 t443 t444) = some r := H
                    have A56 := Aside0.mk A560
                    clear A560
                    have H' := Aside0.mk H
                    clear H
                    obtain ⟨Ao57, co57, eo57⟩ := Kd.R_slice HO_9.out
                    subst eo57
                    try go_wp2
                    have n0_ := Aside0.mk (Kd.R_drew HO_6.out)
                    have n1_ := Aside0.mk (Kd.R_drew HO_9.out)
                    have n2_ := Aside0.mk (Kd.R_drew HO_436002.out)
                    have n3_ := Aside0.mk (Kd.R_drew HO_449002.out)
                    have n4_ := Aside0.mk (blk_drew BK435.out)
                    have n5_ := Aside0.mk (blk_drew BK448.out)
                    have n6_ := Aside0.mk (below_drew1 HB.out)
                    clear HO_6
                    clear HO_9
                    clear HO_436002
                    clear HO_449002
                    clear BK435
                    clear BK448
                    clear HB
                    have HO_6 := n0_
                    have HO_9 := n1_
                    have HO_436002 := n2_
                    have HO_449002 := n3_
                    have BK435 := n4_
                    have BK448 := n5_
                    have HB := n6_
                    clear n0_ n1_ n2_ n3_ n4_ n5_ n6_
                    have p454 : 0 ≤ (0 : Int) := (by omega)
                    have q454 : 0 < (t451.length : Int) := of_decide_eq_true qz3
                    obtain ⟨ad454, e454, hx454_0⟩ := Kd.at_int (Kd.R_reads' HO_9.out).2.2 0 p454 q454
                    cases e454
                    have qi454 : (0 < t451.length) = True := eq_true (by omega)
                    (try rw [show ((0 : Int)).toNat = 0 from rfl] at hx454_0)
                    (try rw [Addr.add_zero'] at hx454_0)
                    replace p454 := eq_true p454
                    replace q454 := eq_true q454
                    have p455 : 0 ≤ (x11_1 : Int) := of_decide_eq_true qz3
                    have q455 : x11_1 < (t451.length : Int) := of_decide_eq_true qz3
                    obtain ⟨ad455, e455, hx455_0⟩ := Kd.at_int (Kd.R_reads' HO_9.out).2.2 x11_1 p455 q455
                    obtain rfl : ad454 = ad455 := (by injection e455)
                    replace p455 := eq_true p455
                    replace q455 := eq_true q455
                    refine start_ (n := 14) (S := fun w' => w'.cell? ⟨gb448, 0, none⟩ = some (.int .i64 t442) ∧ w'.cell? ⟨gb448, 1, none⟩ = some (.int .i64 t443) ∧ w'.cell? ⟨gb448, 2, none⟩ = some (.slice Ao45 t444.length co45) ∧ w'.cell? ad454 = some (.int .i64 (rd t451 0)) ∧ w'.cell? (ad454.add (x11_1).toNat) = some (.int .i64 (rd t451 x11_1))) (ds := []) #[false, false, false, false, false, false, false, false, false, false, false, false, false, false] (by kernel_rfl) rfl rfl ⟨(blk_cell BK448.out 0).trans rfl, (blk_cell BK448.out 1).trans rfl, (blk_cell BK448.out 2).trans rfl, hx454_0, hx455_0⟩ (fun hHeld => ?_); refine with_tabW laws_FnCuts.tab15 laws_FnCuts.bits15 (fun HT_ HW_ => ?_)
                    generalize wr.drew = w58 at HO_6 HO_9 HO_436002 HO_449002 BK435 BK448 HB hx454_0 hx455_0 hHeld ⊢
                    refine pure_ (i := 0) (N := some 55) (v := ?_) (a' := ?_) #[true, false, false, false, false, false, false, false, false, false, false, false, false, false] rfl rfl (any_of HT_.out (by kernel_rfl)) (fun _ _ _ h => h) (Or.inl ⟨by rfl, ?_⟩) ?_ ?_
                    rotate_left
                    · intro w'
                      go_simp
                      with_reducible rfl
                    rotate_left
                    · simp only [Act.put, List.setIfInBounds_toArray, List.set_cons_zero, List.set_cons_succ, i64_w, i32_w]
                      rfl
                    refine pure_ (i := 1) (N := some 56) (v := ?_) (a' := ?_) #[true, true, false, false, false, false, false, false, false, false, false, false, false, false] rfl rfl (any_of HT_.out (by kernel_rfl)) (fun _ _ _ h => h) (Or.inl ⟨by rfl, ?_⟩) ?_ ?_
                    rotate_left
                    · intro w'
                      go_simp
                      with_reducible rfl
                    rotate_left
                    · simp only [Act.put, List.setIfInBounds_toArray, List.set_cons_zero, List.set_cons_succ, i64_w, i32_w]
                      rfl
                    refine pure_ (i := 3) (N := some 58) (v := ?_) (a' := ?_) #[true, true, false, true, false, false, false, false, false, false, false, false, false, false] rfl rfl (any_of HT_.out (by kernel_rfl)) (fun _ _ _ h => h) (Or.inl ⟨by rfl, ?_⟩) ?_ ?_
                    rotate_left
                    · intro w'
                      go_simp
                      with_reducible rfl
                    rotate_left
                    · simp only [Act.put, List.setIfInBounds_toArray, List.set_cons_zero, List.set_cons_succ, i64_w, i32_w]
                      rfl
                    refine pure_ (i := 4) (N := some 59) (v := ?_) (a' := ?_) #[true, true, false, true, true, false, false, false, false, false, false, false, false, false] rfl rfl (any_of HT_.out (by kernel_rfl)) (fun _ _ _ h => h) (Or.inl ⟨by rfl, ?_⟩) ?_ ?_
                    rotate_left
                    · intro w'
                      go_simp
                      with_reducible rfl
                    rotate_left
                    · simp only [Act.put, List.setIfInBounds_toArray, List.set_cons_zero, List.set_cons_succ, i64_w, i32_w]
                      rfl
                    refine pure_ (i := 6) (N := some 61) (v := ?_) (a' := ?_) #[true, true, false, true, true, false, true, false, false, false, false, false, false, false] rfl rfl (any_of HT_.out (by kernel_rfl)) (fun _ _ _ h => h) (Or.inl ⟨by rfl, ?_⟩) ?_ ?_
                    rotate_left
                    · intro w'
                      go_simp
                      with_reducible rfl
                    rotate_left
                    · simp only [Act.put, List.setIfInBounds_toArray, List.set_cons_zero, List.set_cons_succ, i64_w, i32_w]
                      rfl
                    refine pure_ (i := 7) (N := some 62) (v := ?_) (a' := ?_) #[true, true, false, true, true, false, true, true, false, false, false, false, false, false] rfl rfl (any_of HT_.out (by kernel_rfl)) (fun _ _ _ h => h) (Or.inl ⟨by rfl, ?_⟩) ?_ ?_
                    rotate_left
                    · intro w'
                      go_simp
                      with_reducible rfl
                    rotate_left
                    · simp only [Act.put, List.setIfInBounds_toArray, List.set_cons_zero, List.set_cons_succ, i64_w, i32_w]
                      rfl
                    refine pure_ (i := 8) (N := some 63) (v := ?_) (a' := ?_) #[true, true, false, true, true, false, true, true, true, false, false, false, false, false] rfl rfl (any_of HT_.out (by kernel_rfl)) (fun _ _ _ h => h) (Or.inl ⟨by rfl, ?_⟩) ?_ ?_
                    rotate_left
                    · intro w'
                      go_simp
                      with_reducible rfl
                    rotate_left
                    · simp only [Act.put, List.setIfInBounds_toArray, List.set_cons_zero, List.set_cons_succ, i64_w, i32_w]
                      rfl
                    refine take_ (i := 2) (N := some 57) (v := ?_) (a' := ?_) #[true, true, true, true, true, false, true, true, true, false, false, false, false, false] rfl rfl (take_ofW HT_.out HW_.out (by kernel_rfl)) (fun _ _ _ h => h) (Or.inl ⟨by rfl, ?_⟩) hHeld ?_ ?_
                    rotate_left
                    · rintro w' ⟨s0, s1, s2, s3, s4⟩
                      go_simp
                      with_reducible rfl
                    rotate_left
                    · simp only [Act.put, List.setIfInBounds_toArray, List.set_cons_zero, List.set_cons_succ, i64_w, i32_w]
                      rfl
                    refine take_ (i := 5) (N := some 60) (v := ?_) (a' := ?_) #[true, true, true, true, true, true, true, true, true, false, false, false, false, false] rfl rfl (take_ofW HT_.out HW_.out (by kernel_rfl)) (fun _ _ _ h => h) (Or.inl ⟨by rfl, ?_⟩) hHeld ?_ ?_
                    rotate_left
                    · rintro w' ⟨s0, s1, s2, s3, s4⟩
                      go_simp
                      with_reducible rfl
                    rotate_left
                    · simp only [Act.put, List.setIfInBounds_toArray, List.set_cons_zero, List.set_cons_succ, i64_w, i32_w]
                      rfl
                    refine take_ (i := 9) (N := some 64) (v := ?_) (a' := ?_) #[true, true, true, true, true, true, true, true, true, true, false, false, false, false] rfl rfl (take_ofW HT_.out HW_.out (by kernel_rfl)) (fun _ _ _ h => h) (Or.inl ⟨by rfl, ?_⟩) hHeld ?_ ?_
                    rotate_left
                    · rintro w' ⟨s0, s1, s2, s3, s4⟩
                      go_simp
                      with_reducible rfl
                    rotate_left
                    · simp only [Act.put, List.setIfInBounds_toArray, List.set_cons_zero, List.set_cons_succ, i64_w, i32_w]
                      rfl
                    refine one_ (i := 10) (N := some 65) #[true, true, true, true, true, true, true, true, true, true, true, false, false, false] rfl rfl (one_of HT_.out (by kernel_rfl)) (by decide) (fun K hK => ?_)
                    refine goes_ Try.func34 (by kernel_rfl) rfl #[.agg #[.int .i64 t442, .int .i64 t443, .slice Ao45 t444.length co45], .int .i64 (rd t451 0), .int .i64 (rd t451 x11_1)] (by rfl) rfl rfl qz2 ?_
                    with_reducible refine (impl_Steps.calls k1 t442 t443 _ _ t444 (rd t451 0) (rd t451 x11_1) t456 _ ?side1 ?side2 A56.out).mono ?_
                    (case side1 => repeat (first | exact (Kd.R_reads' HO_449002.out).2.2 | (with_reducible refine Kd.C_alloc ?_ _) | (with_reducible refine Kd.C_drewN ?_ _) | (with_reducible refine Kd.C_drew ?_)))
                    (case side2 => exact (Kd.R_reads' HO_449002.out).2.1)
                    rintro e w59 ⟨rfl, hb⟩
                    have HS3_ := (hb.cell (World.block_lt_of_cell? _ _ (hHeld.2.2.2.1))).trans (hHeld.2.2.2.1)
                    have HS4_ := (hb.cell (World.block_lt_of_cell? _ _ (hHeld.2.2.2.2))).trans (hHeld.2.2.2.2)
                    refine ⟨_, rfl, ?_⟩
                    have n0_ := Aside0.mk (Kd.R_below (by (with_reducible repeat (first | apply Kd.R_alloc | apply Kd.R_drewN | apply Kd.R_drew)); exact HO_6.out) hb)
                    have n1_ := Aside0.mk (Kd.R_below (by (with_reducible repeat (first | apply Kd.R_alloc | apply Kd.R_drewN | apply Kd.R_drew)); exact HO_9.out) hb)
                    have n2_ := Aside0.mk (Kd.R_below (by (with_reducible repeat (first | apply Kd.R_alloc | apply Kd.R_drewN | apply Kd.R_drew)); exact HO_436002.out) hb)
                    have n3_ := Aside0.mk (Kd.R_below (by (with_reducible repeat (first | apply Kd.R_alloc | apply Kd.R_drewN | apply Kd.R_drew)); exact HO_449002.out) hb)
                    have n4_ := Aside0.mk (blk_below (g := gb435) (o := .cells #[.int .i64 t428, .int .i64 t429, .slice Ao34 t430.length co34] 27 (0, 0)) qz21 hb)
                    have n5_ := Aside0.mk (blk_below (g := gb448) (o := .cells #[.int .i64 t442, .int .i64 t443, .slice Ao45 t444.length co45] 27 (0, 0)) (by (with_reducible repeat (first | refine blk_drewN ?_ _ | refine blk_drew ?_ | refine blk_alloc ?_ _)); exact BK448.out) hb)
                    have n6_ := Aside0.mk (below_step (by repeat (first | (with_reducible first | exact HB.out | apply below_alloc | apply pw_below_drewN | apply below_drew1 | refine below_set ?_ GE435.out | refine below_set ?_ GE448.out) | exact HB.out)) hb)
                    clear HO_6
                    clear HO_9
                    clear HO_436002
                    clear HO_449002
                    clear BK435
                    clear BK448
                    clear HB
                    have HO_6 := n0_
                    have HO_9 := n1_
                    have HO_436002 := n2_
                    have HO_449002 := n3_
                    have BK435 := n4_
                    have BK448 := n5_
                    have HB := n6_
                    clear n0_ n1_ n2_ n3_ n4_ n5_ n6_
                    (try clear hb)
                    (try clear hb2)
                    (try clear hk)
                    (try clear hi)
                    refine hK.out _ _ ⟨(blk_cell BK448.out 0).trans rfl, (blk_cell BK448.out 1).trans rfl, (blk_cell BK448.out 2).trans rfl, HS3_, HS4_⟩ (fun hHeld => ?_)
                    clear hK K
                    refine norm_ (a' := ?_) ?_ ?_
                    rotate_left
                    · show Act.put _ (some 65) _ = _
                      simp only [Act.put, List.setIfInBounds_toArray, List.set_cons_zero, List.set_cons_succ, i64_w, i32_w]
                      rfl
                    refine pure_ (i := 11) (N := some 66) (v := ?_) (a' := ?_) #[true, true, true, true, true, true, true, true, true, true, true, true, false, false] rfl rfl (any_of HT_.out (by kernel_rfl)) (fun _ _ _ h => h) (Or.inl ⟨by rfl, ?_⟩) ?_ ?_
                    rotate_left
                    · intro w'
                      go_simp
                      with_reducible rfl
                    rotate_left
                    · simp only [Act.put, List.setIfInBounds_toArray, List.set_cons_zero, List.set_cons_succ, i64_w, i32_w]
                      rfl
                    refine pure_ (i := 12) (N := some 67) (v := ?_) (a' := ?_) #[true, true, true, true, true, true, true, true, true, true, true, true, true, false] rfl rfl (any_of HT_.out (by kernel_rfl)) (fun _ _ _ h => h) (Or.inl ⟨by rfl, ?_⟩) ?_ ?_
                    rotate_left
                    · intro w'
                      go_simp
                      with_reducible rfl
                    rotate_left
                    · simp only [Act.put, List.setIfInBounds_toArray, List.set_cons_zero, List.set_cons_succ, i64_w, i32_w]
                      rfl
                    refine pure_ (i := 13) (N := some 10) (v := ?_) (a' := ?_) #[true, true, true, true, true, true, true, true, true, true, true, true, true, true] rfl rfl (any_of HT_.out (by kernel_rfl)) (fun _ _ _ h => h) (Or.inl ⟨by rfl, ?_⟩) ?_ ?_
                    rotate_left
                    · intro w'
                      go_simp
                      with_reducible rfl
                    rotate_left
                    · simp only [Act.put, List.setIfInBounds_toArray, List.set_cons_zero, List.set_cons_succ, i64_w, i32_w]
                      rfl
                    refine done_ (done_of HT_.out (by kernel_rfl)) ?_
                    try go_wp2
                    go_roundg k1
                    case measure => have := HK1.out; omega
                    case rel => exact ⟨(decide (t456 < 0)), (wrap64 (x11_1 + 1)), qz5, qz5, H', ⟨by have := HK1.out; omega⟩, ⟨by (with_reducible repeat (first | apply Kd.R_alloc | apply Kd.R_drewN | apply Kd.R_drew)); exact HO_6.out⟩, ⟨by (with_reducible repeat (first | apply Kd.R_alloc | apply Kd.R_drewN | apply Kd.R_drew)); exact HO_9.out⟩, ⟨by (with_reducible repeat (first | apply Kd.R_alloc | apply Kd.R_drewN | apply Kd.R_drew)); exact HO_436002.out⟩, ⟨by (with_reducible repeat (first | apply Kd.R_alloc | apply Kd.R_drewN | apply Kd.R_drew)); exact HO_449002.out⟩, ⟨by (with_reducible repeat (first | refine blk_drewN ?_ _ | refine blk_drew ?_ | refine blk_alloc ?_ _)); exact BK435.out⟩, ⟨by (with_reducible repeat (first | refine blk_drewN ?_ _ | refine blk_drew ?_ | refine blk_alloc ?_ _)); exact BK448.out⟩, ⟨by repeat (first | (with_reducible first | exact HB.out | apply below_alloc | apply pw_below_drewN | apply below_drew1 | refine below_set ?_ GE435.out | refine below_set ?_ GE448.out) | exact HB.out)⟩⟩
                  · rw [if_neg c55] at H
                    exact absurd H (by simp)
                · rw [if_neg c54] at H
                  exact absurd H (by simp)
            · rw [if_neg c50] at H
              have c50b0 : decide (x11_1 < (t451.length : Int)) = false := decide_eq_false c50
              clear c50
              by_cases c60 : t447 = true
              · subst c60
                have H1 : ((impl_KindAt.f k1 t442 t443 t444 t433).bind fun t457 => (if t457 = 0 then ((laws_among.f k1 t436 t433).bind fun t458 => (some (t458 == x10_1))) else (some false))) = some r := by rw [if_pos rfl] at H; exact H
                clear H
                have H := H1
                clear H1
                replace H := Option.bind_eq_some_iff.mp H
                obtain ⟨t457, A610, H⟩ := H
                replace H : (if t457 = 0 then ((laws_among.f k1 t436 t433).bind fun t458 => (some (t458 == x10_1))) else (some false)) = some r := H
                have A61 := Aside0.mk A610
                clear A610
                by_cases c62 : t457 = 0
                · rw [if_pos c62] at H
                  have c62b0 : (t457 == 0) = true := beq_iff_eq.mpr c62
                  have c62b1 : (t457 != 0) = false := bne_eq_false_iff_eq.mpr c62
                  clear c62
                  replace H := Option.bind_eq_some_iff.mp H
                  obtain ⟨t458, A630, H⟩ := H
                  replace H : (some (t458 == x10_1)) = some r := H
                  have A63 := Aside0.mk A630
                  clear A630
                  obtain rfl := Option.some.inj H
                  simp only [Option.some.injEq, Prod.mk.injEq] at H
                  obtain ⟨rfl⟩ := H
                  obtain ⟨Ao64, co64, eo64⟩ := Kd.R_slice HO_9.out
                  subst eo64
                  have hnb65 := NB448_435.out
                  have hnc65 := NB435_448.out
                  have hcz66_0 : wr.cell? ⟨gb448, 0, none⟩ = some (.int .i64 t442) := (blk_cell BK448.out 0).trans rfl
                  have hcz66_1 : wr.cell? ⟨gb448, 1, none⟩ = some (.int .i64 t443) := (blk_cell BK448.out 1).trans rfl
                  have hcz66_2 : wr.cell? ⟨gb448, 2, none⟩ = some (.slice Ao45 t444.length co45) := (blk_cell BK448.out 2).trans rfl
                  have hfz66_0 := blk_frozen BK448.out 0
                  have hfz66_1 := blk_frozen BK448.out 1
                  have hfz66_2 := blk_frozen BK448.out 2
                  go_wp2_with (first | (go_at_call 35; (with_reducible refine (impl_KindAt.calls k1 t442 t443 _ _ t444 t433 t457 _ ?side1 ?side2 A61.out).mono ?_); (case side1 => repeat (first | exact (Kd.R_reads' HO_449002.out).2.2 | (with_reducible refine Kd.C_alloc ?_ _) | (with_reducible refine Kd.C_drewN ?_ _) | (with_reducible refine Kd.C_drew ?_))); (case side2 => exact (Kd.R_reads' HO_449002.out).2.1); rintro e w67 ⟨rfl, hb⟩; have n0_ := Aside0.mk (Kd.R_below (by (with_reducible repeat (first | apply Kd.R_alloc | apply Kd.R_drewN | apply Kd.R_drew)); exact HO_6.out) hb); have n1_ := Aside0.mk (Kd.R_below (by (with_reducible repeat (first | apply Kd.R_alloc | apply Kd.R_drewN | apply Kd.R_drew)); exact HO_9.out) hb); have n2_ := Aside0.mk (Kd.R_below (by (with_reducible repeat (first | apply Kd.R_alloc | apply Kd.R_drewN | apply Kd.R_drew)); exact HO_436002.out) hb); have n3_ := Aside0.mk (Kd.R_below (by (with_reducible repeat (first | apply Kd.R_alloc | apply Kd.R_drewN | apply Kd.R_drew)); exact HO_449002.out) hb); have n4_ := Aside0.mk (blk_below (g := gb435) (o := .cells #[.int .i64 t428, .int .i64 t429, .slice Ao34 t430.length co34] 27 (0, 0)) qz21 hb); have n5_ := Aside0.mk (blk_below (g := gb448) (o := .cells #[.int .i64 t442, .int .i64 t443, .slice Ao45 t444.length co45] 27 (0, 0)) (by (with_reducible repeat (first | refine blk_drewN ?_ _ | refine blk_drew ?_ | refine blk_alloc ?_ _)); exact BK448.out) hb); have n6_ := Aside0.mk (below_step (by repeat (first | (with_reducible first | exact HB.out | apply below_alloc | apply pw_below_drewN | apply below_drew1 | refine below_set ?_ GE435.out | refine below_set ?_ GE448.out) | exact HB.out)) hb); clear HO_6; clear HO_9; clear HO_436002; clear HO_449002; clear BK435; clear BK448; clear HB; have HO_6 := n0_; have HO_9 := n1_; have HO_436002 := n2_; have HO_449002 := n3_; have BK435 := n4_; have BK448 := n5_; have HB := n6_; clear n0_ n1_ n2_ n3_ n4_ n5_ n6_; (try clear hb); (try clear hb2); (try clear hk); (try clear hi)) | (go_at_call 50; (with_reducible refine (laws_among.calls k1 _ _ t436 t433 t458 _ ?side1 ?side2 A63.out).mono ?_); (case side1 => repeat (first | exact (Kd.R_reads' HO_6.out).2.2 | (with_reducible refine Kd.C_alloc ?_ _) | (with_reducible refine Kd.C_drewN ?_ _) | (with_reducible refine Kd.C_drew ?_))); (case side2 => exact (Kd.R_reads' HO_6.out).2.1); rintro e w' ⟨rfl, ⟨nd, rfl⟩⟩))
                  go_ret
                  exact ⟨by first | rfl | (simp [errW_none, errW_some] <;> rfl) | (simp [*, errW_none, errW_some] <;> rfl), by repeat (first | (with_reducible first | exact HB.out | apply below_alloc | apply pw_below_drewN | apply below_drew1 | refine below_set ?_ GE435.out | refine below_set ?_ GE448.out) | exact HB.out)⟩
                · rw [if_neg c62] at H
                  have c62b0 : (t457 == 0) = false := beq_eq_false_iff_ne.mpr c62
                  have c62b1 : (t457 != 0) = true := bne_iff_ne.mpr c62
                  obtain rfl := Option.some.inj H
                  exact absurd HTR_.out (by decide)
              · replace c60 := Bool.eq_false_iff.mpr c60
                subst c60
                have H1 : (some false) = some r := by rw [if_neg (show ¬ (false = true) by decide)] at H; exact H
                clear H
                have H := H1
                clear H1
                obtain rfl := Option.some.inj H
                exact absurd HTR_.out (by decide)
    · rw [if_neg c7] at H
      have c7b0 : ((t436.length : Int) == (t439.length : Int)) = false := beq_eq_false_iff_ne.mpr c7
      have c7b1 : ((t436.length : Int) != (t439.length : Int)) = true := bne_iff_ne.mpr c7
      have c7b2 : (t436.length == t439.length) = false := by first | simpa using c7 | (simp at c7 ⊢; omega)
      obtain rfl := Option.some.inj H
      exact absurd HTR_.out (by decide)

/-- THE ONE PURE STATEMENT of laws_FnCuts: yours. -/
def laws_FnCuts.Pure : Prop := ∀ (l0 : List Int), l0.length ≤ maxLen → l0.length * 1 ≤ 140737488351232 → (∀ x ∈ l0, (Lit.int .u8 x).wf = true) → ∃ k, laws_FnCuts.f k l0 = some true
theorem laws_FnCuts.walk (P : laws_FnCuts.Pure) (a0 : Option Addr) (len0 cap0 : Nat) (z0 : List Int) (w : World) (w0 : (a0 = none ∧ len0 = 0 ∧ cap0 = 0 ∧ z0 = []) ∨ ∃ x, a0 = some x ∧ len0 ≤ cap0 ∧ cap0 ≤ maxLen ∧ z0.length = cap0 ∧ (∀ i, i < z0.length → w.cell? (x.add i) = some (.int .u8 (z0.getD i 0))) ∧ ∀ n ∈ z0, (Lit.int .u8 n).wf = true) (y0 : len0 * 1 ≤ 140737488351232) :
    Calls Try.prog 9 #[.slice a0 len0 cap0] w fun e w' => e = .returned (.bool true) ∧ Below w.heap.size w w' := by
  obtain ⟨l0, rfl, hr0, hm0, hw0, hc0⟩ := ReadsInt.ofRowC w0
  obtain ⟨k, h⟩ := P l0 hm0 y0 hw0
  refine (laws_FnCuts.calls k _ _ l0 true w (Kd.C_of_reads (d := (0 : Int)) (h1 := fun _ => rfl) hr0) hc0 rfl h).mono ?_
  rintro e w' ⟨rfl, hd⟩
  exact ⟨rfl, hd⟩

end Go.Proofs.Ytdlkmjilakaklaa.PFnCuts
