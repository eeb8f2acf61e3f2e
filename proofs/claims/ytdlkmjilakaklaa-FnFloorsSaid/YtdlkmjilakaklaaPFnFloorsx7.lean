-- Made by a program of this session out of the translation. Lean checks it.
import Derived.Test.YtdlkmjilakaklaaPFnFloorsx0
import Derived.Test.YtdlkmjilakaklaaPFnFloorsx1
import Derived.Test.YtdlkmjilakaklaaPFnFloorsx3
import Derived.Test.YtdlkmjilakaklaaPFnFloorsx4
import Derived.Test.YtdlkmjilakaklaaPFnFloorsx5
import Derived.Test.YtdlkmjilakaklaaPFnFloorsx6
namespace Go.Proofs.Ytdlkmjilakaklaa.PFnFloors
open Go.RowKit Go.Proofs.YtdlkmjilakaklaaW.PrintWords Go.Proofs.YtdlkmjilakaklaaW.PrintLast Go.Proofs.YtdlkmjilakaklaaW.PrintMore
attribute [local go_sem] max2_int min2_int max_two min_two max_three min_three max_four min_four   -- for this text's walks alone
set_option linter.unusedVariables false
set_option linter.unusedSimpArgs false

/-! ### laws_FnFloors: function 5 -/
mutual
def laws_FnFloors.j0 : Nat → ByteArray → Bool → Int → Int → List Int → Option (Bool)
  | 0, _, _, _, _, _ => none
  | k + 1, x6, x50, x283000, x283001, x283002 => if x50 = true then (some false) else (laws_FnFloors.l0 k x6 0 x283000 x283001 x283002 x283000 x283001 x283002)
def laws_FnFloors.l0 : Nat → ByteArray → Int → Int → Int → List Int → Int → Int → List Int → Option (Bool)
  | 0, _, _, _, _, _, _, _, _ => none
  | k + 1, x6, x10, x283000, x283001, x283002, x294000, x294001, x294002 => if x10 < 4 then ((impl_Turned.f k x294000 x294001 x294002).bind fun bt295 => (laws_FnFloors.l1 k x6 x10 0 x283000 x283001 x283002 bt295.1 bt295.2.1 bt295.2.2)) else ((impl_FloorText.f k x294000 x294001 x294002).bind fun t294 => (some (t294.toList == x6.toList)))
def laws_FnFloors.l1 : Nat → ByteArray → Int → Int → Int → Int → List Int → Int → Int → List Int → Option (Bool)
  | 0, _, _, _, _, _, _, _, _, _ => none
  | k + 1, x6, x10, x11, x283000, x283001, x283002, x294000, x294001, x294002 => if x11 < 5 then ((impl_CellsOf.f k x294000 x294001 x294002 x11).bind fun t300 => ((impl_CellsOf.f k x283000 x283001 x283002 x11).bind fun t303 => (if (t300.length : Int) = (t303.length : Int) then (laws_FnFloors.l1 k x6 x10 (wrap64 (x11 + 1)) x283000 x283001 x283002 x294000 x294001 x294002) else (some false)))) else (laws_FnFloors.l0 k x6 (wrap64 (x10 + 1)) x283000 x283001 x283002 x294000 x294001 x294002)
end
def laws_FnFloors.f (k : Nat) (l0 : List Int) : Option (Bool) := (laws_big.f l0).bind fun t274 => (if t274 = true then (some true) else ((spec_DrawFloor.f k l0).bind fun bt275 => ((impl_FloorText.f k bt275.1 bt275.2.1 bt275.2.2.1).bind fun t283 => ((impl_ParseFloor.f k t283).bind fun bt284 => (if bt284.2.2.2 = (-1) then ((impl_FloorOk.f k bt275.1 bt275.2.1 bt275.2.2.1).bind fun t291 => (if t291 = true then ((impl_FloorText.f k bt284.1 bt284.2.1 bt284.2.2.1).bind fun t292 => (if t292.toList = t283.toList then (laws_FnFloors.j0 k t283 ((t283.size : Int) != (wrap64 ((wrap64 (bt275.1 + 1)) * bt275.2.1))) bt275.1 bt275.2.1 bt275.2.2.1) else (laws_FnFloors.j0 k t283 true bt275.1 bt275.2.1 bt275.2.2.1))) else (laws_FnFloors.j0 k t283 true bt275.1 bt275.2.1 bt275.2.2.1))) else (laws_FnFloors.j0 k t283 true bt275.1 bt275.2.1 bt275.2.2.1))))))
theorem laws_FnFloors.mono_l : ∀ k, (∀ y0 y1 y2 y3 y4, LeO (laws_FnFloors.j0 k y0 y1 y2 y3 y4) (laws_FnFloors.j0 (k + 1) y0 y1 y2 y3 y4)) ∧ (∀ y0 y1 y2 y3 y4 y5 y6 y7, LeO (laws_FnFloors.l0 k y0 y1 y2 y3 y4 y5 y6 y7) (laws_FnFloors.l0 (k + 1) y0 y1 y2 y3 y4 y5 y6 y7)) ∧ (∀ y0 y1 y2 y3 y4 y5 y6 y7 y8, LeO (laws_FnFloors.l1 k y0 y1 y2 y3 y4 y5 y6 y7 y8) (laws_FnFloors.l1 (k + 1) y0 y1 y2 y3 y4 y5 y6 y7 y8))
  | 0 => ⟨fun _ _ _ _ _ r h => by simp [laws_FnFloors.j0] at h, fun _ _ _ _ _ _ _ _ r h => by simp [laws_FnFloors.l0] at h, fun _ _ _ _ _ _ _ _ _ r h => by simp [laws_FnFloors.l1] at h⟩
  | k + 1 => by
    obtain ⟨ih0, ih1, ih2⟩ := laws_FnFloors.mono_l k
    refine ⟨?_, ?_, ?_⟩
    {
    intro y0 y1 y2 y3 y4
    unfold laws_FnFloors.j0
    repeat' first
    | (with_reducible exact ih0 _ _ _ _ _)
    | (with_reducible exact ih1 _ _ _ _ _ _ _ _)
    | (with_reducible exact ih2 _ _ _ _ _ _ _ _ _)
    | (with_reducible exact impl_CellsOf.mono _ _ _ _ _)
    | (with_reducible exact impl_FloorOk.mono _ _ _ _)
    | (with_reducible exact impl_FloorText.mono _ _ _ _)
    | (with_reducible exact impl_ParseFloor.mono _ _)
    | (with_reducible exact impl_Turned.mono _ _ _ _)
    | (with_reducible exact spec_DrawFloor.mono _ _)
    | (with_reducible exact LeO.refl _)
    | (with_reducible exact LeO.none _)
    | (with_reducible refine LeO.ite ?_ ?_)
    | (with_reducible refine LeO.bind ?_ (fun _ => ?_))
    | exact ih0 _ _ _ _ _
    | exact ih1 _ _ _ _ _ _ _ _
    | exact ih2 _ _ _ _ _ _ _ _ _
    | exact impl_CellsOf.mono _ _ _ _ _
    | exact impl_FloorOk.mono _ _ _ _
    | exact impl_FloorText.mono _ _ _ _
    | exact impl_ParseFloor.mono _ _
    | exact impl_Turned.mono _ _ _ _
    | exact spec_DrawFloor.mono _ _
    | exact LeO.none _
    | refine LeO.ite ?_ ?_
    | refine LeO.bind ?_ (fun _ => ?_)
    }
    {
    intro y0 y1 y2 y3 y4 y5 y6 y7
    unfold laws_FnFloors.l0
    repeat' first
    | (with_reducible exact ih0 _ _ _ _ _)
    | (with_reducible exact ih1 _ _ _ _ _ _ _ _)
    | (with_reducible exact ih2 _ _ _ _ _ _ _ _ _)
    | (with_reducible exact impl_CellsOf.mono _ _ _ _ _)
    | (with_reducible exact impl_FloorOk.mono _ _ _ _)
    | (with_reducible exact impl_FloorText.mono _ _ _ _)
    | (with_reducible exact impl_ParseFloor.mono _ _)
    | (with_reducible exact impl_Turned.mono _ _ _ _)
    | (with_reducible exact spec_DrawFloor.mono _ _)
    | (with_reducible exact LeO.refl _)
    | (with_reducible exact LeO.none _)
    | (with_reducible refine LeO.ite ?_ ?_)
    | (with_reducible refine LeO.bind ?_ (fun _ => ?_))
    | exact ih0 _ _ _ _ _
    | exact ih1 _ _ _ _ _ _ _ _
    | exact ih2 _ _ _ _ _ _ _ _ _
    | exact impl_CellsOf.mono _ _ _ _ _
    | exact impl_FloorOk.mono _ _ _ _
    | exact impl_FloorText.mono _ _ _ _
    | exact impl_ParseFloor.mono _ _
    | exact impl_Turned.mono _ _ _ _
    | exact spec_DrawFloor.mono _ _
    | exact LeO.none _
    | refine LeO.ite ?_ ?_
    | refine LeO.bind ?_ (fun _ => ?_)
    }
    {
    intro y0 y1 y2 y3 y4 y5 y6 y7 y8
    unfold laws_FnFloors.l1
    repeat' first
    | (with_reducible exact ih0 _ _ _ _ _)
    | (with_reducible exact ih1 _ _ _ _ _ _ _ _)
    | (with_reducible exact ih2 _ _ _ _ _ _ _ _ _)
    | (with_reducible exact impl_CellsOf.mono _ _ _ _ _)
    | (with_reducible exact impl_FloorOk.mono _ _ _ _)
    | (with_reducible exact impl_FloorText.mono _ _ _ _)
    | (with_reducible exact impl_ParseFloor.mono _ _)
    | (with_reducible exact impl_Turned.mono _ _ _ _)
    | (with_reducible exact spec_DrawFloor.mono _ _)
    | (with_reducible exact LeO.refl _)
    | (with_reducible exact LeO.none _)
    | (with_reducible refine LeO.ite ?_ ?_)
    | (with_reducible refine LeO.bind ?_ (fun _ => ?_))
    | exact ih0 _ _ _ _ _
    | exact ih1 _ _ _ _ _ _ _ _
    | exact ih2 _ _ _ _ _ _ _ _ _
    | exact impl_CellsOf.mono _ _ _ _ _
    | exact impl_FloorOk.mono _ _ _ _
    | exact impl_FloorText.mono _ _ _ _
    | exact impl_ParseFloor.mono _ _
    | exact impl_Turned.mono _ _ _ _
    | exact spec_DrawFloor.mono _ _
    | exact LeO.none _
    | refine LeO.ite ?_ ?_
    | refine LeO.bind ?_ (fun _ => ?_)
    }
theorem laws_FnFloors.mono : ∀ a0 k, LeO (laws_FnFloors.f k a0) (laws_FnFloors.f (k + 1) a0) := by
  intro a0 k
  obtain ⟨ih0, ih1, ih2⟩ := laws_FnFloors.mono_l k
  unfold laws_FnFloors.f
  repeat' first
      | (with_reducible exact ih0 _ _ _ _ _)
      | (with_reducible exact ih1 _ _ _ _ _ _ _ _)
      | (with_reducible exact ih2 _ _ _ _ _ _ _ _ _)
      | (with_reducible exact impl_CellsOf.mono _ _ _ _ _)
      | (with_reducible exact impl_FloorOk.mono _ _ _ _)
      | (with_reducible exact impl_FloorText.mono _ _ _ _)
      | (with_reducible exact impl_ParseFloor.mono _ _)
      | (with_reducible exact impl_Turned.mono _ _ _ _)
      | (with_reducible exact spec_DrawFloor.mono _ _)
      | (with_reducible exact LeO.refl _)
      | (with_reducible exact LeO.none _)
      | (with_reducible refine LeO.ite ?_ ?_)
      | (with_reducible refine LeO.bind ?_ (fun _ => ?_))
      | exact ih0 _ _ _ _ _
      | exact ih1 _ _ _ _ _ _ _ _
      | exact ih2 _ _ _ _ _ _ _ _ _
      | exact impl_CellsOf.mono _ _ _ _ _
      | exact impl_FloorOk.mono _ _ _ _
      | exact impl_FloorText.mono _ _ _ _
      | exact impl_ParseFloor.mono _ _
      | exact impl_Turned.mono _ _ _ _
      | exact spec_DrawFloor.mono _ _
      | exact LeO.none _
      | refine LeO.ite ?_ ?_
      | refine LeO.bind ?_ (fun _ => ?_)
def laws_FnFloors.T16 : Bool × List (List Nat × List Nat) := (true, [([], []), ([], []), ([0, 1], [0, 1]), ([2], [2]), ([], []), ([], []), ([4, 5, 2], [4, 5]), ([6], [6]), ([3, 7], [3, 7])])
def laws_FnFloors.B16 : List Nat := [0, 0, 3, 7, 0, 0, 55, 119, 255]
theorem laws_FnFloors.tab16 : rtab .any (opsOf Try.f5 16) = laws_FnFloors.T16 := by kernel_rfl
theorem laws_FnFloors.bits16 : waitsOk laws_FnFloors.T16.2 laws_FnFloors.B16 = true := by kernel_rfl
set_option maxHeartbeats 8000000 in
set_option maxRecDepth 100000 in
theorem laws_FnFloors.calls (k : Nat) (A0 : Option Addr) (c0 : Nat) (l0 : List Int) (r : Bool) (w : World) (hr0 : Kd.C (Kd.int .u8) w A0 l0.length l0) (hc0 : l0.length ≤ c0) (hT : r = true) (h : laws_FnFloors.f k l0 = some r) :
    Calls Try.prog 5 #[.slice A0 l0.length c0] w fun e w' => e = .returned (.bool r) ∧ Below w.heap.size w w' := by
  have HTR_ := Aside0.mk hT
  clear hT
  have hu27 := Try.underlying27
  have HR0 := Aside0.mk hr0
  have HC0 := Aside0.mk hc0
  clear hr0 hc0
  have HB := Aside0.mk (Below.refl w.heap.size w)
  have H : ((laws_big.f l0).bind fun t274 => (if t274 = true then (some true) else ((spec_DrawFloor.f k l0).bind fun bt275 => ((impl_FloorText.f k bt275.1 bt275.2.1 bt275.2.2.1).bind fun t283 => ((impl_ParseFloor.f k t283).bind fun bt284 => (if bt284.2.2.2 = (-1) then ((impl_FloorOk.f k bt275.1 bt275.2.1 bt275.2.2.1).bind fun t291 => (if t291 = true then ((impl_FloorText.f k bt284.1 bt284.2.1 bt284.2.2.1).bind fun t292 => (if t292.toList = t283.toList then (laws_FnFloors.j0 k t283 ((t283.size : Int) != (wrap64 ((wrap64 (bt275.1 + 1)) * bt275.2.1))) bt275.1 bt275.2.1 bt275.2.2.1) else (laws_FnFloors.j0 k t283 true bt275.1 bt275.2.1 bt275.2.2.1))) else (laws_FnFloors.j0 k t283 true bt275.1 bt275.2.1 bt275.2.2.1))) else (laws_FnFloors.j0 k t283 true bt275.1 bt275.2.1 bt275.2.2.1))))))) = some r := h
  clear h
  replace H := Option.bind_eq_some_iff.mp H
  obtain ⟨t274, A20, H⟩ := H
  replace H : (if t274 = true then (some true) else ((spec_DrawFloor.f k l0).bind fun bt275 => ((impl_FloorText.f k bt275.1 bt275.2.1 bt275.2.2.1).bind fun t283 => ((impl_ParseFloor.f k t283).bind fun bt284 => (if bt284.2.2.2 = (-1) then ((impl_FloorOk.f k bt275.1 bt275.2.1 bt275.2.2.1).bind fun t291 => (if t291 = true then ((impl_FloorText.f k bt284.1 bt284.2.1 bt284.2.2.1).bind fun t292 => (if t292.toList = t283.toList then (laws_FnFloors.j0 k t283 ((t283.size : Int) != (wrap64 ((wrap64 (bt275.1 + 1)) * bt275.2.1))) bt275.1 bt275.2.1 bt275.2.2.1) else (laws_FnFloors.j0 k t283 true bt275.1 bt275.2.1 bt275.2.2.1))) else (laws_FnFloors.j0 k t283 true bt275.1 bt275.2.1 bt275.2.2.1))) else (laws_FnFloors.j0 k t283 true bt275.1 bt275.2.1 bt275.2.2.1)))))) = some r := H
  have A2 := Aside0.mk A20
  clear A20
  by_cases c3 : t274 = true
  {
  subst c3
  have H1 : (some true) = some r := by rw [if_pos rfl] at H; exact H
  clear H
  have H := H1
  clear H1
  obtain rfl := Option.some.inj H
  simp only [Option.some.injEq, Prod.mk.injEq] at H
  obtain ⟨rfl⟩ := H
  go_enter Try.func5, Try.ntmps5
  go_wp2_with (first | ((with_reducible refine gate_callee (f := 26) rfl ?_); refine goesL_ (some 13) rfl rfl Try.func26 (by kernel_rfl) rfl #[.slice A0 l0.length c0] rfl qz2 ?_; (with_reducible refine (laws_big.calls _ _ l0 true _ ?side1 ?side2 A2.out).mono ?_); (case side1 => repeat (first | exact HR0.out | (with_reducible refine Kd.C_alloc ?_ _) | (with_reducible refine Kd.C_drewN ?_ _) | (with_reducible refine Kd.C_drew ?_))); (case side2 => exact HC0.out); rintro e w' ⟨rfl, ⟨nd, rfl⟩⟩; refine ⟨_, rfl, ?_⟩))
  go_ret
  exact ⟨by first | rfl | (simp [errW_none, errW_some] <;> rfl) | (simp [*, errW_none, errW_some] <;> rfl), by repeat (first | (with_reducible first | exact HB.out | apply below_alloc | apply pw_below_drewN | apply below_drew1) | exact HB.out)⟩
  }
  {
  replace c3 := Bool.eq_false_iff.mpr c3
  subst c3
  have H1 : ((spec_DrawFloor.f k l0).bind fun bt275 => ((impl_FloorText.f k bt275.1 bt275.2.1 bt275.2.2.1).bind fun t283 => ((impl_ParseFloor.f k t283).bind fun bt284 => (if bt284.2.2.2 = (-1) then ((impl_FloorOk.f k bt275.1 bt275.2.1 bt275.2.2.1).bind fun t291 => (if t291 = true then ((impl_FloorText.f k bt284.1 bt284.2.1 bt284.2.2.1).bind fun t292 => (if t292.toList = t283.toList then (laws_FnFloors.j0 k t283 ((t283.size : Int) != (wrap64 ((wrap64 (bt275.1 + 1)) * bt275.2.1))) bt275.1 bt275.2.1 bt275.2.2.1) else (laws_FnFloors.j0 k t283 true bt275.1 bt275.2.1 bt275.2.2.1))) else (laws_FnFloors.j0 k t283 true bt275.1 bt275.2.1 bt275.2.2.1))) else (laws_FnFloors.j0 k t283 true bt275.1 bt275.2.1 bt275.2.2.1))))) = some r := by rw [if_neg (show ¬ (false = true) by decide)] at H; exact H
  clear H
  have H := H1
  clear H1
  replace H := Option.bind_eq_some_iff.mp H
  obtain ⟨⟨t275, t276, t277, t280, t281⟩, A40, H⟩ := H
  replace H : ((impl_FloorText.f k t275 t276 t277).bind fun t283 => ((impl_ParseFloor.f k t283).bind fun bt284 => (if bt284.2.2.2 = (-1) then ((impl_FloorOk.f k t275 t276 t277).bind fun t291 => (if t291 = true then ((impl_FloorText.f k bt284.1 bt284.2.1 bt284.2.2.1).bind fun t292 => (if t292.toList = t283.toList then (laws_FnFloors.j0 k t283 ((t283.size : Int) != (wrap64 ((wrap64 (t275 + 1)) * t276))) t275 t276 t277) else (laws_FnFloors.j0 k t283 true t275 t276 t277))) else (laws_FnFloors.j0 k t283 true t275 t276 t277))) else (laws_FnFloors.j0 k t283 true t275 t276 t277)))) = some r := H
  have A4 := Aside0.mk A40
  clear A40
  replace H := Option.bind_eq_some_iff.mp H
  obtain ⟨t283, A50, H⟩ := H
  replace H : ((impl_ParseFloor.f k t283).bind fun bt284 => (if bt284.2.2.2 = (-1) then ((impl_FloorOk.f k t275 t276 t277).bind fun t291 => (if t291 = true then ((impl_FloorText.f k bt284.1 bt284.2.1 bt284.2.2.1).bind fun t292 => (if t292.toList = t283.toList then (laws_FnFloors.j0 k t283 ((t283.size : Int) != (wrap64 ((wrap64 (t275 + 1)) * t276))) t275 t276 t277) else (laws_FnFloors.j0 k t283 true t275 t276 t277))) else (laws_FnFloors.j0 k t283 true t275 t276 t277))) else (laws_FnFloors.j0 k t283 true t275 t276 t277))) = some r := H
  have A5 := Aside0.mk A50
  clear A50
  replace H := Option.bind_eq_some_iff.mp H
  obtain ⟨⟨t284, t285, t286, t289⟩, A60, H⟩ := H
  replace H : (if t289 = (-1) then ((impl_FloorOk.f k t275 t276 t277).bind fun t291 => (if t291 = true then ((impl_FloorText.f k t284 t285 t286).bind fun t292 => (if t292.toList = t283.toList then (laws_FnFloors.j0 k t283 ((t283.size : Int) != (wrap64 ((wrap64 (t275 + 1)) * t276))) t275 t276 t277) else (laws_FnFloors.j0 k t283 true t275 t276 t277))) else (laws_FnFloors.j0 k t283 true t275 t276 t277))) else (laws_FnFloors.j0 k t283 true t275 t276 t277)) = some r := H
  have A6 := Aside0.mk A60
  clear A60
  have HC7 := Aside0.mk H
  clear H
  go_enter Try.func5, Try.ntmps5
  go_upto_region 6 with (first | ((with_reducible refine gate_callee (f := 26) rfl ?_); refine goesL_ (some 13) rfl rfl Try.func26 (by kernel_rfl) rfl #[.slice A0 l0.length c0] rfl qz2 ?_; (with_reducible refine (laws_big.calls _ _ l0 false _ ?side1 ?side2 A2.out).mono ?_); (case side1 => repeat (first | exact HR0.out | (with_reducible refine Kd.C_alloc ?_ _) | (with_reducible refine Kd.C_drewN ?_ _) | (with_reducible refine Kd.C_drew ?_))); (case side2 => exact HC0.out); rintro e w' ⟨rfl, ⟨nd, rfl⟩⟩; refine ⟨_, rfl, ?_⟩) | ((with_reducible refine gate_callee (f := 27) rfl ?_); refine goesL_ (some 16) rfl rfl Try.func27 (by kernel_rfl) rfl #[.slice A0 l0.length c0] rfl qz2 ?_; (with_reducible refine (spec_DrawFloor.calls k _ _ l0 t275 t276 t277 t280 t281 _ ?side1 ?side2 A4.out).mono ?_); (case side1 => repeat (first | exact HR0.out | (with_reducible refine Kd.C_alloc ?_ _) | (with_reducible refine Kd.C_drewN ?_ _) | (with_reducible refine Kd.C_drew ?_))); (case side2 => exact HC0.out); rintro e w8 ⟨v278, rfl, ho0, hb⟩; refine ⟨_, rfl, ?_⟩; have n0_ := Aside0.mk (Kd.R_lower ho0 (below_size qz1)); have n1_ := Aside0.mk (below_step qz1 hb); clear HB; have HO279 := n0_; have HB := n1_; clear n0_ n1_; (try clear hb); (try clear hb2); (try clear hk); (try clear hi); (try clear ho0)) | ((with_reducible refine gate_dst (N := 3) rfl ?_); (try (refine gate_guard (by rfl) ?_; dsimp only)); refine box_event ?hg (N := 3) ?hd (cs := #[.int .i64 0, .int .i64 0, .slice none 0 0]) (t := 27) ?hr ?_; (case hd => rfl); (case hg => rfl); (case hr => first | (go_simp; done) | (go_simp; rfl)); intro gb282 hg w9 hbox hb; have n0_ := Aside0.mk (Kd.R_below (by (with_reducible repeat (first | apply Kd.R_alloc | apply Kd.R_drewN | apply Kd.R_drew)); exact HO279.out) hb); have n1_ := Aside0.mk (below_step qz1 hb); have n2_ := Aside0.mk (hbox); have n3_ := Aside0.mk ((by rw [hg]; exact (below_size qz1) : w.heap.size ≤ gb282)); have n4_ := Aside0.mk ((by rw [hg]; exact (below_size qz1) : w.heap.size ≤ gb282)); clear HO279; clear HB; have HO279 := n0_; have HB := n1_; have BK282 := n2_; have GW282 := n3_; have GE282 := n4_; clear n0_ n1_ n2_ n3_ n4_; clear hb hbox hg; have hcz10_0 : w9.cell? ⟨gb282, 0, none⟩ = some (.int .i64 0) := (blk_cell BK282.out 0).trans rfl; have hcz10_1 : w9.cell? ⟨gb282, 1, none⟩ = some (.int .i64 0) := (blk_cell BK282.out 1).trans rfl; have hcz10_2 : w9.cell? ⟨gb282, 2, none⟩ = some (.slice none 0 0) := (blk_cell BK282.out 2).trans rfl; have hfz10_0 := blk_frozen BK282.out 0; have hfz10_1 := blk_frozen BK282.out 1; have hfz10_2 := blk_frozen BK282.out 2; obtain ⟨Ao11, co11, eo11⟩ := Kd.R_slice HO279.out; subst eo11) | ((with_reducible refine gate_callee (f := 28) rfl ?_); refine goesL_ (some 21) rfl rfl Try.func28 (by kernel_rfl) rfl #[.agg #[.int .i64 t275, .int .i64 t276, .slice Ao11 t277.length co11]] rfl qz2 ?_; (with_reducible refine (impl_FloorText.calls k t275 t276 _ _ t277 t283 _ ?side1 ?side2 A5.out).mono ?_); (case side1 => refine (Kd.R_reads' (e := 3) (base := w.heap.size) (ok := fun k_ => True) (n := t277.length) (c := co11) ?_).2.2; exact (by (with_reducible repeat (first | apply Kd.R_alloc | apply Kd.R_drewN | apply Kd.R_drew)); exact (Kd.R_mono (Kd.R_far (p := ⟨gb282, 2, none⟩) (Kd.R_far (p := ⟨gb282, 1, none⟩) (Kd.R_far (p := ⟨gb282, 0, none⟩) (Kd.R_types HO279.out BK282.out (by decide)) (fun _ hk => hk.2) (.int .i64 t275)) (fun _ hk => hk.2) (.int .i64 t276)) (fun _ hk => hk.2) (.slice Ao11 t277.length co11)) (fun _ h_ => h_.1)))); (case side2 => exact (Kd.R_reads' HO279.out).2.1); rintro e w12 ⟨rfl, hb⟩; refine ⟨_, rfl, ?_⟩; have n0_ := Aside0.mk (Kd.R_below (by (with_reducible repeat (first | apply Kd.R_alloc | apply Kd.R_drewN | apply Kd.R_drew)); exact (Kd.R_mono (Kd.R_far (p := ⟨gb282, 2, none⟩) (Kd.R_far (p := ⟨gb282, 1, none⟩) (Kd.R_far (p := ⟨gb282, 0, none⟩) (Kd.R_types HO279.out BK282.out (by decide)) (fun _ hk => hk.2) (.int .i64 t275)) (fun _ hk => hk.2) (.int .i64 t276)) (fun _ hk => hk.2) (.slice Ao11 t277.length co11)) (fun _ h_ => h_.1))) hb); have n1_ := Aside0.mk (blk_below (g := gb282) (o := .cells #[.int .i64 t275, .int .i64 t276, .slice Ao11 t277.length co11] 27 (0, 0)) (by (with_reducible repeat (first | refine blk_drewN ?_ _ | refine blk_drew ?_ | refine blk_alloc ?_ _)); refine blk_put (cs := #[.int .i64 t275, .int .i64 t276, .slice none 0 0]) ?_ 2 _ rfl; (with_reducible repeat (first | refine blk_drewN ?_ _ | refine blk_drew ?_ | refine blk_alloc ?_ _)); refine blk_put (cs := #[.int .i64 t275, .int .i64 0, .slice none 0 0]) ?_ 1 _ rfl; (with_reducible repeat (first | refine blk_drewN ?_ _ | refine blk_drew ?_ | refine blk_alloc ?_ _)); refine blk_put (cs := #[.int .i64 0, .int .i64 0, .slice none 0 0]) ?_ 0 _ rfl; (with_reducible repeat (first | refine blk_drewN ?_ _ | refine blk_drew ?_ | refine blk_alloc ?_ _)); exact BK282.out) hb); have n2_ := Aside0.mk (below_step (by repeat (first | (with_reducible first | exact HB.out | apply below_alloc | apply pw_below_drewN | apply below_drew1 | refine below_set ?_ GE282.out) | exact HB.out)) hb); clear HO279; clear BK282; clear HB; have HO279 := n0_; have BK282 := n1_; have HB := n2_; clear n0_ n1_ n2_; (try clear hb); (try clear hb2); (try clear hk); (try clear hi)) | ((with_reducible refine gate_callee (f := 29) rfl ?_); refine goesL_ (some 24) rfl rfl Try.func29 (by kernel_rfl) rfl #[.string t283] rfl qz2 ?_; (with_reducible refine (impl_ParseFloor.calls k t283 t284 t285 t286 t289 _ A6.out).mono ?_); rintro e w13 ⟨v287, rfl, ho0, hb⟩; refine ⟨_, rfl, ?_⟩; have n0_ := Aside0.mk (Kd.R_elder' (by (with_reducible repeat (first | apply Kd.R_alloc | apply Kd.R_drewN | apply Kd.R_drew)); exact HO279.out) (Kd.R_base ho0) hb); have n1_ := Aside0.mk (Kd.R_lower (Kd.R_new' ho0 (Kd.R_lt (by (with_reducible repeat (first | apply Kd.R_alloc | apply Kd.R_drewN | apply Kd.R_drew)); exact HO279.out))) (below_size (by repeat (first | (with_reducible first | exact HB.out | apply below_alloc | apply pw_below_drewN | apply below_drew1 | refine below_set ?_ GE282.out) | exact HB.out)))); have n2_ := Aside0.mk (blk_below (g := gb282) (o := .cells #[.int .i64 t275, .int .i64 t276, .slice Ao11 t277.length co11] 27 (0, 0)) qz20 hb); have n3_ := Aside0.mk (below_step (by repeat (first | (with_reducible first | exact HB.out | apply below_alloc | apply pw_below_drewN | apply below_drew1 | refine below_set ?_ GE282.out) | exact HB.out)) hb); clear HO279; clear BK282; clear HB; have HO279 := n0_; have HO288 := n1_; have BK282 := n2_; have HB := n3_; clear n0_ n1_ n2_ n3_; (try clear hb); (try clear hb2); (try clear hk); (try clear hi); (try clear ho0)) | ((with_reducible refine gate_dst (N := 7) rfl ?_); (try (refine gate_guard (by rfl) ?_; dsimp only)); refine box_event ?hg (N := 7) ?hd (cs := #[.int .i64 0, .int .i64 0, .slice none 0 0]) (t := 27) ?hr ?_; (case hd => rfl); (case hg => rfl); (case hr => first | (go_simp; done) | (go_simp; rfl)); intro gb290 hg w14 hbox hb; have n0_ := Aside0.mk (Kd.R_below (by (with_reducible repeat (first | apply Kd.R_alloc | apply Kd.R_drewN | apply Kd.R_drew)); exact HO279.out) hb); have n1_ := Aside0.mk (Kd.R_below (by (with_reducible repeat (first | apply Kd.R_alloc | apply Kd.R_drewN | apply Kd.R_drew)); exact HO288.out) hb); have n2_ := Aside0.mk (blk_below (g := gb282) (o := .cells #[.int .i64 t275, .int .i64 t276, .slice Ao11 t277.length co11] 27 (0, 0)) qz20 hb); have n3_ := Aside0.mk (below_step (by repeat (first | (with_reducible first | exact HB.out | apply below_alloc | apply pw_below_drewN | apply below_drew1 | refine below_set ?_ GE282.out) | exact HB.out)) hb); have n4_ := Aside0.mk (hbox); have n5_ := Aside0.mk ((by rw [hg]; exact (below_size (by repeat (first | (with_reducible first | exact HB.out | apply below_alloc | apply pw_below_drewN | apply below_drew1 | refine below_set ?_ GE282.out) | exact HB.out))) : w.heap.size ≤ gb290)); have n6_ := Aside0.mk ((by rw [hg]; exact (below_size (by repeat (first | (with_reducible first | exact HB.out | apply below_alloc | apply pw_below_drewN | apply below_drew1 | refine below_set ?_ GE282.out) | exact HB.out))) : w.heap.size ≤ gb290)); have n7_ := Aside0.mk ((by rw [hg]; exact Nat.ne_of_lt (blk_lt (g := gb282) (o := .cells #[.int .i64 t275, .int .i64 t276, .slice Ao11 t277.length co11] 27 (0, 0)) qz20) : gb282 ≠ gb290)); have n8_ := Aside0.mk ((by rw [hg]; exact Nat.ne_of_gt (blk_lt (g := gb282) (o := .cells #[.int .i64 t275, .int .i64 t276, .slice Ao11 t277.length co11] 27 (0, 0)) qz20) : gb290 ≠ gb282)); clear HO279; clear HO288; clear BK282; clear HB; have HO279 := n0_; have HO288 := n1_; have BK282 := n2_; have HB := n3_; have BK290 := n4_; have GW290 := n5_; have GE290 := n6_; have NB282_290 := n7_; have NB290_282 := n8_; clear n0_ n1_ n2_ n3_ n4_ n5_ n6_ n7_ n8_; clear hb hbox hg; have hnb15 := NB290_282.out; have hnc15 := NB282_290.out; have hcz16_0 : w14.cell? ⟨gb290, 0, none⟩ = some (.int .i64 0) := (blk_cell BK290.out 0).trans rfl; have hcz16_1 : w14.cell? ⟨gb290, 1, none⟩ = some (.int .i64 0) := (blk_cell BK290.out 1).trans rfl; have hcz16_2 : w14.cell? ⟨gb290, 2, none⟩ = some (.slice none 0 0) := (blk_cell BK290.out 2).trans rfl; have hfz16_0 := blk_frozen BK290.out 0; have hfz16_1 := blk_frozen BK290.out 1; have hfz16_2 := blk_frozen BK290.out 2; obtain ⟨Ao17, co17, eo17⟩ := Kd.R_slice HO288.out; subst eo17))
  (try simp only [Act.put, List.setIfInBounds_toArray, List.set_cons_zero, List.set_cons_succ])
  go_cut [50] (fun v50 wc => ∃ (kq : Nat) (x50_6 : Bool), v50 = .bool x50_6 ∧ Aside0 (laws_FnFloors.j0 kq t283 x50_6 t275 t276 t277 = some r) ∧ Aside0 (kq ≤ k) ∧ Aside0 (Kd.R (Kd.int .i64) 3 wc w.heap.size (fun k_ => some k_ ≠ ((.slice Ao17 t286.length co17) : Value).ownBlock) (.slice Ao11 t277.length co11) t277) ∧ Aside0 (Kd.R (Kd.int .i64) 3 wc w.heap.size (fun k_ => some k_ ≠ ((.slice Ao11 t277.length co11) : Value).ownBlock) (.slice Ao17 t286.length co17) t286) ∧ Aside0 (wc.heap[gb282]? = some (.cells #[.int .i64 t275, .int .i64 t276, (.slice Ao11 t277.length co11)] 27 (0, 0))) ∧ Aside0 (wc.heap[gb290]? = some (.cells #[.int .i64 t284, .int .i64 t285, (.slice Ao17 t286.length co17)] 27 (0, 0))) ∧ Aside0 (Below w.heap.size w wc))
  case first =>
    have H := HC7.out
    clear HC7
    by_cases c18 : t289 = (-1)
    {
    rw [if_pos c18] at H
    have c18b0 : (t289 == (-1)) = true := beq_iff_eq.mpr c18
    have c18b1 : (t289 != (-1)) = false := bne_eq_false_iff_eq.mpr c18
    clear c18
    (first | rw [c18b0] | (simp only [i64_w, i32_w]; rw [c18b0]) | rw [@decide_eq_true _ _ (of_decide_eq_true c18b0)] | rw [@decide_eq_true _ _ (of_decide_eq_true c18b1)] | skip)
    replace H := Option.bind_eq_some_iff.mp H
    obtain ⟨t291, A190, H⟩ := H
    replace H : (if t291 = true then ((impl_FloorText.f k t284 t285 t286).bind fun t292 => (if t292.toList = t283.toList then (laws_FnFloors.j0 k t283 ((t283.size : Int) != (wrap64 ((wrap64 (t275 + 1)) * t276))) t275 t276 t277) else (laws_FnFloors.j0 k t283 true t275 t276 t277))) else (laws_FnFloors.j0 k t283 true t275 t276 t277)) = some r := H
    have A19 := Aside0.mk A190
    clear A190
    by_cases c20 : t291 = true
    {
    subst c20
    have H1 : ((impl_FloorText.f k t284 t285 t286).bind fun t292 => (if t292.toList = t283.toList then (laws_FnFloors.j0 k t283 ((t283.size : Int) != (wrap64 ((wrap64 (t275 + 1)) * t276))) t275 t276 t277) else (laws_FnFloors.j0 k t283 true t275 t276 t277))) = some r := by rw [if_pos rfl] at H; exact H
    clear H
    have H := H1
    clear H1
    replace H := Option.bind_eq_some_iff.mp H
    obtain ⟨t292, A210, H⟩ := H
    replace H : (if t292.toList = t283.toList then (laws_FnFloors.j0 k t283 ((t283.size : Int) != (wrap64 ((wrap64 (t275 + 1)) * t276))) t275 t276 t277) else (laws_FnFloors.j0 k t283 true t275 t276 t277)) = some r := H
    have A21 := Aside0.mk A210
    clear A210
    by_cases c22 : t292.toList = t283.toList
    {
    rw [if_pos c22] at H
    have c22b0 : (t292.toList == t283.toList) = true := beq_iff_eq.mpr c22
    have c22b1 : (t292.toList != t283.toList) = false := bne_eq_false_iff_eq.mpr c22
    clear c22
    have H' := Aside0.mk H
    clear H
    have hnb23 := NB282_290.out
    have hnc23 := NB290_282.out
    have hcz24_0 : w14.cell? ⟨gb282, 0, none⟩ = some (.int .i64 t275) := (blk_cell BK282.out 0).trans rfl
    have hcz24_1 : w14.cell? ⟨gb282, 1, none⟩ = some (.int .i64 t276) := (blk_cell BK282.out 1).trans rfl
    have hcz24_2 : w14.cell? ⟨gb282, 2, none⟩ = some (.slice Ao11 t277.length co11) := (blk_cell BK282.out 2).trans rfl
    have hfz24_0 := blk_frozen BK282.out 0
    have hfz24_1 := blk_frozen BK282.out 1
    have hfz24_2 := blk_frozen BK282.out 2
    go_wp2_with (first | (go_at_call 30; (with_reducible refine (impl_FloorOk.calls k t275 t276 _ _ t277 true _ ?side1 ?side2 A19.out).mono ?_); (case side1 => refine (Kd.R_reads' (e := 3) (base := w.heap.size) (ok := fun k_ => (True ∧ some k_ ≠ (.slice Ao17 t286.length co17 : Value).ownBlock)) (n := t277.length) (c := co11) ?_).2.2; exact (by (with_reducible repeat (first | apply Kd.R_alloc | apply Kd.R_drewN | apply Kd.R_drew)); exact (Kd.R_mono (Kd.R_far (p := ⟨gb290, 2, none⟩) (Kd.R_far (p := ⟨gb290, 1, none⟩) (Kd.R_far (p := ⟨gb290, 0, none⟩) (Kd.R_types HO279.out BK290.out (by decide)) (fun _ hk => hk.2) (.int .i64 t284)) (fun _ hk => hk.2) (.int .i64 t285)) (fun _ hk => hk.2) (.slice Ao17 t286.length co17)) (fun _ h_ => h_.1)))); (case side2 => exact (Kd.R_reads' HO279.out).2.1); rintro e w25 ⟨rfl, hb⟩; have n0_ := Aside0.mk (Kd.R_below (by (with_reducible repeat (first | apply Kd.R_alloc | apply Kd.R_drewN | apply Kd.R_drew)); exact (Kd.R_mono (Kd.R_far (p := ⟨gb290, 2, none⟩) (Kd.R_far (p := ⟨gb290, 1, none⟩) (Kd.R_far (p := ⟨gb290, 0, none⟩) (Kd.R_types HO279.out BK290.out (by decide)) (fun _ hk => hk.2) (.int .i64 t284)) (fun _ hk => hk.2) (.int .i64 t285)) (fun _ hk => hk.2) (.slice Ao17 t286.length co17)) (fun _ h_ => h_.1))) hb); have n1_ := Aside0.mk (Kd.R_below (by (with_reducible repeat (first | apply Kd.R_alloc | apply Kd.R_drewN | apply Kd.R_drew)); exact (Kd.R_mono (Kd.R_far (p := ⟨gb290, 2, none⟩) (Kd.R_far (p := ⟨gb290, 1, none⟩) (Kd.R_far (p := ⟨gb290, 0, none⟩) (Kd.R_types HO288.out BK290.out (by decide)) (fun _ hk => hk.2) (.int .i64 t284)) (fun _ hk => hk.2) (.int .i64 t285)) (fun _ hk => hk.2) (.slice Ao17 t286.length co17)) (fun _ h_ => h_.1))) hb); have n2_ := Aside0.mk (blk_below (g := gb282) (o := .cells #[.int .i64 t275, .int .i64 t276, .slice Ao11 t277.length co11] 27 (0, 0)) qz18 hb); have n3_ := Aside0.mk (blk_below (g := gb290) (o := .cells #[.int .i64 t284, .int .i64 t285, .slice Ao17 t286.length co17] 27 (0, 0)) (by (with_reducible repeat (first | refine blk_drewN ?_ _ | refine blk_drew ?_ | refine blk_alloc ?_ _)); refine blk_put (cs := #[.int .i64 t284, .int .i64 t285, .slice none 0 0]) ?_ 2 _ rfl; (with_reducible repeat (first | refine blk_drewN ?_ _ | refine blk_drew ?_ | refine blk_alloc ?_ _)); refine blk_put (cs := #[.int .i64 t284, .int .i64 0, .slice none 0 0]) ?_ 1 _ rfl; (with_reducible repeat (first | refine blk_drewN ?_ _ | refine blk_drew ?_ | refine blk_alloc ?_ _)); refine blk_put (cs := #[.int .i64 0, .int .i64 0, .slice none 0 0]) ?_ 0 _ rfl; (with_reducible repeat (first | refine blk_drewN ?_ _ | refine blk_drew ?_ | refine blk_alloc ?_ _)); exact BK290.out) hb); have n4_ := Aside0.mk (below_step qz19 hb); clear HO279; clear HO288; clear BK282; clear BK290; clear HB; have HO279 := n0_; have HO288 := n1_; have BK282 := n2_; have BK290 := n3_; have HB := n4_; clear n0_ n1_ n2_ n3_ n4_; (try clear hb); (try clear hb2); (try clear hk); (try clear hi); have hcz26_0 : w25.cell? ⟨gb290, 0, none⟩ = some (.int .i64 t284) := (blk_cell BK290.out 0).trans rfl; have hcz26_1 : w25.cell? ⟨gb290, 1, none⟩ = some (.int .i64 t285) := (blk_cell BK290.out 1).trans rfl; have hcz26_2 : w25.cell? ⟨gb290, 2, none⟩ = some (.slice Ao17 t286.length co17) := (blk_cell BK290.out 2).trans rfl; have hfz26_0 := blk_frozen BK290.out 0; have hfz26_1 := blk_frozen BK290.out 1; have hfz26_2 := blk_frozen BK290.out 2) | (go_at_call 28; (with_reducible refine (impl_FloorText.calls k t284 t285 _ _ t286 t292 _ ?side1 ?side2 A21.out).mono ?_); (case side1 => repeat (first | exact (Kd.R_reads' HO288.out).2.2 | (with_reducible refine Kd.C_alloc ?_ _) | (with_reducible refine Kd.C_drewN ?_ _) | (with_reducible refine Kd.C_drew ?_))); (case side2 => exact (Kd.R_reads' HO288.out).2.1); rintro e w27 ⟨rfl, hb⟩; have n0_ := Aside0.mk (Kd.R_below (by (with_reducible repeat (first | apply Kd.R_alloc | apply Kd.R_drewN | apply Kd.R_drew)); exact HO279.out) hb); have n1_ := Aside0.mk (Kd.R_below (by (with_reducible repeat (first | apply Kd.R_alloc | apply Kd.R_drewN | apply Kd.R_drew)); exact HO288.out) hb); have n2_ := Aside0.mk (blk_below (g := gb282) (o := .cells #[.int .i64 t275, .int .i64 t276, .slice Ao11 t277.length co11] 27 (0, 0)) qz20 hb); have n3_ := Aside0.mk (blk_below (g := gb290) (o := .cells #[.int .i64 t284, .int .i64 t285, .slice Ao17 t286.length co17] 27 (0, 0)) (by (with_reducible repeat (first | refine blk_drewN ?_ _ | refine blk_drew ?_ | refine blk_alloc ?_ _)); exact BK290.out) hb); have n4_ := Aside0.mk (below_step qz19 hb); clear HO279; clear HO288; clear BK282; clear BK290; clear HB; have HO279 := n0_; have HO288 := n1_; have BK282 := n2_; have BK290 := n3_; have HB := n4_; clear n0_ n1_ n2_ n3_ n4_; (try clear hb); (try clear hb2); (try clear hk); (try clear hi); have hcz28_0 : w27.cell? ⟨gb282, 0, none⟩ = some (.int .i64 t275) := (blk_cell BK282.out 0).trans rfl; have hcz28_1 : w27.cell? ⟨gb282, 1, none⟩ = some (.int .i64 t276) := (blk_cell BK282.out 1).trans rfl; have hcz28_2 : w27.cell? ⟨gb282, 2, none⟩ = some (.slice Ao11 t277.length co11) := (blk_cell BK282.out 2).trans rfl; have hfz28_0 := blk_frozen BK282.out 0; have hfz28_1 := blk_frozen BK282.out 1; have hfz28_2 := blk_frozen BK282.out 2))
    go_meet
    case rel => exact ⟨_, (((t283.size : Int) != (wrap64 ((wrap64 (t275 + 1)) * t276)))), qz6, H', ⟨by first | omega | exact Nat.le_refl _⟩, ⟨by (with_reducible repeat (first | apply Kd.R_alloc | apply Kd.R_drewN | apply Kd.R_drew)); exact Kd.R_mono HO279.out (fun _ hk => hk.2)⟩, ⟨by (with_reducible repeat (first | apply Kd.R_alloc | apply Kd.R_drewN | apply Kd.R_drew)); exact Kd.R_mono HO288.out (fun _ hk => hk.2)⟩, ⟨by (with_reducible repeat (first | refine blk_drewN ?_ _ | refine blk_drew ?_ | refine blk_alloc ?_ _)); exact BK282.out⟩, ⟨by (with_reducible repeat (first | refine blk_drewN ?_ _ | refine blk_drew ?_ | refine blk_alloc ?_ _)); exact BK290.out⟩, ⟨by repeat (first | (with_reducible first | exact HB.out | apply below_alloc | apply pw_below_drewN | apply below_drew1 | refine below_set ?_ GE282.out | refine below_set ?_ GE290.out) | exact HB.out)⟩⟩
    }
    {
    rw [if_neg c22] at H
    have c22b0 : (t292.toList == t283.toList) = false := beq_eq_false_iff_ne.mpr c22
    have c22b1 : (t292.toList != t283.toList) = true := bne_iff_ne.mpr c22
    have H' := Aside0.mk H
    clear H
    have hnb29 := NB282_290.out
    have hnc29 := NB290_282.out
    have hcz30_0 : w14.cell? ⟨gb282, 0, none⟩ = some (.int .i64 t275) := (blk_cell BK282.out 0).trans rfl
    have hcz30_1 : w14.cell? ⟨gb282, 1, none⟩ = some (.int .i64 t276) := (blk_cell BK282.out 1).trans rfl
    have hcz30_2 : w14.cell? ⟨gb282, 2, none⟩ = some (.slice Ao11 t277.length co11) := (blk_cell BK282.out 2).trans rfl
    have hfz30_0 := blk_frozen BK282.out 0
    have hfz30_1 := blk_frozen BK282.out 1
    have hfz30_2 := blk_frozen BK282.out 2
    go_wp2_with (first | (go_at_call 30; (with_reducible refine (impl_FloorOk.calls k t275 t276 _ _ t277 true _ ?side1 ?side2 A19.out).mono ?_); (case side1 => refine (Kd.R_reads' (e := 3) (base := w.heap.size) (ok := fun k_ => (True ∧ some k_ ≠ (.slice Ao17 t286.length co17 : Value).ownBlock)) (n := t277.length) (c := co11) ?_).2.2; exact (by (with_reducible repeat (first | apply Kd.R_alloc | apply Kd.R_drewN | apply Kd.R_drew)); exact (Kd.R_mono (Kd.R_far (p := ⟨gb290, 2, none⟩) (Kd.R_far (p := ⟨gb290, 1, none⟩) (Kd.R_far (p := ⟨gb290, 0, none⟩) (Kd.R_types HO279.out BK290.out (by decide)) (fun _ hk => hk.2) (.int .i64 t284)) (fun _ hk => hk.2) (.int .i64 t285)) (fun _ hk => hk.2) (.slice Ao17 t286.length co17)) (fun _ h_ => h_.1)))); (case side2 => exact (Kd.R_reads' HO279.out).2.1); rintro e w31 ⟨rfl, hb⟩; have n0_ := Aside0.mk (Kd.R_below (by (with_reducible repeat (first | apply Kd.R_alloc | apply Kd.R_drewN | apply Kd.R_drew)); exact (Kd.R_mono (Kd.R_far (p := ⟨gb290, 2, none⟩) (Kd.R_far (p := ⟨gb290, 1, none⟩) (Kd.R_far (p := ⟨gb290, 0, none⟩) (Kd.R_types HO279.out BK290.out (by decide)) (fun _ hk => hk.2) (.int .i64 t284)) (fun _ hk => hk.2) (.int .i64 t285)) (fun _ hk => hk.2) (.slice Ao17 t286.length co17)) (fun _ h_ => h_.1))) hb); have n1_ := Aside0.mk (Kd.R_below (by (with_reducible repeat (first | apply Kd.R_alloc | apply Kd.R_drewN | apply Kd.R_drew)); exact (Kd.R_mono (Kd.R_far (p := ⟨gb290, 2, none⟩) (Kd.R_far (p := ⟨gb290, 1, none⟩) (Kd.R_far (p := ⟨gb290, 0, none⟩) (Kd.R_types HO288.out BK290.out (by decide)) (fun _ hk => hk.2) (.int .i64 t284)) (fun _ hk => hk.2) (.int .i64 t285)) (fun _ hk => hk.2) (.slice Ao17 t286.length co17)) (fun _ h_ => h_.1))) hb); have n2_ := Aside0.mk (blk_below (g := gb282) (o := .cells #[.int .i64 t275, .int .i64 t276, .slice Ao11 t277.length co11] 27 (0, 0)) qz18 hb); have n3_ := Aside0.mk (blk_below (g := gb290) (o := .cells #[.int .i64 t284, .int .i64 t285, .slice Ao17 t286.length co17] 27 (0, 0)) (by (with_reducible repeat (first | refine blk_drewN ?_ _ | refine blk_drew ?_ | refine blk_alloc ?_ _)); refine blk_put (cs := #[.int .i64 t284, .int .i64 t285, .slice none 0 0]) ?_ 2 _ rfl; (with_reducible repeat (first | refine blk_drewN ?_ _ | refine blk_drew ?_ | refine blk_alloc ?_ _)); refine blk_put (cs := #[.int .i64 t284, .int .i64 0, .slice none 0 0]) ?_ 1 _ rfl; (with_reducible repeat (first | refine blk_drewN ?_ _ | refine blk_drew ?_ | refine blk_alloc ?_ _)); refine blk_put (cs := #[.int .i64 0, .int .i64 0, .slice none 0 0]) ?_ 0 _ rfl; (with_reducible repeat (first | refine blk_drewN ?_ _ | refine blk_drew ?_ | refine blk_alloc ?_ _)); exact BK290.out) hb); have n4_ := Aside0.mk (below_step qz19 hb); clear HO279; clear HO288; clear BK282; clear BK290; clear HB; have HO279 := n0_; have HO288 := n1_; have BK282 := n2_; have BK290 := n3_; have HB := n4_; clear n0_ n1_ n2_ n3_ n4_; (try clear hb); (try clear hb2); (try clear hk); (try clear hi); have hcz32_0 : w31.cell? ⟨gb290, 0, none⟩ = some (.int .i64 t284) := (blk_cell BK290.out 0).trans rfl; have hcz32_1 : w31.cell? ⟨gb290, 1, none⟩ = some (.int .i64 t285) := (blk_cell BK290.out 1).trans rfl; have hcz32_2 : w31.cell? ⟨gb290, 2, none⟩ = some (.slice Ao17 t286.length co17) := (blk_cell BK290.out 2).trans rfl; have hfz32_0 := blk_frozen BK290.out 0; have hfz32_1 := blk_frozen BK290.out 1; have hfz32_2 := blk_frozen BK290.out 2) | (go_at_call 28; (with_reducible refine (impl_FloorText.calls k t284 t285 _ _ t286 t292 _ ?side1 ?side2 A21.out).mono ?_); (case side1 => repeat (first | exact (Kd.R_reads' HO288.out).2.2 | (with_reducible refine Kd.C_alloc ?_ _) | (with_reducible refine Kd.C_drewN ?_ _) | (with_reducible refine Kd.C_drew ?_))); (case side2 => exact (Kd.R_reads' HO288.out).2.1); rintro e w33 ⟨rfl, hb⟩; have n0_ := Aside0.mk (Kd.R_below (by (with_reducible repeat (first | apply Kd.R_alloc | apply Kd.R_drewN | apply Kd.R_drew)); exact HO279.out) hb); have n1_ := Aside0.mk (Kd.R_below (by (with_reducible repeat (first | apply Kd.R_alloc | apply Kd.R_drewN | apply Kd.R_drew)); exact HO288.out) hb); have n2_ := Aside0.mk (blk_below (g := gb282) (o := .cells #[.int .i64 t275, .int .i64 t276, .slice Ao11 t277.length co11] 27 (0, 0)) qz20 hb); have n3_ := Aside0.mk (blk_below (g := gb290) (o := .cells #[.int .i64 t284, .int .i64 t285, .slice Ao17 t286.length co17] 27 (0, 0)) (by (with_reducible repeat (first | refine blk_drewN ?_ _ | refine blk_drew ?_ | refine blk_alloc ?_ _)); exact BK290.out) hb); have n4_ := Aside0.mk (below_step qz19 hb); clear HO279; clear HO288; clear BK282; clear BK290; clear HB; have HO279 := n0_; have HO288 := n1_; have BK282 := n2_; have BK290 := n3_; have HB := n4_; clear n0_ n1_ n2_ n3_ n4_; (try clear hb); (try clear hb2); (try clear hk); (try clear hi)))
    go_meet
    case rel => exact ⟨_, (true), qz6, H', ⟨by first | omega | exact Nat.le_refl _⟩, ⟨by (with_reducible repeat (first | apply Kd.R_alloc | apply Kd.R_drewN | apply Kd.R_drew)); exact Kd.R_mono HO279.out (fun _ hk => hk.2)⟩, ⟨by (with_reducible repeat (first | apply Kd.R_alloc | apply Kd.R_drewN | apply Kd.R_drew)); exact Kd.R_mono HO288.out (fun _ hk => hk.2)⟩, ⟨by (with_reducible repeat (first | refine blk_drewN ?_ _ | refine blk_drew ?_ | refine blk_alloc ?_ _)); exact BK282.out⟩, ⟨by (with_reducible repeat (first | refine blk_drewN ?_ _ | refine blk_drew ?_ | refine blk_alloc ?_ _)); exact BK290.out⟩, ⟨by repeat (first | (with_reducible first | exact HB.out | apply below_alloc | apply pw_below_drewN | apply below_drew1 | refine below_set ?_ GE282.out | refine below_set ?_ GE290.out) | exact HB.out)⟩⟩
    }
    }
    {
    replace c20 := Bool.eq_false_iff.mpr c20
    subst c20
    have H1 : (laws_FnFloors.j0 k t283 true t275 t276 t277) = some r := by rw [if_neg (show ¬ (false = true) by decide)] at H; exact H
    clear H
    have H := H1
    clear H1
    have H' := Aside0.mk H
    clear H
    have hnb34 := NB282_290.out
    have hnc34 := NB290_282.out
    have hcz35_0 : w14.cell? ⟨gb282, 0, none⟩ = some (.int .i64 t275) := (blk_cell BK282.out 0).trans rfl
    have hcz35_1 : w14.cell? ⟨gb282, 1, none⟩ = some (.int .i64 t276) := (blk_cell BK282.out 1).trans rfl
    have hcz35_2 : w14.cell? ⟨gb282, 2, none⟩ = some (.slice Ao11 t277.length co11) := (blk_cell BK282.out 2).trans rfl
    have hfz35_0 := blk_frozen BK282.out 0
    have hfz35_1 := blk_frozen BK282.out 1
    have hfz35_2 := blk_frozen BK282.out 2
    go_wp2_with (first | (go_at_call 30; (with_reducible refine (impl_FloorOk.calls k t275 t276 _ _ t277 false _ ?side1 ?side2 A19.out).mono ?_); (case side1 => refine (Kd.R_reads' (e := 3) (base := w.heap.size) (ok := fun k_ => (True ∧ some k_ ≠ (.slice Ao17 t286.length co17 : Value).ownBlock)) (n := t277.length) (c := co11) ?_).2.2; exact (by (with_reducible repeat (first | apply Kd.R_alloc | apply Kd.R_drewN | apply Kd.R_drew)); exact (Kd.R_mono (Kd.R_far (p := ⟨gb290, 2, none⟩) (Kd.R_far (p := ⟨gb290, 1, none⟩) (Kd.R_far (p := ⟨gb290, 0, none⟩) (Kd.R_types HO279.out BK290.out (by decide)) (fun _ hk => hk.2) (.int .i64 t284)) (fun _ hk => hk.2) (.int .i64 t285)) (fun _ hk => hk.2) (.slice Ao17 t286.length co17)) (fun _ h_ => h_.1)))); (case side2 => exact (Kd.R_reads' HO279.out).2.1); rintro e w36 ⟨rfl, hb⟩; have n0_ := Aside0.mk (Kd.R_below (by (with_reducible repeat (first | apply Kd.R_alloc | apply Kd.R_drewN | apply Kd.R_drew)); exact (Kd.R_mono (Kd.R_far (p := ⟨gb290, 2, none⟩) (Kd.R_far (p := ⟨gb290, 1, none⟩) (Kd.R_far (p := ⟨gb290, 0, none⟩) (Kd.R_types HO279.out BK290.out (by decide)) (fun _ hk => hk.2) (.int .i64 t284)) (fun _ hk => hk.2) (.int .i64 t285)) (fun _ hk => hk.2) (.slice Ao17 t286.length co17)) (fun _ h_ => h_.1))) hb); have n1_ := Aside0.mk (Kd.R_below (by (with_reducible repeat (first | apply Kd.R_alloc | apply Kd.R_drewN | apply Kd.R_drew)); exact (Kd.R_mono (Kd.R_far (p := ⟨gb290, 2, none⟩) (Kd.R_far (p := ⟨gb290, 1, none⟩) (Kd.R_far (p := ⟨gb290, 0, none⟩) (Kd.R_types HO288.out BK290.out (by decide)) (fun _ hk => hk.2) (.int .i64 t284)) (fun _ hk => hk.2) (.int .i64 t285)) (fun _ hk => hk.2) (.slice Ao17 t286.length co17)) (fun _ h_ => h_.1))) hb); have n2_ := Aside0.mk (blk_below (g := gb282) (o := .cells #[.int .i64 t275, .int .i64 t276, .slice Ao11 t277.length co11] 27 (0, 0)) qz18 hb); have n3_ := Aside0.mk (blk_below (g := gb290) (o := .cells #[.int .i64 t284, .int .i64 t285, .slice Ao17 t286.length co17] 27 (0, 0)) (by (with_reducible repeat (first | refine blk_drewN ?_ _ | refine blk_drew ?_ | refine blk_alloc ?_ _)); refine blk_put (cs := #[.int .i64 t284, .int .i64 t285, .slice none 0 0]) ?_ 2 _ rfl; (with_reducible repeat (first | refine blk_drewN ?_ _ | refine blk_drew ?_ | refine blk_alloc ?_ _)); refine blk_put (cs := #[.int .i64 t284, .int .i64 0, .slice none 0 0]) ?_ 1 _ rfl; (with_reducible repeat (first | refine blk_drewN ?_ _ | refine blk_drew ?_ | refine blk_alloc ?_ _)); refine blk_put (cs := #[.int .i64 0, .int .i64 0, .slice none 0 0]) ?_ 0 _ rfl; (with_reducible repeat (first | refine blk_drewN ?_ _ | refine blk_drew ?_ | refine blk_alloc ?_ _)); exact BK290.out) hb); have n4_ := Aside0.mk (below_step qz19 hb); clear HO279; clear HO288; clear BK282; clear BK290; clear HB; have HO279 := n0_; have HO288 := n1_; have BK282 := n2_; have BK290 := n3_; have HB := n4_; clear n0_ n1_ n2_ n3_ n4_; (try clear hb); (try clear hb2); (try clear hk); (try clear hi)))
    go_meet
    case rel => exact ⟨_, (true), qz6, H', ⟨by first | omega | exact Nat.le_refl _⟩, ⟨by (with_reducible repeat (first | apply Kd.R_alloc | apply Kd.R_drewN | apply Kd.R_drew)); exact Kd.R_mono HO279.out (fun _ hk => hk.2)⟩, ⟨by (with_reducible repeat (first | apply Kd.R_alloc | apply Kd.R_drewN | apply Kd.R_drew)); exact Kd.R_mono HO288.out (fun _ hk => hk.2)⟩, ⟨by (with_reducible repeat (first | refine blk_drewN ?_ _ | refine blk_drew ?_ | refine blk_alloc ?_ _)); exact BK282.out⟩, ⟨by (with_reducible repeat (first | refine blk_drewN ?_ _ | refine blk_drew ?_ | refine blk_alloc ?_ _)); exact BK290.out⟩, ⟨by repeat (first | (with_reducible first | exact HB.out | apply below_alloc | apply pw_below_drewN | apply below_drew1 | refine below_set ?_ GE282.out | refine below_set ?_ GE290.out) | exact HB.out)⟩⟩
    }
    }
    {
    rw [if_neg c18] at H
    have c18b0 : (t289 == (-1)) = false := beq_eq_false_iff_ne.mpr c18
    have c18b1 : (t289 != (-1)) = true := bne_iff_ne.mpr c18
    (first | rw [c18b0] | (simp only [i64_w, i32_w]; rw [c18b0]) | rw [@decide_eq_false _ _ (of_decide_eq_false c18b0)] | rw [@decide_eq_false _ _ (of_decide_eq_false c18b1)] | skip)
    have H' := Aside0.mk H
    clear H
    go_wp2
    go_meet
    case rel => exact ⟨_, (true), qz6, H', ⟨by first | omega | exact Nat.le_refl _⟩, ⟨by (with_reducible repeat (first | apply Kd.R_alloc | apply Kd.R_drewN | apply Kd.R_drew)); exact Kd.R_mono (Kd.R_far (p := ⟨gb290, 2, none⟩) (Kd.R_far (p := ⟨gb290, 1, none⟩) (Kd.R_far (p := ⟨gb290, 0, none⟩) (Kd.R_types HO279.out BK290.out (by decide)) (fun _ hk => hk.2) (.int .i64 t284)) (fun _ hk => hk.2) (.int .i64 t285)) (fun _ hk => hk.2) (.slice Ao17 t286.length co17)) (fun _ hk => hk.1.2)⟩, ⟨by (with_reducible repeat (first | apply Kd.R_alloc | apply Kd.R_drewN | apply Kd.R_drew)); exact Kd.R_mono (Kd.R_far (p := ⟨gb290, 2, none⟩) (Kd.R_far (p := ⟨gb290, 1, none⟩) (Kd.R_far (p := ⟨gb290, 0, none⟩) (Kd.R_types HO288.out BK290.out (by decide)) (fun _ hk => hk.2) (.int .i64 t284)) (fun _ hk => hk.2) (.int .i64 t285)) (fun _ hk => hk.2) (.slice Ao17 t286.length co17)) (fun _ hk => hk.1.2)⟩, ⟨by (with_reducible repeat (first | refine blk_drewN ?_ _ | refine blk_drew ?_ | refine blk_alloc ?_ _)); refine blk_far ?_ NB282_290.out _; (with_reducible repeat (first | refine blk_drewN ?_ _ | refine blk_drew ?_ | refine blk_alloc ?_ _)); refine blk_far ?_ NB282_290.out _; (with_reducible repeat (first | refine blk_drewN ?_ _ | refine blk_drew ?_ | refine blk_alloc ?_ _)); refine blk_far ?_ NB282_290.out _; (with_reducible repeat (first | refine blk_drewN ?_ _ | refine blk_drew ?_ | refine blk_alloc ?_ _)); exact BK282.out⟩, ⟨by (with_reducible repeat (first | refine blk_drewN ?_ _ | refine blk_drew ?_ | refine blk_alloc ?_ _)); refine blk_put (cs := #[.int .i64 t284, .int .i64 t285, .slice none 0 0]) ?_ 2 _ rfl; (with_reducible repeat (first | refine blk_drewN ?_ _ | refine blk_drew ?_ | refine blk_alloc ?_ _)); refine blk_put (cs := #[.int .i64 t284, .int .i64 0, .slice none 0 0]) ?_ 1 _ rfl; (with_reducible repeat (first | refine blk_drewN ?_ _ | refine blk_drew ?_ | refine blk_alloc ?_ _)); refine blk_put (cs := #[.int .i64 0, .int .i64 0, .slice none 0 0]) ?_ 0 _ rfl; (with_reducible repeat (first | refine blk_drewN ?_ _ | refine blk_drew ?_ | refine blk_alloc ?_ _)); exact BK290.out⟩, ⟨by repeat (first | (with_reducible first | exact HB.out | apply below_alloc | apply pw_below_drewN | apply below_drew1 | refine below_set ?_ GE282.out | refine below_set ?_ GE290.out) | exact HB.out)⟩⟩
    }
  case rest =>
    clear HC7
    try clear c1
    try clear c2
    try clear p2
    try clear c3
    try clear c5
    try clear p6
    try clear c15
    try clear c18
    try clear c18b0
    try clear c18b1
    try clear c20
    try clear c22
    try clear c22b0
    try clear c22b1
    try clear c23
    try clear c26
    try clear c27
    try clear c28
    try clear c29
    try clear c34
    try clear hcz10_0
    try clear hcz10_1
    try clear hcz10_2
    try clear hcz16_0
    try clear hcz16_1
    try clear hcz16_2
    try clear hcz24_0
    try clear hcz24_1
    try clear hcz24_2
    try clear hcz26_0
    try clear hcz26_1
    try clear hcz26_2
    try clear hcz28_0
    try clear hcz28_1
    try clear hcz28_2
    try clear hcz30_0
    try clear hcz30_1
    try clear hcz30_2
    try clear hcz32_0
    try clear hcz32_1
    try clear hcz32_2
    try clear hcz35_0
    try clear hcz35_1
    try clear hcz35_2
    try clear hfz10_0
    try clear hfz10_1
    try clear hfz10_2
    try clear hfz16_0
    try clear hfz16_1
    try clear hfz16_2
    try clear hfz24_0
    try clear hfz24_1
    try clear hfz24_2
    try clear hfz26_0
    try clear hfz26_1
    try clear hfz26_2
    try clear hfz28_0
    try clear hfz28_1
    try clear hfz28_2
    try clear hfz30_0
    try clear hfz30_1
    try clear hfz30_2
    try clear hfz32_0
    try clear hfz32_1
    try clear hfz32_2
    try clear hfz35_0
    try clear hfz35_1
    try clear hfz35_2
    obtain ⟨kq, x50_6, rfl, HA, HJ6, HO_283002, HO_291002, BK282, BK290, HB⟩ := hcut
    cases kq with
    | zero => exact absurd HA.out (by simp [laws_FnFloors.j0])
    | succ kj6 =>
      have H := HA.out
      clear HA
      simp only [laws_FnFloors.j0] at H
      by_cases c37 : x50_6 = true
      {
      subst c37
      have H1 : (some false) = some r := by rw [if_pos rfl] at H; exact H
      clear H
      have H := H1
      clear H1
      obtain rfl := Option.some.inj H
      exact absurd HTR_.out (by decide)
      }
      {
      replace c37 := Bool.eq_false_iff.mpr c37
      subst c37
      have H1 : (laws_FnFloors.l0 kj6 t283 0 t275 t276 t277 t275 t276 t277) = some r := by rw [if_neg (show ¬ (false = true) by decide)] at H; exact H
      clear H
      have H := H1
      clear H1
      have H' := Aside0.mk H
      clear H
      have hnb38 := NB282_290.out
      have hnc38 := NB290_282.out
      have hcz39_0 : wc.cell? ⟨gb282, 0, none⟩ = some (.int .i64 t275) := (blk_cell BK282.out 0).trans rfl
      have hcz39_1 : wc.cell? ⟨gb282, 1, none⟩ = some (.int .i64 t276) := (blk_cell BK282.out 1).trans rfl
      have hcz39_2 : wc.cell? ⟨gb282, 2, none⟩ = some (.slice Ao11 t277.length co11) := (blk_cell BK282.out 2).trans rfl
      have hfz39_0 := blk_frozen BK282.out 0
      have hfz39_1 := blk_frozen BK282.out 1
      have hfz39_2 := blk_frozen BK282.out 2
      go_wp2_with (first | ((with_reducible refine gate_dst (N := 9) rfl ?_); (try (refine gate_guard (by rfl) ?_; dsimp only)); refine box_event ?hg (N := 9) ?hd (cs := #[.int .i64 0, .int .i64 0, .slice none 0 0]) (t := 27) ?hr ?_; (case hd => rfl); (case hg => rfl); (case hr => first | (go_simp; done) | (go_simp; rfl)); intro gb293 hg w40 hbox hb; have n0_ := Aside0.mk (Kd.R_below (by (with_reducible repeat (first | apply Kd.R_alloc | apply Kd.R_drewN | apply Kd.R_drew)); exact HO_283002.out) hb); have n1_ := Aside0.mk (Kd.R_below (by (with_reducible repeat (first | apply Kd.R_alloc | apply Kd.R_drewN | apply Kd.R_drew)); exact HO_291002.out) hb); have n2_ := Aside0.mk (blk_below (g := gb282) (o := .cells #[.int .i64 t275, .int .i64 t276, .slice Ao11 t277.length co11] 27 (0, 0)) qz20 hb); have n3_ := Aside0.mk (blk_below (g := gb290) (o := .cells #[.int .i64 t284, .int .i64 t285, .slice Ao17 t286.length co17] 27 (0, 0)) (by (with_reducible repeat (first | refine blk_drewN ?_ _ | refine blk_drew ?_ | refine blk_alloc ?_ _)); exact BK290.out) hb); have n4_ := Aside0.mk (below_step qz19 hb); have n5_ := Aside0.mk (hbox); have n6_ := Aside0.mk ((by rw [hg]; exact (below_size qz19) : w.heap.size ≤ gb293)); have n7_ := Aside0.mk ((by rw [hg]; exact (below_size qz19) : w.heap.size ≤ gb293)); have n8_ := Aside0.mk ((by rw [hg]; exact Nat.ne_of_lt (blk_lt (g := gb282) (o := .cells #[.int .i64 t275, .int .i64 t276, .slice Ao11 t277.length co11] 27 (0, 0)) qz20) : gb282 ≠ gb293)); have n9_ := Aside0.mk ((by rw [hg]; exact Nat.ne_of_gt (blk_lt (g := gb282) (o := .cells #[.int .i64 t275, .int .i64 t276, .slice Ao11 t277.length co11] 27 (0, 0)) qz20) : gb293 ≠ gb282)); have n10_ := Aside0.mk ((by rw [hg]; exact Nat.ne_of_lt (blk_lt (g := gb290) (o := .cells #[.int .i64 t284, .int .i64 t285, .slice Ao17 t286.length co17] 27 (0, 0)) (by (with_reducible repeat (first | refine blk_drewN ?_ _ | refine blk_drew ?_ | refine blk_alloc ?_ _)); exact BK290.out)) : gb290 ≠ gb293)); have n11_ := Aside0.mk ((by rw [hg]; exact Nat.ne_of_gt (blk_lt (g := gb290) (o := .cells #[.int .i64 t284, .int .i64 t285, .slice Ao17 t286.length co17] 27 (0, 0)) (by (with_reducible repeat (first | refine blk_drewN ?_ _ | refine blk_drew ?_ | refine blk_alloc ?_ _)); exact BK290.out)) : gb293 ≠ gb290)); clear HO_283002; clear HO_291002; clear BK282; clear BK290; clear HB; have HO_283002 := n0_; have HO_291002 := n1_; have BK282 := n2_; have BK290 := n3_; have HB := n4_; have BK293 := n5_; have GW293 := n6_; have GE293 := n7_; have NB282_293 := n8_; have NB293_282 := n9_; have NB290_293 := n10_; have NB293_290 := n11_; clear n0_ n1_ n2_ n3_ n4_ n5_ n6_ n7_ n8_ n9_ n10_ n11_; clear hb hbox hg; have hnb41 := NB293_282.out; have hnc41 := NB282_293.out; have hnb42 := NB293_290.out; have hnc42 := NB290_293.out; have hcz43_0 : w40.cell? ⟨gb293, 0, none⟩ = some (.int .i64 0) := (blk_cell BK293.out 0).trans rfl; have hcz43_1 : w40.cell? ⟨gb293, 1, none⟩ = some (.int .i64 0) := (blk_cell BK293.out 1).trans rfl; have hcz43_2 : w40.cell? ⟨gb293, 2, none⟩ = some (.slice none 0 0) := (blk_cell BK293.out 2).trans rfl; have hfz43_0 := blk_frozen BK293.out 0; have hfz43_1 := blk_frozen BK293.out 1; have hfz43_2 := blk_frozen BK293.out 2))
      go_loopg [10] kj6 (fun kq v10 w' => ∃ (x10_2 : Int) (x294000_2 : Int) (x294001_2 : Int) (x294002_2 : List Int) (u294002 : Value), v10 = .int .i64 x10_2 ∧ Aside0 (laws_FnFloors.l0 kq t283 x10_2 t275 t276 t277 x294000_2 x294001_2 x294002_2 = some r) ∧ Aside0 (kq ≤ kj6) ∧ Aside0 (Kd.R (Kd.int .i64) 3 w' w.heap.size (fun k_ => some k_ ≠ ((.slice Ao17 t286.length co17) : Value).ownBlock) (.slice Ao11 t277.length co11) t277) ∧ Aside0 (Kd.R (Kd.int .i64) 3 w' w.heap.size (fun k_ => some k_ ≠ ((.slice Ao11 t277.length co11) : Value).ownBlock ∧ some k_ ≠ (u294002 : Value).ownBlock) (.slice Ao17 t286.length co17) t286) ∧ Aside0 (Kd.R (Kd.int .i64) 3 w' w.heap.size (fun k_ => some k_ ≠ ((.slice Ao17 t286.length co17) : Value).ownBlock) u294002 x294002_2) ∧ Aside0 (w'.heap[gb282]? = some (.cells #[.int .i64 t275, .int .i64 t276, (.slice Ao11 t277.length co11)] 27 (0, 0))) ∧ Aside0 (w'.heap[gb290]? = some (.cells #[.int .i64 t284, .int .i64 t285, (.slice Ao17 t286.length co17)] 27 (0, 0))) ∧ Aside0 (w'.heap[gb293]? = some (.cells #[.int .i64 x294000_2, .int .i64 x294001_2, u294002] 27 (0, 0))) ∧ Aside0 (Below w.heap.size w w'))
      case atStart => exact ⟨(0), (t275), (t276), (t277), (.slice Ao11 t277.length co11), qz6, H', ⟨Nat.le_refl _⟩, ⟨by (with_reducible repeat (first | apply Kd.R_alloc | apply Kd.R_drewN | apply Kd.R_drew)); exact Kd.R_mono (Kd.R_far (p := ⟨gb293, 2, none⟩) (Kd.R_far (p := ⟨gb293, 1, none⟩) (Kd.R_far (p := ⟨gb293, 0, none⟩) (Kd.R_types HO_283002.out BK293.out (by decide)) (fun _ hk => hk.2) (.int .i64 t275)) (fun _ hk => hk.2) (.int .i64 t276)) (fun _ hk => hk.2) (.slice Ao11 t277.length co11)) (fun _ hk => hk.1)⟩, ⟨by (with_reducible repeat (first | apply Kd.R_alloc | apply Kd.R_drewN | apply Kd.R_drew)); exact Kd.R_mono (Kd.R_far (p := ⟨gb293, 2, none⟩) (Kd.R_far (p := ⟨gb293, 1, none⟩) (Kd.R_far (p := ⟨gb293, 0, none⟩) (Kd.R_types HO_291002.out BK293.out (by decide)) (fun _ hk => hk.2) (.int .i64 t275)) (fun _ hk => hk.2) (.int .i64 t276)) (fun _ hk => hk.2) (.slice Ao11 t277.length co11)) (fun _ hk => ⟨hk.1, hk.1⟩)⟩, ⟨by (with_reducible repeat (first | apply Kd.R_alloc | apply Kd.R_drewN | apply Kd.R_drew)); exact Kd.R_mono (Kd.R_far (p := ⟨gb293, 2, none⟩) (Kd.R_far (p := ⟨gb293, 1, none⟩) (Kd.R_far (p := ⟨gb293, 0, none⟩) (Kd.R_types HO_283002.out BK293.out (by decide)) (fun _ hk => hk.2) (.int .i64 t275)) (fun _ hk => hk.2) (.int .i64 t276)) (fun _ hk => hk.2) (.slice Ao11 t277.length co11)) (fun _ hk => hk.1)⟩, ⟨by (with_reducible repeat (first | refine blk_drewN ?_ _ | refine blk_drew ?_ | refine blk_alloc ?_ _)); refine blk_far ?_ NB282_293.out _; (with_reducible repeat (first | refine blk_drewN ?_ _ | refine blk_drew ?_ | refine blk_alloc ?_ _)); refine blk_far ?_ NB282_293.out _; (with_reducible repeat (first | refine blk_drewN ?_ _ | refine blk_drew ?_ | refine blk_alloc ?_ _)); refine blk_far ?_ NB282_293.out _; (with_reducible repeat (first | refine blk_drewN ?_ _ | refine blk_drew ?_ | refine blk_alloc ?_ _)); exact BK282.out⟩, ⟨by (with_reducible repeat (first | refine blk_drewN ?_ _ | refine blk_drew ?_ | refine blk_alloc ?_ _)); refine blk_far ?_ NB290_293.out _; (with_reducible repeat (first | refine blk_drewN ?_ _ | refine blk_drew ?_ | refine blk_alloc ?_ _)); refine blk_far ?_ NB290_293.out _; (with_reducible repeat (first | refine blk_drewN ?_ _ | refine blk_drew ?_ | refine blk_alloc ?_ _)); refine blk_far ?_ NB290_293.out _; (with_reducible repeat (first | refine blk_drewN ?_ _ | refine blk_drew ?_ | refine blk_alloc ?_ _)); exact BK290.out⟩, ⟨by (with_reducible repeat (first | refine blk_drewN ?_ _ | refine blk_drew ?_ | refine blk_alloc ?_ _)); refine blk_put (cs := #[.int .i64 t275, .int .i64 t276, .slice none 0 0]) ?_ 2 _ rfl; (with_reducible repeat (first | refine blk_drewN ?_ _ | refine blk_drew ?_ | refine blk_alloc ?_ _)); refine blk_put (cs := #[.int .i64 t275, .int .i64 0, .slice none 0 0]) ?_ 1 _ rfl; (with_reducible repeat (first | refine blk_drewN ?_ _ | refine blk_drew ?_ | refine blk_alloc ?_ _)); refine blk_put (cs := #[.int .i64 0, .int .i64 0, .slice none 0 0]) ?_ 0 _ rfl; (with_reducible repeat (first | refine blk_drewN ?_ _ | refine blk_drew ?_ | refine blk_alloc ?_ _)); exact BK293.out⟩, ⟨by repeat (first | (with_reducible first | exact HB.out | apply below_alloc | apply pw_below_drewN | apply below_drew1 | refine below_set ?_ GE282.out | refine below_set ?_ GE290.out | refine below_set ?_ GE293.out) | exact HB.out)⟩⟩
      case round =>
        clear H'
        try clear c1
        try clear c2
        try clear p2
        try clear c3
        try clear c4
        try clear c5
        try clear p6
        try clear c15
        try clear c18
        try clear c18b0
        try clear c18b1
        try clear c20
        try clear c22
        try clear c22b0
        try clear c22b1
        try clear c23
        try clear c26
        try clear c27
        try clear c28
        try clear c29
        try clear c34
        try clear c37
        try clear c38
        try clear c41
        try clear c42
        try clear hcz10_0
        try clear hcz10_1
        try clear hcz10_2
        try clear hcz16_0
        try clear hcz16_1
        try clear hcz16_2
        try clear hcz24_0
        try clear hcz24_1
        try clear hcz24_2
        try clear hcz26_0
        try clear hcz26_1
        try clear hcz26_2
        try clear hcz28_0
        try clear hcz28_1
        try clear hcz28_2
        try clear hcz30_0
        try clear hcz30_1
        try clear hcz30_2
        try clear hcz32_0
        try clear hcz32_1
        try clear hcz32_2
        try clear hcz35_0
        try clear hcz35_1
        try clear hcz35_2
        try clear hcz39_0
        try clear hcz39_1
        try clear hcz39_2
        try clear hcz43_0
        try clear hcz43_1
        try clear hcz43_2
        try clear hfz10_0
        try clear hfz10_1
        try clear hfz10_2
        try clear hfz16_0
        try clear hfz16_1
        try clear hfz16_2
        try clear hfz24_0
        try clear hfz24_1
        try clear hfz24_2
        try clear hfz26_0
        try clear hfz26_1
        try clear hfz26_2
        try clear hfz28_0
        try clear hfz28_1
        try clear hfz28_2
        try clear hfz30_0
        try clear hfz30_1
        try clear hfz30_2
        try clear hfz32_0
        try clear hfz32_1
        try clear hfz32_2
        try clear hfz35_0
        try clear hfz35_1
        try clear hfz35_2
        try clear hfz39_0
        try clear hfz39_1
        try clear hfz39_2
        try clear hfz43_0
        try clear hfz43_1
        try clear hfz43_2
        try clear p2
        try clear p6
        obtain ⟨x10_2, x294000_2, x294001_2, x294002_2, u294002, rfl, HA, HK2, HO_283002, HO_291002, HO_294002, BK282, BK290, BK293, HB⟩ := hrel
        cases gk with
        | zero => exact absurd HA.out (by simp [laws_FnFloors.l0])
        | succ k2 =>
          have H := HA.out
          clear HA
          simp only [laws_FnFloors.l0] at H
          by_cases c44 : x10_2 < 4
          {
          rw [if_pos c44] at H
          have c44b0 : decide (x10_2 < 4) = true := decide_eq_true c44
          clear c44
          replace H := Option.bind_eq_some_iff.mp H
          obtain ⟨⟨t295, t296, t297⟩, A450, H⟩ := H
          replace H : (laws_FnFloors.l1 k2 t283 x10_2 0 t275 t276 t277 t295 t296 t297) = some r := H
          have A45 := Aside0.mk A450
          clear A450
          have H' := Aside0.mk H
          clear H
          have hnb46 := NB293_282.out
          have hnc46 := NB282_293.out
          have hnb47 := NB293_290.out
          have hnc47 := NB290_293.out
          have hcz48_0 : wr.cell? ⟨gb293, 0, none⟩ = some (.int .i64 x294000_2) := (blk_cell BK293.out 0).trans rfl
          have hcz48_1 : wr.cell? ⟨gb293, 1, none⟩ = some (.int .i64 x294001_2) := (blk_cell BK293.out 1).trans rfl
          have hcz48_2 : wr.cell? ⟨gb293, 2, none⟩ = some (u294002) := (blk_cell BK293.out 2).trans rfl
          have hfz48_0 := blk_frozen BK293.out 0
          have hfz48_1 := blk_frozen BK293.out 1
          have hfz48_2 := blk_frozen BK293.out 2
          obtain ⟨Ao49, co49, eo49⟩ := Kd.R_slice HO_294002.out
          subst eo49
          go_wp2_with (first | ((with_reducible refine gate_callee (f := 31) rfl ?_); refine goesL_ (some 57) rfl rfl Try.func31 (by kernel_rfl) rfl #[.agg #[.int .i64 x294000_2, .int .i64 x294001_2, .slice Ao49 x294002_2.length co49]] rfl qz2 ?_; (with_reducible refine (impl_Turned.calls k2 x294000_2 x294001_2 _ _ x294002_2 t295 t296 t297 _ ?side1 ?side2 A45.out).mono ?_); (case side1 => repeat (first | exact (Kd.R_reads' HO_294002.out).2.2 | (with_reducible refine Kd.C_alloc ?_ _) | (with_reducible refine Kd.C_drewN ?_ _) | (with_reducible refine Kd.C_drew ?_))); (case side2 => exact (Kd.R_reads' HO_294002.out).2.1); rintro e w50 ⟨v298, rfl, ho0, hb⟩; refine ⟨_, rfl, ?_⟩; have n0_ := Aside0.mk (Kd.R_elder' (by (with_reducible repeat (first | apply Kd.R_alloc | apply Kd.R_drewN | apply Kd.R_drew)); exact HO_283002.out) (Kd.R_base ho0) hb); have n1_ := Aside0.mk (Kd.R_elder' (by (with_reducible repeat (first | apply Kd.R_alloc | apply Kd.R_drewN | apply Kd.R_drew)); exact HO_291002.out) (Kd.R_base ho0) hb); have n2_ := Aside0.mk (Kd.R_elder' (by (with_reducible repeat (first | apply Kd.R_alloc | apply Kd.R_drewN | apply Kd.R_drew)); exact HO_294002.out) (Kd.R_base ho0) hb); have n3_ := Aside0.mk (Kd.R_lower (Kd.R_new' (Kd.R_new' (Kd.R_new' ho0 (Kd.R_lt (by (with_reducible repeat (first | apply Kd.R_alloc | apply Kd.R_drewN | apply Kd.R_drew)); exact HO_283002.out))) (Kd.R_lt (by (with_reducible repeat (first | apply Kd.R_alloc | apply Kd.R_drewN | apply Kd.R_drew)); exact HO_291002.out))) (Kd.R_lt (by (with_reducible repeat (first | apply Kd.R_alloc | apply Kd.R_drewN | apply Kd.R_drew)); exact HO_294002.out))) (below_size qz17)); have n4_ := Aside0.mk (blk_below (g := gb282) (o := .cells #[.int .i64 t275, .int .i64 t276, .slice Ao11 t277.length co11] 27 (0, 0)) qz20 hb); have n5_ := Aside0.mk (blk_below (g := gb290) (o := .cells #[.int .i64 t284, .int .i64 t285, .slice Ao17 t286.length co17] 27 (0, 0)) (by (with_reducible repeat (first | refine blk_drewN ?_ _ | refine blk_drew ?_ | refine blk_alloc ?_ _)); exact BK290.out) hb); have n6_ := Aside0.mk (blk_below (g := gb293) (o := .cells #[.int .i64 x294000_2, .int .i64 x294001_2, .slice Ao49 x294002_2.length co49] 27 (0, 0)) (by (with_reducible repeat (first | refine blk_drewN ?_ _ | refine blk_drew ?_ | refine blk_alloc ?_ _)); exact BK293.out) hb); have n7_ := Aside0.mk (below_step qz17 hb); clear HO_283002; clear HO_291002; clear HO_294002; clear BK282; clear BK290; clear BK293; clear HB; have HO_283002 := n0_; have HO_291002 := n1_; have HO_294002 := n2_; have HO299 := n3_; have BK282 := n4_; have BK290 := n5_; have BK293 := n6_; have HB := n7_; clear n0_ n1_ n2_ n3_ n4_ n5_ n6_ n7_; (try clear hb); (try clear hb2); (try clear hk); (try clear hi); (try clear ho0); have hcz51_0 : w50.cell? ⟨gb293, 0, none⟩ = some (.int .i64 x294000_2) := (blk_cell BK293.out 0).trans rfl; have hcz51_1 : w50.cell? ⟨gb293, 1, none⟩ = some (.int .i64 x294001_2) := (blk_cell BK293.out 1).trans rfl; have hcz51_2 : w50.cell? ⟨gb293, 2, none⟩ = some (.slice Ao49 x294002_2.length co49) := (blk_cell BK293.out 2).trans rfl; have hfz51_0 := blk_frozen BK293.out 0; have hfz51_1 := blk_frozen BK293.out 1; have hfz51_2 := blk_frozen BK293.out 2; obtain ⟨Ao52, co52, eo52⟩ := Kd.R_slice HO299.out; subst eo52))
          go_loopg [11] k2 (fun kq v11 w' => ∃ (x11_3 : Int), v11 = .int .i64 x11_3 ∧ Aside0 (laws_FnFloors.l1 kq t283 x10_2 x11_3 t275 t276 t277 t295 t296 t297 = some r) ∧ Aside0 (kq ≤ k2) ∧ Aside0 (Kd.R (Kd.int .i64) 3 w' w.heap.size (fun k_ => some k_ ≠ ((.slice Ao17 t286.length co17) : Value).ownBlock ∧ some k_ ≠ ((.slice Ao52 t297.length co52) : Value).ownBlock) (.slice Ao11 t277.length co11) t277) ∧ Aside0 (Kd.R (Kd.int .i64) 3 w' w.heap.size (fun k_ => some k_ ≠ ((.slice Ao11 t277.length co11) : Value).ownBlock ∧ some k_ ≠ ((.slice Ao52 t297.length co52) : Value).ownBlock) (.slice Ao17 t286.length co17) t286) ∧ Aside0 (Kd.R (Kd.int .i64) 3 w' w.heap.size (fun k_ => some k_ ≠ ((.slice Ao11 t277.length co11) : Value).ownBlock ∧ some k_ ≠ ((.slice Ao17 t286.length co17) : Value).ownBlock) (.slice Ao52 t297.length co52) t297) ∧ Aside0 (w'.heap[gb282]? = some (.cells #[.int .i64 t275, .int .i64 t276, (.slice Ao11 t277.length co11)] 27 (0, 0))) ∧ Aside0 (w'.heap[gb290]? = some (.cells #[.int .i64 t284, .int .i64 t285, (.slice Ao17 t286.length co17)] 27 (0, 0))) ∧ Aside0 (w'.heap[gb293]? = some (.cells #[.int .i64 t295, .int .i64 t296, (.slice Ao52 t297.length co52)] 27 (0, 0))) ∧ Aside0 (Below w.heap.size w w'))
          case atStart => exact ⟨(0), qz6, H', ⟨Nat.le_refl _⟩, ⟨by (with_reducible repeat (first | apply Kd.R_alloc | apply Kd.R_drewN | apply Kd.R_drew)); exact Kd.R_mono (Kd.R_far (p := ⟨gb293, 2, none⟩) (Kd.R_far (p := ⟨gb293, 1, none⟩) (Kd.R_far (p := ⟨gb293, 0, none⟩) (Kd.R_types HO_283002.out BK293.out (by decide)) (fun _ hk => hk.2) (.int .i64 t295)) (fun _ hk => hk.2) (.int .i64 t296)) (fun _ hk => hk.2) (.slice Ao52 t297.length co52)) (fun _ hk => ⟨hk.1.1, hk.1.2⟩)⟩, ⟨by (with_reducible repeat (first | apply Kd.R_alloc | apply Kd.R_drewN | apply Kd.R_drew)); exact Kd.R_mono (Kd.R_far (p := ⟨gb293, 2, none⟩) (Kd.R_far (p := ⟨gb293, 1, none⟩) (Kd.R_far (p := ⟨gb293, 0, none⟩) (Kd.R_types HO_291002.out BK293.out (by decide)) (fun _ hk => hk.2) (.int .i64 t295)) (fun _ hk => hk.2) (.int .i64 t296)) (fun _ hk => hk.2) (.slice Ao52 t297.length co52)) (fun _ hk => ⟨hk.1.1.1, hk.1.2⟩)⟩, ⟨by (with_reducible repeat (first | apply Kd.R_alloc | apply Kd.R_drewN | apply Kd.R_drew)); exact Kd.R_mono (Kd.R_far (p := ⟨gb293, 2, none⟩) (Kd.R_far (p := ⟨gb293, 1, none⟩) (Kd.R_far (p := ⟨gb293, 0, none⟩) (Kd.R_types HO299.out BK293.out (by decide)) (fun _ hk => hk.2) (.int .i64 t295)) (fun _ hk => hk.2) (.int .i64 t296)) (fun _ hk => hk.2) (.slice Ao52 t297.length co52)) (fun _ hk => ⟨hk.1.1.1.2, hk.1.1.2⟩)⟩, ⟨by (with_reducible repeat (first | refine blk_drewN ?_ _ | refine blk_drew ?_ | refine blk_alloc ?_ _)); refine blk_far ?_ NB282_293.out _; (with_reducible repeat (first | refine blk_drewN ?_ _ | refine blk_drew ?_ | refine blk_alloc ?_ _)); refine blk_far ?_ NB282_293.out _; (with_reducible repeat (first | refine blk_drewN ?_ _ | refine blk_drew ?_ | refine blk_alloc ?_ _)); refine blk_far ?_ NB282_293.out _; (with_reducible repeat (first | refine blk_drewN ?_ _ | refine blk_drew ?_ | refine blk_alloc ?_ _)); exact BK282.out⟩, ⟨by (with_reducible repeat (first | refine blk_drewN ?_ _ | refine blk_drew ?_ | refine blk_alloc ?_ _)); refine blk_far ?_ NB290_293.out _; (with_reducible repeat (first | refine blk_drewN ?_ _ | refine blk_drew ?_ | refine blk_alloc ?_ _)); refine blk_far ?_ NB290_293.out _; (with_reducible repeat (first | refine blk_drewN ?_ _ | refine blk_drew ?_ | refine blk_alloc ?_ _)); refine blk_far ?_ NB290_293.out _; (with_reducible repeat (first | refine blk_drewN ?_ _ | refine blk_drew ?_ | refine blk_alloc ?_ _)); exact BK290.out⟩, ⟨by (with_reducible repeat (first | refine blk_drewN ?_ _ | refine blk_drew ?_ | refine blk_alloc ?_ _)); refine blk_put (cs := #[.int .i64 t295, .int .i64 t296, .slice Ao49 x294002_2.length co49]) ?_ 2 _ rfl; (with_reducible repeat (first | refine blk_drewN ?_ _ | refine blk_drew ?_ | refine blk_alloc ?_ _)); refine blk_put (cs := #[.int .i64 t295, .int .i64 x294001_2, .slice Ao49 x294002_2.length co49]) ?_ 1 _ rfl; (with_reducible repeat (first | refine blk_drewN ?_ _ | refine blk_drew ?_ | refine blk_alloc ?_ _)); refine blk_put (cs := #[.int .i64 x294000_2, .int .i64 x294001_2, .slice Ao49 x294002_2.length co49]) ?_ 0 _ rfl; (with_reducible repeat (first | refine blk_drewN ?_ _ | refine blk_drew ?_ | refine blk_alloc ?_ _)); exact BK293.out⟩, ⟨by repeat (first | (with_reducible first | exact HB.out | apply below_alloc | apply pw_below_drewN | apply below_drew1 | refine below_set ?_ GE282.out | refine below_set ?_ GE290.out | refine below_set ?_ GE293.out) | exact HB.out)⟩⟩
          case round =>
            clear H'
            try clear c1
            try clear c2
            try clear p2
            try clear c3
            try clear c4
            try clear c5
            try clear p6
            try clear c15
            try clear c18
            try clear c18b0
            try clear c18b1
            try clear c20
            try clear c22
            try clear c22b0
            try clear c22b1
            try clear c23
            try clear c26
            try clear c27
            try clear c28
            try clear c29
            try clear c31
            try clear c34
            try clear c37
            try clear c38
            try clear c41
            try clear c42
            try clear c44
            try clear c44b0
            try clear c46
            try clear c47
            try clear hcz10_0
            try clear hcz10_1
            try clear hcz10_2
            try clear hcz16_0
            try clear hcz16_1
            try clear hcz16_2
            try clear hcz24_0
            try clear hcz24_1
            try clear hcz24_2
            try clear hcz26_0
            try clear hcz26_1
            try clear hcz26_2
            try clear hcz28_0
            try clear hcz28_1
            try clear hcz28_2
            try clear hcz30_0
            try clear hcz30_1
            try clear hcz30_2
            try clear hcz32_0
            try clear hcz32_1
            try clear hcz32_2
            try clear hcz35_0
            try clear hcz35_1
            try clear hcz35_2
            try clear hcz39_0
            try clear hcz39_1
            try clear hcz39_2
            try clear hcz43_0
            try clear hcz43_1
            try clear hcz43_2
            try clear hcz48_0
            try clear hcz48_1
            try clear hcz48_2
            try clear hcz51_0
            try clear hcz51_1
            try clear hcz51_2
            try clear hfz10_0
            try clear hfz10_1
            try clear hfz10_2
            try clear hfz16_0
            try clear hfz16_1
            try clear hfz16_2
            try clear hfz24_0
            try clear hfz24_1
            try clear hfz24_2
            try clear hfz26_0
            try clear hfz26_1
            try clear hfz26_2
            try clear hfz28_0
            try clear hfz28_1
            try clear hfz28_2
            try clear hfz30_0
            try clear hfz30_1
            try clear hfz30_2
            try clear hfz32_0
            try clear hfz32_1
            try clear hfz32_2
            try clear hfz35_0
            try clear hfz35_1
            try clear hfz35_2
            try clear hfz39_0
            try clear hfz39_1
            try clear hfz39_2
            try clear hfz43_0
            try clear hfz43_1
            try clear hfz43_2
            try clear hfz48_0
            try clear hfz48_1
            try clear hfz48_2
            try clear hfz51_0
            try clear hfz51_1
            try clear hfz51_2
            try clear p2
            try clear p6
            obtain ⟨x11_3, rfl, HA, HK3, HO_283002, HO_291002, HO_294002, BK282, BK290, BK293, HB⟩ := hrel
            cases gk with
            | zero => exact absurd HA.out (by simp [laws_FnFloors.l1])
            | succ k3 =>
              have H := HA.out
              clear HA
              simp only [laws_FnFloors.l1] at H
              by_cases c53 : x11_3 < 5
              {
              rw [if_pos c53] at H
              have c53b0 : decide (x11_3 < 5) = true := decide_eq_true c53
              clear c53
              replace H := Option.bind_eq_some_iff.mp H
              obtain ⟨t300, A540, H⟩ := H
              replace H : ((impl_CellsOf.f k3 t275 t276 t277 x11_3).bind fun t303 => (if (t300.length : Int) = (t303.length : Int) then (laws_FnFloors.l1 k3 t283 x10_2 (wrap64 (x11_3 + 1)) t275 t276 t277 t295 t296 t297) else (some false))) = some r := H
              have A54 := Aside0.mk A540
              clear A540
              replace H := Option.bind_eq_some_iff.mp H
              obtain ⟨t303, A550, H⟩ := H
              replace H : (if (t300.length : Int) = (t303.length : Int) then (laws_FnFloors.l1 k3 t283 x10_2 (wrap64 (x11_3 + 1)) t275 t276 t277 t295 t296 t297) else (some false)) = some r := H
              have A55 := Aside0.mk A550
              clear A550
              by_cases c56 : (t300.length : Int) = (t303.length : Int)
              {
              rw [if_pos c56] at H
              have c56b0 : ((t300.length : Int) == (t303.length : Int)) = true := beq_iff_eq.mpr c56
              have c56b1 : ((t300.length : Int) != (t303.length : Int)) = false := bne_eq_false_iff_eq.mpr c56
              have c56b2 : (t300.length == t303.length) = true := by first | simpa using c56 | (simp at c56 ⊢; omega)
              clear c56
              have H' := Aside0.mk H
              clear H
              try go_wp2
              have n0_ := Aside0.mk (Kd.R_drew HO_283002.out)
              have n1_ := Aside0.mk (Kd.R_drew HO_291002.out)
              have n2_ := Aside0.mk (Kd.R_drew HO_294002.out)
              have n3_ := Aside0.mk (blk_drew BK282.out)
              have n4_ := Aside0.mk (blk_drew BK290.out)
              have n5_ := Aside0.mk (blk_drew BK293.out)
              have n6_ := Aside0.mk (below_drew1 HB.out)
              clear HO_283002
              clear HO_291002
              clear HO_294002
              clear BK282
              clear BK290
              clear BK293
              clear HB
              have HO_283002 := n0_
              have HO_291002 := n1_
              have HO_294002 := n2_
              have BK282 := n3_
              have BK290 := n4_
              have BK293 := n5_
              have HB := n6_
              clear n0_ n1_ n2_ n3_ n4_ n5_ n6_
              refine start_ (n := 9) (S := fun w' => w'.cell? ⟨gb293, 0, none⟩ = some (.int .i64 t295) ∧ w'.cell? ⟨gb293, 1, none⟩ = some (.int .i64 t296) ∧ w'.cell? ⟨gb293, 2, none⟩ = some (.slice Ao52 t297.length co52) ∧ w'.cell? ⟨gb282, 0, none⟩ = some (.int .i64 t275) ∧ w'.cell? ⟨gb282, 1, none⟩ = some (.int .i64 t276) ∧ w'.cell? ⟨gb282, 2, none⟩ = some (.slice Ao11 t277.length co11)) (ds := []) #[false, false, false, false, false, false, false, false, false] (by kernel_rfl) rfl rfl ⟨(blk_cell BK293.out 0).trans rfl, (blk_cell BK293.out 1).trans rfl, (blk_cell BK293.out 2).trans rfl, (blk_cell BK282.out 0).trans rfl, (blk_cell BK282.out 1).trans rfl, (blk_cell BK282.out 2).trans rfl⟩ (fun hHeld => ?_); refine with_tabW laws_FnFloors.tab16 laws_FnFloors.bits16 (fun HT_ HW_ => ?_)
              generalize wr.drew = w57 at HO_283002 HO_291002 HO_294002 BK282 BK290 BK293 HB hHeld ⊢
              refine pure_ (i := 1) (N := some 63) (v := ?_) (a' := ?_) (bqz 9 2) rfl rfl qza qzd (Or.inl ⟨by rfl, ?_⟩) ?_ ?_
              rotate_left
              {
              intro w'
              go_simp
              with_reducible rfl
              }
              rotate_left
              {
              simp only [qzs]
              rfl
              }
              refine pure_ (i := 5) (N := some 67) (v := ?_) (a' := ?_) (bqz 9 34) rfl rfl qza qzd (Or.inl ⟨by rfl, ?_⟩) ?_ ?_
              rotate_left
              {
              intro w'
              go_simp
              with_reducible rfl
              }
              rotate_left
              {
              simp only [qzs]
              rfl
              }
              refine take_ (i := 0) (N := some 62) (v := ?_) (a' := ?_) (bqz 9 35) rfl rfl qzb qzd (Or.inl ⟨by rfl, ?_⟩) hHeld ?_ ?_
              rotate_left
              {
              rintro w' ⟨s0, s1, s2, s3, s4, s5⟩
              go_simp
              with_reducible rfl
              }
              rotate_left
              {
              simp only [qzs]
              rfl
              }
              refine take_ (i := 4) (N := some 66) (v := ?_) (a' := ?_) (bqz 9 51) rfl rfl qzb qzd (Or.inl ⟨by rfl, ?_⟩) hHeld ?_ ?_
              rotate_left
              {
              rintro w' ⟨s0, s1, s2, s3, s4, s5⟩
              go_simp
              with_reducible rfl
              }
              rotate_left
              {
              simp only [qzs]
              rfl
              }
              refine one_ (i := 2) (N := some 64) (bqz 9 55) rfl rfl qzc (by decide) (fun K hK => ?_)
              refine goes_ Try.func32 (by kernel_rfl) rfl #[.agg #[.int .i64 t295, .int .i64 t296, .slice Ao52 t297.length co52], .int .i64 x11_3] (by rfl) rfl rfl qz2 ?_
              with_reducible refine (impl_CellsOf.calls k3 t295 t296 _ _ t297 x11_3 t300 _ ?side1 ?side2 A54.out).mono ?_
              (case side1 => repeat (first | exact (Kd.R_reads' HO_294002.out).2.2 | (with_reducible refine Kd.C_alloc ?_ _) | (with_reducible refine Kd.C_drewN ?_ _) | (with_reducible refine Kd.C_drew ?_)))
              (case side2 => exact (Kd.R_reads' HO_294002.out).2.1)
              rintro e w58 ⟨v301, rfl, ho0, hb⟩
              refine ⟨_, rfl, ?_⟩
              have n0_ := Aside0.mk (Kd.R_elder' (by (with_reducible repeat (first | apply Kd.R_alloc | apply Kd.R_drewN | apply Kd.R_drew)); exact HO_283002.out) (Kd.R_base ho0) hb)
              have n1_ := Aside0.mk (Kd.R_elder' (by (with_reducible repeat (first | apply Kd.R_alloc | apply Kd.R_drewN | apply Kd.R_drew)); exact HO_291002.out) (Kd.R_base ho0) hb)
              have n2_ := Aside0.mk (Kd.R_elder' (by (with_reducible repeat (first | apply Kd.R_alloc | apply Kd.R_drewN | apply Kd.R_drew)); exact HO_294002.out) (Kd.R_base ho0) hb)
              have n3_ := Aside0.mk (Kd.R_lower (Kd.R_new' (Kd.R_new' (Kd.R_new' ho0 (Kd.R_lt (by (with_reducible repeat (first | apply Kd.R_alloc | apply Kd.R_drewN | apply Kd.R_drew)); exact HO_283002.out))) (Kd.R_lt (by (with_reducible repeat (first | apply Kd.R_alloc | apply Kd.R_drewN | apply Kd.R_drew)); exact HO_291002.out))) (Kd.R_lt (by (with_reducible repeat (first | apply Kd.R_alloc | apply Kd.R_drewN | apply Kd.R_drew)); exact HO_294002.out))) (below_size qz17))
              have n4_ := Aside0.mk (blk_below (g := gb282) (o := .cells #[.int .i64 t275, .int .i64 t276, .slice Ao11 t277.length co11] 27 (0, 0)) qz20 hb)
              have n5_ := Aside0.mk (blk_below (g := gb290) (o := .cells #[.int .i64 t284, .int .i64 t285, .slice Ao17 t286.length co17] 27 (0, 0)) (by (with_reducible repeat (first | refine blk_drewN ?_ _ | refine blk_drew ?_ | refine blk_alloc ?_ _)); exact BK290.out) hb)
              have n6_ := Aside0.mk (blk_below (g := gb293) (o := .cells #[.int .i64 t295, .int .i64 t296, .slice Ao52 t297.length co52] 27 (0, 0)) (by (with_reducible repeat (first | refine blk_drewN ?_ _ | refine blk_drew ?_ | refine blk_alloc ?_ _)); exact BK293.out) hb)
              have n7_ := Aside0.mk (below_step qz17 hb)
              clear HO_283002
              clear HO_291002
              clear HO_294002
              clear BK282
              clear BK290
              clear BK293
              clear HB
              have HO_283002 := n0_
              have HO_291002 := n1_
              have HO_294002 := n2_
              have HO302 := n3_
              have BK282 := n4_
              have BK290 := n5_
              have BK293 := n6_
              have HB := n7_
              clear n0_ n1_ n2_ n3_ n4_ n5_ n6_ n7_
              (try clear hb)
              (try clear hb2)
              (try clear hk)
              (try clear hi)
              (try clear ho0)
              obtain ⟨Ao59, co59, eo59⟩ := Kd.R_slice HO302.out
              (first | subst eo59 | (injection eo59 with f1_ f2_ f3_; have f4_ := f1_.symm; have f5_ := f3_.symm; clear f1_ f2_ f3_; subst f4_; subst f5_))
              refine hK.out _ _ ⟨(blk_cell BK293.out 0).trans rfl, (blk_cell BK293.out 1).trans rfl, (blk_cell BK293.out 2).trans rfl, (blk_cell BK282.out 0).trans rfl, (blk_cell BK282.out 1).trans rfl, (blk_cell BK282.out 2).trans rfl⟩ (fun hHeld => ?_)
              clear hK K
              refine norm_ (a' := ?_) ?_ ?_
              rotate_left
              {
              show Act.put _ (some 64) _ = _
              simp only [qzs]
              rfl
              }
              refine pure_ (i := 3) (N := some 65) (v := ?_) (a' := ?_) (bqz 9 63) rfl rfl qza qzd (Or.inl ⟨by rfl, ?_⟩) ?_ ?_
              rotate_left
              {
              intro w'
              go_simp
              with_reducible rfl
              }
              rotate_left
              {
              simp only [qzs]
              rfl
              }
              refine one_ (i := 6) (N := some 68) (bqz 9 127) rfl rfl qzc (by decide) (fun K hK => ?_)
              refine goes_ Try.func32 (by kernel_rfl) rfl #[.agg #[.int .i64 t275, .int .i64 t276, .slice Ao11 t277.length co11], .int .i64 x11_3] (by rfl) rfl rfl qz2 ?_
              with_reducible refine (impl_CellsOf.calls k3 t275 t276 _ _ t277 x11_3 t303 _ ?side1 ?side2 A55.out).mono ?_
              (case side1 => repeat (first | exact (Kd.R_reads' HO_283002.out).2.2 | (with_reducible refine Kd.C_alloc ?_ _) | (with_reducible refine Kd.C_drewN ?_ _) | (with_reducible refine Kd.C_drew ?_)))
              (case side2 => exact (Kd.R_reads' HO_283002.out).2.1)
              rintro e w60 ⟨v304, rfl, ho0, hb⟩
              refine ⟨_, rfl, ?_⟩
              have n0_ := Aside0.mk (Kd.R_elder' (by (with_reducible repeat (first | apply Kd.R_alloc | apply Kd.R_drewN | apply Kd.R_drew)); exact HO_283002.out) (Kd.R_base ho0) hb)
              have n1_ := Aside0.mk (Kd.R_elder' (by (with_reducible repeat (first | apply Kd.R_alloc | apply Kd.R_drewN | apply Kd.R_drew)); exact HO_291002.out) (Kd.R_base ho0) hb)
              have n2_ := Aside0.mk (Kd.R_elder' (by (with_reducible repeat (first | apply Kd.R_alloc | apply Kd.R_drewN | apply Kd.R_drew)); exact HO_294002.out) (Kd.R_base ho0) hb)
              have n3_ := Aside0.mk (Kd.R_elder' (by (with_reducible repeat (first | apply Kd.R_alloc | apply Kd.R_drewN | apply Kd.R_drew)); exact HO302.out) (Kd.R_base ho0) hb)
              have n4_ := Aside0.mk (Kd.R_lower (Kd.R_new' (Kd.R_new' (Kd.R_new' (Kd.R_new' ho0 (Kd.R_lt (by (with_reducible repeat (first | apply Kd.R_alloc | apply Kd.R_drewN | apply Kd.R_drew)); exact HO_283002.out))) (Kd.R_lt (by (with_reducible repeat (first | apply Kd.R_alloc | apply Kd.R_drewN | apply Kd.R_drew)); exact HO_291002.out))) (Kd.R_lt (by (with_reducible repeat (first | apply Kd.R_alloc | apply Kd.R_drewN | apply Kd.R_drew)); exact HO_294002.out))) (Kd.R_lt (by (with_reducible repeat (first | apply Kd.R_alloc | apply Kd.R_drewN | apply Kd.R_drew)); exact HO302.out))) (below_size qz17))
              have n5_ := Aside0.mk (blk_below (g := gb282) (o := .cells #[.int .i64 t275, .int .i64 t276, .slice Ao11 t277.length co11] 27 (0, 0)) qz20 hb)
              have n6_ := Aside0.mk (blk_below (g := gb290) (o := .cells #[.int .i64 t284, .int .i64 t285, .slice Ao17 t286.length co17] 27 (0, 0)) (by (with_reducible repeat (first | refine blk_drewN ?_ _ | refine blk_drew ?_ | refine blk_alloc ?_ _)); exact BK290.out) hb)
              have n7_ := Aside0.mk (blk_below (g := gb293) (o := .cells #[.int .i64 t295, .int .i64 t296, .slice Ao52 t297.length co52] 27 (0, 0)) (by (with_reducible repeat (first | refine blk_drewN ?_ _ | refine blk_drew ?_ | refine blk_alloc ?_ _)); exact BK293.out) hb)
              have n8_ := Aside0.mk (below_step qz17 hb)
              clear HO_283002
              clear HO_291002
              clear HO_294002
              clear HO302
              clear BK282
              clear BK290
              clear BK293
              clear HB
              have HO_283002 := n0_
              have HO_291002 := n1_
              have HO_294002 := n2_
              have HO302 := n3_
              have HO305 := n4_
              have BK282 := n5_
              have BK290 := n6_
              have BK293 := n7_
              have HB := n8_
              clear n0_ n1_ n2_ n3_ n4_ n5_ n6_ n7_ n8_
              (try clear hb)
              (try clear hb2)
              (try clear hk)
              (try clear hi)
              (try clear ho0)
              obtain ⟨Ao61, co61, eo61⟩ := Kd.R_slice HO305.out
              (first | subst eo61 | (injection eo61 with f1_ f2_ f3_; have f4_ := f1_.symm; have f5_ := f3_.symm; clear f1_ f2_ f3_; subst f4_; subst f5_))
              refine hK.out _ _ ⟨(blk_cell BK293.out 0).trans rfl, (blk_cell BK293.out 1).trans rfl, (blk_cell BK293.out 2).trans rfl, (blk_cell BK282.out 0).trans rfl, (blk_cell BK282.out 1).trans rfl, (blk_cell BK282.out 2).trans rfl⟩ (fun hHeld => ?_)
              clear hK K
              refine norm_ (a' := ?_) ?_ ?_
              rotate_left
              {
              show Act.put _ (some 68) _ = _
              simp only [qzs]
              rfl
              }
              refine pure_ (i := 7) (N := some 69) (v := ?_) (a' := ?_) (bqz 9 255) rfl rfl qza qzd (Or.inl ⟨by rfl, ?_⟩) ?_ ?_
              rotate_left
              {
              intro w'
              go_simp
              with_reducible rfl
              }
              rotate_left
              {
              simp only [qzs]
              rfl
              }
              refine pure_ (i := 8) (N := some 70) (v := ?_) (a' := ?_) (bqz 9 511) rfl rfl qza qzd (Or.inl ⟨by rfl, ?_⟩) ?_ ?_
              rotate_left
              {
              intro w'
              go_simp
              with_reducible rfl
              }
              rotate_left
              {
              simp only [qzs]
              rfl
              }
              refine done_ (done_of HT_.out (by kernel_rfl)) ?_
              try go_wp2
              go_roundg k3
              case measure => have := HJ6.out; have := HK2.out; have := HK3.out; omega
              case rel => exact ⟨(wrap64 (x11_3 + 1)), qz6, H', ⟨by have := HJ6.out; have := HK2.out; have := HK3.out; omega⟩, ⟨by (with_reducible repeat (first | apply Kd.R_alloc | apply Kd.R_drewN | apply Kd.R_drew)); exact Kd.R_mono HO_283002.out (fun _ hk => ⟨hk.1.1.1, hk.1.1.2⟩)⟩, ⟨by (with_reducible repeat (first | apply Kd.R_alloc | apply Kd.R_drewN | apply Kd.R_drew)); exact Kd.R_mono HO_291002.out (fun _ hk => ⟨hk.1.1.1, hk.1.1.2⟩)⟩, ⟨by (with_reducible repeat (first | apply Kd.R_alloc | apply Kd.R_drewN | apply Kd.R_drew)); exact Kd.R_mono HO_294002.out (fun _ hk => ⟨hk.1.1.1, hk.1.1.2⟩)⟩, ⟨by (with_reducible repeat (first | refine blk_drewN ?_ _ | refine blk_drew ?_ | refine blk_alloc ?_ _)); exact BK282.out⟩, ⟨by (with_reducible repeat (first | refine blk_drewN ?_ _ | refine blk_drew ?_ | refine blk_alloc ?_ _)); exact BK290.out⟩, ⟨by (with_reducible repeat (first | refine blk_drewN ?_ _ | refine blk_drew ?_ | refine blk_alloc ?_ _)); exact BK293.out⟩, ⟨by repeat (first | (with_reducible first | exact HB.out | apply below_alloc | apply pw_below_drewN | apply below_drew1 | refine below_set ?_ GE282.out | refine below_set ?_ GE290.out | refine below_set ?_ GE293.out) | exact HB.out)⟩⟩
              }
              {
              rw [if_neg c56] at H
              have c56b0 : ((t300.length : Int) == (t303.length : Int)) = false := beq_eq_false_iff_ne.mpr c56
              have c56b1 : ((t300.length : Int) != (t303.length : Int)) = true := bne_iff_ne.mpr c56
              have c56b2 : (t300.length == t303.length) = false := by first | simpa using c56 | (simp at c56 ⊢; omega)
              obtain rfl := Option.some.inj H
              exact absurd HTR_.out (by decide)
              }
              }
              {
              rw [if_neg c53] at H
              have c53b0 : decide (x11_3 < 5) = false := decide_eq_false c53
              clear c53
              have H' := Aside0.mk H
              clear H
              go_wp2
              go_roundg k3
              case measure => have := HJ6.out; have := HK2.out; have := HK3.out; omega
              case rel => exact ⟨(wrap64 (x10_2 + 1)), (t295), (t296), (t297), (.slice Ao52 t297.length co52), qz6, H', ⟨by have := HJ6.out; have := HK2.out; have := HK3.out; omega⟩, ⟨by (with_reducible repeat (first | apply Kd.R_alloc | apply Kd.R_drewN | apply Kd.R_drew)); (first | exact HO_283002.out | exact Kd.R_mono HO_283002.out (fun _ h_ => h_.1) | exact Kd.R_mono HO_283002.out (fun _ h_ => h_.2))⟩, ⟨by (with_reducible repeat (first | apply Kd.R_alloc | apply Kd.R_drewN | apply Kd.R_drew)); (first | exact HO_291002.out | exact Kd.R_mono HO_291002.out (fun _ h_ => h_.1) | exact Kd.R_mono HO_291002.out (fun _ h_ => h_.2))⟩, ⟨by (with_reducible repeat (first | apply Kd.R_alloc | apply Kd.R_drewN | apply Kd.R_drew)); (first | exact HO_294002.out | exact Kd.R_mono HO_294002.out (fun _ h_ => h_.1) | exact Kd.R_mono HO_294002.out (fun _ h_ => h_.2))⟩, ⟨by (with_reducible repeat (first | refine blk_drewN ?_ _ | refine blk_drew ?_ | refine blk_alloc ?_ _)); exact BK282.out⟩, ⟨by (with_reducible repeat (first | refine blk_drewN ?_ _ | refine blk_drew ?_ | refine blk_alloc ?_ _)); exact BK290.out⟩, ⟨by (with_reducible repeat (first | refine blk_drewN ?_ _ | refine blk_drew ?_ | refine blk_alloc ?_ _)); exact BK293.out⟩, ⟨by repeat (first | (with_reducible first | exact HB.out | apply below_alloc | apply pw_below_drewN | apply below_drew1 | refine below_set ?_ GE282.out | refine below_set ?_ GE290.out | refine below_set ?_ GE293.out) | exact HB.out)⟩⟩
              }
          }
          {
          rw [if_neg c44] at H
          have c44b0 : decide (x10_2 < 4) = false := decide_eq_false c44
          clear c44
          replace H := Option.bind_eq_some_iff.mp H
          obtain ⟨t294, A620, H⟩ := H
          replace H : (some (t294.toList == t283.toList)) = some r := H
          have A62 := Aside0.mk A620
          clear A620
          obtain rfl := Option.some.inj H
          simp only [Option.some.injEq, Prod.mk.injEq] at H
          obtain ⟨rfl⟩ := H
          have hnb63 := NB293_282.out
          have hnc63 := NB282_293.out
          have hnb64 := NB293_290.out
          have hnc64 := NB290_293.out
          have hcz65_0 : wr.cell? ⟨gb293, 0, none⟩ = some (.int .i64 x294000_2) := (blk_cell BK293.out 0).trans rfl
          have hcz65_1 : wr.cell? ⟨gb293, 1, none⟩ = some (.int .i64 x294001_2) := (blk_cell BK293.out 1).trans rfl
          have hcz65_2 : wr.cell? ⟨gb293, 2, none⟩ = some (u294002) := (blk_cell BK293.out 2).trans rfl
          have hfz65_0 := blk_frozen BK293.out 0
          have hfz65_1 := blk_frozen BK293.out 1
          have hfz65_2 := blk_frozen BK293.out 2
          obtain ⟨Ao66, co66, eo66⟩ := Kd.R_slice HO_294002.out
          subst eo66
          go_wp2_with (first | ((with_reducible refine gate_callee (f := 28) rfl ?_); refine goesL_ (some 72) rfl rfl Try.func28 (by kernel_rfl) rfl #[.agg #[.int .i64 x294000_2, .int .i64 x294001_2, .slice Ao66 x294002_2.length co66]] rfl qz2 ?_; (with_reducible refine (impl_FloorText.calls k2 x294000_2 x294001_2 _ _ x294002_2 t294 _ ?side1 ?side2 A62.out).mono ?_); (case side1 => repeat (first | exact (Kd.R_reads' HO_294002.out).2.2 | (with_reducible refine Kd.C_alloc ?_ _) | (with_reducible refine Kd.C_drewN ?_ _) | (with_reducible refine Kd.C_drew ?_))); (case side2 => exact (Kd.R_reads' HO_294002.out).2.1); rintro e w67 ⟨rfl, hb⟩; refine ⟨_, rfl, ?_⟩; have n0_ := Aside0.mk (Kd.R_below (by (with_reducible repeat (first | apply Kd.R_alloc | apply Kd.R_drewN | apply Kd.R_drew)); exact HO_283002.out) hb); have n1_ := Aside0.mk (Kd.R_below (by (with_reducible repeat (first | apply Kd.R_alloc | apply Kd.R_drewN | apply Kd.R_drew)); exact HO_291002.out) hb); have n2_ := Aside0.mk (Kd.R_below (by (with_reducible repeat (first | apply Kd.R_alloc | apply Kd.R_drewN | apply Kd.R_drew)); exact HO_294002.out) hb); have n3_ := Aside0.mk (blk_below (g := gb282) (o := .cells #[.int .i64 t275, .int .i64 t276, .slice Ao11 t277.length co11] 27 (0, 0)) qz20 hb); have n4_ := Aside0.mk (blk_below (g := gb290) (o := .cells #[.int .i64 t284, .int .i64 t285, .slice Ao17 t286.length co17] 27 (0, 0)) (by (with_reducible repeat (first | refine blk_drewN ?_ _ | refine blk_drew ?_ | refine blk_alloc ?_ _)); exact BK290.out) hb); have n5_ := Aside0.mk (blk_below (g := gb293) (o := .cells #[.int .i64 x294000_2, .int .i64 x294001_2, .slice Ao66 x294002_2.length co66] 27 (0, 0)) (by (with_reducible repeat (first | refine blk_drewN ?_ _ | refine blk_drew ?_ | refine blk_alloc ?_ _)); exact BK293.out) hb); have n6_ := Aside0.mk (below_step qz17 hb); clear HO_283002; clear HO_291002; clear HO_294002; clear BK282; clear BK290; clear BK293; clear HB; have HO_283002 := n0_; have HO_291002 := n1_; have HO_294002 := n2_; have BK282 := n3_; have BK290 := n4_; have BK293 := n5_; have HB := n6_; clear n0_ n1_ n2_ n3_ n4_ n5_ n6_; (try clear hb); (try clear hb2); (try clear hk); (try clear hi)))
          go_ret
          exact ⟨by first | rfl | (simp [errW_none, errW_some] <;> rfl) | (simp [*, errW_none, errW_some] <;> rfl), by repeat (first | (with_reducible first | exact HB.out | apply below_alloc | apply pw_below_drewN | apply below_drew1 | refine below_set ?_ GE282.out | refine below_set ?_ GE290.out | refine below_set ?_ GE293.out) | exact HB.out)⟩

          }
      }
  }
/-- THE ONE PURE STATEMENT of laws_FnFloors: yours. -/
def laws_FnFloors.Pure : Prop := ∀ (l0 : List Int), l0.length ≤ maxLen → l0.length * 1 ≤ 140737488351232 → (∀ x ∈ l0, (Lit.int .u8 x).wf = true) → ∃ k, laws_FnFloors.f k l0 = some true
theorem laws_FnFloors.walk (P : laws_FnFloors.Pure) (a0 : Option Addr) (len0 cap0 : Nat) (z0 : List Int) (w : World) (w0 : (a0 = none ∧ len0 = 0 ∧ cap0 = 0 ∧ z0 = []) ∨ ∃ x, a0 = some x ∧ len0 ≤ cap0 ∧ cap0 ≤ maxLen ∧ z0.length = cap0 ∧ (∀ i, i < z0.length → w.cell? (x.add i) = some (.int .u8 (z0.getD i 0))) ∧ ∀ n ∈ z0, (Lit.int .u8 n).wf = true) (y0 : len0 * 1 ≤ 140737488351232) :
    Calls Try.prog 5 #[.slice a0 len0 cap0] w fun e w' => e = .returned (.bool true) ∧ Below w.heap.size w w' := by
  obtain ⟨l0, rfl, hr0, hm0, hw0, hc0⟩ := ReadsInt.ofRowC w0
  obtain ⟨k, h⟩ := P l0 hm0 y0 hw0
  refine (laws_FnFloors.calls k _ _ l0 true w (Kd.C_of_reads (d := (0 : Int)) (h1 := fun _ => rfl) hr0) hc0 rfl h).mono ?_
  rintro e w' ⟨rfl, hd⟩
  exact ⟨rfl, hd⟩

end Go.Proofs.Ytdlkmjilakaklaa.PFnFloors
