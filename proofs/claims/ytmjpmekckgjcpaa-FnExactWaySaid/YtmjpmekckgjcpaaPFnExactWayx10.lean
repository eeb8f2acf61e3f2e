-- Made by a program of this session out of the translation. Lean checks it.
import Derived.Test.YtmjpmekckgjcpaaPFnExactWayx0
import Derived.Test.YtmjpmekckgjcpaaPFnExactWayx1
import Derived.Test.YtmjpmekckgjcpaaPFnExactWayx5
import Derived.Test.YtmjpmekckgjcpaaPFnExactWayx9
namespace Go.Proofs.Ytmjpmekckgjcpaa.PFnExactWay
open Go.RowKit Go.Proofs.YtmjpmekckgjcpaaW.PrintWords Go.Proofs.YtmjpmekckgjcpaaW.PrintLast Go.Proofs.YtmjpmekckgjcpaaW.PrintMore
attribute [local go_sem] max2_int min2_int max_two min_two max_three min_three max_four min_four   -- for this text's walks alone
set_option linter.unusedVariables false
set_option linter.unusedSimpArgs false

/-! ### laws_FnExactWay: function 12 -/
def laws_FnExactWay.j0 : Nat → Int → Int → Bool → List Int → List Int → Bool → Int → Int → List Int → Option (Bool)
  | 0, _, _, _, _, _, _, _, _, _ => none
  | k + 1, x1, x2, x3, x10, x12, x54, x334000, x334001, x334002 => if x54 = true then (some false) else ((laws_markIntS.f k x12 1).bind fun bt362 => ((laws_heldIntS.f k bt362.2 1).bind fun t364 => (if t364 < 0 then (some false) else (if t364 = bt362.1 then ((laws_toFloor.f k x334000 x334001 x334002).bind fun bt365 => ((impl_Way.f k bt365.1 bt365.2.1 bt365.2.2 x1 x2 x3).bind fun t370 => ((laws_eqIntS.f k t370 x10).bind fun t373 => (if t373 = true then ((laws_heldIntS.f k bt362.2 1).bind fun t374 => (if t374 < 0 then (some false) else (if t374 = bt362.1 then (some true) else (some false)))) else (some false))))) else (some false)))))
def laws_FnExactWay.f (k : Nat) (a0_0 : Int) (a0_1 : Int) (l0_2 : List Int) (a1 : Int) (a2 : Int) (a3 : Bool) : Option (Bool) := (laws_szFloor.f a0_0 a0_1 l0_2 1048576).bind fun t334 => (if t334 < 0 then (some true) else ((laws_toFloor.f k a0_0 a0_1 l0_2).bind fun bt335 => ((spec_Way.f k bt335.1 bt335.2.1 bt335.2.2 a1 a2 a3).bind fun t340 => ((laws_toFloor.f k a0_0 a0_1 l0_2).bind fun bt343 => ((impl_Way.f k bt343.1 bt343.2.1 bt343.2.2 a1 a2 a3).bind fun t349 => ((laws_eqIntS.f k t349 t340).bind fun t352 => (if t352 = true then ((laws_toFloor.f k a0_0 a0_1 l0_2).bind fun bt353 => ((laws_eqFloor.f k bt343.1 bt343.2.1 bt343.2.2 bt353.1 bt353.2.1 bt353.2.2).bind fun t358 => (if t358 = true then ((laws_markFloor.f k bt343.1 bt343.2.1 bt343.2.2 1).bind fun bt359 => (if bt359.1 < 0 then (laws_FnExactWay.j0 k a1 a2 a3 t340 t349 true a0_0 a0_1 l0_2) else ((laws_eqIntS.f k t349 t340).bind fun t361 => (laws_FnExactWay.j0 k a1 a2 a3 t340 t349 (!t361) a0_0 a0_1 l0_2)))) else (some false)))) else (some false))))))))
theorem laws_FnExactWay.mono_l : ∀ k, (∀ y0 y1 y2 y3 y4 y5 y6 y7 y8, LeO (laws_FnExactWay.j0 k y0 y1 y2 y3 y4 y5 y6 y7 y8) (laws_FnExactWay.j0 (k + 1) y0 y1 y2 y3 y4 y5 y6 y7 y8))
  | 0 => fun _ _ _ _ _ _ _ _ _ r h => by simp [laws_FnExactWay.j0] at h
  | k + 1 => by
    have ih0 := laws_FnExactWay.mono_l k
    · intro y0 y1 y2 y3 y4 y5 y6 y7 y8
      unfold laws_FnExactWay.j0
      repeat' first
      | (with_reducible exact ih0 _ _ _ _ _ _ _ _ _)
      | (with_reducible exact impl_Way.mono _ _ _ _ _ _ _)
      | (with_reducible exact laws_eqFloor.mono _ _ _ _ _ _ _)
      | (with_reducible exact laws_eqIntS.mono _ _ _)
      | (with_reducible exact laws_heldIntS.mono _ _ _)
      | (with_reducible exact laws_markFloor.mono _ _ _ _ _)
      | (with_reducible exact laws_markIntS.mono _ _ _)
      | (with_reducible exact laws_toFloor.mono _ _ _ _)
      | (with_reducible exact spec_Way.mono _ _ _ _ _ _ _)
      | (with_reducible exact LeO.refl _)
      | (with_reducible exact LeO.none _)
      | (with_reducible refine LeO.ite ?_ ?_)
      | (with_reducible refine LeO.bind ?_ (fun _ => ?_))
      | exact ih0 _ _ _ _ _ _ _ _ _
      | exact impl_Way.mono _ _ _ _ _ _ _
      | exact laws_eqFloor.mono _ _ _ _ _ _ _
      | exact laws_eqIntS.mono _ _ _
      | exact laws_heldIntS.mono _ _ _
      | exact laws_markFloor.mono _ _ _ _ _
      | exact laws_markIntS.mono _ _ _
      | exact laws_toFloor.mono _ _ _ _
      | exact spec_Way.mono _ _ _ _ _ _ _
      | exact LeO.none _
      | refine LeO.ite ?_ ?_
      | refine LeO.bind ?_ (fun _ => ?_)
theorem laws_FnExactWay.mono : ∀ a0 a1 a2 a3 a4 a5 k, LeO (laws_FnExactWay.f k a0 a1 a2 a3 a4 a5) (laws_FnExactWay.f (k + 1) a0 a1 a2 a3 a4 a5) := by
  intro a0 a1 a2 a3 a4 a5 k
  have ih0 := laws_FnExactWay.mono_l k
  unfold laws_FnExactWay.f
  repeat' first
      | (with_reducible exact ih0 _ _ _ _ _ _ _ _ _)
      | (with_reducible exact impl_Way.mono _ _ _ _ _ _ _)
      | (with_reducible exact laws_eqFloor.mono _ _ _ _ _ _ _)
      | (with_reducible exact laws_eqIntS.mono _ _ _)
      | (with_reducible exact laws_heldIntS.mono _ _ _)
      | (with_reducible exact laws_markFloor.mono _ _ _ _ _)
      | (with_reducible exact laws_markIntS.mono _ _ _)
      | (with_reducible exact laws_toFloor.mono _ _ _ _)
      | (with_reducible exact spec_Way.mono _ _ _ _ _ _ _)
      | (with_reducible exact LeO.refl _)
      | (with_reducible exact LeO.none _)
      | (with_reducible refine LeO.ite ?_ ?_)
      | (with_reducible refine LeO.bind ?_ (fun _ => ?_))
      | exact ih0 _ _ _ _ _ _ _ _ _
      | exact impl_Way.mono _ _ _ _ _ _ _
      | exact laws_eqFloor.mono _ _ _ _ _ _ _
      | exact laws_eqIntS.mono _ _ _
      | exact laws_heldIntS.mono _ _ _
      | exact laws_markFloor.mono _ _ _ _ _
      | exact laws_markIntS.mono _ _ _
      | exact laws_toFloor.mono _ _ _ _
      | exact spec_Way.mono _ _ _ _ _ _ _
      | exact LeO.none _
      | refine LeO.ite ?_ ?_
      | refine LeO.bind ?_ (fun _ => ?_)
set_option maxHeartbeats 8000000 in
set_option maxRecDepth 100000 in
theorem laws_FnExactWay.calls (k : Nat) (a0_0 : Int) (a0_1 : Int) (A0_2 : Option Addr) (c0_2 : Nat) (l0_2 : List Int) (a1 : Int) (a2 : Int) (a3 : Bool) (r : Bool) (w : World) (hr0_2 : Kd.C (Kd.int .i64) w A0_2 l0_2.length l0_2) (hc0_2 : l0_2.length ≤ c0_2) (hT : r = true) (h : laws_FnExactWay.f k a0_0 a0_1 l0_2 a1 a2 a3 = some r) :
    Calls Try.prog 12 #[.agg #[.int .i64 a0_0, .int .i64 a0_1, .slice A0_2 l0_2.length c0_2], .int .i64 a1, .int .i64 a2, .bool a3] w fun e w' => e = .returned (.bool r) ∧ Below w.heap.size w w' := by
  have HTR_ := Aside0.mk hT
  clear hT
  have hu24 := Try.underlying24
  have hu27 := Try.underlying27
  have HR0_2 := Aside0.mk hr0_2
  have HC0_2 := Aside0.mk hc0_2
  clear hr0_2 hc0_2
  have HB := Aside0.mk (Below.refl w.heap.size w)
  have H : ((laws_szFloor.f a0_0 a0_1 l0_2 1048576).bind fun t334 => (if t334 < 0 then (some true) else ((laws_toFloor.f k a0_0 a0_1 l0_2).bind fun bt335 => ((spec_Way.f k bt335.1 bt335.2.1 bt335.2.2 a1 a2 a3).bind fun t340 => ((laws_toFloor.f k a0_0 a0_1 l0_2).bind fun bt343 => ((impl_Way.f k bt343.1 bt343.2.1 bt343.2.2 a1 a2 a3).bind fun t349 => ((laws_eqIntS.f k t349 t340).bind fun t352 => (if t352 = true then ((laws_toFloor.f k a0_0 a0_1 l0_2).bind fun bt353 => ((laws_eqFloor.f k bt343.1 bt343.2.1 bt343.2.2 bt353.1 bt353.2.1 bt353.2.2).bind fun t358 => (if t358 = true then ((laws_markFloor.f k bt343.1 bt343.2.1 bt343.2.2 1).bind fun bt359 => (if bt359.1 < 0 then (laws_FnExactWay.j0 k a1 a2 a3 t340 t349 true a0_0 a0_1 l0_2) else ((laws_eqIntS.f k t349 t340).bind fun t361 => (laws_FnExactWay.j0 k a1 a2 a3 t340 t349 (!t361) a0_0 a0_1 l0_2)))) else (some false)))) else (some false))))))))) = some r := h
  clear h
  replace H := Option.bind_eq_some_iff.mp H
  obtain ⟨t334, A50, H⟩ := H
  replace H : (if t334 < 0 then (some true) else ((laws_toFloor.f k a0_0 a0_1 l0_2).bind fun bt335 => ((spec_Way.f k bt335.1 bt335.2.1 bt335.2.2 a1 a2 a3).bind fun t340 => ((laws_toFloor.f k a0_0 a0_1 l0_2).bind fun bt343 => ((impl_Way.f k bt343.1 bt343.2.1 bt343.2.2 a1 a2 a3).bind fun t349 => ((laws_eqIntS.f k t349 t340).bind fun t352 => (if t352 = true then ((laws_toFloor.f k a0_0 a0_1 l0_2).bind fun bt353 => ((laws_eqFloor.f k bt343.1 bt343.2.1 bt343.2.2 bt353.1 bt353.2.1 bt353.2.2).bind fun t358 => (if t358 = true then ((laws_markFloor.f k bt343.1 bt343.2.1 bt343.2.2 1).bind fun bt359 => (if bt359.1 < 0 then (laws_FnExactWay.j0 k a1 a2 a3 t340 t349 true a0_0 a0_1 l0_2) else ((laws_eqIntS.f k t349 t340).bind fun t361 => (laws_FnExactWay.j0 k a1 a2 a3 t340 t349 (!t361) a0_0 a0_1 l0_2)))) else (some false)))) else (some false)))))))) = some r := H
  have A5 := Aside0.mk A50
  clear A50
  by_cases c6 : t334 < 0
  · rw [if_pos c6] at H
    have c6b0 : decide (t334 < 0) = true := decide_eq_true c6
    clear c6
    obtain rfl := Option.some.inj H
    simp only [Option.some.injEq, Prod.mk.injEq] at H
    obtain ⟨rfl⟩ := H
    go_enter Try.func12, Try.ntmps12
    go_wp2_with (first | ((with_reducible refine gate_dst (N := 4) rfl ?_); refine box_event ?hg (N := 4) ?hd (cs := #[.int .i64 a0_0, .int .i64 a0_1, .slice A0_2 l0_2.length c0_2]) (t := 24) ?hr ?_; (case hd => rfl); (case hg => rfl); (case hr => first | (go_simp; done) | (go_simp; rfl)); intro gb333 hg w7 hbox hb; have n0_ := Aside0.mk (below_step (by repeat (first | (with_reducible first | exact HB.out | apply below_alloc | apply pw_below_drewN | apply below_drew1) | exact HB.out)) hb); have n1_ := Aside0.mk (hbox); have n2_ := Aside0.mk ((by rw [hg]; exact (below_size (by repeat (first | (with_reducible first | exact HB.out | apply below_alloc | apply pw_below_drewN | apply below_drew1) | exact HB.out))) : w.heap.size ≤ gb333)); have n3_ := Aside0.mk ((by rw [hg]; exact (below_size (by repeat (first | (with_reducible first | exact HB.out | apply below_alloc | apply pw_below_drewN | apply below_drew1) | exact HB.out))) : w.heap.size ≤ gb333)); clear HB; have HB := n0_; have BK333 := n1_; have GW333 := n2_; have GE333 := n3_; clear n0_ n1_ n2_ n3_; clear hb hbox hg; have hcz8_0 : w7.cell? ⟨gb333, 0, none⟩ = some (.int .i64 a0_0) := (blk_cell BK333.out 0).trans rfl; have hcz8_1 : w7.cell? ⟨gb333, 1, none⟩ = some (.int .i64 a0_1) := (blk_cell BK333.out 1).trans rfl; have hcz8_2 : w7.cell? ⟨gb333, 2, none⟩ = some (.slice A0_2 l0_2.length c0_2) := (blk_cell BK333.out 2).trans rfl; have hfz8_0 := blk_frozen BK333.out 0; have hfz8_1 := blk_frozen BK333.out 1; have hfz8_2 := blk_frozen BK333.out 2) | ((with_reducible refine gate_callee (f := 15) rfl ?_); refine goesL_ (some 19) rfl rfl Try.func15 (by kernel_rfl) rfl #[.agg #[.int .i64 a0_0, .int .i64 a0_1, .slice A0_2 l0_2.length c0_2], .int .i64 1048576] rfl (by (try simp only [List.map_toArray, List.map_cons, List.map_nil]); first | done | rfl | (simp only [List.length_drop, List.length_take]; rfl)) ?_; (with_reducible refine (laws_szFloor.calls a0_0 a0_1 _ _ l0_2 1048576 t334 _ ?side1 ?side2 A5.out).mono ?_); (case side1 => repeat (first | exact (Kd.C_below HR0_2.out HB.out) | (with_reducible refine Kd.C_alloc ?_ _) | (with_reducible refine Kd.C_drewN ?_ _) | (with_reducible refine Kd.C_drew ?_))); (case side2 => exact HC0_2.out); rintro e w9 ⟨rfl, hb⟩; refine ⟨_, rfl, ?_⟩; have n0_ := Aside0.mk (blk_below (g := gb333) (o := .cells #[.int .i64 a0_0, .int .i64 a0_1, .slice A0_2 l0_2.length c0_2] 24 (0, 0)) (by (with_reducible repeat (first | refine blk_drewN ?_ _ | refine blk_drew ?_ | refine blk_alloc ?_ _)); exact BK333.out) hb); have n1_ := Aside0.mk (below_step (by repeat (first | (with_reducible first | exact HB.out | apply below_alloc | apply pw_below_drewN | apply below_drew1 | refine below_set ?_ GE333.out) | exact HB.out)) hb); clear BK333; clear HB; have BK333 := n0_; have HB := n1_; clear n0_ n1_; (try clear hb); (try clear hb2); (try clear hk); (try clear hi)))
    go_ret
    exact ⟨by first | rfl | (simp [errW_none, errW_some] <;> rfl) | (simp [*, errW_none, errW_some] <;> rfl), by repeat (first | (with_reducible first | exact HB.out | apply below_alloc | apply pw_below_drewN | apply below_drew1 | refine below_set ?_ GE333.out) | exact HB.out)⟩
  · rw [if_neg c6] at H
    have c6b0 : decide (t334 < 0) = false := decide_eq_false c6
    clear c6
    replace H := Option.bind_eq_some_iff.mp H
    obtain ⟨⟨t335, t336, t337⟩, A100, H⟩ := H
    replace H : ((spec_Way.f k t335 t336 t337 a1 a2 a3).bind fun t340 => ((laws_toFloor.f k a0_0 a0_1 l0_2).bind fun bt343 => ((impl_Way.f k bt343.1 bt343.2.1 bt343.2.2 a1 a2 a3).bind fun t349 => ((laws_eqIntS.f k t349 t340).bind fun t352 => (if t352 = true then ((laws_toFloor.f k a0_0 a0_1 l0_2).bind fun bt353 => ((laws_eqFloor.f k bt343.1 bt343.2.1 bt343.2.2 bt353.1 bt353.2.1 bt353.2.2).bind fun t358 => (if t358 = true then ((laws_markFloor.f k bt343.1 bt343.2.1 bt343.2.2 1).bind fun bt359 => (if bt359.1 < 0 then (laws_FnExactWay.j0 k a1 a2 a3 t340 t349 true a0_0 a0_1 l0_2) else ((laws_eqIntS.f k t349 t340).bind fun t361 => (laws_FnExactWay.j0 k a1 a2 a3 t340 t349 (!t361) a0_0 a0_1 l0_2)))) else (some false)))) else (some false)))))) = some r := H
    have A10 := Aside0.mk A100
    clear A100
    replace H := Option.bind_eq_some_iff.mp H
    obtain ⟨t340, A110, H⟩ := H
    replace H : ((laws_toFloor.f k a0_0 a0_1 l0_2).bind fun bt343 => ((impl_Way.f k bt343.1 bt343.2.1 bt343.2.2 a1 a2 a3).bind fun t349 => ((laws_eqIntS.f k t349 t340).bind fun t352 => (if t352 = true then ((laws_toFloor.f k a0_0 a0_1 l0_2).bind fun bt353 => ((laws_eqFloor.f k bt343.1 bt343.2.1 bt343.2.2 bt353.1 bt353.2.1 bt353.2.2).bind fun t358 => (if t358 = true then ((laws_markFloor.f k bt343.1 bt343.2.1 bt343.2.2 1).bind fun bt359 => (if bt359.1 < 0 then (laws_FnExactWay.j0 k a1 a2 a3 t340 t349 true a0_0 a0_1 l0_2) else ((laws_eqIntS.f k t349 t340).bind fun t361 => (laws_FnExactWay.j0 k a1 a2 a3 t340 t349 (!t361) a0_0 a0_1 l0_2)))) else (some false)))) else (some false))))) = some r := H
    have A11 := Aside0.mk A110
    clear A110
    replace H := Option.bind_eq_some_iff.mp H
    obtain ⟨⟨t343, t344, t345⟩, A120, H⟩ := H
    replace H : ((impl_Way.f k t343 t344 t345 a1 a2 a3).bind fun t349 => ((laws_eqIntS.f k t349 t340).bind fun t352 => (if t352 = true then ((laws_toFloor.f k a0_0 a0_1 l0_2).bind fun bt353 => ((laws_eqFloor.f k t343 t344 t345 bt353.1 bt353.2.1 bt353.2.2).bind fun t358 => (if t358 = true then ((laws_markFloor.f k t343 t344 t345 1).bind fun bt359 => (if bt359.1 < 0 then (laws_FnExactWay.j0 k a1 a2 a3 t340 t349 true a0_0 a0_1 l0_2) else ((laws_eqIntS.f k t349 t340).bind fun t361 => (laws_FnExactWay.j0 k a1 a2 a3 t340 t349 (!t361) a0_0 a0_1 l0_2)))) else (some false)))) else (some false)))) = some r := H
    have A12 := Aside0.mk A120
    clear A120
    replace H := Option.bind_eq_some_iff.mp H
    obtain ⟨t349, A130, H⟩ := H
    replace H : ((laws_eqIntS.f k t349 t340).bind fun t352 => (if t352 = true then ((laws_toFloor.f k a0_0 a0_1 l0_2).bind fun bt353 => ((laws_eqFloor.f k t343 t344 t345 bt353.1 bt353.2.1 bt353.2.2).bind fun t358 => (if t358 = true then ((laws_markFloor.f k t343 t344 t345 1).bind fun bt359 => (if bt359.1 < 0 then (laws_FnExactWay.j0 k a1 a2 a3 t340 t349 true a0_0 a0_1 l0_2) else ((laws_eqIntS.f k t349 t340).bind fun t361 => (laws_FnExactWay.j0 k a1 a2 a3 t340 t349 (!t361) a0_0 a0_1 l0_2)))) else (some false)))) else (some false))) = some r := H
    have A13 := Aside0.mk A130
    clear A130
    replace H := Option.bind_eq_some_iff.mp H
    obtain ⟨t352, A140, H⟩ := H
    replace H : (if t352 = true then ((laws_toFloor.f k a0_0 a0_1 l0_2).bind fun bt353 => ((laws_eqFloor.f k t343 t344 t345 bt353.1 bt353.2.1 bt353.2.2).bind fun t358 => (if t358 = true then ((laws_markFloor.f k t343 t344 t345 1).bind fun bt359 => (if bt359.1 < 0 then (laws_FnExactWay.j0 k a1 a2 a3 t340 t349 true a0_0 a0_1 l0_2) else ((laws_eqIntS.f k t349 t340).bind fun t361 => (laws_FnExactWay.j0 k a1 a2 a3 t340 t349 (!t361) a0_0 a0_1 l0_2)))) else (some false)))) else (some false)) = some r := H
    have A14 := Aside0.mk A140
    clear A140
    by_cases c15 : t352 = true
    · subst c15
      have H1 : ((laws_toFloor.f k a0_0 a0_1 l0_2).bind fun bt353 => ((laws_eqFloor.f k t343 t344 t345 bt353.1 bt353.2.1 bt353.2.2).bind fun t358 => (if t358 = true then ((laws_markFloor.f k t343 t344 t345 1).bind fun bt359 => (if bt359.1 < 0 then (laws_FnExactWay.j0 k a1 a2 a3 t340 t349 true a0_0 a0_1 l0_2) else ((laws_eqIntS.f k t349 t340).bind fun t361 => (laws_FnExactWay.j0 k a1 a2 a3 t340 t349 (!t361) a0_0 a0_1 l0_2)))) else (some false)))) = some r := by rw [if_pos rfl] at H; exact H
      clear H
      have H := H1
      clear H1
      replace H := Option.bind_eq_some_iff.mp H
      obtain ⟨⟨t353, t354, t355⟩, A160, H⟩ := H
      replace H : ((laws_eqFloor.f k t343 t344 t345 t353 t354 t355).bind fun t358 => (if t358 = true then ((laws_markFloor.f k t343 t344 t345 1).bind fun bt359 => (if bt359.1 < 0 then (laws_FnExactWay.j0 k a1 a2 a3 t340 t349 true a0_0 a0_1 l0_2) else ((laws_eqIntS.f k t349 t340).bind fun t361 => (laws_FnExactWay.j0 k a1 a2 a3 t340 t349 (!t361) a0_0 a0_1 l0_2)))) else (some false))) = some r := H
      have A16 := Aside0.mk A160
      clear A160
      replace H := Option.bind_eq_some_iff.mp H
      obtain ⟨t358, A170, H⟩ := H
      replace H : (if t358 = true then ((laws_markFloor.f k t343 t344 t345 1).bind fun bt359 => (if bt359.1 < 0 then (laws_FnExactWay.j0 k a1 a2 a3 t340 t349 true a0_0 a0_1 l0_2) else ((laws_eqIntS.f k t349 t340).bind fun t361 => (laws_FnExactWay.j0 k a1 a2 a3 t340 t349 (!t361) a0_0 a0_1 l0_2)))) else (some false)) = some r := H
      have A17 := Aside0.mk A170
      clear A170
      by_cases c18 : t358 = true
      · subst c18
        have H1 : ((laws_markFloor.f k t343 t344 t345 1).bind fun bt359 => (if bt359.1 < 0 then (laws_FnExactWay.j0 k a1 a2 a3 t340 t349 true a0_0 a0_1 l0_2) else ((laws_eqIntS.f k t349 t340).bind fun t361 => (laws_FnExactWay.j0 k a1 a2 a3 t340 t349 (!t361) a0_0 a0_1 l0_2)))) = some r := by rw [if_pos rfl] at H; exact H
        clear H
        have H := H1
        clear H1
        replace H := Option.bind_eq_some_iff.mp H
        obtain ⟨⟨t359, t360⟩, A190, H⟩ := H
        replace H : (if t359 < 0 then (laws_FnExactWay.j0 k a1 a2 a3 t340 t349 true a0_0 a0_1 l0_2) else ((laws_eqIntS.f k t349 t340).bind fun t361 => (laws_FnExactWay.j0 k a1 a2 a3 t340 t349 (!t361) a0_0 a0_1 l0_2))) = some r := H
        have A19 := Aside0.mk A190
        clear A190
        have HC20 := Aside0.mk H
        clear H
        go_enter Try.func12, Try.ntmps12
        try go_wp2_with (first | ((with_reducible refine gate_dst (N := 4) rfl ?_); refine box_event ?hg (N := 4) ?hd (cs := #[.int .i64 a0_0, .int .i64 a0_1, .slice A0_2 l0_2.length c0_2]) (t := 24) ?hr ?_; (case hd => rfl); (case hg => rfl); (case hr => first | (go_simp; done) | (go_simp; rfl)); intro gb333 hg w21 hbox hb; have n0_ := Aside0.mk (below_step (by repeat (first | (with_reducible first | exact HB.out | apply below_alloc | apply pw_below_drewN | apply below_drew1) | exact HB.out)) hb); have n1_ := Aside0.mk (hbox); have n2_ := Aside0.mk ((by rw [hg]; exact (below_size (by repeat (first | (with_reducible first | exact HB.out | apply below_alloc | apply pw_below_drewN | apply below_drew1) | exact HB.out))) : w.heap.size ≤ gb333)); have n3_ := Aside0.mk ((by rw [hg]; exact (below_size (by repeat (first | (with_reducible first | exact HB.out | apply below_alloc | apply pw_below_drewN | apply below_drew1) | exact HB.out))) : w.heap.size ≤ gb333)); clear HB; have HB := n0_; have BK333 := n1_; have GW333 := n2_; have GE333 := n3_; clear n0_ n1_ n2_ n3_; clear hb hbox hg; have hcz22_0 : w21.cell? ⟨gb333, 0, none⟩ = some (.int .i64 a0_0) := (blk_cell BK333.out 0).trans rfl; have hcz22_1 : w21.cell? ⟨gb333, 1, none⟩ = some (.int .i64 a0_1) := (blk_cell BK333.out 1).trans rfl; have hcz22_2 : w21.cell? ⟨gb333, 2, none⟩ = some (.slice A0_2 l0_2.length c0_2) := (blk_cell BK333.out 2).trans rfl; have hfz22_0 := blk_frozen BK333.out 0; have hfz22_1 := blk_frozen BK333.out 1; have hfz22_2 := blk_frozen BK333.out 2) | ((with_reducible refine gate_callee (f := 15) rfl ?_); refine goesL_ (some 19) rfl rfl Try.func15 (by kernel_rfl) rfl #[.agg #[.int .i64 a0_0, .int .i64 a0_1, .slice A0_2 l0_2.length c0_2], .int .i64 1048576] rfl (by (try simp only [List.map_toArray, List.map_cons, List.map_nil]); first | done | rfl | (simp only [List.length_drop, List.length_take]; rfl)) ?_; (with_reducible refine (laws_szFloor.calls a0_0 a0_1 _ _ l0_2 1048576 t334 _ ?side1 ?side2 A5.out).mono ?_); (case side1 => repeat (first | exact (Kd.C_below HR0_2.out HB.out) | (with_reducible refine Kd.C_alloc ?_ _) | (with_reducible refine Kd.C_drewN ?_ _) | (with_reducible refine Kd.C_drew ?_))); (case side2 => exact HC0_2.out); rintro e w23 ⟨rfl, hb⟩; refine ⟨_, rfl, ?_⟩; have n0_ := Aside0.mk (blk_below (g := gb333) (o := .cells #[.int .i64 a0_0, .int .i64 a0_1, .slice A0_2 l0_2.length c0_2] 24 (0, 0)) (by (with_reducible repeat (first | refine blk_drewN ?_ _ | refine blk_drew ?_ | refine blk_alloc ?_ _)); exact BK333.out) hb); have n1_ := Aside0.mk (below_step (by repeat (first | (with_reducible first | exact HB.out | apply below_alloc | apply pw_below_drewN | apply below_drew1 | refine below_set ?_ GE333.out) | exact HB.out)) hb); clear BK333; clear HB; have BK333 := n0_; have HB := n1_; clear n0_ n1_; (try clear hb); (try clear hb2); (try clear hk); (try clear hi); have hcz24_0 : w23.cell? ⟨gb333, 0, none⟩ = some (.int .i64 a0_0) := (blk_cell BK333.out 0).trans rfl; have hcz24_1 : w23.cell? ⟨gb333, 1, none⟩ = some (.int .i64 a0_1) := (blk_cell BK333.out 1).trans rfl; have hcz24_2 : w23.cell? ⟨gb333, 2, none⟩ = some (.slice A0_2 l0_2.length c0_2) := (blk_cell BK333.out 2).trans rfl; have hfz24_0 := blk_frozen BK333.out 0; have hfz24_1 := blk_frozen BK333.out 1; have hfz24_2 := blk_frozen BK333.out 2) | ((with_reducible refine gate_callee (f := 17) rfl ?_); refine goesL_ (some 23) rfl rfl Try.func17 (by kernel_rfl) rfl #[.agg #[.int .i64 a0_0, .int .i64 a0_1, .slice A0_2 l0_2.length c0_2]] rfl (by (try simp only [List.map_toArray, List.map_cons, List.map_nil]); first | done | rfl | (simp only [List.length_drop, List.length_take]; rfl)) ?_; (with_reducible refine (laws_toFloor.calls k a0_0 a0_1 _ _ l0_2 t335 t336 t337 _ ?side1 ?side2 A10.out).mono ?_); (case side1 => repeat (first | exact (Kd.C_below HR0_2.out HB.out) | (with_reducible refine Kd.C_alloc ?_ _) | (with_reducible refine Kd.C_drewN ?_ _) | (with_reducible refine Kd.C_drew ?_))); (case side2 => exact HC0_2.out); rintro e w25 ⟨v338, rfl, ho0, hb⟩; refine ⟨_, rfl, ?_⟩; have n0_ := Aside0.mk (Kd.R_lower ho0 (below_size (by repeat (first | (with_reducible first | exact HB.out | apply below_alloc | apply pw_below_drewN | apply below_drew1 | refine below_set ?_ GE333.out) | exact HB.out)))); have n1_ := Aside0.mk (blk_below (g := gb333) (o := .cells #[.int .i64 a0_0, .int .i64 a0_1, .slice A0_2 l0_2.length c0_2] 24 (0, 0)) (by (with_reducible repeat (first | refine blk_drewN ?_ _ | refine blk_drew ?_ | refine blk_alloc ?_ _)); exact BK333.out) hb); have n2_ := Aside0.mk (below_step (by repeat (first | (with_reducible first | exact HB.out | apply below_alloc | apply pw_below_drewN | apply below_drew1 | refine below_set ?_ GE333.out) | exact HB.out)) hb); clear BK333; clear HB; have HO339 := n0_; have BK333 := n1_; have HB := n2_; clear n0_ n1_ n2_; (try clear hb); (try clear hb2); (try clear hk); (try clear hi); (try clear ho0); obtain ⟨Ao26, co26, eo26⟩ := Kd.R_slice HO339.out; subst eo26) | ((with_reducible refine gate_callee (f := 52) rfl ?_); refine goesL_ (some 27) rfl rfl Try.func52 (by kernel_rfl) rfl #[.agg #[.int .i64 t335, .int .i64 t336, .slice Ao26 t337.length co26], .int .i64 a1, .int .i64 a2, .bool a3] rfl (by (try simp only [List.map_toArray, List.map_cons, List.map_nil]); first | done | rfl | (simp only [List.length_drop, List.length_take]; rfl)) ?_; (with_reducible refine (spec_Way.calls k t335 t336 _ _ t337 a1 a2 a3 t340 _ ?side1 ?side2 A11.out).mono ?_); (case side1 => repeat (first | exact (Kd.R_reads' HO339.out).2.2 | (with_reducible refine Kd.C_alloc ?_ _) | (with_reducible refine Kd.C_drewN ?_ _) | (with_reducible refine Kd.C_drew ?_))); (case side2 => exact (Kd.R_reads' HO339.out).2.1); rintro e w27 ⟨v341, rfl, ho0, hb⟩; refine ⟨_, rfl, ?_⟩; have n0_ := Aside0.mk (Kd.R_elder' (by (with_reducible repeat (first | apply Kd.R_alloc | apply Kd.R_drewN | apply Kd.R_drew)); exact HO339.out) (Kd.R_base ho0) hb); have n1_ := Aside0.mk (Kd.R_lower (Kd.R_new' ho0 (Kd.R_lt (by (with_reducible repeat (first | apply Kd.R_alloc | apply Kd.R_drewN | apply Kd.R_drew)); exact HO339.out))) (below_size (by repeat (first | (with_reducible first | exact HB.out | apply below_alloc | apply pw_below_drewN | apply below_drew1 | refine below_set ?_ GE333.out) | exact HB.out)))); have n2_ := Aside0.mk (blk_below (g := gb333) (o := .cells #[.int .i64 a0_0, .int .i64 a0_1, .slice A0_2 l0_2.length c0_2] 24 (0, 0)) (by (with_reducible repeat (first | refine blk_drewN ?_ _ | refine blk_drew ?_ | refine blk_alloc ?_ _)); exact BK333.out) hb); have n3_ := Aside0.mk (below_step (by repeat (first | (with_reducible first | exact HB.out | apply below_alloc | apply pw_below_drewN | apply below_drew1 | refine below_set ?_ GE333.out) | exact HB.out)) hb); clear HO339; clear BK333; clear HB; have HO339 := n0_; have HO342 := n1_; have BK333 := n2_; have HB := n3_; clear n0_ n1_ n2_ n3_; (try clear hb); (try clear hb2); (try clear hk); (try clear hi); (try clear ho0); have hcz28_0 : w27.cell? ⟨gb333, 0, none⟩ = some (.int .i64 a0_0) := (blk_cell BK333.out 0).trans rfl; have hcz28_1 : w27.cell? ⟨gb333, 1, none⟩ = some (.int .i64 a0_1) := (blk_cell BK333.out 1).trans rfl; have hcz28_2 : w27.cell? ⟨gb333, 2, none⟩ = some (.slice A0_2 l0_2.length c0_2) := (blk_cell BK333.out 2).trans rfl; have hfz28_0 := blk_frozen BK333.out 0; have hfz28_1 := blk_frozen BK333.out 1; have hfz28_2 := blk_frozen BK333.out 2) | ((with_reducible refine gate_callee (f := 17) rfl ?_); refine goesL_ (some 29) rfl rfl Try.func17 (by kernel_rfl) rfl #[.agg #[.int .i64 a0_0, .int .i64 a0_1, .slice A0_2 l0_2.length c0_2]] rfl (by (try simp only [List.map_toArray, List.map_cons, List.map_nil]); first | done | rfl | (simp only [List.length_drop, List.length_take]; rfl)) ?_; (with_reducible refine (laws_toFloor.calls k a0_0 a0_1 _ _ l0_2 t343 t344 t345 _ ?side1 ?side2 A12.out).mono ?_); (case side1 => repeat (first | exact (Kd.C_below HR0_2.out HB.out) | (with_reducible refine Kd.C_alloc ?_ _) | (with_reducible refine Kd.C_drewN ?_ _) | (with_reducible refine Kd.C_drew ?_))); (case side2 => exact HC0_2.out); rintro e w29 ⟨v346, rfl, ho0, hb⟩; refine ⟨_, rfl, ?_⟩; have n0_ := Aside0.mk (Kd.R_elder' (by (with_reducible repeat (first | apply Kd.R_alloc | apply Kd.R_drewN | apply Kd.R_drew)); exact HO339.out) (Kd.R_base ho0) hb); have n1_ := Aside0.mk (Kd.R_elder' (by (with_reducible repeat (first | apply Kd.R_alloc | apply Kd.R_drewN | apply Kd.R_drew)); exact HO342.out) (Kd.R_base ho0) hb); have n2_ := Aside0.mk (Kd.R_lower (Kd.R_new' (Kd.R_new' ho0 (Kd.R_lt (by (with_reducible repeat (first | apply Kd.R_alloc | apply Kd.R_drewN | apply Kd.R_drew)); exact HO339.out))) (Kd.R_lt (by (with_reducible repeat (first | apply Kd.R_alloc | apply Kd.R_drewN | apply Kd.R_drew)); exact HO342.out))) (below_size (by repeat (first | (with_reducible first | exact HB.out | apply below_alloc | apply pw_below_drewN | apply below_drew1 | refine below_set ?_ GE333.out) | exact HB.out)))); have n3_ := Aside0.mk (blk_below (g := gb333) (o := .cells #[.int .i64 a0_0, .int .i64 a0_1, .slice A0_2 l0_2.length c0_2] 24 (0, 0)) (by (with_reducible repeat (first | refine blk_drewN ?_ _ | refine blk_drew ?_ | refine blk_alloc ?_ _)); exact BK333.out) hb); have n4_ := Aside0.mk (below_step (by repeat (first | (with_reducible first | exact HB.out | apply below_alloc | apply pw_below_drewN | apply below_drew1 | refine below_set ?_ GE333.out) | exact HB.out)) hb); clear HO339; clear HO342; clear BK333; clear HB; have HO339 := n0_; have HO342 := n1_; have HO347 := n2_; have BK333 := n3_; have HB := n4_; clear n0_ n1_ n2_ n3_ n4_; (try clear hb); (try clear hb2); (try clear hk); (try clear hi); (try clear ho0)) | ((with_reducible refine gate_dst (N := 11) rfl ?_); refine box_event ?hg (N := 11) ?hd (cs := #[.int .i64 0, .int .i64 0, .slice none 0 0]) (t := 27) ?hr ?_; (case hd => rfl); (case hg => rfl); (case hr => first | (go_simp; done) | (go_simp; rfl)); intro gb348 hg w30 hbox hb; have n0_ := Aside0.mk (Kd.R_below (by (with_reducible repeat (first | apply Kd.R_alloc | apply Kd.R_drewN | apply Kd.R_drew)); exact HO339.out) hb); have n1_ := Aside0.mk (Kd.R_below (by (with_reducible repeat (first | apply Kd.R_alloc | apply Kd.R_drewN | apply Kd.R_drew)); exact HO342.out) hb); have n2_ := Aside0.mk (Kd.R_below (by (with_reducible repeat (first | apply Kd.R_alloc | apply Kd.R_drewN | apply Kd.R_drew)); exact HO347.out) hb); have n3_ := Aside0.mk (blk_below (g := gb333) (o := .cells #[.int .i64 a0_0, .int .i64 a0_1, .slice A0_2 l0_2.length c0_2] 24 (0, 0)) (by (with_reducible repeat (first | refine blk_drewN ?_ _ | refine blk_drew ?_ | refine blk_alloc ?_ _)); exact BK333.out) hb); have n4_ := Aside0.mk (below_step (by repeat (first | (with_reducible first | exact HB.out | apply below_alloc | apply pw_below_drewN | apply below_drew1 | refine below_set ?_ GE333.out) | exact HB.out)) hb); have n5_ := Aside0.mk (hbox); have n6_ := Aside0.mk ((by rw [hg]; exact (below_size (by repeat (first | (with_reducible first | exact HB.out | apply below_alloc | apply pw_below_drewN | apply below_drew1 | refine below_set ?_ GE333.out) | exact HB.out))) : w.heap.size ≤ gb348)); have n7_ := Aside0.mk ((by rw [hg]; exact (below_size (by repeat (first | (with_reducible first | exact HB.out | apply below_alloc | apply pw_below_drewN | apply below_drew1 | refine below_set ?_ GE333.out) | exact HB.out))) : w.heap.size ≤ gb348)); have n8_ := Aside0.mk ((by rw [hg]; exact Nat.ne_of_lt (blk_lt (g := gb333) (o := .cells #[.int .i64 a0_0, .int .i64 a0_1, .slice A0_2 l0_2.length c0_2] 24 (0, 0)) (by (with_reducible repeat (first | refine blk_drewN ?_ _ | refine blk_drew ?_ | refine blk_alloc ?_ _)); exact BK333.out)) : gb333 ≠ gb348)); have n9_ := Aside0.mk ((by rw [hg]; exact Nat.ne_of_gt (blk_lt (g := gb333) (o := .cells #[.int .i64 a0_0, .int .i64 a0_1, .slice A0_2 l0_2.length c0_2] 24 (0, 0)) (by (with_reducible repeat (first | refine blk_drewN ?_ _ | refine blk_drew ?_ | refine blk_alloc ?_ _)); exact BK333.out)) : gb348 ≠ gb333)); clear HO339; clear HO342; clear HO347; clear BK333; clear HB; have HO339 := n0_; have HO342 := n1_; have HO347 := n2_; have BK333 := n3_; have HB := n4_; have BK348 := n5_; have GW348 := n6_; have GE348 := n7_; have NB333_348 := n8_; have NB348_333 := n9_; clear n0_ n1_ n2_ n3_ n4_ n5_ n6_ n7_ n8_ n9_; clear hb hbox hg; have hnb31 := NB348_333.out; have hnc31 := NB333_348.out; have hcz32_0 : w30.cell? ⟨gb348, 0, none⟩ = some (.int .i64 0) := (blk_cell BK348.out 0).trans rfl; have hcz32_1 : w30.cell? ⟨gb348, 1, none⟩ = some (.int .i64 0) := (blk_cell BK348.out 1).trans rfl; have hcz32_2 : w30.cell? ⟨gb348, 2, none⟩ = some (.slice none 0 0) := (blk_cell BK348.out 2).trans rfl; have hfz32_0 := blk_frozen BK348.out 0; have hfz32_1 := blk_frozen BK348.out 1; have hfz32_2 := blk_frozen BK348.out 2; obtain ⟨Ao33, co33, eo33⟩ := Kd.R_slice HO347.out; subst eo33) | ((with_reducible refine gate_callee (f := 53) rfl ?_); refine goesL_ (some 34) rfl rfl Try.func53 (by kernel_rfl) rfl #[.agg #[.int .i64 t343, .int .i64 t344, .slice Ao33 t345.length co33], .int .i64 a1, .int .i64 a2, .bool a3] rfl (by (try simp only [List.map_toArray, List.map_cons, List.map_nil]); first | done | rfl | (simp only [List.length_drop, List.length_take]; rfl)) ?_; (with_reducible refine (impl_Way.calls k t343 t344 _ _ t345 a1 a2 a3 t349 _ ?side1 ?side2 A13.out).mono ?_); (case side1 => refine (Kd.R_reads' (e := 3) (base := w.heap.size) (ok := fun k_ => ((True ∧ some k_ ≠ (.slice Ao26 t337.length co26 : Value).ownBlock) ∧ some k_ ≠ (v341 : Value).ownBlock)) (n := t345.length) (c := co33) ?_).2.2; exact (by (with_reducible repeat (first | apply Kd.R_alloc | apply Kd.R_drewN | apply Kd.R_drew)); exact (Kd.R_mono (Kd.R_far (p := ⟨gb348, 2, none⟩) (Kd.R_far (p := ⟨gb348, 1, none⟩) (Kd.R_far (p := ⟨gb348, 0, none⟩) (Kd.R_types HO347.out BK348.out (by decide)) (fun _ hk => hk.2) (.int .i64 t343)) (fun _ hk => hk.2) (.int .i64 t344)) (fun _ hk => hk.2) (.slice Ao33 t345.length co33)) (fun _ h_ => h_.1)))); (case side2 => exact (Kd.R_reads' HO347.out).2.1); rintro e w34 ⟨v350, rfl, ho0, hb⟩; refine ⟨_, rfl, ?_⟩; have n0_ := Aside0.mk (Kd.R_elder' (by (with_reducible repeat (first | apply Kd.R_alloc | apply Kd.R_drewN | apply Kd.R_drew)); exact (Kd.R_mono (Kd.R_far (p := ⟨gb348, 2, none⟩) (Kd.R_far (p := ⟨gb348, 1, none⟩) (Kd.R_far (p := ⟨gb348, 0, none⟩) (Kd.R_types HO339.out BK348.out (by decide)) (fun _ hk => hk.2) (.int .i64 t343)) (fun _ hk => hk.2) (.int .i64 t344)) (fun _ hk => hk.2) (.slice Ao33 t345.length co33)) (fun _ h_ => h_.1))) (Kd.R_base ho0) hb); have n1_ := Aside0.mk (Kd.R_elder' (by (with_reducible repeat (first | apply Kd.R_alloc | apply Kd.R_drewN | apply Kd.R_drew)); exact (Kd.R_mono (Kd.R_far (p := ⟨gb348, 2, none⟩) (Kd.R_far (p := ⟨gb348, 1, none⟩) (Kd.R_far (p := ⟨gb348, 0, none⟩) (Kd.R_types HO342.out BK348.out (by decide)) (fun _ hk => hk.2) (.int .i64 t343)) (fun _ hk => hk.2) (.int .i64 t344)) (fun _ hk => hk.2) (.slice Ao33 t345.length co33)) (fun _ h_ => h_.1))) (Kd.R_base ho0) hb); have n2_ := Aside0.mk (Kd.R_elder' (by (with_reducible repeat (first | apply Kd.R_alloc | apply Kd.R_drewN | apply Kd.R_drew)); exact (Kd.R_mono (Kd.R_far (p := ⟨gb348, 2, none⟩) (Kd.R_far (p := ⟨gb348, 1, none⟩) (Kd.R_far (p := ⟨gb348, 0, none⟩) (Kd.R_types HO347.out BK348.out (by decide)) (fun _ hk => hk.2) (.int .i64 t343)) (fun _ hk => hk.2) (.int .i64 t344)) (fun _ hk => hk.2) (.slice Ao33 t345.length co33)) (fun _ h_ => h_.1))) (Kd.R_base ho0) hb); have n3_ := Aside0.mk (Kd.R_lower (Kd.R_new' (Kd.R_new' (Kd.R_new' ho0 (Kd.R_lt (by (with_reducible repeat (first | apply Kd.R_alloc | apply Kd.R_drewN | apply Kd.R_drew)); exact (Kd.R_mono (Kd.R_far (p := ⟨gb348, 2, none⟩) (Kd.R_far (p := ⟨gb348, 1, none⟩) (Kd.R_far (p := ⟨gb348, 0, none⟩) (Kd.R_types HO339.out BK348.out (by decide)) (fun _ hk => hk.2) (.int .i64 t343)) (fun _ hk => hk.2) (.int .i64 t344)) (fun _ hk => hk.2) (.slice Ao33 t345.length co33)) (fun _ h_ => h_.1))))) (Kd.R_lt (by (with_reducible repeat (first | apply Kd.R_alloc | apply Kd.R_drewN | apply Kd.R_drew)); exact (Kd.R_mono (Kd.R_far (p := ⟨gb348, 2, none⟩) (Kd.R_far (p := ⟨gb348, 1, none⟩) (Kd.R_far (p := ⟨gb348, 0, none⟩) (Kd.R_types HO342.out BK348.out (by decide)) (fun _ hk => hk.2) (.int .i64 t343)) (fun _ hk => hk.2) (.int .i64 t344)) (fun _ hk => hk.2) (.slice Ao33 t345.length co33)) (fun _ h_ => h_.1))))) (Kd.R_lt (by (with_reducible repeat (first | apply Kd.R_alloc | apply Kd.R_drewN | apply Kd.R_drew)); exact (Kd.R_mono (Kd.R_far (p := ⟨gb348, 2, none⟩) (Kd.R_far (p := ⟨gb348, 1, none⟩) (Kd.R_far (p := ⟨gb348, 0, none⟩) (Kd.R_types HO347.out BK348.out (by decide)) (fun _ hk => hk.2) (.int .i64 t343)) (fun _ hk => hk.2) (.int .i64 t344)) (fun _ hk => hk.2) (.slice Ao33 t345.length co33)) (fun _ h_ => h_.1))))) (below_size (by repeat (first | (with_reducible first | exact HB.out | apply below_alloc | apply pw_below_drewN | apply below_drew1 | refine below_set ?_ GE333.out | refine below_set ?_ GE348.out) | exact HB.out)))); have n4_ := Aside0.mk (blk_below (g := gb333) (o := .cells #[.int .i64 a0_0, .int .i64 a0_1, .slice A0_2 l0_2.length c0_2] 24 (0, 0)) (by (with_reducible repeat (first | refine blk_drewN ?_ _ | refine blk_drew ?_ | refine blk_alloc ?_ _)); refine blk_far ?_ NB333_348.out _; (with_reducible repeat (first | refine blk_drewN ?_ _ | refine blk_drew ?_ | refine blk_alloc ?_ _)); refine blk_far ?_ NB333_348.out _; (with_reducible repeat (first | refine blk_drewN ?_ _ | refine blk_drew ?_ | refine blk_alloc ?_ _)); refine blk_far ?_ NB333_348.out _; (with_reducible repeat (first | refine blk_drewN ?_ _ | refine blk_drew ?_ | refine blk_alloc ?_ _)); exact BK333.out) hb); have n5_ := Aside0.mk (blk_below (g := gb348) (o := .cells #[.int .i64 t343, .int .i64 t344, .slice Ao33 t345.length co33] 27 (0, 0)) (by (with_reducible repeat (first | refine blk_drewN ?_ _ | refine blk_drew ?_ | refine blk_alloc ?_ _)); refine blk_put (cs := #[.int .i64 t343, .int .i64 t344, .slice none 0 0]) ?_ 2 _ rfl; (with_reducible repeat (first | refine blk_drewN ?_ _ | refine blk_drew ?_ | refine blk_alloc ?_ _)); refine blk_put (cs := #[.int .i64 t343, .int .i64 0, .slice none 0 0]) ?_ 1 _ rfl; (with_reducible repeat (first | refine blk_drewN ?_ _ | refine blk_drew ?_ | refine blk_alloc ?_ _)); refine blk_put (cs := #[.int .i64 0, .int .i64 0, .slice none 0 0]) ?_ 0 _ rfl; (with_reducible repeat (first | refine blk_drewN ?_ _ | refine blk_drew ?_ | refine blk_alloc ?_ _)); exact BK348.out) hb); have n6_ := Aside0.mk (below_step (by repeat (first | (with_reducible first | exact HB.out | apply below_alloc | apply pw_below_drewN | apply below_drew1 | refine below_set ?_ GE333.out | refine below_set ?_ GE348.out) | exact HB.out)) hb); clear HO339; clear HO342; clear HO347; clear BK333; clear BK348; clear HB; have HO339 := n0_; have HO342 := n1_; have HO347 := n2_; have HO351 := n3_; have BK333 := n4_; have BK348 := n5_; have HB := n6_; clear n0_ n1_ n2_ n3_ n4_ n5_ n6_; (try clear hb); (try clear hb2); (try clear hk); (try clear hi); (try clear ho0); obtain ⟨Ao35, co35, eo35⟩ := Kd.R_slice HO351.out; subst eo35; obtain ⟨Ao36, co36, eo36⟩ := Kd.R_slice HO342.out; subst eo36) | ((with_reducible refine gate_callee (f := 37) rfl ?_); refine goesL_ (some 37) rfl rfl Try.func37 (by kernel_rfl) rfl #[.slice Ao35 t349.length co35, .slice Ao36 t340.length co36] rfl (by (try simp only [List.map_toArray, List.map_cons, List.map_nil]); first | done | rfl | (simp only [List.length_drop, List.length_take]; rfl)) ?_; (with_reducible refine (laws_eqIntS.calls k _ _ t349 _ _ t340 true _ ?side1 ?side2 ?side3 ?side4 A14.out).mono ?_); (case side1 => repeat (first | exact (Kd.R_reads' HO351.out).2.2 | (with_reducible refine Kd.C_alloc ?_ _) | (with_reducible refine Kd.C_drewN ?_ _) | (with_reducible refine Kd.C_drew ?_))); (case side2 => exact (Kd.R_reads' HO351.out).2.1); (case side3 => repeat (first | exact (Kd.R_reads' HO342.out).2.2 | (with_reducible refine Kd.C_alloc ?_ _) | (with_reducible refine Kd.C_drewN ?_ _) | (with_reducible refine Kd.C_drew ?_))); (case side4 => exact (Kd.R_reads' HO342.out).2.1); rintro e w' ⟨rfl, ⟨nd, rfl⟩⟩; refine ⟨_, rfl, ?_⟩))
        (try (rw [drewN_self w34]; generalize hq_ : World.drewN w34 _ = w34; have n0_ : Aside0 (Kd.R (Kd.int .i64) 3 w34 w.heap.size (fun k_ => (((True ∧ some k_ ≠ (.slice Ao36 t340.length co36 : Value).ownBlock) ∧ some k_ ≠ (.slice Ao33 t345.length co33 : Value).ownBlock) ∧ some k_ ≠ (.slice Ao35 t349.length co35 : Value).ownBlock)) (.slice Ao26 t337.length co26) t337) := ⟨by rw [← hq_]; exact (by (with_reducible repeat (first | apply Kd.R_alloc | apply Kd.R_drewN | apply Kd.R_drew)); exact HO339.out)⟩; have n1_ : Aside0 (Kd.R (Kd.int .i64) 3 w34 w.heap.size (fun k_ => (((True ∧ some k_ ≠ (.slice Ao26 t337.length co26 : Value).ownBlock) ∧ some k_ ≠ (.slice Ao33 t345.length co33 : Value).ownBlock) ∧ some k_ ≠ (.slice Ao35 t349.length co35 : Value).ownBlock)) (.slice Ao36 t340.length co36) t340) := ⟨by rw [← hq_]; exact (by (with_reducible repeat (first | apply Kd.R_alloc | apply Kd.R_drewN | apply Kd.R_drew)); exact HO342.out)⟩; have n2_ : Aside0 (Kd.R (Kd.int .i64) 3 w34 w.heap.size (fun k_ => (((True ∧ some k_ ≠ (.slice Ao26 t337.length co26 : Value).ownBlock) ∧ some k_ ≠ (.slice Ao36 t340.length co36 : Value).ownBlock) ∧ some k_ ≠ (.slice Ao35 t349.length co35 : Value).ownBlock)) (.slice Ao33 t345.length co33) t345) := ⟨by rw [← hq_]; exact (by (with_reducible repeat (first | apply Kd.R_alloc | apply Kd.R_drewN | apply Kd.R_drew)); exact HO347.out)⟩; have n3_ : Aside0 (Kd.R (Kd.int .i64) 3 w34 w.heap.size (fun k_ => (((True ∧ some k_ ≠ (.slice Ao26 t337.length co26 : Value).ownBlock) ∧ some k_ ≠ (.slice Ao36 t340.length co36 : Value).ownBlock) ∧ some k_ ≠ (.slice Ao33 t345.length co33 : Value).ownBlock)) (.slice Ao35 t349.length co35) t349) := ⟨by rw [← hq_]; exact (by (with_reducible repeat (first | apply Kd.R_alloc | apply Kd.R_drewN | apply Kd.R_drew)); exact HO351.out)⟩; have n4_ : Aside0 (w34.heap[gb333]? = some (.cells #[.int .i64 a0_0, .int .i64 a0_1, .slice A0_2 l0_2.length c0_2] 24 (0, 0))) := ⟨by rw [← hq_]; exact (by (with_reducible repeat (first | refine blk_drewN ?_ _ | refine blk_drew ?_ | refine blk_alloc ?_ _)); exact BK333.out)⟩; have n5_ : Aside0 (w34.heap[gb348]? = some (.cells #[.int .i64 t343, .int .i64 t344, .slice Ao33 t345.length co33] 27 (0, 0))) := ⟨by rw [← hq_]; exact (by (with_reducible repeat (first | refine blk_drewN ?_ _ | refine blk_drew ?_ | refine blk_alloc ?_ _)); exact BK348.out)⟩; have n6_ : Aside0 (Below w.heap.size w w34) := ⟨by rw [← hq_]; exact (by repeat (first | (with_reducible first | exact HB.out | apply below_alloc | apply pw_below_drewN | apply below_drew1 | refine below_set ?_ GE333.out | refine below_set ?_ GE348.out) | exact HB.out))⟩; clear HO339 HO342 HO347 HO351 BK333 BK348 HB hq_; have HO339 := n0_; have HO342 := n1_; have HO347 := n2_; have HO351 := n3_; have BK333 := n4_; have BK348 := n5_; have HB := n6_; clear n0_ n1_ n2_ n3_ n4_ n5_ n6_))
        have n0_ := Aside0.mk (Kd.R_drew HO339.out)
        have n1_ := Aside0.mk (Kd.R_drew HO342.out)
        have n2_ := Aside0.mk (Kd.R_drew HO347.out)
        have n3_ := Aside0.mk (Kd.R_drew HO351.out)
        have n4_ := Aside0.mk (blk_drew BK333.out)
        have n5_ := Aside0.mk (blk_drew BK348.out)
        have n6_ := Aside0.mk (below_drew1 HB.out)
        clear HO339
        clear HO342
        clear HO347
        clear HO351
        clear BK333
        clear BK348
        clear HB
        have HO339 := n0_
        have HO342 := n1_
        have HO347 := n2_
        have HO351 := n3_
        have BK333 := n4_
        have BK348 := n5_
        have HB := n6_
        clear n0_ n1_ n2_ n3_ n4_ n5_ n6_
        refine start_ (n := 5) (S := fun w' => w'.cell? ⟨gb348, 0, none⟩ = some (.int .i64 t343) ∧ w'.cell? ⟨gb348, 1, none⟩ = some (.int .i64 t344) ∧ w'.cell? ⟨gb348, 2, none⟩ = some (.slice Ao33 t345.length co33) ∧ w'.cell? ⟨gb333, 0, none⟩ = some (.int .i64 a0_0) ∧ w'.cell? ⟨gb333, 1, none⟩ = some (.int .i64 a0_1) ∧ w'.cell? ⟨gb333, 2, none⟩ = some (.slice A0_2 l0_2.length c0_2)) (ds := []) #[false, false, false, false, false] (by kernel_rfl) rfl rfl ⟨(blk_cell BK348.out 0).trans rfl, (blk_cell BK348.out 1).trans rfl, (blk_cell BK348.out 2).trans rfl, (blk_cell BK333.out 0).trans rfl, (blk_cell BK333.out 1).trans rfl, (blk_cell BK333.out 2).trans rfl⟩ (fun hHeld => ?_)
        generalize w34.drew = w37 at HO339 HO342 HO347 HO351 BK333 BK348 HB hHeld ⊢
        refine take_ (i := 0) (N := some 39) (v := ?_) (a' := ?_) #[true, false, false, false, false] rfl rfl (by kernel_rfl) (fun _ _ _ h => h) (Or.inl ⟨by rfl, ?_⟩) hHeld ?_ ?_
        rotate_left
        · rintro w' ⟨s0, s1, s2, s3, s4, s5⟩
          go_simp
          with_reducible rfl
        rotate_left
        · simp only [Act.put, List.setIfInBounds_toArray, List.set_cons_zero, List.set_cons_succ, i64_w, i32_w]
          rfl
        refine take_ (i := 1) (N := some 40) (v := ?_) (a' := ?_) #[true, true, false, false, false] rfl rfl (by kernel_rfl) (fun _ _ _ h => h) (Or.inl ⟨by rfl, ?_⟩) hHeld ?_ ?_
        rotate_left
        · rintro w' ⟨s0, s1, s2, s3, s4, s5⟩
          go_simp
          with_reducible rfl
        rotate_left
        · simp only [Act.put, List.setIfInBounds_toArray, List.set_cons_zero, List.set_cons_succ, i64_w, i32_w]
          rfl
        refine one_ (i := 2) (N := some 41) #[true, true, true, false, false] rfl rfl (by kernel_rfl) (by decide) (fun K hK => ?_)
        refine goes_ Try.func17 (by kernel_rfl) rfl #[.agg #[.int .i64 a0_0, .int .i64 a0_1, .slice A0_2 l0_2.length c0_2]] (by rfl) rfl rfl (by (try simp only [List.map_toArray, List.map_cons, List.map_nil]); first | done | rfl | (simp only [List.length_drop, List.length_take]; rfl)) ?_
        with_reducible refine (laws_toFloor.calls k a0_0 a0_1 _ _ l0_2 t353 t354 t355 _ ?side1 ?side2 A16.out).mono ?_
        (case side1 => repeat (first | exact (Kd.C_below HR0_2.out HB.out) | (with_reducible refine Kd.C_alloc ?_ _) | (with_reducible refine Kd.C_drewN ?_ _) | (with_reducible refine Kd.C_drew ?_)))
        (case side2 => exact HC0_2.out)
        rintro e w38 ⟨v356, rfl, ho0, hb⟩
        refine ⟨_, rfl, ?_⟩
        have n0_ := Aside0.mk (Kd.R_elder' (by (with_reducible repeat (first | apply Kd.R_alloc | apply Kd.R_drewN | apply Kd.R_drew)); exact HO339.out) (Kd.R_base ho0) hb)
        have n1_ := Aside0.mk (Kd.R_elder' (by (with_reducible repeat (first | apply Kd.R_alloc | apply Kd.R_drewN | apply Kd.R_drew)); exact HO342.out) (Kd.R_base ho0) hb)
        have n2_ := Aside0.mk (Kd.R_elder' (by (with_reducible repeat (first | apply Kd.R_alloc | apply Kd.R_drewN | apply Kd.R_drew)); exact HO347.out) (Kd.R_base ho0) hb)
        have n3_ := Aside0.mk (Kd.R_elder' (by (with_reducible repeat (first | apply Kd.R_alloc | apply Kd.R_drewN | apply Kd.R_drew)); exact HO351.out) (Kd.R_base ho0) hb)
        have n4_ := Aside0.mk (Kd.R_lower (Kd.R_new' (Kd.R_new' (Kd.R_new' (Kd.R_new' ho0 (Kd.R_lt (by (with_reducible repeat (first | apply Kd.R_alloc | apply Kd.R_drewN | apply Kd.R_drew)); exact HO339.out))) (Kd.R_lt (by (with_reducible repeat (first | apply Kd.R_alloc | apply Kd.R_drewN | apply Kd.R_drew)); exact HO342.out))) (Kd.R_lt (by (with_reducible repeat (first | apply Kd.R_alloc | apply Kd.R_drewN | apply Kd.R_drew)); exact HO347.out))) (Kd.R_lt (by (with_reducible repeat (first | apply Kd.R_alloc | apply Kd.R_drewN | apply Kd.R_drew)); exact HO351.out))) (below_size (by repeat (first | (with_reducible first | exact HB.out | apply below_alloc | apply pw_below_drewN | apply below_drew1 | refine below_set ?_ GE333.out | refine below_set ?_ GE348.out) | exact HB.out))))
        have n5_ := Aside0.mk (blk_below (g := gb333) (o := .cells #[.int .i64 a0_0, .int .i64 a0_1, .slice A0_2 l0_2.length c0_2] 24 (0, 0)) (by (with_reducible repeat (first | refine blk_drewN ?_ _ | refine blk_drew ?_ | refine blk_alloc ?_ _)); exact BK333.out) hb)
        have n6_ := Aside0.mk (blk_below (g := gb348) (o := .cells #[.int .i64 t343, .int .i64 t344, .slice Ao33 t345.length co33] 27 (0, 0)) (by (with_reducible repeat (first | refine blk_drewN ?_ _ | refine blk_drew ?_ | refine blk_alloc ?_ _)); exact BK348.out) hb)
        have n7_ := Aside0.mk (below_step (by repeat (first | (with_reducible first | exact HB.out | apply below_alloc | apply pw_below_drewN | apply below_drew1 | refine below_set ?_ GE333.out | refine below_set ?_ GE348.out) | exact HB.out)) hb)
        clear HO339
        clear HO342
        clear HO347
        clear HO351
        clear BK333
        clear BK348
        clear HB
        have HO339 := n0_
        have HO342 := n1_
        have HO347 := n2_
        have HO351 := n3_
        have HO357 := n4_
        have BK333 := n5_
        have BK348 := n6_
        have HB := n7_
        clear n0_ n1_ n2_ n3_ n4_ n5_ n6_ n7_
        (try clear hb)
        (try clear hb2)
        (try clear hk)
        (try clear hi)
        (try clear ho0)
        obtain ⟨Ao39, co39, eo39⟩ := Kd.R_slice HO357.out
        (first | subst eo39 | (injection eo39 with f1_ f2_ f3_; have f4_ := f1_.symm; have f5_ := f3_.symm; clear f1_ f2_ f3_; subst f4_; subst f5_))
        refine hK.out _ _ ⟨(blk_cell BK348.out 0).trans rfl, (blk_cell BK348.out 1).trans rfl, (blk_cell BK348.out 2).trans rfl, (blk_cell BK333.out 0).trans rfl, (blk_cell BK333.out 1).trans rfl, (blk_cell BK333.out 2).trans rfl⟩ (fun hHeld => ?_)
        clear hK K
        refine norm_ (a' := ?_) ?_ ?_
        rotate_left
        · show Act.put _ (some 41) _ = _
          simp only [Act.put, List.setIfInBounds_toArray, List.set_cons_zero, List.set_cons_succ, i64_w, i32_w]
          rfl
        refine one_ (i := 3) (N := some 42) #[true, true, true, true, false] rfl rfl (by kernel_rfl) (by decide) (fun K hK => ?_)
        refine goes_ Try.func19 (by kernel_rfl) rfl #[.agg #[.int .i64 t343, .int .i64 t344, .slice Ao33 t345.length co33], .agg #[.int .i64 t353, .int .i64 t354, .slice Ao39 t355.length co39]] (by rfl) rfl rfl (by (try simp only [List.map_toArray, List.map_cons, List.map_nil]); first | done | rfl | (simp only [List.length_drop, List.length_take]; rfl)) ?_
        with_reducible refine (laws_eqFloor.calls k t343 t344 _ _ t345 t353 t354 _ _ t355 true _ ?side1 ?side2 ?side3 ?side4 A17.out).mono ?_
        (case side1 => repeat (first | exact (Kd.R_reads' HO347.out).2.2 | (with_reducible refine Kd.C_alloc ?_ _) | (with_reducible refine Kd.C_drewN ?_ _) | (with_reducible refine Kd.C_drew ?_)))
        (case side2 => exact (Kd.R_reads' HO347.out).2.1)
        (case side3 => repeat (first | exact (Kd.R_reads' HO357.out).2.2 | (with_reducible refine Kd.C_alloc ?_ _) | (with_reducible refine Kd.C_drewN ?_ _) | (with_reducible refine Kd.C_drew ?_)))
        (case side4 => exact (Kd.R_reads' HO357.out).2.1)
        rintro e w40 ⟨rfl, hb⟩
        refine ⟨_, rfl, ?_⟩
        have n0_ := Aside0.mk (Kd.R_below (by (with_reducible repeat (first | apply Kd.R_alloc | apply Kd.R_drewN | apply Kd.R_drew)); exact HO339.out) hb)
        have n1_ := Aside0.mk (Kd.R_below (by (with_reducible repeat (first | apply Kd.R_alloc | apply Kd.R_drewN | apply Kd.R_drew)); exact HO342.out) hb)
        have n2_ := Aside0.mk (Kd.R_below (by (with_reducible repeat (first | apply Kd.R_alloc | apply Kd.R_drewN | apply Kd.R_drew)); exact HO347.out) hb)
        have n3_ := Aside0.mk (Kd.R_below (by (with_reducible repeat (first | apply Kd.R_alloc | apply Kd.R_drewN | apply Kd.R_drew)); exact HO351.out) hb)
        have n4_ := Aside0.mk (Kd.R_below (by (with_reducible repeat (first | apply Kd.R_alloc | apply Kd.R_drewN | apply Kd.R_drew)); exact HO357.out) hb)
        have n5_ := Aside0.mk (blk_below (g := gb333) (o := .cells #[.int .i64 a0_0, .int .i64 a0_1, .slice A0_2 l0_2.length c0_2] 24 (0, 0)) (by (with_reducible repeat (first | refine blk_drewN ?_ _ | refine blk_drew ?_ | refine blk_alloc ?_ _)); exact BK333.out) hb)
        have n6_ := Aside0.mk (blk_below (g := gb348) (o := .cells #[.int .i64 t343, .int .i64 t344, .slice Ao33 t345.length co33] 27 (0, 0)) (by (with_reducible repeat (first | refine blk_drewN ?_ _ | refine blk_drew ?_ | refine blk_alloc ?_ _)); exact BK348.out) hb)
        have n7_ := Aside0.mk (below_step (by repeat (first | (with_reducible first | exact HB.out | apply below_alloc | apply pw_below_drewN | apply below_drew1 | refine below_set ?_ GE333.out | refine below_set ?_ GE348.out) | exact HB.out)) hb)
        clear HO339
        clear HO342
        clear HO347
        clear HO351
        clear HO357
        clear BK333
        clear BK348
        clear HB
        have HO339 := n0_
        have HO342 := n1_
        have HO347 := n2_
        have HO351 := n3_
        have HO357 := n4_
        have BK333 := n5_
        have BK348 := n6_
        have HB := n7_
        clear n0_ n1_ n2_ n3_ n4_ n5_ n6_ n7_
        (try clear hb)
        (try clear hb2)
        (try clear hk)
        (try clear hi)
        refine hK.out _ _ ⟨(blk_cell BK348.out 0).trans rfl, (blk_cell BK348.out 1).trans rfl, (blk_cell BK348.out 2).trans rfl, (blk_cell BK333.out 0).trans rfl, (blk_cell BK333.out 1).trans rfl, (blk_cell BK333.out 2).trans rfl⟩ (fun hHeld => ?_)
        clear hK K
        refine norm_ (a' := ?_) ?_ ?_
        rotate_left
        · show Act.put _ (some 42) _ = _
          simp only [Act.put, List.setIfInBounds_toArray, List.set_cons_zero, List.set_cons_succ, i64_w, i32_w]
          rfl
        refine pure_ (i := 4) (N := some 43) (v := ?_) (a' := ?_) #[true, true, true, true, true] rfl rfl (by kernel_rfl) (fun _ _ _ h => h) (Or.inl ⟨by rfl, ?_⟩) ?_ ?_
        rotate_left
        · intro w'
          go_simp
          with_reducible rfl
        rotate_left
        · simp only [Act.put, List.setIfInBounds_toArray, List.set_cons_zero, List.set_cons_succ, i64_w, i32_w]
          rfl
        refine done_ (by kernel_rfl) ?_
        have hcz41_0 : w40.cell? ⟨gb348, 0, none⟩ = some (.int .i64 t343) := (blk_cell BK348.out 0).trans rfl
        have hcz41_1 : w40.cell? ⟨gb348, 1, none⟩ = some (.int .i64 t344) := (blk_cell BK348.out 1).trans rfl
        have hcz41_2 : w40.cell? ⟨gb348, 2, none⟩ = some (.slice Ao33 t345.length co33) := (blk_cell BK348.out 2).trans rfl
        have hfz41_0 := blk_frozen BK348.out 0
        have hfz41_1 := blk_frozen BK348.out 1
        have hfz41_2 := blk_frozen BK348.out 2
        go_upto_region 14 with (first | ((with_reducible refine gate_callee (f := 38) rfl ?_); refine goesL_ (some 46) rfl rfl Try.func38 (by kernel_rfl) rfl #[.agg #[.int .i64 t343, .int .i64 t344, .slice Ao33 t345.length co33], .int .i64 1] rfl (by (try simp only [List.map_toArray, List.map_cons, List.map_nil]); first | done | rfl | (simp only [List.length_drop, List.length_take]; rfl)) ?_; (with_reducible refine (laws_markFloor.calls k t343 t344 (fun k_ => some k_ = (.slice Ao33 t345.length co33 : Value).ownBlock) (.slice Ao33 t345.length co33) t345 1 t359 t360 w _ ?side1 ?side2 A19.out).mono ?_); (case side1 => repeat (first | (with_reducible first | exact HB.out | apply below_alloc | apply pw_below_drewN | apply below_drew1 | refine below_set ?_ GE333.out | refine below_set ?_ GE348.out) | exact HB.out)); (case side2 => exact Kd.R_tight rfl HO347.out); rintro e w42 ⟨rfl, hy0, hb, hkp⟩; refine ⟨_, rfl, ?_⟩; have n0_ := Aside0.mk (blk_kept (by (with_reducible repeat (first | refine blk_drewN ?_ _ | refine blk_drew ?_ | refine blk_alloc ?_ _)); exact BK333.out) hkp (fun hs_ => (fun e_ => (Kd.R_ne HO347.out BK333.out (by decide)) e_) hs_)); have n1_ := Aside0.mk (Kd.R_mono (ok' := fun k_ => some k_ ≠ (.slice Ao36 t340.length co36 : Value).ownBlock ∧ some k_ ≠ (.slice Ao33 t345.length co33 : Value).ownBlock ∧ some k_ ≠ (.slice Ao35 t349.length co35 : Value).ownBlock ∧ some k_ ≠ (.slice Ao39 t355.length co39 : Value).ownBlock) (Kd.R_keptB (HO339.out) hkp (fun k_ hk_ hs_ => (hk_.1.1.2) hs_)) (fun k_ hk_ => ⟨hk_.1.1.1.1.2, hk_.1.1.1.2, hk_.1.1.2, hk_.1.2⟩)); have n2_ := Aside0.mk (Kd.R_mono (ok' := fun k_ => some k_ ≠ (.slice Ao26 t337.length co26 : Value).ownBlock ∧ some k_ ≠ (.slice Ao33 t345.length co33 : Value).ownBlock ∧ some k_ ≠ (.slice Ao35 t349.length co35 : Value).ownBlock ∧ some k_ ≠ (.slice Ao39 t355.length co39 : Value).ownBlock) (Kd.R_keptB (HO342.out) hkp (fun k_ hk_ hs_ => (hk_.1.1.2) hs_)) (fun k_ hk_ => ⟨hk_.1.1.1.1.2, hk_.1.1.1.2, hk_.1.1.2, hk_.1.2⟩)); have n3_ := Aside0.mk (Kd.R_reok rfl hy0 (fun k_ e_ => HO347.out.1 k_ e_)); have n4_ := Aside0.mk (blk_kept (by (with_reducible repeat (first | refine blk_drewN ?_ _ | refine blk_drew ?_ | refine blk_alloc ?_ _)); exact BK348.out) hkp (fun hs_ => (fun e_ => (Kd.R_ne HO347.out BK348.out (by decide)) e_) hs_)); have n5_ := Aside0.mk (Kd.R_mono (ok' := fun k_ => some k_ ≠ (.slice Ao26 t337.length co26 : Value).ownBlock ∧ some k_ ≠ (.slice Ao36 t340.length co36 : Value).ownBlock ∧ some k_ ≠ (.slice Ao33 t345.length co33 : Value).ownBlock ∧ some k_ ≠ (.slice Ao39 t355.length co39 : Value).ownBlock) (Kd.R_keptB (HO351.out) hkp (fun k_ hk_ hs_ => (hk_.1.2) hs_)) (fun k_ hk_ => ⟨hk_.1.1.1.1.2, hk_.1.1.1.2, hk_.1.1.2, hk_.1.2⟩)); have n6_ := Aside0.mk (Kd.R_mono (ok' := fun k_ => some k_ ≠ (.slice Ao26 t337.length co26 : Value).ownBlock ∧ some k_ ≠ (.slice Ao36 t340.length co36 : Value).ownBlock ∧ some k_ ≠ (.slice Ao33 t345.length co33 : Value).ownBlock ∧ some k_ ≠ (.slice Ao35 t349.length co35 : Value).ownBlock) (Kd.R_keptB (HO357.out) hkp (fun k_ hk_ hs_ => (hk_.1.2) hs_)) (fun k_ hk_ => ⟨hk_.1.1.1.1.2, hk_.1.1.1.2, hk_.1.1.2, hk_.1.2⟩)); have n7_ := Aside0.mk (hb); clear BK333; clear HO339; clear HO342; clear HO347; clear BK348; clear HO351; clear HO357; clear HB; have BK333 := n0_; have HO339 := n1_; have HO342 := n2_; have HO347 := n3_; have BK348 := n4_; have HO351 := n5_; have HO357 := n6_; have HB := n7_; clear n0_ n1_ n2_ n3_ n4_ n5_ n6_ n7_; (try clear hb); (try clear hkp); (try clear hy0)))
        (try simp only [Act.put, List.setIfInBounds_toArray, List.set_cons_zero, List.set_cons_succ])
        go_cut [54] (fun v54 wc => ∃ (kq : Nat) (x54_19 : Bool), v54 = .bool x54_19 ∧ Aside0 (laws_FnExactWay.j0 kq a1 a2 a3 t340 t349 x54_19 a0_0 a0_1 l0_2 = some r) ∧ Aside0 (kq ≤ k) ∧ Aside0 (Kd.R (Kd.int .i64) 3 wc w.heap.size (fun k_ => some k_ ≠ ((.slice Ao35 t349.length co35) : Value).ownBlock ∧ some k_ ≠ ((.slice Ao33 t345.length co33) : Value).ownBlock) (.slice Ao36 t340.length co36) t340) ∧ Aside0 (Kd.R (Kd.int .i64) 3 wc w.heap.size (fun k_ => some k_ ≠ ((.slice Ao36 t340.length co36) : Value).ownBlock ∧ some k_ ≠ ((.slice Ao33 t345.length co33) : Value).ownBlock) (.slice Ao35 t349.length co35) t349) ∧ Aside0 (Kd.R (Kd.int .i64) 3 wc w.heap.size (fun k_ => some k_ ≠ ((.slice Ao36 t340.length co36) : Value).ownBlock ∧ some k_ ≠ ((.slice Ao35 t349.length co35) : Value).ownBlock) (.slice Ao33 t345.length co33) t360) ∧ Aside0 (wc.heap[gb333]? = some (.cells #[.int .i64 a0_0, .int .i64 a0_1, (.slice A0_2 l0_2.length c0_2)] 24 (0, 0))) ∧ Aside0 (wc.heap[gb348]? = some (.cells #[.int .i64 t343, .int .i64 t344, (.slice Ao33 t345.length co33)] 27 (0, 0))) ∧ Aside0 (Below w.heap.size w wc))
        case first =>
          have H := HC20.out
          clear HC20
          by_cases c43 : t359 < 0
          · rw [if_pos c43] at H
            have c43b0 : decide (t359 < 0) = true := decide_eq_true c43
            clear c43
            (first | rw [c43b0] | (simp only [i64_w, i32_w]; rw [c43b0]) | rw [@decide_eq_true _ _ (of_decide_eq_true c43b0)] | rw [@decide_eq_true _ _ (of_decide_eq_true c43b1)] | skip)
            have H' := Aside0.mk H
            clear H
            go_wp2
            go_meet
            case rel => exact ⟨_, (true), (by first | rfl | (simp; done) | (simp [*]; done)), H', ⟨by first | omega | exact Nat.le_refl _⟩, ⟨by (with_reducible repeat (first | apply Kd.R_alloc | apply Kd.R_drewN | apply Kd.R_drew)); exact Kd.R_mono HO342.out (fun _ hk => ⟨hk.2.2.1, hk.2.1⟩)⟩, ⟨by (with_reducible repeat (first | apply Kd.R_alloc | apply Kd.R_drewN | apply Kd.R_drew)); exact Kd.R_mono HO351.out (fun _ hk => ⟨hk.2.1, hk.2.2.1⟩)⟩, ⟨by (with_reducible repeat (first | apply Kd.R_alloc | apply Kd.R_drewN | apply Kd.R_drew)); exact Kd.R_mono HO347.out (fun _ hk => ⟨hk.1.1.2, hk.1.2⟩)⟩, ⟨by (with_reducible repeat (first | refine blk_drewN ?_ _ | refine blk_drew ?_ | refine blk_alloc ?_ _)); exact BK333.out⟩, ⟨by (with_reducible repeat (first | refine blk_drewN ?_ _ | refine blk_drew ?_ | refine blk_alloc ?_ _)); exact BK348.out⟩, ⟨by repeat (first | (with_reducible first | exact HB.out | apply below_alloc | apply pw_below_drewN | apply below_drew1 | refine below_set ?_ GE333.out | refine below_set ?_ GE348.out) | exact HB.out)⟩⟩
          · rw [if_neg c43] at H
            have c43b0 : decide (t359 < 0) = false := decide_eq_false c43
            clear c43
            (first | rw [c43b0] | (simp only [i64_w, i32_w]; rw [c43b0]) | rw [@decide_eq_false _ _ (of_decide_eq_false c43b0)] | rw [@decide_eq_false _ _ (of_decide_eq_false c43b1)] | skip)
            replace H := Option.bind_eq_some_iff.mp H
            obtain ⟨t361, A440, H⟩ := H
            replace H : (laws_FnExactWay.j0 k a1 a2 a3 t340 t349 (!t361) a0_0 a0_1 l0_2) = some r := H
            have A44 := Aside0.mk A440
            clear A440
            have H' := Aside0.mk H
            clear H
            go_wp2_with (first | (go_at_call 37; (with_reducible refine (laws_eqIntS.calls k _ _ t349 _ _ t340 t361 _ ?side1 ?side2 ?side3 ?side4 A44.out).mono ?_); (case side1 => repeat (first | exact (Kd.R_reads' HO351.out).2.2 | (with_reducible refine Kd.C_alloc ?_ _) | (with_reducible refine Kd.C_drewN ?_ _) | (with_reducible refine Kd.C_drew ?_))); (case side2 => exact (Kd.R_reads' HO351.out).2.1); (case side3 => repeat (first | exact (Kd.R_reads' HO342.out).2.2 | (with_reducible refine Kd.C_alloc ?_ _) | (with_reducible refine Kd.C_drewN ?_ _) | (with_reducible refine Kd.C_drew ?_))); (case side4 => exact (Kd.R_reads' HO342.out).2.1); rintro e w' ⟨rfl, ⟨nd, rfl⟩⟩))
            go_meet
            case rel => exact ⟨_, (!t361), (by first | rfl | (simp; done) | (simp [*]; done)), H', ⟨by first | omega | exact Nat.le_refl _⟩, ⟨by (with_reducible repeat (first | apply Kd.R_alloc | apply Kd.R_drewN | apply Kd.R_drew)); exact Kd.R_mono HO342.out (fun _ hk => ⟨hk.2.2.1, hk.2.1⟩)⟩, ⟨by (with_reducible repeat (first | apply Kd.R_alloc | apply Kd.R_drewN | apply Kd.R_drew)); exact Kd.R_mono HO351.out (fun _ hk => ⟨hk.2.1, hk.2.2.1⟩)⟩, ⟨by (with_reducible repeat (first | apply Kd.R_alloc | apply Kd.R_drewN | apply Kd.R_drew)); exact Kd.R_mono HO347.out (fun _ hk => ⟨hk.1.1.2, hk.1.2⟩)⟩, ⟨by (with_reducible repeat (first | refine blk_drewN ?_ _ | refine blk_drew ?_ | refine blk_alloc ?_ _)); exact BK333.out⟩, ⟨by (with_reducible repeat (first | refine blk_drewN ?_ _ | refine blk_drew ?_ | refine blk_alloc ?_ _)); exact BK348.out⟩, ⟨by repeat (first | (with_reducible first | exact HB.out | apply below_alloc | apply pw_below_drewN | apply below_drew1 | refine below_set ?_ GE333.out | refine below_set ?_ GE348.out) | exact HB.out)⟩⟩
        case rest =>
          clear HC20
          try clear c1
          try clear p2
          try clear c3
          try clear c4
          try clear c5
          try clear c6
          try clear c6b0
          try clear c12
          try clear c15
          try clear c17
          try clear c18
          try clear c19
          try clear c31
          try clear c37
          try clear c38
          try clear c43
          try clear c43b0
          try clear c43b1
          try clear hcz22_0
          try clear hcz22_1
          try clear hcz22_2
          try clear hcz24_0
          try clear hcz24_1
          try clear hcz24_2
          try clear hcz28_0
          try clear hcz28_1
          try clear hcz28_2
          try clear hcz32_0
          try clear hcz32_1
          try clear hcz32_2
          try clear hcz41_0
          try clear hcz41_1
          try clear hcz41_2
          try clear hcz8_0
          try clear hcz8_1
          try clear hcz8_2
          try clear hfz22_0
          try clear hfz22_1
          try clear hfz22_2
          try clear hfz24_0
          try clear hfz24_1
          try clear hfz24_2
          try clear hfz28_0
          try clear hfz28_1
          try clear hfz28_2
          try clear hfz32_0
          try clear hfz32_1
          try clear hfz32_2
          try clear hfz41_0
          try clear hfz41_1
          try clear hfz41_2
          try clear hfz8_0
          try clear hfz8_1
          try clear hfz8_2
          obtain ⟨kq, x54_19, rfl, HA, HJ19, HO_10, HO_12, HO_349002, BK333, BK348, HB⟩ := hcut
          have hl349002_19 := (Kd.R_reads' HO_349002.out).1
          rw [hl349002_19] at HO_349002
          (try simp only [hl349002_19])
          (try simp only [hl349002_19] at BK333)
          (try simp only [hl349002_19] at BK348)
          (try simp only [hl349002_19] at HO_10)
          (try simp only [hl349002_19] at HO_12)
          cases kq with
          | zero => exact absurd HA.out (by simp [laws_FnExactWay.j0])
          | succ kj19 =>
            have H := HA.out
            clear HA
            simp only [laws_FnExactWay.j0] at H
            by_cases c45 : x54_19 = true
            · subst c45
              have H1 : (some false) = some r := by rw [if_pos rfl] at H; exact H
              clear H
              have H := H1
              clear H1
              obtain rfl := Option.some.inj H
              exact absurd HTR_.out (by decide)
            · replace c45 := Bool.eq_false_iff.mpr c45
              subst c45
              have H1 : ((laws_markIntS.f kj19 t349 1).bind fun bt362 => ((laws_heldIntS.f kj19 bt362.2 1).bind fun t364 => (if t364 < 0 then (some false) else (if t364 = bt362.1 then ((laws_toFloor.f kj19 a0_0 a0_1 l0_2).bind fun bt365 => ((impl_Way.f kj19 bt365.1 bt365.2.1 bt365.2.2 a1 a2 a3).bind fun t370 => ((laws_eqIntS.f kj19 t370 t340).bind fun t373 => (if t373 = true then ((laws_heldIntS.f kj19 bt362.2 1).bind fun t374 => (if t374 < 0 then (some false) else (if t374 = bt362.1 then (some true) else (some false)))) else (some false))))) else (some false))))) = some r := by rw [if_neg (show ¬ (false = true) by decide)] at H; exact H
              clear H
              have H := H1
              clear H1
              replace H := Option.bind_eq_some_iff.mp H
              obtain ⟨⟨t362, t363⟩, A460, H⟩ := H
              replace H : ((laws_heldIntS.f kj19 t363 1).bind fun t364 => (if t364 < 0 then (some false) else (if t364 = t362 then ((laws_toFloor.f kj19 a0_0 a0_1 l0_2).bind fun bt365 => ((impl_Way.f kj19 bt365.1 bt365.2.1 bt365.2.2 a1 a2 a3).bind fun t370 => ((laws_eqIntS.f kj19 t370 t340).bind fun t373 => (if t373 = true then ((laws_heldIntS.f kj19 t363 1).bind fun t374 => (if t374 < 0 then (some false) else (if t374 = t362 then (some true) else (some false)))) else (some false))))) else (some false)))) = some r := H
              have A46 := Aside0.mk A460
              clear A460
              replace H := Option.bind_eq_some_iff.mp H
              obtain ⟨t364, A470, H⟩ := H
              replace H : (if t364 < 0 then (some false) else (if t364 = t362 then ((laws_toFloor.f kj19 a0_0 a0_1 l0_2).bind fun bt365 => ((impl_Way.f kj19 bt365.1 bt365.2.1 bt365.2.2 a1 a2 a3).bind fun t370 => ((laws_eqIntS.f kj19 t370 t340).bind fun t373 => (if t373 = true then ((laws_heldIntS.f kj19 t363 1).bind fun t374 => (if t374 < 0 then (some false) else (if t374 = t362 then (some true) else (some false)))) else (some false))))) else (some false))) = some r := H
              have A47 := Aside0.mk A470
              clear A470
              by_cases c48 : t364 < 0
              · rw [if_pos c48] at H
                have c48b0 : decide (t364 < 0) = true := decide_eq_true c48
                clear c48
                obtain rfl := Option.some.inj H
                exact absurd HTR_.out (by decide)
              · rw [if_neg c48] at H
                have c48b0 : decide (t364 < 0) = false := decide_eq_false c48
                clear c48
                by_cases c49 : t364 = t362
                · rw [if_pos c49] at H
                  have c49b0 : (t364 == t362) = true := beq_iff_eq.mpr c49
                  have c49b1 : (t364 != t362) = false := bne_eq_false_iff_eq.mpr c49
                  clear c49
                  replace H := Option.bind_eq_some_iff.mp H
                  obtain ⟨⟨t365, t366, t367⟩, A500, H⟩ := H
                  replace H : ((impl_Way.f kj19 t365 t366 t367 a1 a2 a3).bind fun t370 => ((laws_eqIntS.f kj19 t370 t340).bind fun t373 => (if t373 = true then ((laws_heldIntS.f kj19 t363 1).bind fun t374 => (if t374 < 0 then (some false) else (if t374 = t362 then (some true) else (some false)))) else (some false)))) = some r := H
                  have A50 := Aside0.mk A500
                  clear A500
                  replace H := Option.bind_eq_some_iff.mp H
                  obtain ⟨t370, A510, H⟩ := H
                  replace H : ((laws_eqIntS.f kj19 t370 t340).bind fun t373 => (if t373 = true then ((laws_heldIntS.f kj19 t363 1).bind fun t374 => (if t374 < 0 then (some false) else (if t374 = t362 then (some true) else (some false)))) else (some false))) = some r := H
                  have A51 := Aside0.mk A510
                  clear A510
                  replace H := Option.bind_eq_some_iff.mp H
                  obtain ⟨t373, A520, H⟩ := H
                  replace H : (if t373 = true then ((laws_heldIntS.f kj19 t363 1).bind fun t374 => (if t374 < 0 then (some false) else (if t374 = t362 then (some true) else (some false)))) else (some false)) = some r := H
                  have A52 := Aside0.mk A520
                  clear A520
                  by_cases c53 : t373 = true
                  · subst c53
                    have H1 : ((laws_heldIntS.f kj19 t363 1).bind fun t374 => (if t374 < 0 then (some false) else (if t374 = t362 then (some true) else (some false)))) = some r := by rw [if_pos rfl] at H; exact H
                    clear H
                    have H := H1
                    clear H1
                    replace H := Option.bind_eq_some_iff.mp H
                    obtain ⟨t374, A540, H⟩ := H
                    replace H : (if t374 < 0 then (some false) else (if t374 = t362 then (some true) else (some false))) = some r := H
                    have A54 := Aside0.mk A540
                    clear A540
                    by_cases c55 : t374 < 0
                    · rw [if_pos c55] at H
                      have c55b0 : decide (t374 < 0) = true := decide_eq_true c55
                      clear c55
                      obtain rfl := Option.some.inj H
                      exact absurd HTR_.out (by decide)
                    · rw [if_neg c55] at H
                      have c55b0 : decide (t374 < 0) = false := decide_eq_false c55
                      clear c55
                      by_cases c56 : t374 = t362
                      · rw [if_pos c56] at H
                        have c56b0 : (t374 == t362) = true := beq_iff_eq.mpr c56
                        have c56b1 : (t374 != t362) = false := bne_eq_false_iff_eq.mpr c56
                        clear c56
                        obtain rfl := Option.some.inj H
                        simp only [Option.some.injEq, Prod.mk.injEq] at H
                        obtain ⟨rfl⟩ := H
                        go_wp2_with (first | ((with_reducible refine gate_callee (f := 39) rfl ?_); refine goesL_ (some 57) rfl rfl Try.func39 (by kernel_rfl) rfl #[.slice Ao35 t349.length co35, .int .i64 1] rfl (by (try simp only [List.map_toArray, List.map_cons, List.map_nil]); first | done | rfl | (simp only [List.length_drop, List.length_take]; rfl)) ?_; (with_reducible refine (laws_markIntS.calls kj19 (fun k_ => some k_ = (.slice Ao35 t349.length co35 : Value).ownBlock) (.slice Ao35 t349.length co35) t349 1 t362 t363 w _ ?side1 ?side2 A46.out).mono ?_); (case side1 => repeat (first | (with_reducible first | exact HB.out | apply below_alloc | apply pw_below_drewN | apply below_drew1 | refine below_set ?_ GE333.out | refine below_set ?_ GE348.out) | exact HB.out)); (case side2 => exact Kd.R_tight rfl HO_12.out); rintro e w57 ⟨rfl, hy0, hb, hkp⟩; refine ⟨_, rfl, ?_⟩; have n0_ := Aside0.mk (Kd.R_mono (ok' := fun k_ => some k_ ≠ (.slice Ao35 t349.length co35 : Value).ownBlock ∧ some k_ ≠ (.slice Ao33 t360.length co33 : Value).ownBlock) (Kd.R_keptB (HO_10.out) hkp (fun k_ hk_ hs_ => (hk_.1) hs_)) (fun k_ hk_ => ⟨hk_.1.1, hk_.1.2⟩)); have n1_ := Aside0.mk (Kd.R_reok rfl hy0 (fun k_ e_ => HO_12.out.1 k_ e_)); have n2_ := Aside0.mk (Kd.R_mono (ok' := fun k_ => some k_ ≠ (.slice Ao36 t340.length co36 : Value).ownBlock ∧ some k_ ≠ (.slice Ao35 t349.length co35 : Value).ownBlock) (Kd.R_keptB (HO_349002.out) hkp (fun k_ hk_ hs_ => (hk_.2) hs_)) (fun k_ hk_ => ⟨hk_.1.1, hk_.1.2⟩)); have n3_ := Aside0.mk (blk_kept (by (with_reducible repeat (first | refine blk_drewN ?_ _ | refine blk_drew ?_ | refine blk_alloc ?_ _)); exact BK333.out) hkp (fun hs_ => (fun e_ => (Kd.R_ne HO_12.out BK333.out (by decide)) e_) hs_)); have n4_ := Aside0.mk (blk_kept (by (with_reducible repeat (first | refine blk_drewN ?_ _ | refine blk_drew ?_ | refine blk_alloc ?_ _)); exact BK348.out) hkp (fun hs_ => (fun e_ => (Kd.R_ne HO_12.out BK348.out (by decide)) e_) hs_)); have n5_ := Aside0.mk (hb); clear HO_10; clear HO_12; clear HO_349002; clear BK333; clear BK348; clear HB; have HO_10 := n0_; have HO_12 := n1_; have HO_349002 := n2_; have BK333 := n3_; have BK348 := n4_; have HB := n5_; clear n0_ n1_ n2_ n3_ n4_ n5_; (try clear hb); (try clear hkp); (try clear hy0)) | ((with_reducible refine gate_callee (f := 40) rfl ?_); refine goesL_ (some 60) rfl rfl Try.func40 (by kernel_rfl) rfl #[.slice Ao35 t363.length co35, .int .i64 1] rfl (by (try simp only [List.map_toArray, List.map_cons, List.map_nil]); first | done | (rw [show t363.length = t349.length from (Kd.R_reads' HO_12.out).1.symm] <;> rfl) | rfl | (simp only [List.length_drop, List.length_take]; rfl)) ?_; (with_reducible refine (laws_heldIntS.calls kj19 _ _ t363 1 t364 _ ?side1 ?side2 A47.out).mono ?_); (case side1 => repeat (first | exact (Kd.R_reads' HO_12.out).2.2 | (with_reducible refine Kd.C_alloc ?_ _) | (with_reducible refine Kd.C_drewN ?_ _) | (with_reducible refine Kd.C_drew ?_))); (case side2 => rw [show t363.length = t349.length from (Kd.R_reads' HO_12.out).1.symm]; exact (Kd.R_reads' HO_12.out).2.1); rintro e w' ⟨rfl, ⟨nd, rfl⟩⟩; refine ⟨_, rfl, ?_⟩; have hnb58 := NB333_348.out; have hnc58 := NB348_333.out; have hcz59_0 : w57.cell? ⟨gb333, 0, none⟩ = some (.int .i64 a0_0) := (blk_cell BK333.out 0).trans rfl; have hcz59_1 : w57.cell? ⟨gb333, 1, none⟩ = some (.int .i64 a0_1) := (blk_cell BK333.out 1).trans rfl; have hcz59_2 : w57.cell? ⟨gb333, 2, none⟩ = some (.slice A0_2 l0_2.length c0_2) := (blk_cell BK333.out 2).trans rfl; have hfz59_0 := blk_frozen BK333.out 0; have hfz59_1 := blk_frozen BK333.out 1; have hfz59_2 := blk_frozen BK333.out 2) | ((with_reducible refine gate_callee (f := 17) rfl ?_); refine goesL_ (some 67) rfl rfl Try.func17 (by kernel_rfl) rfl #[.agg #[.int .i64 a0_0, .int .i64 a0_1, .slice A0_2 l0_2.length c0_2]] rfl (by (try simp only [List.map_toArray, List.map_cons, List.map_nil]); first | done | rfl | (simp only [List.length_drop, List.length_take]; rfl)) ?_; (with_reducible refine (laws_toFloor.calls kj19 a0_0 a0_1 _ _ l0_2 t365 t366 t367 _ ?side1 ?side2 A50.out).mono ?_); (case side1 => repeat (first | exact (Kd.C_below HR0_2.out (by repeat (first | (with_reducible first | exact HB.out | apply below_alloc | apply pw_below_drewN | apply below_drew1 | refine below_set ?_ GE333.out | refine below_set ?_ GE348.out) | exact HB.out))) | (with_reducible refine Kd.C_alloc ?_ _) | (with_reducible refine Kd.C_drewN ?_ _) | (with_reducible refine Kd.C_drew ?_))); (case side2 => exact HC0_2.out); rintro e w60 ⟨v368, rfl, ho0, hb⟩; refine ⟨_, rfl, ?_⟩; have n0_ := Aside0.mk (Kd.R_elder' (by (with_reducible repeat (first | apply Kd.R_alloc | apply Kd.R_drewN | apply Kd.R_drew)); exact HO_10.out) (Kd.R_base ho0) hb); have n1_ := Aside0.mk (Kd.R_elder' (by (with_reducible repeat (first | apply Kd.R_alloc | apply Kd.R_drewN | apply Kd.R_drew)); exact HO_12.out) (Kd.R_base ho0) hb); have n2_ := Aside0.mk (Kd.R_elder' (by (with_reducible repeat (first | apply Kd.R_alloc | apply Kd.R_drewN | apply Kd.R_drew)); exact HO_349002.out) (Kd.R_base ho0) hb); have n3_ := Aside0.mk (Kd.R_lower (Kd.R_new' (Kd.R_new' (Kd.R_new' ho0 (Kd.R_lt (by (with_reducible repeat (first | apply Kd.R_alloc | apply Kd.R_drewN | apply Kd.R_drew)); exact HO_10.out))) (Kd.R_lt (by (with_reducible repeat (first | apply Kd.R_alloc | apply Kd.R_drewN | apply Kd.R_drew)); exact HO_12.out))) (Kd.R_lt (by (with_reducible repeat (first | apply Kd.R_alloc | apply Kd.R_drewN | apply Kd.R_drew)); exact HO_349002.out))) (below_size (by repeat (first | (with_reducible first | exact HB.out | apply below_alloc | apply pw_below_drewN | apply below_drew1 | refine below_set ?_ GE333.out | refine below_set ?_ GE348.out) | exact HB.out)))); have n4_ := Aside0.mk (blk_below (g := gb333) (o := .cells #[.int .i64 a0_0, .int .i64 a0_1, .slice A0_2 l0_2.length c0_2] 24 (0, 0)) (by (with_reducible repeat (first | refine blk_drewN ?_ _ | refine blk_drew ?_ | refine blk_alloc ?_ _)); exact BK333.out) hb); have n5_ := Aside0.mk (blk_below (g := gb348) (o := .cells #[.int .i64 t343, .int .i64 t344, .slice Ao33 t360.length co33] 27 (0, 0)) (by (with_reducible repeat (first | refine blk_drewN ?_ _ | refine blk_drew ?_ | refine blk_alloc ?_ _)); exact BK348.out) hb); have n6_ := Aside0.mk (below_step (by repeat (first | (with_reducible first | exact HB.out | apply below_alloc | apply pw_below_drewN | apply below_drew1 | refine below_set ?_ GE333.out | refine below_set ?_ GE348.out) | exact HB.out)) hb); clear HO_10; clear HO_12; clear HO_349002; clear BK333; clear BK348; clear HB; have HO_10 := n0_; have HO_12 := n1_; have HO_349002 := n2_; have HO369 := n3_; have BK333 := n4_; have BK348 := n5_; have HB := n6_; clear n0_ n1_ n2_ n3_ n4_ n5_ n6_; (try clear hb); (try clear hb2); (try clear hk); (try clear hi); (try clear ho0); obtain ⟨Ao61, co61, eo61⟩ := Kd.R_slice HO369.out; subst eo61) | ((with_reducible refine gate_callee (f := 53) rfl ?_); refine goesL_ (some 71) rfl rfl Try.func53 (by kernel_rfl) rfl #[.agg #[.int .i64 t365, .int .i64 t366, .slice Ao61 t367.length co61], .int .i64 a1, .int .i64 a2, .bool a3] rfl (by (try simp only [List.map_toArray, List.map_cons, List.map_nil]); first | done | rfl | (simp only [List.length_drop, List.length_take]; rfl)) ?_; (with_reducible refine (impl_Way.calls kj19 t365 t366 _ _ t367 a1 a2 a3 t370 _ ?side1 ?side2 A51.out).mono ?_); (case side1 => repeat (first | exact (Kd.R_reads' HO369.out).2.2 | (with_reducible refine Kd.C_alloc ?_ _) | (with_reducible refine Kd.C_drewN ?_ _) | (with_reducible refine Kd.C_drew ?_))); (case side2 => exact (Kd.R_reads' HO369.out).2.1); rintro e w62 ⟨v371, rfl, ho0, hb⟩; refine ⟨_, rfl, ?_⟩; have n0_ := Aside0.mk (Kd.R_elder' (by (with_reducible repeat (first | apply Kd.R_alloc | apply Kd.R_drewN | apply Kd.R_drew)); exact HO_10.out) (Kd.R_base ho0) hb); have n1_ := Aside0.mk (Kd.R_elder' (by (with_reducible repeat (first | apply Kd.R_alloc | apply Kd.R_drewN | apply Kd.R_drew)); exact HO_12.out) (Kd.R_base ho0) hb); have n2_ := Aside0.mk (Kd.R_elder' (by (with_reducible repeat (first | apply Kd.R_alloc | apply Kd.R_drewN | apply Kd.R_drew)); exact HO_349002.out) (Kd.R_base ho0) hb); have n3_ := Aside0.mk (Kd.R_elder' (by (with_reducible repeat (first | apply Kd.R_alloc | apply Kd.R_drewN | apply Kd.R_drew)); exact HO369.out) (Kd.R_base ho0) hb); have n4_ := Aside0.mk (Kd.R_lower (Kd.R_new' (Kd.R_new' (Kd.R_new' (Kd.R_new' ho0 (Kd.R_lt (by (with_reducible repeat (first | apply Kd.R_alloc | apply Kd.R_drewN | apply Kd.R_drew)); exact HO_10.out))) (Kd.R_lt (by (with_reducible repeat (first | apply Kd.R_alloc | apply Kd.R_drewN | apply Kd.R_drew)); exact HO_12.out))) (Kd.R_lt (by (with_reducible repeat (first | apply Kd.R_alloc | apply Kd.R_drewN | apply Kd.R_drew)); exact HO_349002.out))) (Kd.R_lt (by (with_reducible repeat (first | apply Kd.R_alloc | apply Kd.R_drewN | apply Kd.R_drew)); exact HO369.out))) (below_size (by repeat (first | (with_reducible first | exact HB.out | apply below_alloc | apply pw_below_drewN | apply below_drew1 | refine below_set ?_ GE333.out | refine below_set ?_ GE348.out) | exact HB.out)))); have n5_ := Aside0.mk (blk_below (g := gb333) (o := .cells #[.int .i64 a0_0, .int .i64 a0_1, .slice A0_2 l0_2.length c0_2] 24 (0, 0)) (by (with_reducible repeat (first | refine blk_drewN ?_ _ | refine blk_drew ?_ | refine blk_alloc ?_ _)); exact BK333.out) hb); have n6_ := Aside0.mk (blk_below (g := gb348) (o := .cells #[.int .i64 t343, .int .i64 t344, .slice Ao33 t360.length co33] 27 (0, 0)) (by (with_reducible repeat (first | refine blk_drewN ?_ _ | refine blk_drew ?_ | refine blk_alloc ?_ _)); exact BK348.out) hb); have n7_ := Aside0.mk (below_step (by repeat (first | (with_reducible first | exact HB.out | apply below_alloc | apply pw_below_drewN | apply below_drew1 | refine below_set ?_ GE333.out | refine below_set ?_ GE348.out) | exact HB.out)) hb); clear HO_10; clear HO_12; clear HO_349002; clear HO369; clear BK333; clear BK348; clear HB; have HO_10 := n0_; have HO_12 := n1_; have HO_349002 := n2_; have HO369 := n3_; have HO372 := n4_; have BK333 := n5_; have BK348 := n6_; have HB := n7_; clear n0_ n1_ n2_ n3_ n4_ n5_ n6_ n7_; (try clear hb); (try clear hb2); (try clear hk); (try clear hi); (try clear ho0); obtain ⟨Ao63, co63, eo63⟩ := Kd.R_slice HO372.out; subst eo63) | ((with_reducible refine gate_callee (f := 37) rfl ?_); refine goesL_ (some 74) rfl rfl Try.func37 (by kernel_rfl) rfl #[.slice Ao63 t370.length co63, .slice Ao36 t340.length co36] rfl (by (try simp only [List.map_toArray, List.map_cons, List.map_nil]); first | done | rfl | (simp only [List.length_drop, List.length_take]; rfl)) ?_; (with_reducible refine (laws_eqIntS.calls kj19 _ _ t370 _ _ t340 true _ ?side1 ?side2 ?side3 ?side4 A52.out).mono ?_); (case side1 => repeat (first | exact (Kd.R_reads' HO372.out).2.2 | (with_reducible refine Kd.C_alloc ?_ _) | (with_reducible refine Kd.C_drewN ?_ _) | (with_reducible refine Kd.C_drew ?_))); (case side2 => exact (Kd.R_reads' HO372.out).2.1); (case side3 => repeat (first | exact (Kd.R_reads' HO_10.out).2.2 | (with_reducible refine Kd.C_alloc ?_ _) | (with_reducible refine Kd.C_drewN ?_ _) | (with_reducible refine Kd.C_drew ?_))); (case side4 => exact (Kd.R_reads' HO_10.out).2.1); rintro e w' ⟨rfl, ⟨nd, rfl⟩⟩; refine ⟨_, rfl, ?_⟩) | ((with_reducible refine gate_callee (f := 40) rfl ?_); refine goesL_ (some 78) rfl rfl Try.func40 (by kernel_rfl) rfl #[.slice Ao35 t363.length co35, .int .i64 1] rfl (by (try simp only [List.map_toArray, List.map_cons, List.map_nil]); first | done | (rw [show t363.length = t349.length from (Kd.R_reads' HO_12.out).1.symm] <;> rfl) | rfl | (simp only [List.length_drop, List.length_take]; rfl)) ?_; (with_reducible refine (laws_heldIntS.calls kj19 _ _ t363 1 t374 _ ?side1 ?side2 A54.out).mono ?_); (case side1 => repeat (first | exact (Kd.R_reads' HO_12.out).2.2 | (with_reducible refine Kd.C_alloc ?_ _) | (with_reducible refine Kd.C_drewN ?_ _) | (with_reducible refine Kd.C_drew ?_))); (case side2 => rw [show t363.length = t349.length from (Kd.R_reads' HO_12.out).1.symm]; exact (Kd.R_reads' HO_12.out).2.1); rintro e w' ⟨rfl, ⟨nd, rfl⟩⟩; refine ⟨_, rfl, ?_⟩))
                        go_ret
                        exact ⟨by first | rfl | (simp [errW_none, errW_some] <;> rfl) | (simp [*, errW_none, errW_some] <;> rfl), by repeat (first | (with_reducible first | exact HB.out | apply below_alloc | apply pw_below_drewN | apply below_drew1 | refine below_set ?_ GE333.out | refine below_set ?_ GE348.out) | exact HB.out)⟩
                      · rw [if_neg c56] at H
                        have c56b0 : (t374 == t362) = false := beq_eq_false_iff_ne.mpr c56
                        have c56b1 : (t374 != t362) = true := bne_iff_ne.mpr c56
                        obtain rfl := Option.some.inj H
                        exact absurd HTR_.out (by decide)
                  · replace c53 := Bool.eq_false_iff.mpr c53
                    subst c53
                    have H1 : (some false) = some r := by rw [if_neg (show ¬ (false = true) by decide)] at H; exact H
                    clear H
                    have H := H1
                    clear H1
                    obtain rfl := Option.some.inj H
                    exact absurd HTR_.out (by decide)
                · rw [if_neg c49] at H
                  have c49b0 : (t364 == t362) = false := beq_eq_false_iff_ne.mpr c49
                  have c49b1 : (t364 != t362) = true := bne_iff_ne.mpr c49
                  obtain rfl := Option.some.inj H
                  exact absurd HTR_.out (by decide)
      · replace c18 := Bool.eq_false_iff.mpr c18
        subst c18
        have H1 : (some false) = some r := by rw [if_neg (show ¬ (false = true) by decide)] at H; exact H
        clear H
        have H := H1
        clear H1
        obtain rfl := Option.some.inj H
        exact absurd HTR_.out (by decide)
    · replace c15 := Bool.eq_false_iff.mpr c15
      subst c15
      have H1 : (some false) = some r := by rw [if_neg (show ¬ (false = true) by decide)] at H; exact H
      clear H
      have H := H1
      clear H1
      obtain rfl := Option.some.inj H
      exact absurd HTR_.out (by decide)

end Go.Proofs.Ytmjpmekckgjcpaa.PFnExactWay
