-- Made by a program of this session out of the translation. Lean checks it.
import Derived.Test.YtbebfhlejnidkaaPFnSoundx0
import Derived.Test.YtbebfhlejnidkaaPFnSoundx1
import Derived.Test.YtbebfhlejnidkaaPFnSoundx6
namespace Go.Proofs.Ytbebfhlejnidkaa.PFnSound
open Go.RowKit Go.Proofs.YtbebfhlejnidkaaW.PrintWords Go.Proofs.YtbebfhlejnidkaaW.PrintLast Go.Proofs.YtbebfhlejnidkaaW.PrintMore
attribute [local go_sem] max2_int min2_int max_two min_two max_three min_three max_four min_four   -- for this text's walks alone
set_option linter.unusedVariables false
set_option linter.unusedSimpArgs false

/-! ### spec_ParseFloor: function 78 -/
mutual
def spec_ParseFloor.l0 : Nat → List ByteArray → Int → Int → Int → List Int → Option (Int × Int × List Int × Int)
 | 0, _, _, _, _, _ => none
 | k + 1, x4, x6, x263000, x263001, x263002 => if x6 < (x4.length : Int) then (if x6 = (wrap64 ((x4.length : Int) - 1)) then (if 0 ≤ x6 then (if (rdOf ByteArray.empty x4 x6).toList = ([] : List UInt8) then (spec_ParseFloor.j1 k x4 x6 (x6 == (wrap64 ((x4.length : Int) - 1))) (decide (x6 > 0)) x263000 x263001 x263002) else (spec_ParseFloor.j1 k x4 x6 (x6 == (wrap64 ((x4.length : Int) - 1))) false x263000 x263001 x263002)) else (none)) else (spec_ParseFloor.j1 k x4 x6 (x6 == (wrap64 ((x4.length : Int) - 1))) false x263000 x263001 x263002)) else (some (x263000, x263001, x263002, (-1)))
def spec_ParseFloor.j1 : Nat → List ByteArray → Int → Bool → Bool → Int → Int → List Int → Option (Int × Int × List Int × Int)
 | 0, _, _, _, _, _, _, _ => none
 | k + 1, x4, x6, x7, x39, x263000, x263001, x263002 => if x39 = true then (some (x263000, x263001, x263002, (-1))) else (if x7 = true then (spec_ParseFloor.j2 k x4 x6 true x263000 x263001 x263002) else (if x6 = 10 then (spec_ParseFloor.j2 k x4 x6 true x263000 x263001 x263002) else (if 0 ≤ x6 then (if x6 < (x4.length : Int) then ((spec_l1In.f ((rdOf ByteArray.empty x4 x6).size : Int) 1 10).bind fun t265 => (if t265 = true then (spec_ParseFloor.j2 k x4 x6 (((rdOf ByteArray.empty x4 x6).size : Int) != x263000) x263000 x263001 x263002) else (spec_ParseFloor.j2 k x4 x6 true x263000 x263001 x263002))) else (none)) else (none))))
def spec_ParseFloor.j2 : Nat → List ByteArray → Int → Bool → Int → Int → List Int → Option (Int × Int × List Int × Int)
 | 0, _, _, _, _, _, _ => none
 | k + 1, x4, x6, x63, x263000, x263001, x263002 => if x63 = true then (some (0, 0, ([] : List Int), x6)) else (spec_ParseFloor.l1 k x4 x6 0 x263000 x263001 x263002)
def spec_ParseFloor.l1 : Nat → List ByteArray → Int → Int → Int → Int → List Int → Option (Int × Int × List Int × Int)
 | 0, _, _, _, _, _, _ => none
 | k + 1, x4, x6, x8, x263000, x263001, x263002 => if 0 ≤ x6 then (if x6 < (x4.length : Int) then (if x8 < ((rdOf ByteArray.empty x4 x6).size : Int) then (if 0 ≤ x8 then ((spec_l1Mark.f k (bt (rdOf ByteArray.empty x4 x6) x8)).bind fun t269 => (if t269 < 0 then (some (0, 0, ([] : List Int), x6)) else (if x263002.length < 17592186044416 then (spec_ParseFloor.l1 k x4 x6 (wrap64 (x8 + 1)) x263000 x263001 (x263002 ++ [t269])) else (none)))) else (none)) else (spec_ParseFloor.l0 k x4 (wrap64 (x6 + 1)) x263000 (wrap64 (x263001 + 1)) x263002)) else (none)) else (none)
end
def spec_ParseFloor.f (k : Nat) (a0 : ByteArray) : Option (Int × Int × List Int × Int) := (spec_l1Split.f k a0 10).bind fun t258 => (if 0 < (t258.length : Int) then (spec_ParseFloor.l0 k t258 0 ((rdOf ByteArray.empty t258 0).size : Int) 0 ([] : List Int)) else (none))
theorem spec_ParseFloor.mono_l : ∀ k, (∀ y0 y1 y2 y3 y4, LeO (spec_ParseFloor.l0 k y0 y1 y2 y3 y4) (spec_ParseFloor.l0 (k + 1) y0 y1 y2 y3 y4)) ∧ (∀ y0 y1 y2 y3 y4 y5 y6, LeO (spec_ParseFloor.j1 k y0 y1 y2 y3 y4 y5 y6) (spec_ParseFloor.j1 (k + 1) y0 y1 y2 y3 y4 y5 y6)) ∧ (∀ y0 y1 y2 y3 y4 y5, LeO (spec_ParseFloor.j2 k y0 y1 y2 y3 y4 y5) (spec_ParseFloor.j2 (k + 1) y0 y1 y2 y3 y4 y5)) ∧ (∀ y0 y1 y2 y3 y4 y5, LeO (spec_ParseFloor.l1 k y0 y1 y2 y3 y4 y5) (spec_ParseFloor.l1 (k + 1) y0 y1 y2 y3 y4 y5))
 | 0 => ⟨fun _ _ _ _ _ r h => by simp [spec_ParseFloor.l0] at h, fun _ _ _ _ _ _ _ r h => by simp [spec_ParseFloor.j1] at h, fun _ _ _ _ _ _ r h => by simp [spec_ParseFloor.j2] at h, fun _ _ _ _ _ _ r h => by simp [spec_ParseFloor.l1] at h⟩
 | k + 1 => by
  obtain ⟨ih0, ih1, ih2, ih3⟩ := spec_ParseFloor.mono_l k
  refine ⟨?_, ?_, ?_, ?_⟩
  {
  intro y0 y1 y2 y3 y4
  unfold spec_ParseFloor.l0
  repeat' first
  | (with_reducible first | exact ih0 _ _ _ _ _ | exact ih1 _ _ _ _ _ _ _ | exact ih2 _ _ _ _ _ _ | exact ih3 _ _ _ _ _ _ | exact spec_l1Mark.mono _ _ | exact spec_l1Split.mono _ _ _ | exact LeO.refl _ | exact LeO.none _ | refine LeO.ite ?_ ?_ | refine LeO.bind ?_ (fun _ => ?_))
  | exact ih0 _ _ _ _ _
  | exact ih1 _ _ _ _ _ _ _
  | exact ih2 _ _ _ _ _ _
  | exact ih3 _ _ _ _ _ _
  | exact spec_l1Mark.mono _ _
  | exact spec_l1Split.mono _ _ _
  | exact LeO.none _
  | refine LeO.ite ?_ ?_
  | refine LeO.bind ?_ (fun _ => ?_)
  }
  {
  intro y0 y1 y2 y3 y4 y5 y6
  unfold spec_ParseFloor.j1
  repeat' first
  | (with_reducible first | exact ih0 _ _ _ _ _ | exact ih1 _ _ _ _ _ _ _ | exact ih2 _ _ _ _ _ _ | exact ih3 _ _ _ _ _ _ | exact spec_l1Mark.mono _ _ | exact spec_l1Split.mono _ _ _ | exact LeO.refl _ | exact LeO.none _ | refine LeO.ite ?_ ?_ | refine LeO.bind ?_ (fun _ => ?_))
  | exact ih0 _ _ _ _ _
  | exact ih1 _ _ _ _ _ _ _
  | exact ih2 _ _ _ _ _ _
  | exact ih3 _ _ _ _ _ _
  | exact spec_l1Mark.mono _ _
  | exact spec_l1Split.mono _ _ _
  | exact LeO.none _
  | refine LeO.ite ?_ ?_
  | refine LeO.bind ?_ (fun _ => ?_)
  }
  {
  intro y0 y1 y2 y3 y4 y5
  unfold spec_ParseFloor.j2
  repeat' first
  | (with_reducible first | exact ih0 _ _ _ _ _ | exact ih1 _ _ _ _ _ _ _ | exact ih2 _ _ _ _ _ _ | exact ih3 _ _ _ _ _ _ | exact spec_l1Mark.mono _ _ | exact spec_l1Split.mono _ _ _ | exact LeO.refl _ | exact LeO.none _ | refine LeO.ite ?_ ?_ | refine LeO.bind ?_ (fun _ => ?_))
  | exact ih0 _ _ _ _ _
  | exact ih1 _ _ _ _ _ _ _
  | exact ih2 _ _ _ _ _ _
  | exact ih3 _ _ _ _ _ _
  | exact spec_l1Mark.mono _ _
  | exact spec_l1Split.mono _ _ _
  | exact LeO.none _
  | refine LeO.ite ?_ ?_
  | refine LeO.bind ?_ (fun _ => ?_)
  }
  {
  intro y0 y1 y2 y3 y4 y5
  unfold spec_ParseFloor.l1
  repeat' first
  | (with_reducible first | exact ih0 _ _ _ _ _ | exact ih1 _ _ _ _ _ _ _ | exact ih2 _ _ _ _ _ _ | exact ih3 _ _ _ _ _ _ | exact spec_l1Mark.mono _ _ | exact spec_l1Split.mono _ _ _ | exact LeO.refl _ | exact LeO.none _ | refine LeO.ite ?_ ?_ | refine LeO.bind ?_ (fun _ => ?_))
  | exact ih0 _ _ _ _ _
  | exact ih1 _ _ _ _ _ _ _
  | exact ih2 _ _ _ _ _ _
  | exact ih3 _ _ _ _ _ _
  | exact spec_l1Mark.mono _ _
  | exact spec_l1Split.mono _ _ _
  | exact LeO.none _
  | refine LeO.ite ?_ ?_
  | refine LeO.bind ?_ (fun _ => ?_)
  }
theorem spec_ParseFloor.mono : ∀ a0 k, LeO (spec_ParseFloor.f k a0) (spec_ParseFloor.f (k + 1) a0) := by
 intro a0 k
 obtain ⟨ih0, ih1, ih2, ih3⟩ := spec_ParseFloor.mono_l k
 unfold spec_ParseFloor.f
 repeat' first
  | (with_reducible first | exact ih0 _ _ _ _ _ | exact ih1 _ _ _ _ _ _ _ | exact ih2 _ _ _ _ _ _ | exact ih3 _ _ _ _ _ _ | exact spec_l1Mark.mono _ _ | exact spec_l1Split.mono _ _ _ | exact LeO.refl _ | exact LeO.none _ | refine LeO.ite ?_ ?_ | refine LeO.bind ?_ (fun _ => ?_))
  | exact ih0 _ _ _ _ _
  | exact ih1 _ _ _ _ _ _ _
  | exact ih2 _ _ _ _ _ _
  | exact ih3 _ _ _ _ _ _
  | exact spec_l1Mark.mono _ _
  | exact spec_l1Split.mono _ _ _
  | exact LeO.none _
  | refine LeO.ite ?_ ?_
  | refine LeO.bind ?_ (fun _ => ?_)
set_option maxHeartbeats 8000000 in
set_option maxRecDepth 100000 in
theorem spec_ParseFloor.calls (k : Nat) (a0 : ByteArray) (r1 : Int) (r2 : Int) (r3 : List Int) (r4 : Int) (w : World) (h : spec_ParseFloor.f k a0 = some (r1, r2, r3, r4)) :
  Calls Try.prog 78 #[.string a0] w fun e w' => ∃ v2_ : Value, e = .returned (.tuple #[.agg #[.int .i64 r1, .int .i64 r2, v2_], .int .i64 r4]) ∧ Kd.R (Kd.int .i64) 3 w' w.heap.size (fun _ => True) v2_ r3 ∧ Below w.heap.size w w' := by
 have hu43 := Try.underlying43
 have HB := aM (Below.refl w.heap.size w)
 have H : ((spec_l1Split.f k a0 10).bind fun t258 => (if 0 < (t258.length : Int) then (spec_ParseFloor.l0 k t258 0 ((rdOf ByteArray.empty t258 0).size : Int) 0 ([] : List Int)) else (none))) = some (r1, r2, r3, r4) := h
 clear h
 replace H := Option.bind_eq_some_iff.mp H
 obtain ⟨t258, A20, H⟩ := H
 replace H : (if 0 < (t258.length : Int) then (spec_ParseFloor.l0 k t258 0 ((rdOf ByteArray.empty t258 0).size : Int) 0 ([] : List Int)) else (none)) = some (r1, r2, r3, r4) := H
 have A2 := aM A20
 clear A20
 by_cases c3 : 0 < (t258.length : Int)
 {
 rw [if_pos c3] at H
 have c3b0 := decide_eq_true c3
 have c3b1 : decide (0 < t258.length) = true := decide_eq_true (by omega)
 clear c3
 have H' := aM H
 clear H
 go_enter Try.func78, Try.ntmps78
 go_wp2_with (first | ((with_reducible refine gate_dst (N := 2) rfl ?_); (try (refine gate_guard (by rfl) ?_; dsimp only)); refine bx_ 2 #[.int .i64 0, .int .i64 0, .slice none 0 0] 43 ?_; intro gb257 hg w4 hbox hb; have n0_ := aM (below_step qz1 hb); have n1_ := aM (hbox); have n2_ := aM ((by rw [hg]; exact (below_size qz1) : w.heap.size ≤ gb257)); have n3_ := aM ((by rw [hg]; exact (below_size qz1) : w.heap.size ≤ gb257)); clear HB; have HB := n0_; have BK257 := n1_; have GW257 := n2_; have GE257 := n3_; clear n0_ n1_ n2_ n3_; clear hb hbox hg) | (go_at_call 81; (with_reducible refine (spec_l1Split.calls k a0 10 t258 _ A2.out).mono ?_); rintro e w5 ⟨v259, rfl, ho0, hb⟩; have n0_ := aM (Kd.R_lower ho0 (below_size qz15)); have n1_ := aM (blk_below (bk_ BK257.out) hb); have n2_ := aM (below_step qz15 hb); clear BK257 HB; have HO260 := n0_; have BK257 := n1_; have HB := n2_; clear n0_ n1_ n2_; (try clear hb); (try clear hb2); (try clear hk); (try clear hi); (try clear ho0); obtain ⟨Ao6, co6, eo6⟩ := Kd.R_slice HO260.out; subst eo6; have p261 : 0 ≤ (0 : Int) := (by omega); have q261 : 0 < (t258.length : Int) := of_decide_eq_true qz2; obtain ⟨ad261, e261, hx261_0⟩ := Kd.at_string (Kd.R_reads' HO260.out).2.2 0 p261 q261; cases e261; have qi261 : (0 < t258.length) = True := eq_true (by omega); (try rw [show ((0 : Int)).toNat = 0 from rfl] at hx261_0); (try rw [Addr.add_zero'] at hx261_0); replace p261 := eq_true p261; replace q261 := eq_true q261) | ((with_reducible refine gate_dst (N := 5) rfl ?_); (try (refine gate_guard (by rfl) ?_; dsimp only)); refine bx_ 5 #[.int .i64 0, .int .i64 0, .slice none 0 0] 43 ?_; intro gb262 hg w7 hbox hb; have n0_ := aM (Kd.R_below (rr_ HO260.out) hb); have n1_ := aM (blk_below (bk_ BK257.out) hb); have n2_ := aM (below_step qz15 hb); have n3_ := aM (hbox); have n4_ := aM ((by rw [hg]; exact (below_size qz15) : w.heap.size ≤ gb262)); have n5_ := aM ((by rw [hg]; exact (below_size qz15) : w.heap.size ≤ gb262)); have n6_ := aM ((by rw [hg]; exact Nat.ne_of_lt (blk_lt (bk_ BK257.out)) : gb257 ≠ gb262)); have n7_ := aM ((by rw [hg]; exact Nat.ne_of_gt (blk_lt (bk_ BK257.out)) : gb262 ≠ gb257)); clear HO260 BK257 HB; have HO260 := n0_; have BK257 := n1_; have HB := n2_; have BK262 := n3_; have GW262 := n4_; have GE262 := n5_; have NB257_262 := n6_; have NB262_257 := n7_; clear n0_ n1_ n2_ n3_ n4_ n5_ n6_ n7_; clear hb hbox hg; have hnb8 := NB262_257.out; have hnc8 := NB257_262.out; obtain ⟨hcz9_0, hcz9_1, hcz9_2, hfz9_0, hfz9_1, hfz9_2⟩ := b6_ BK262.out))
 repeat (go_quiet (first | ((with_reducible refine gate_dst (N := 2) rfl ?_); (try (refine gate_guard (by rfl) ?_; dsimp only)); refine bx_ 2 #[.int .i64 0, .int .i64 0, .slice none 0 0] 43 ?_; intro gb257 hg w4 hbox hb; have n0_ := aM (below_step qz1 hb); have n1_ := aM (hbox); have n2_ := aM ((by rw [hg]; exact (below_size qz1) : w.heap.size ≤ gb257)); have n3_ := aM ((by rw [hg]; exact (below_size qz1) : w.heap.size ≤ gb257)); clear HB; have HB := n0_; have BK257 := n1_; have GW257 := n2_; have GE257 := n3_; clear n0_ n1_ n2_ n3_; clear hb hbox hg) | (go_at_call 81; (with_reducible refine (spec_l1Split.calls k a0 10 t258 _ A2.out).mono ?_); rintro e w5 ⟨v259, rfl, ho0, hb⟩; have n0_ := aM (Kd.R_lower ho0 (below_size qz15)); have n1_ := aM (blk_below (bk_ BK257.out) hb); have n2_ := aM (below_step qz15 hb); clear BK257 HB; have HO260 := n0_; have BK257 := n1_; have HB := n2_; clear n0_ n1_ n2_; (try clear hb); (try clear hb2); (try clear hk); (try clear hi); (try clear ho0); obtain ⟨Ao6, co6, eo6⟩ := Kd.R_slice HO260.out; subst eo6; have p261 : 0 ≤ (0 : Int) := (by omega); have q261 : 0 < (t258.length : Int) := of_decide_eq_true qz2; obtain ⟨ad261, e261, hx261_0⟩ := Kd.at_string (Kd.R_reads' HO260.out).2.2 0 p261 q261; cases e261; have qi261 : (0 < t258.length) = True := eq_true (by omega); (try rw [show ((0 : Int)).toNat = 0 from rfl] at hx261_0); (try rw [Addr.add_zero'] at hx261_0); replace p261 := eq_true p261; replace q261 := eq_true q261) | ((with_reducible refine gate_dst (N := 5) rfl ?_); (try (refine gate_guard (by rfl) ?_; dsimp only)); refine bx_ 5 #[.int .i64 0, .int .i64 0, .slice none 0 0] 43 ?_; intro gb262 hg w7 hbox hb; have n0_ := aM (Kd.R_below (rr_ HO260.out) hb); have n1_ := aM (blk_below (bk_ BK257.out) hb); have n2_ := aM (below_step qz15 hb); have n3_ := aM (hbox); have n4_ := aM ((by rw [hg]; exact (below_size qz15) : w.heap.size ≤ gb262)); have n5_ := aM ((by rw [hg]; exact (below_size qz15) : w.heap.size ≤ gb262)); have n6_ := aM ((by rw [hg]; exact Nat.ne_of_lt (blk_lt (bk_ BK257.out)) : gb257 ≠ gb262)); have n7_ := aM ((by rw [hg]; exact Nat.ne_of_gt (blk_lt (bk_ BK257.out)) : gb262 ≠ gb257)); clear HO260 BK257 HB; have HO260 := n0_; have BK257 := n1_; have HB := n2_; have BK262 := n3_; have GW262 := n4_; have GE262 := n5_; have NB257_262 := n6_; have NB262_257 := n7_; clear n0_ n1_ n2_ n3_ n4_ n5_ n6_ n7_; clear hb hbox hg; have hnb8 := NB262_257.out; have hnc8 := NB257_262.out; obtain ⟨hcz9_0, hcz9_1, hcz9_2, hfz9_0, hfz9_1, hfz9_2⟩ := b6_ BK262.out)); try go_wp2_with (first | ((with_reducible refine gate_dst (N := 2) rfl ?_); (try (refine gate_guard (by rfl) ?_; dsimp only)); refine bx_ 2 #[.int .i64 0, .int .i64 0, .slice none 0 0] 43 ?_; intro gb257 hg w4 hbox hb; have n0_ := aM (below_step qz1 hb); have n1_ := aM (hbox); have n2_ := aM ((by rw [hg]; exact (below_size qz1) : w.heap.size ≤ gb257)); have n3_ := aM ((by rw [hg]; exact (below_size qz1) : w.heap.size ≤ gb257)); clear HB; have HB := n0_; have BK257 := n1_; have GW257 := n2_; have GE257 := n3_; clear n0_ n1_ n2_ n3_; clear hb hbox hg) | (go_at_call 81; (with_reducible refine (spec_l1Split.calls k a0 10 t258 _ A2.out).mono ?_); rintro e w5 ⟨v259, rfl, ho0, hb⟩; have n0_ := aM (Kd.R_lower ho0 (below_size qz15)); have n1_ := aM (blk_below (bk_ BK257.out) hb); have n2_ := aM (below_step qz15 hb); clear BK257 HB; have HO260 := n0_; have BK257 := n1_; have HB := n2_; clear n0_ n1_ n2_; (try clear hb); (try clear hb2); (try clear hk); (try clear hi); (try clear ho0); obtain ⟨Ao6, co6, eo6⟩ := Kd.R_slice HO260.out; subst eo6; have p261 : 0 ≤ (0 : Int) := (by omega); have q261 : 0 < (t258.length : Int) := of_decide_eq_true qz2; obtain ⟨ad261, e261, hx261_0⟩ := Kd.at_string (Kd.R_reads' HO260.out).2.2 0 p261 q261; cases e261; have qi261 : (0 < t258.length) = True := eq_true (by omega); (try rw [show ((0 : Int)).toNat = 0 from rfl] at hx261_0); (try rw [Addr.add_zero'] at hx261_0); replace p261 := eq_true p261; replace q261 := eq_true q261) | ((with_reducible refine gate_dst (N := 5) rfl ?_); (try (refine gate_guard (by rfl) ?_; dsimp only)); refine bx_ 5 #[.int .i64 0, .int .i64 0, .slice none 0 0] 43 ?_; intro gb262 hg w7 hbox hb; have n0_ := aM (Kd.R_below (rr_ HO260.out) hb); have n1_ := aM (blk_below (bk_ BK257.out) hb); have n2_ := aM (below_step qz15 hb); have n3_ := aM (hbox); have n4_ := aM ((by rw [hg]; exact (below_size qz15) : w.heap.size ≤ gb262)); have n5_ := aM ((by rw [hg]; exact (below_size qz15) : w.heap.size ≤ gb262)); have n6_ := aM ((by rw [hg]; exact Nat.ne_of_lt (blk_lt (bk_ BK257.out)) : gb257 ≠ gb262)); have n7_ := aM ((by rw [hg]; exact Nat.ne_of_gt (blk_lt (bk_ BK257.out)) : gb262 ≠ gb257)); clear HO260 BK257 HB; have HO260 := n0_; have BK257 := n1_; have HB := n2_; have BK262 := n3_; have GW262 := n4_; have GE262 := n5_; have NB257_262 := n6_; have NB262_257 := n7_; clear n0_ n1_ n2_ n3_ n4_ n5_ n6_ n7_; clear hb hbox hg; have hnb8 := NB262_257.out; have hnc8 := NB257_262.out; obtain ⟨hcz9_0, hcz9_1, hcz9_2, hfz9_0, hfz9_1, hfz9_2⟩ := b6_ BK262.out)))
 go_loopg [6] k (fun kq v6 w' => ∃ (x6_1 : Int) (x258000_1 : Int) (x258001_1 : Int) (x263001_1 : Int) (x263002_1 : List Int) (u263002 : Value), v6 = .int .i64 x6_1 ∧ Aside0 (spec_ParseFloor.l0 kq t258 x6_1 ((rdOf ByteArray.empty t258 0).size : Int) x263001_1 x263002_1 = some (r1, r2, r3, r4)) ∧ Aside0 (kq ≤ k) ∧ Aside0 (Kd.R Kd.string 9 w' w.heap.size (fun _ => True) (.slice (some ad261) t258.length co6) t258) ∧ Aside0 (Kd.R (Kd.int .i64) 3 w' w.heap.size (fun _ => True) u263002 x263002_1) ∧ Aside0 (w'.heap[gb257]? = some (.cells #[.int .i64 x258000_1, .int .i64 x258001_1, (.slice none 0 0)] 43 (0, 0))) ∧ Aside0 (w'.heap[gb262]? = some (.cells #[.int .i64 ((rdOf ByteArray.empty t258 0).size : Int), .int .i64 x263001_1, u263002] 43 (0, 0))) ∧ Aside0 (Below w.heap.size w w'))
 case atStart => exact ⟨(0), (0), (0), (0), (([] : List Int)), (.slice none 0 0), qz5, H', ⟨Nat.le_refl _⟩, ⟨by (with_reducible repeat (first | apply Kd.R_alloc | apply Kd.R_drewN | apply Kd.R_drew)); exact Kd.R_mono (Kd.R_far (p := ⟨gb262, 2, none⟩) (Kd.R_far (p := ⟨gb262, 1, none⟩) (Kd.R_far (p := ⟨gb262, 0, none⟩) (Kd.R_types HO260.out BK262.out (by decide)) (fun _ hk => hk.2) (.int .i64 ((rdOf ByteArray.empty t258 0).size : Int))) (fun _ hk => hk.2) (.int .i64 0)) (fun _ hk => hk.2) (.slice none 0 0)) (fun _ hk => trivial)⟩, ⟨by first | exact Kd.R_nil _ _ _ _ _ | exact Kd.N_nil _ _ _ _ _ | exact Kd.V_nil _ _ _ _ _ | exact Kd.Q_nil _ _ _ _ _ | exact Kd.S_nil _ _ _ _ _⟩, ⟨by (with_reducible repeat (first | refine blk_drewN ?_ _ | refine blk_drew ?_ | refine blk_alloc ?_ _)); refine blk_far ?_ NB257_262.out _; (with_reducible repeat (first | refine blk_drewN ?_ _ | refine blk_drew ?_ | refine blk_alloc ?_ _)); refine blk_far ?_ NB257_262.out _; (with_reducible repeat (first | refine blk_drewN ?_ _ | refine blk_drew ?_ | refine blk_alloc ?_ _)); refine blk_far ?_ NB257_262.out _; exact bk_ BK257.out⟩, ⟨by (with_reducible repeat (first | refine blk_drewN ?_ _ | refine blk_drew ?_ | refine blk_alloc ?_ _)); refine blk_put (cs := #[.int .i64 ((rdOf ByteArray.empty t258 0).size : Int), .int .i64 0, .slice none 0 0]) ?_ 2 _ rfl; (with_reducible repeat (first | refine blk_drewN ?_ _ | refine blk_drew ?_ | refine blk_alloc ?_ _)); refine blk_put (cs := #[.int .i64 ((rdOf ByteArray.empty t258 0).size : Int), .int .i64 0, .slice none 0 0]) ?_ 1 _ rfl; (with_reducible repeat (first | refine blk_drewN ?_ _ | refine blk_drew ?_ | refine blk_alloc ?_ _)); refine blk_put (cs := #[.int .i64 0, .int .i64 0, .slice none 0 0]) ?_ 0 _ rfl; exact bk_ BK262.out⟩, ⟨by repeat (first | (with_reducible first | exact HB.out | apply below_alloc | apply pw_below_drewN | apply below_drew1 | refine below_set ?_ GE257.out | refine below_set ?_ GE262.out) | exact HB.out)⟩⟩
 case round =>
  clear H'
  try clear p2
  try clear q2
  try clear hx2
  try clear qi2
  try clear c3
  try clear c3b0
  try clear c3b1
  try clear c7
  try clear c8
  try clear hcz9_0
  try clear hcz9_1
  try clear hcz9_2
  try clear hfz9_0
  try clear hfz9_1
  try clear hfz9_2
  try clear hx261_0
  try clear p261
  try clear q261
  obtain ⟨x6_1, x258000_1, x258001_1, x263001_1, x263002_1, u263002, rfl, HA, HK1, HO_4, HO_263002, BK257, BK262, HB⟩ := hrel
  cases gk with
  | zero => exact absurd HA.out (by simp [spec_ParseFloor.l0])
  | succ k1 =>
   have H := HA.out
   clear HA
   simp only [spec_ParseFloor.l0] at H
   by_cases c10 : x6_1 < (t258.length : Int)
   {
   rw [if_pos c10] at H
   have c10b0 := decide_eq_true c10
   clear c10
   have HC11 := aM H
   clear H
   go_upto_region 7 with (fail)
   repeat (go_quiet (fail); go_upto_region 7 with (fail))
   go_cut [7, 39] (fun v7 v39 wc => ∃ (kq : Nat) (x7_10 : Bool) (x39_10 : Bool), v7 = .bool x7_10 ∧ v39 = .bool x39_10 ∧ Aside0 (spec_ParseFloor.j1 kq t258 x6_1 x7_10 x39_10 ((rdOf ByteArray.empty t258 0).size : Int) x263001_1 x263002_1 = some (r1, r2, r3, r4)) ∧ Aside0 (kq ≤ k1) ∧ Aside0 (Kd.R Kd.string 9 wc w.heap.size (fun _ => True) (.slice (some ad261) t258.length co6) t258) ∧ Aside0 (Kd.R (Kd.int .i64) 3 wc w.heap.size (fun _ => True) u263002 x263002_1) ∧ Aside0 (wc.heap[gb257]? = some (.cells #[.int .i64 x258000_1, .int .i64 x258001_1, (.slice none 0 0)] 43 (0, 0))) ∧ Aside0 (wc.heap[gb262]? = some (.cells #[.int .i64 ((rdOf ByteArray.empty t258 0).size : Int), .int .i64 x263001_1, u263002] 43 (0, 0))) ∧ Aside0 (Below w.heap.size w wc))
   case first =>
    have H := HC11.out
    clear HC11
    by_cases c12 : x6_1 = (wrap64 ((t258.length : Int) - 1))
    {
    rw [if_pos c12] at H
    have c12b0 := beq_iff_eq.mpr c12
    have c12b1 := bne_eq_false_iff_eq.mpr c12
    clear c12
    (first | rw [c12b0] | (simp only [i64_w, i32_w]; rw [c12b0]) | rw [@decide_eq_true _ _ (of_decide_eq_true c12b0)] | rw [@decide_eq_true _ _ (of_decide_eq_true c12b1)] | skip)
    by_cases c13 : 0 ≤ x6_1
    {
    rw [if_pos c13] at H
    have c13b0 := decide_eq_true c13
    clear c13
    by_cases c14 : (rdOf ByteArray.empty t258 x6_1).toList = ([] : List UInt8)
    {
    rw [if_pos c14] at H
    have c14b0 := beq_iff_eq.mpr c14
    have c14b1 := bne_eq_false_iff_eq.mpr c14
    clear c14
    have H' := aM H
    clear H
    have p263 : 0 ≤ (x6_1 : Int) := of_decide_eq_true qz2
    have q263 : x6_1 < (t258.length : Int) := of_decide_eq_true qz2
    obtain ⟨ad263, e263, hx263_0⟩ := Kd.at_string (Kd.R_reads' HO_4.out).2.2 x6_1 p263 q263
    obtain rfl : ad261 = ad263 := (by injection e263)
    replace p263 := eq_true p263
    replace q263 := eq_true q263
    go_wp2
    repeat (go_quiet (fail); try go_wp2)
    go_meet
    case rel => exact ⟨_, ((x6_1 == (wrap64 ((t258.length : Int) - 1)))), (decide (x6_1 > 0)), qz5, qz5, H', ⟨by have := HK1.out; first | omega | exact Nat.le_refl _⟩, ⟨rm_ HO_4.out⟩, ⟨rm_ HO_263002.out⟩, ⟨bk_ BK257.out⟩, ⟨bk_ BK262.out⟩, ⟨by repeat (first | (with_reducible first | exact HB.out | apply below_alloc | apply pw_below_drewN | apply below_drew1 | refine below_set ?_ GE257.out | refine below_set ?_ GE262.out) | exact HB.out)⟩⟩
    }
    {
    rw [if_neg c14] at H
    have c14b0 := beq_eq_false_iff_ne.mpr c14
    have c14b1 := bne_iff_ne.mpr c14
    have H' := aM H
    clear H
    have p263 : 0 ≤ (x6_1 : Int) := of_decide_eq_true qz2
    have q263 : x6_1 < (t258.length : Int) := of_decide_eq_true qz2
    obtain ⟨ad263, e263, hx263_0⟩ := Kd.at_string (Kd.R_reads' HO_4.out).2.2 x6_1 p263 q263
    obtain rfl : ad261 = ad263 := (by injection e263)
    replace p263 := eq_true p263
    replace q263 := eq_true q263
    go_wp2
    repeat (go_quiet (fail); try go_wp2)
    go_meet
    case rel => exact ⟨_, ((x6_1 == (wrap64 ((t258.length : Int) - 1)))), (false), qz5, qz5, H', ⟨by have := HK1.out; first | omega | exact Nat.le_refl _⟩, ⟨rm_ HO_4.out⟩, ⟨rm_ HO_263002.out⟩, ⟨bk_ BK257.out⟩, ⟨bk_ BK262.out⟩, ⟨by repeat (first | (with_reducible first | exact HB.out | apply below_alloc | apply pw_below_drewN | apply below_drew1 | refine below_set ?_ GE257.out | refine below_set ?_ GE262.out) | exact HB.out)⟩⟩
    }
    }
    {
    rw [if_neg c13] at H
    exact absurd H (by simp)
    }
    }
    {
    rw [if_neg c12] at H
    have c12b0 := beq_eq_false_iff_ne.mpr c12
    have c12b1 := bne_iff_ne.mpr c12
    (first | rw [c12b0] | (simp only [i64_w, i32_w]; rw [c12b0]) | rw [@decide_eq_false _ _ (of_decide_eq_false c12b0)] | rw [@decide_eq_false _ _ (of_decide_eq_false c12b1)] | skip)
    have H' := aM H
    clear H
    go_wp2
    repeat (go_quiet (fail); try go_wp2)
    go_meet
    case rel => exact ⟨_, ((x6_1 == (wrap64 ((t258.length : Int) - 1)))), (false), qz5, qz5, H', ⟨by have := HK1.out; first | omega | exact Nat.le_refl _⟩, ⟨rm_ HO_4.out⟩, ⟨rm_ HO_263002.out⟩, ⟨bk_ BK257.out⟩, ⟨bk_ BK262.out⟩, ⟨by repeat (first | (with_reducible first | exact HB.out | apply below_alloc | apply pw_below_drewN | apply below_drew1 | refine below_set ?_ GE257.out | refine below_set ?_ GE262.out) | exact HB.out)⟩⟩
    }
   case rest =>
    clear HC11
    try clear c1
    try clear p2
    try clear q2
    try clear hx2
    try clear qi2
    try clear c3
    try clear c3b0
    try clear c3b1
    try clear p6
    try clear c7
    try clear c8
    try clear c10
    try clear c10b0
    try clear c12
    try clear c12b0
    try clear c12b1
    try clear c13
    try clear c13b0
    try clear c14
    try clear c14b0
    try clear c14b1
    try clear hcz9_0
    try clear hcz9_1
    try clear hcz9_2
    try clear hfz9_0
    try clear hfz9_1
    try clear hfz9_2
    try clear hx261_0
    try clear hx263_0
    try clear p2
    try clear p261
    try clear p263
    try clear q2
    try clear q261
    try clear q263
    obtain ⟨kq, x7_10, x39_10, rfl, rfl, HA, HJ10, HO_4, HO_263002, BK257, BK262, HB⟩ := hcut
    cases kq with
    | zero => exact absurd HA.out (by simp [spec_ParseFloor.j1])
    | succ kj10 =>
     have H := HA.out
     clear HA
     simp only [spec_ParseFloor.j1] at H
     by_cases c15 : x39_10 = true
     {
     subst c15
     rw [if_pos rfl] at H
     simp only [Option.some.injEq, Prod.mk.injEq] at H
     obtain ⟨rfl, rfl, rfl, rfl⟩ := H
     have hnb16 := NB262_257.out
     have hnc16 := NB257_262.out
     obtain ⟨hcz17_0, hcz17_1, hcz17_2, hfz17_0, hfz17_1, hfz17_2⟩ := b6_ BK262.out
     obtain ⟨hcz18_0, hcz18_1, hcz18_2, hfz18_0, hfz18_1, hfz18_2⟩ := b6_ BK257.out
     obtain ⟨Ao19, co19, eo19⟩ := Kd.R_slice HO_263002.out
     subst eo19
     go_wp2
     repeat (go_quiet (fail); try go_wp2)
     refine bodyPost_ret (results_ct rfl _ _ gb257 43 #[.int .i64 ((rdOf ByteArray.empty t258 0).size : Int), .int .i64 x263001_1, .slice Ao19 x263002_1.length co19] (0, 0) _ rfl (by (with_reducible repeat (first | refine blk_drewN ?_ _ | refine blk_drew ?_ | refine blk_alloc ?_ _)); refine blk_put (cs := #[.int .i64 ((rdOf ByteArray.empty t258 0).size : Int), .int .i64 x263001_1, .slice none 0 0]) ?_ 2 _ rfl; (with_reducible repeat (first | refine blk_drewN ?_ _ | refine blk_drew ?_ | refine blk_alloc ?_ _)); refine blk_put (cs := #[.int .i64 ((rdOf ByteArray.empty t258 0).size : Int), .int .i64 x258001_1, .slice none 0 0]) ?_ 1 _ rfl; (with_reducible repeat (first | refine blk_drewN ?_ _ | refine blk_drew ?_ | refine blk_alloc ?_ _)); refine blk_put (cs := #[.int .i64 x258000_1, .int .i64 x258001_1, .slice none 0 0]) ?_ 0 _ rfl; exact bk_ BK257.out) Try.underlying43 rfl (by kernel_rfl)) rfl ?_
     exact ⟨_, by first | rfl | (simp [errW_none, errW_some] <;> rfl) | (simp [*, errW_none, errW_some] <;> rfl), by (with_reducible repeat (first | apply Kd.R_alloc | apply Kd.R_drewN | apply Kd.R_drew)); exact Kd.R_mono (Kd.R_far (p := ⟨gb257, 2, none⟩) (Kd.R_far (p := ⟨gb257, 1, none⟩) (Kd.R_far (p := ⟨gb257, 0, none⟩) (Kd.R_types HO_263002.out BK257.out (by decide)) (fun _ hk => hk.2) (.int .i64 ((rdOf ByteArray.empty t258 0).size : Int))) (fun _ hk => hk.2) (.int .i64 x263001_1)) (fun _ hk => hk.2) (.slice Ao19 x263002_1.length co19)) (fun _ hk => trivial), by repeat (first | (with_reducible first | exact HB.out | apply below_alloc | apply pw_below_drewN | apply below_drew1 | refine below_set ?_ GE257.out | refine below_set ?_ GE262.out) | exact HB.out)⟩
     }
     {
     replace c15 := Bool.eq_false_iff.mpr c15
     subst c15
     rw [if_neg (show ¬ (false = true) by decide)] at H
     have HC20 := aM H
     clear H
     go_upto_region 8 with (fail)
     repeat (go_quiet (fail); go_upto_region 8 with (fail))
     go_cut [63] (fun v63 wc => ∃ (kq : Nat) (x63_19 : Bool), v63 = .bool x63_19 ∧ Aside0 (spec_ParseFloor.j2 kq t258 x6_1 x63_19 ((rdOf ByteArray.empty t258 0).size : Int) x263001_1 x263002_1 = some (r1, r2, r3, r4)) ∧ Aside0 (kq ≤ kj10) ∧ Aside0 (Kd.R Kd.string 9 wc w.heap.size (fun _ => True) (.slice (some ad261) t258.length co6) t258) ∧ Aside0 (Kd.R (Kd.int .i64) 3 wc w.heap.size (fun _ => True) u263002 x263002_1) ∧ Aside0 (wc.heap[gb257]? = some (.cells #[.int .i64 x258000_1, .int .i64 x258001_1, (.slice none 0 0)] 43 (0, 0))) ∧ Aside0 (wc.heap[gb262]? = some (.cells #[.int .i64 ((rdOf ByteArray.empty t258 0).size : Int), .int .i64 x263001_1, u263002] 43 (0, 0))) ∧ Aside0 (Below w.heap.size w wc))
     case first =>
      have H := HC20.out
      clear HC20
      by_cases c21 : x7_10 = true
      {
      subst c21
      rw [if_pos rfl] at H
      have H' := aM H
      clear H
      go_wp2
      repeat (go_quiet (fail); try go_wp2)
      go_meet
      case rel => exact ⟨_, (true), qz5, H', ⟨by have := HK1.out; have := HJ10.out; first | omega | exact Nat.le_refl _⟩, ⟨rm_ HO_4.out⟩, ⟨rm_ HO_263002.out⟩, ⟨bk_ BK257.out⟩, ⟨bk_ BK262.out⟩, ⟨by repeat (first | (with_reducible first | exact HB.out | apply below_alloc | apply pw_below_drewN | apply below_drew1 | refine below_set ?_ GE257.out | refine below_set ?_ GE262.out) | exact HB.out)⟩⟩
      }
      {
      replace c21 := Bool.eq_false_iff.mpr c21
      subst c21
      rw [if_neg (show ¬ (false = true) by decide)] at H
      by_cases c22 : x6_1 = 10
      {
      rw [if_pos c22] at H
      have c22b0 := beq_iff_eq.mpr c22
      have c22b1 := bne_eq_false_iff_eq.mpr c22
      clear c22
      (first | rw [c22b0] | (simp only [i64_w, i32_w]; rw [c22b0]) | rw [@decide_eq_true _ _ (of_decide_eq_true c22b0)] | rw [@decide_eq_true _ _ (of_decide_eq_true c22b1)] | skip)
      have H' := aM H
      clear H
      go_wp2
      repeat (go_quiet (fail); try go_wp2)
      go_meet
      case rel => exact ⟨_, (true), qz5, H', ⟨by have := HK1.out; have := HJ10.out; first | omega | exact Nat.le_refl _⟩, ⟨rm_ HO_4.out⟩, ⟨rm_ HO_263002.out⟩, ⟨bk_ BK257.out⟩, ⟨bk_ BK262.out⟩, ⟨by repeat (first | (with_reducible first | exact HB.out | apply below_alloc | apply pw_below_drewN | apply below_drew1 | refine below_set ?_ GE257.out | refine below_set ?_ GE262.out) | exact HB.out)⟩⟩
      }
      {
      rw [if_neg c22] at H
      have c22b0 := beq_eq_false_iff_ne.mpr c22
      have c22b1 := bne_iff_ne.mpr c22
      (first | rw [c22b0] | (simp only [i64_w, i32_w]; rw [c22b0]) | rw [@decide_eq_false _ _ (of_decide_eq_false c22b0)] | rw [@decide_eq_false _ _ (of_decide_eq_false c22b1)] | skip)
      by_cases c23 : 0 ≤ x6_1
      {
      rw [if_pos c23] at H
      have c23b0 := decide_eq_true c23
      clear c23
      by_cases c24 : x6_1 < (t258.length : Int)
      {
      rw [if_pos c24] at H
      have c24b0 := decide_eq_true c24
      clear c24
      replace H := Option.bind_eq_some_iff.mp H
      obtain ⟨t265, A250, H⟩ := H
      replace H : (if t265 = true then (spec_ParseFloor.j2 kj10 t258 x6_1 (((rdOf ByteArray.empty t258 x6_1).size : Int) != ((rdOf ByteArray.empty t258 0).size : Int)) ((rdOf ByteArray.empty t258 0).size : Int) x263001_1 x263002_1) else (spec_ParseFloor.j2 kj10 t258 x6_1 true ((rdOf ByteArray.empty t258 0).size : Int) x263001_1 x263002_1)) = some (r1, r2, r3, r4) := H
      have A25 := aM A250
      clear A250
      by_cases c26 : t265 = true
      {
      subst c26
      rw [if_pos rfl] at H
      have H' := aM H
      clear H
      have p264 : 0 ≤ (x6_1 : Int) := of_decide_eq_true qz2
      have q264 : x6_1 < (t258.length : Int) := of_decide_eq_true qz2
      obtain ⟨ad264, e264, hx264_0⟩ := Kd.at_string (Kd.R_reads' HO_4.out).2.2 x6_1 p264 q264
      obtain rfl : ad261 = ad264 := (by injection e264)
      replace p264 := eq_true p264
      replace q264 := eq_true q264
      go_wp2_with (first | (go_at_call 50; (with_reducible refine (spec_l1In.calls ((rdOf ByteArray.empty t258 x6_1).size : Int) 1 10 true _ A25.out).mono ?_); rintro e w' ⟨rfl, ⟨nd, rfl⟩⟩; (try first | exact ⟨rfl, _, World.drewN_drewN _ _ _⟩ | exact ⟨rfl, _, Eq.trans (World.drewN_drewN _ _ _) (congrArg (World.drewN _) (Nat.add_assoc _ _ _))⟩); have p266 : 0 ≤ (x6_1 : Int) := of_decide_eq_true qz2; have q266 : x6_1 < (t258.length : Int) := of_decide_eq_true qz2; obtain ⟨ad266, e266, hx266_0⟩ := Kd.at_string (Kd.R_reads' HO_4.out).2.2 x6_1 p266 q266; obtain rfl : ad261 = ad266 := (by injection e266); replace p266 := eq_true p266; replace q266 := eq_true q266; have hnb27 := NB262_257.out; have hnc27 := NB257_262.out; obtain ⟨hcz28_0, hcz28_1, hcz28_2, hfz28_0, hfz28_1, hfz28_2⟩ := b6_ BK262.out))
      repeat (go_quiet (first | (go_at_call 50; (with_reducible refine (spec_l1In.calls ((rdOf ByteArray.empty t258 x6_1).size : Int) 1 10 true _ A25.out).mono ?_); rintro e w' ⟨rfl, ⟨nd, rfl⟩⟩; (try first | exact ⟨rfl, _, World.drewN_drewN _ _ _⟩ | exact ⟨rfl, _, Eq.trans (World.drewN_drewN _ _ _) (congrArg (World.drewN _) (Nat.add_assoc _ _ _))⟩); have p266 : 0 ≤ (x6_1 : Int) := of_decide_eq_true qz2; have q266 : x6_1 < (t258.length : Int) := of_decide_eq_true qz2; obtain ⟨ad266, e266, hx266_0⟩ := Kd.at_string (Kd.R_reads' HO_4.out).2.2 x6_1 p266 q266; obtain rfl : ad261 = ad266 := (by injection e266); replace p266 := eq_true p266; replace q266 := eq_true q266; have hnb27 := NB262_257.out; have hnc27 := NB257_262.out; obtain ⟨hcz28_0, hcz28_1, hcz28_2, hfz28_0, hfz28_1, hfz28_2⟩ := b6_ BK262.out)); try go_wp2_with (first | (go_at_call 50; (with_reducible refine (spec_l1In.calls ((rdOf ByteArray.empty t258 x6_1).size : Int) 1 10 true _ A25.out).mono ?_); rintro e w' ⟨rfl, ⟨nd, rfl⟩⟩; (try first | exact ⟨rfl, _, World.drewN_drewN _ _ _⟩ | exact ⟨rfl, _, Eq.trans (World.drewN_drewN _ _ _) (congrArg (World.drewN _) (Nat.add_assoc _ _ _))⟩); have p266 : 0 ≤ (x6_1 : Int) := of_decide_eq_true qz2; have q266 : x6_1 < (t258.length : Int) := of_decide_eq_true qz2; obtain ⟨ad266, e266, hx266_0⟩ := Kd.at_string (Kd.R_reads' HO_4.out).2.2 x6_1 p266 q266; obtain rfl : ad261 = ad266 := (by injection e266); replace p266 := eq_true p266; replace q266 := eq_true q266; have hnb27 := NB262_257.out; have hnc27 := NB257_262.out; obtain ⟨hcz28_0, hcz28_1, hcz28_2, hfz28_0, hfz28_1, hfz28_2⟩ := b6_ BK262.out)))
      go_meet
      case rel => exact ⟨_, ((((rdOf ByteArray.empty t258 x6_1).size : Int) != ((rdOf ByteArray.empty t258 0).size : Int))), qz5, H', ⟨by have := HK1.out; have := HJ10.out; first | omega | exact Nat.le_refl _⟩, ⟨rm_ HO_4.out⟩, ⟨rm_ HO_263002.out⟩, ⟨bk_ BK257.out⟩, ⟨bk_ BK262.out⟩, ⟨by repeat (first | (with_reducible first | exact HB.out | apply below_alloc | apply pw_below_drewN | apply below_drew1 | refine below_set ?_ GE257.out | refine below_set ?_ GE262.out) | exact HB.out)⟩⟩
      }
      {
      replace c26 := Bool.eq_false_iff.mpr c26
      subst c26
      rw [if_neg (show ¬ (false = true) by decide)] at H
      have H' := aM H
      clear H
      have p264 : 0 ≤ (x6_1 : Int) := of_decide_eq_true qz2
      have q264 : x6_1 < (t258.length : Int) := of_decide_eq_true qz2
      obtain ⟨ad264, e264, hx264_0⟩ := Kd.at_string (Kd.R_reads' HO_4.out).2.2 x6_1 p264 q264
      obtain rfl : ad261 = ad264 := (by injection e264)
      replace p264 := eq_true p264
      replace q264 := eq_true q264
      go_wp2_with (first | (go_at_call 50; (with_reducible refine (spec_l1In.calls ((rdOf ByteArray.empty t258 x6_1).size : Int) 1 10 false _ A25.out).mono ?_); rintro e w' ⟨rfl, ⟨nd, rfl⟩⟩; (try first | exact ⟨rfl, _, World.drewN_drewN _ _ _⟩ | exact ⟨rfl, _, Eq.trans (World.drewN_drewN _ _ _) (congrArg (World.drewN _) (Nat.add_assoc _ _ _))⟩)))
      repeat (go_quiet (first | (go_at_call 50; (with_reducible refine (spec_l1In.calls ((rdOf ByteArray.empty t258 x6_1).size : Int) 1 10 false _ A25.out).mono ?_); rintro e w' ⟨rfl, ⟨nd, rfl⟩⟩; (try first | exact ⟨rfl, _, World.drewN_drewN _ _ _⟩ | exact ⟨rfl, _, Eq.trans (World.drewN_drewN _ _ _) (congrArg (World.drewN _) (Nat.add_assoc _ _ _))⟩))); try go_wp2_with (first | (go_at_call 50; (with_reducible refine (spec_l1In.calls ((rdOf ByteArray.empty t258 x6_1).size : Int) 1 10 false _ A25.out).mono ?_); rintro e w' ⟨rfl, ⟨nd, rfl⟩⟩; (try first | exact ⟨rfl, _, World.drewN_drewN _ _ _⟩ | exact ⟨rfl, _, Eq.trans (World.drewN_drewN _ _ _) (congrArg (World.drewN _) (Nat.add_assoc _ _ _))⟩))))
      go_meet
      case rel => exact ⟨_, (true), qz5, H', ⟨by have := HK1.out; have := HJ10.out; first | omega | exact Nat.le_refl _⟩, ⟨rm_ HO_4.out⟩, ⟨rm_ HO_263002.out⟩, ⟨bk_ BK257.out⟩, ⟨bk_ BK262.out⟩, ⟨by repeat (first | (with_reducible first | exact HB.out | apply below_alloc | apply pw_below_drewN | apply below_drew1 | refine below_set ?_ GE257.out | refine below_set ?_ GE262.out) | exact HB.out)⟩⟩
      }
      }
      {
      rw [if_neg c24] at H
      exact absurd H (by simp)
      }
      }
      {
      rw [if_neg c23] at H
      exact absurd H (by simp)
      }
      }
      }
     case rest =>
      clear HC20
      try clear c1
      try clear c2
      try clear p2
      try clear q2
      try clear hx2
      try clear qi2
      try clear c3
      try clear c3b0
      try clear c3b1
      try clear p6
      try clear c7
      try clear c8
      try clear c10
      try clear c10b0
      try clear c12
      try clear c12b0
      try clear c12b1
      try clear c13
      try clear c13b0
      try clear c14
      try clear c14b0
      try clear c14b1
      try clear c15
      try clear c16
      try clear c21
      try clear c22
      try clear c22b0
      try clear c22b1
      try clear c23
      try clear c23b0
      try clear c24
      try clear c24b0
      try clear c26
      try clear p26
      try clear q26
      try clear hx26
      try clear qi26
      try clear c27
      try clear hcz17_0
      try clear hcz17_1
      try clear hcz17_2
      try clear hcz18_0
      try clear hcz18_1
      try clear hcz18_2
      try clear hcz28_0
      try clear hcz28_1
      try clear hcz28_2
      try clear hcz9_0
      try clear hcz9_1
      try clear hcz9_2
      try clear hfz17_0
      try clear hfz17_1
      try clear hfz17_2
      try clear hfz18_0
      try clear hfz18_1
      try clear hfz18_2
      try clear hfz28_0
      try clear hfz28_1
      try clear hfz28_2
      try clear hfz9_0
      try clear hfz9_1
      try clear hfz9_2
      try clear hx261_0
      try clear hx263_0
      try clear hx264_0
      try clear hx266_0
      try clear p2
      try clear p261
      try clear p263
      try clear p264
      try clear p266
      try clear p6
      try clear q2
      try clear q261
      try clear q263
      try clear q264
      try clear q266
      obtain ⟨kq, x63_19, rfl, HA, HJ19, HO_4, HO_263002, BK257, BK262, HB⟩ := hcut
      cases kq with
      | zero => exact absurd HA.out (by simp [spec_ParseFloor.j2])
      | succ kj19 =>
       have H := HA.out
       clear HA
       simp only [spec_ParseFloor.j2] at H
       by_cases c29 : x63_19 = true
       {
       subst c29
       rw [if_pos rfl] at H
       simp only [Option.some.injEq, Prod.mk.injEq] at H
       obtain ⟨rfl, rfl, rfl, rfl⟩ := H
       have hnb30 := NB257_262.out
       have hnc30 := NB262_257.out
       obtain ⟨hcz31_0, hcz31_1, hcz31_2, hfz31_0, hfz31_1, hfz31_2⟩ := b6_ BK257.out
       go_wp2
       repeat (go_quiet (fail); try go_wp2)
       refine bodyPost_ret (results_ct rfl _ _ gb257 43 #[.int .i64 0, .int .i64 0, .slice none 0 0] (0, 0) _ rfl (by (with_reducible repeat (first | refine blk_drewN ?_ _ | refine blk_drew ?_ | refine blk_alloc ?_ _)); refine blk_put (cs := #[.int .i64 0, .int .i64 0, .slice none 0 0]) ?_ 2 _ rfl; (with_reducible repeat (first | refine blk_drewN ?_ _ | refine blk_drew ?_ | refine blk_alloc ?_ _)); refine blk_put (cs := #[.int .i64 0, .int .i64 x258001_1, .slice none 0 0]) ?_ 1 _ rfl; (with_reducible repeat (first | refine blk_drewN ?_ _ | refine blk_drew ?_ | refine blk_alloc ?_ _)); refine blk_put (cs := #[.int .i64 x258000_1, .int .i64 x258001_1, .slice none 0 0]) ?_ 0 _ rfl; exact bk_ BK257.out) Try.underlying43 rfl (by kernel_rfl)) rfl ?_
       exact ⟨_, by first | rfl | (simp [errW_none, errW_some] <;> rfl) | (simp [*, errW_none, errW_some] <;> rfl), by first | exact Kd.R_nil _ _ _ _ _ | exact Kd.N_nil _ _ _ _ _ | exact Kd.V_nil _ _ _ _ _ | exact Kd.Q_nil _ _ _ _ _ | exact Kd.S_nil _ _ _ _ _, by repeat (first | (with_reducible first | exact HB.out | apply below_alloc | apply pw_below_drewN | apply below_drew1 | refine below_set ?_ GE257.out | refine below_set ?_ GE262.out) | exact HB.out)⟩
       }
       {
       replace c29 := Bool.eq_false_iff.mpr c29
       subst c29
       rw [if_neg (show ¬ (false = true) by decide)] at H
       have H' := aM H
       clear H
       go_wp2
       repeat (go_quiet (fail); try go_wp2)
       go_loopg [8] kj19 (fun kq v8 w' => ∃ (x8_4 : Int) (x258000_4 : Int) (x258001_4 : Int) (x263002_4 : List Int) (u263002 : Value), v8 = .int .i64 x8_4 ∧ Aside0 (spec_ParseFloor.l1 kq t258 x6_1 x8_4 ((rdOf ByteArray.empty t258 0).size : Int) x263001_1 x263002_4 = some (r1, r2, r3, r4)) ∧ Aside0 (kq ≤ kj19) ∧ Aside0 (Kd.R Kd.string 9 w' w.heap.size (fun _ => True) (.slice (some ad261) t258.length co6) t258) ∧ Aside0 (Kd.R (Kd.int .i64) 3 w' w.heap.size (fun _ => True) u263002 x263002_4) ∧ Aside0 (w'.heap[gb257]? = some (.cells #[.int .i64 x258000_4, .int .i64 x258001_4, (.slice none 0 0)] 43 (0, 0))) ∧ Aside0 (w'.heap[gb262]? = some (.cells #[.int .i64 ((rdOf ByteArray.empty t258 0).size : Int), .int .i64 x263001_1, u263002] 43 (0, 0))) ∧ Aside0 (Below w.heap.size w w'))
       case atStart => exact ⟨(0), (x258000_1), (x258001_1), (x263002_1), (u263002), qz5, H', ⟨Nat.le_refl _⟩, ⟨rr_ HO_4.out⟩, ⟨rr_ HO_263002.out⟩, ⟨bk_ BK257.out⟩, ⟨bk_ BK262.out⟩, ⟨by repeat (first | (with_reducible first | exact HB.out | apply below_alloc | apply pw_below_drewN | apply below_drew1 | refine below_set ?_ GE257.out | refine below_set ?_ GE262.out) | exact HB.out)⟩⟩
       case round =>
        clear H'
        try clear c1
        try clear c2
        try clear p2
        try clear q2
        try clear hx2
        try clear qi2
        try clear c3
        try clear c3b0
        try clear c3b1
        try clear p6
        try clear c7
        try clear c8
        try clear c10
        try clear c10b0
        try clear c12
        try clear c12b0
        try clear c12b1
        try clear c13
        try clear c13b0
        try clear c14
        try clear c14b0
        try clear c14b1
        try clear c15
        try clear c16
        try clear c21
        try clear c22
        try clear c22b0
        try clear c22b1
        try clear c23
        try clear c23b0
        try clear c24
        try clear c24b0
        try clear c26
        try clear p26
        try clear q26
        try clear hx26
        try clear qi26
        try clear c27
        try clear c29
        try clear c30
        try clear hcz17_0
        try clear hcz17_1
        try clear hcz17_2
        try clear hcz18_0
        try clear hcz18_1
        try clear hcz18_2
        try clear hcz28_0
        try clear hcz28_1
        try clear hcz28_2
        try clear hcz31_0
        try clear hcz31_1
        try clear hcz31_2
        try clear hcz9_0
        try clear hcz9_1
        try clear hcz9_2
        try clear hfz17_0
        try clear hfz17_1
        try clear hfz17_2
        try clear hfz18_0
        try clear hfz18_1
        try clear hfz18_2
        try clear hfz28_0
        try clear hfz28_1
        try clear hfz28_2
        try clear hfz31_0
        try clear hfz31_1
        try clear hfz31_2
        try clear hfz9_0
        try clear hfz9_1
        try clear hfz9_2
        try clear hx261_0
        try clear hx263_0
        try clear hx264_0
        try clear hx266_0
        try clear p2
        try clear p26
        try clear p261
        try clear p263
        try clear p264
        try clear p266
        try clear p6
        try clear q2
        try clear q26
        try clear q261
        try clear q263
        try clear q264
        try clear q266
        obtain ⟨x8_4, x258000_4, x258001_4, x263002_4, u263002, rfl, HA, HK4, HO_4, HO_263002, BK257, BK262, HB⟩ := hrel
        cases gk with
        | zero => exact absurd HA.out (by simp [spec_ParseFloor.l1])
        | succ k4 =>
         have H := HA.out
         clear HA
         simp only [spec_ParseFloor.l1] at H
         by_cases c32 : 0 ≤ x6_1
         {
         rw [if_pos c32] at H
         have c32b0 := decide_eq_true c32
         clear c32
         by_cases c33 : x6_1 < (t258.length : Int)
         {
         rw [if_pos c33] at H
         have c33b0 := decide_eq_true c33
         clear c33
         by_cases c34 : x8_4 < ((rdOf ByteArray.empty t258 x6_1).size : Int)
         {
         rw [if_pos c34] at H
         have c34b0 := decide_eq_true c34
         clear c34
         by_cases c35 : 0 ≤ x8_4
         {
         rw [if_pos c35] at H
         have c35b0 := decide_eq_true c35
         clear c35
         replace H := Option.bind_eq_some_iff.mp H
         obtain ⟨t269, A370, H⟩ := H
         replace H : (if t269 < 0 then (some (0, 0, ([] : List Int), x6_1)) else (if x263002_4.length < 17592186044416 then (spec_ParseFloor.l1 k4 t258 x6_1 (wrap64 (x8_4 + 1)) ((rdOf ByteArray.empty t258 0).size : Int) x263001_1 (x263002_4 ++ [t269])) else (none))) = some (r1, r2, r3, r4) := H
         have A37 := aM A370
         clear A370
         by_cases c38 : t269 < 0
         {
         rw [if_pos c38] at H
         have c38b0 := decide_eq_true c38
         clear c38
         simp only [Option.some.injEq, Prod.mk.injEq] at H
         obtain ⟨rfl, rfl, rfl, rfl⟩ := H
         have p267 : 0 ≤ (x6_1 : Int) := of_decide_eq_true qz2
         have q267 : x6_1 < (t258.length : Int) := of_decide_eq_true qz2
         obtain ⟨ad267, e267, hx267_0⟩ := Kd.at_string (Kd.R_reads' HO_4.out).2.2 x6_1 p267 q267
         obtain rfl : ad261 = ad267 := (by injection e267)
         replace p267 := eq_true p267
         replace q267 := eq_true q267
         have p268 : 0 ≤ (x6_1 : Int) := of_decide_eq_true qz2
         have q268 : x6_1 < (t258.length : Int) := of_decide_eq_true qz2
         obtain ⟨ad268, e268, hx268_0⟩ := Kd.at_string (Kd.R_reads' HO_4.out).2.2 x6_1 p268 q268
         obtain rfl : ad261 = ad268 := (by injection e268)
         replace p268 := eq_true p268
         replace q268 := eq_true q268
         have p36 : 0 ≤ (x8_4 : Int) := of_decide_eq_true qz2
         have q36 : x8_4 < ((rdOf ByteArray.empty t258 x6_1).size : Int) := of_decide_eq_true qz2
         have hx36 := bt_at (rdOf ByteArray.empty t258 x6_1) x8_4
         replace p36 := eq_true p36
         replace q36 := eq_true q36
         go_wp2_with (first | (go_at_call 82; (with_reducible refine (spec_l1Mark.calls k4 (bt (rdOf ByteArray.empty t258 x6_1) x8_4) t269 _ A37.out).mono ?_); rintro e w' ⟨rfl, ⟨nd, rfl⟩⟩; (try first | exact ⟨rfl, _, World.drewN_drewN _ _ _⟩ | exact ⟨rfl, _, Eq.trans (World.drewN_drewN _ _ _) (congrArg (World.drewN _) (Nat.add_assoc _ _ _))⟩); have hnb39 := NB257_262.out; have hnc39 := NB262_257.out; obtain ⟨hcz40_0, hcz40_1, hcz40_2, hfz40_0, hfz40_1, hfz40_2⟩ := b6_ BK257.out))
         repeat (go_quiet (first | (go_at_call 82; (with_reducible refine (spec_l1Mark.calls k4 (bt (rdOf ByteArray.empty t258 x6_1) x8_4) t269 _ A37.out).mono ?_); rintro e w' ⟨rfl, ⟨nd, rfl⟩⟩; (try first | exact ⟨rfl, _, World.drewN_drewN _ _ _⟩ | exact ⟨rfl, _, Eq.trans (World.drewN_drewN _ _ _) (congrArg (World.drewN _) (Nat.add_assoc _ _ _))⟩); have hnb39 := NB257_262.out; have hnc39 := NB262_257.out; obtain ⟨hcz40_0, hcz40_1, hcz40_2, hfz40_0, hfz40_1, hfz40_2⟩ := b6_ BK257.out)); try go_wp2_with (first | (go_at_call 82; (with_reducible refine (spec_l1Mark.calls k4 (bt (rdOf ByteArray.empty t258 x6_1) x8_4) t269 _ A37.out).mono ?_); rintro e w' ⟨rfl, ⟨nd, rfl⟩⟩; (try first | exact ⟨rfl, _, World.drewN_drewN _ _ _⟩ | exact ⟨rfl, _, Eq.trans (World.drewN_drewN _ _ _) (congrArg (World.drewN _) (Nat.add_assoc _ _ _))⟩); have hnb39 := NB257_262.out; have hnc39 := NB262_257.out; obtain ⟨hcz40_0, hcz40_1, hcz40_2, hfz40_0, hfz40_1, hfz40_2⟩ := b6_ BK257.out)))
         refine bodyPost_ret (results_ct rfl _ _ gb257 43 #[.int .i64 0, .int .i64 0, .slice none 0 0] (0, 0) _ rfl (by (with_reducible repeat (first | refine blk_drewN ?_ _ | refine blk_drew ?_ | refine blk_alloc ?_ _)); refine blk_put (cs := #[.int .i64 0, .int .i64 0, .slice none 0 0]) ?_ 2 _ rfl; (with_reducible repeat (first | refine blk_drewN ?_ _ | refine blk_drew ?_ | refine blk_alloc ?_ _)); refine blk_put (cs := #[.int .i64 0, .int .i64 x258001_4, .slice none 0 0]) ?_ 1 _ rfl; (with_reducible repeat (first | refine blk_drewN ?_ _ | refine blk_drew ?_ | refine blk_alloc ?_ _)); refine blk_put (cs := #[.int .i64 x258000_4, .int .i64 x258001_4, .slice none 0 0]) ?_ 0 _ rfl; exact bk_ BK257.out) Try.underlying43 rfl (by kernel_rfl)) rfl ?_
         exact ⟨_, by first | rfl | (simp [errW_none, errW_some] <;> rfl) | (simp [*, errW_none, errW_some] <;> rfl), by first | exact Kd.R_nil _ _ _ _ _ | exact Kd.N_nil _ _ _ _ _ | exact Kd.V_nil _ _ _ _ _ | exact Kd.Q_nil _ _ _ _ _ | exact Kd.S_nil _ _ _ _ _, by repeat (first | (with_reducible first | exact HB.out | apply below_alloc | apply pw_below_drewN | apply below_drew1 | refine below_set ?_ GE257.out | refine below_set ?_ GE262.out) | exact HB.out)⟩
         }
         {
         rw [if_neg c38] at H
         have c38b0 := decide_eq_false c38
         clear c38
         by_cases c41 : x263002_4.length < 17592186044416
         {
         rw [if_pos c41] at H
         have LMc41 := aM c41
         clear c41
         obtain ⟨y270, hy270⟩ : ∃ y_ : List Int, y_ = (x263002_4 ++ [t269]) := ⟨_, rfl⟩
         replace H : (spec_ParseFloor.l1 k4 t258 x6_1 (wrap64 (x8_4 + 1)) ((rdOf ByteArray.empty t258 0).size : Int) x263001_1 y270) = some (r1, r2, r3, r4) := by first | (rw [hy270]; with_reducible exact H) | (have H2_ := (Option.bind_some _ _).symm.trans H; rw [hy270]; with_reducible exact H2_) | (have H2_ := (Option.bind_some _ _).symm.trans H; with_reducible exact H2_) | with_reducible exact H | (rw [hy270]; exact H) | exact H
         have Ny270 := aM hy270
         clear hy270
         have H' := aM H
         clear H
         have p267 : 0 ≤ (x6_1 : Int) := of_decide_eq_true qz2
         have q267 : x6_1 < (t258.length : Int) := of_decide_eq_true qz2
         obtain ⟨ad267, e267, hx267_0⟩ := Kd.at_string (Kd.R_reads' HO_4.out).2.2 x6_1 p267 q267
         obtain rfl : ad261 = ad267 := (by injection e267)
         replace p267 := eq_true p267
         replace q267 := eq_true q267
         have p268 : 0 ≤ (x6_1 : Int) := of_decide_eq_true qz2
         have q268 : x6_1 < (t258.length : Int) := of_decide_eq_true qz2
         obtain ⟨ad268, e268, hx268_0⟩ := Kd.at_string (Kd.R_reads' HO_4.out).2.2 x6_1 p268 q268
         obtain rfl : ad261 = ad268 := (by injection e268)
         replace p268 := eq_true p268
         replace q268 := eq_true q268
         have p36 : 0 ≤ (x8_4 : Int) := of_decide_eq_true qz2
         have q36 : x8_4 < ((rdOf ByteArray.empty t258 x6_1).size : Int) := of_decide_eq_true qz2
         have hx36 := bt_at (rdOf ByteArray.empty t258 x6_1) x8_4
         replace p36 := eq_true p36
         replace q36 := eq_true q36
         go_wp2_with (first | (go_at_call 82; (with_reducible refine (spec_l1Mark.calls k4 (bt (rdOf ByteArray.empty t258 x6_1) x8_4) t269 _ A37.out).mono ?_); rintro e w' ⟨rfl, ⟨nd, rfl⟩⟩; (try first | exact ⟨rfl, _, World.drewN_drewN _ _ _⟩ | exact ⟨rfl, _, Eq.trans (World.drewN_drewN _ _ _) (congrArg (World.drewN _) (Nat.add_assoc _ _ _))⟩); have hnb42 := NB262_257.out; have hnc42 := NB257_262.out; obtain ⟨hcz43_0, hcz43_1, hcz43_2, hfz43_0, hfz43_1, hfz43_2⟩ := b6_ BK262.out) | ((with_reducible refine gate_builtin (b := .append) (xs := #[.tmp 87, .tmp 89]) rfl ?_); (try (refine gate_guard (by rfl) ?_; dsimp only)); at_builtin; refine Kd.R_append (Kd.int .i64) (w0 := w) w.heap.size rfl (.tmp 87) (.tmp 89) 24 3 (.int .i64 0) 8 rfl Try.underlying24 info3 rfl (by decide) (by omega) u263002 x263002_4 t269 [.int .i64 t269] (fun _ => True) (fun _ => False) rfl rfl ?aP (fun _ hk => hk.elim) ?aF ?aO ?aB ?aS ?aL ?_; (case aP => exact rfl); (case aB => exact qz38); (case aF => exact qz57); (case aO => exact (rr_ HO_263002.out)); (case aS => exact (below_size qz38)); (case aL => have := LMc41.out; omega); intro v271 w44 ho hb hg hat; rw [← Ny270.out] at ho; have n0_ := aM (Kd.R_over' (rr_ HO_4.out) (Kd.R_typed (rr_ HO_263002.out)) (by decide) hg); have n1_ := aM (blk_grown (bk_ BK257.out) hg (Kd.R_ne HO_263002.out BK257.out (by decide))); have n2_ := aM (blk_grown (bk_ BK262.out) hg (Kd.R_ne HO_263002.out BK262.out (by decide))); have n3_ := aM (hb); have n4_ := aM (ho); clear HO_4 BK257 BK262 HB HO_263002; have HO_4 := n0_; have BK257 := n1_; have BK262 := n2_; have HB := n3_; have HO272 := n4_; clear n0_ n1_ n2_ n3_ n4_; clear ho hb hg hat; obtain ⟨Ao45, co45, eo45⟩ := Kd.R_slice HO272.out; subst eo45; obtain ⟨hcz46_0, hcz46_1, hcz46_2, hfz46_0, hfz46_1, hfz46_2⟩ := b6_ BK262.out))
         repeat (go_quiet (first | (go_at_call 82; (with_reducible refine (spec_l1Mark.calls k4 (bt (rdOf ByteArray.empty t258 x6_1) x8_4) t269 _ A37.out).mono ?_); rintro e w' ⟨rfl, ⟨nd, rfl⟩⟩; (try first | exact ⟨rfl, _, World.drewN_drewN _ _ _⟩ | exact ⟨rfl, _, Eq.trans (World.drewN_drewN _ _ _) (congrArg (World.drewN _) (Nat.add_assoc _ _ _))⟩); have hnb42 := NB262_257.out; have hnc42 := NB257_262.out; obtain ⟨hcz43_0, hcz43_1, hcz43_2, hfz43_0, hfz43_1, hfz43_2⟩ := b6_ BK262.out) | ((with_reducible refine gate_builtin (b := .append) (xs := #[.tmp 87, .tmp 89]) rfl ?_); (try (refine gate_guard (by rfl) ?_; dsimp only)); at_builtin; refine Kd.R_append (Kd.int .i64) (w0 := w) w.heap.size rfl (.tmp 87) (.tmp 89) 24 3 (.int .i64 0) 8 rfl Try.underlying24 info3 rfl (by decide) (by omega) u263002 x263002_4 t269 [.int .i64 t269] (fun _ => True) (fun _ => False) rfl rfl ?aP (fun _ hk => hk.elim) ?aF ?aO ?aB ?aS ?aL ?_; (case aP => exact rfl); (case aB => exact qz38); (case aF => exact qz57); (case aO => exact (rr_ HO_263002.out)); (case aS => exact (below_size qz38)); (case aL => have := LMc41.out; omega); intro v271 w44 ho hb hg hat; rw [← Ny270.out] at ho; have n0_ := aM (Kd.R_over' (rr_ HO_4.out) (Kd.R_typed (rr_ HO_263002.out)) (by decide) hg); have n1_ := aM (blk_grown (bk_ BK257.out) hg (Kd.R_ne HO_263002.out BK257.out (by decide))); have n2_ := aM (blk_grown (bk_ BK262.out) hg (Kd.R_ne HO_263002.out BK262.out (by decide))); have n3_ := aM (hb); have n4_ := aM (ho); clear HO_4 BK257 BK262 HB HO_263002; have HO_4 := n0_; have BK257 := n1_; have BK262 := n2_; have HB := n3_; have HO272 := n4_; clear n0_ n1_ n2_ n3_ n4_; clear ho hb hg hat; obtain ⟨Ao45, co45, eo45⟩ := Kd.R_slice HO272.out; subst eo45; obtain ⟨hcz46_0, hcz46_1, hcz46_2, hfz46_0, hfz46_1, hfz46_2⟩ := b6_ BK262.out)); try go_wp2_with (first | (go_at_call 82; (with_reducible refine (spec_l1Mark.calls k4 (bt (rdOf ByteArray.empty t258 x6_1) x8_4) t269 _ A37.out).mono ?_); rintro e w' ⟨rfl, ⟨nd, rfl⟩⟩; (try first | exact ⟨rfl, _, World.drewN_drewN _ _ _⟩ | exact ⟨rfl, _, Eq.trans (World.drewN_drewN _ _ _) (congrArg (World.drewN _) (Nat.add_assoc _ _ _))⟩); have hnb42 := NB262_257.out; have hnc42 := NB257_262.out; obtain ⟨hcz43_0, hcz43_1, hcz43_2, hfz43_0, hfz43_1, hfz43_2⟩ := b6_ BK262.out) | ((with_reducible refine gate_builtin (b := .append) (xs := #[.tmp 87, .tmp 89]) rfl ?_); (try (refine gate_guard (by rfl) ?_; dsimp only)); at_builtin; refine Kd.R_append (Kd.int .i64) (w0 := w) w.heap.size rfl (.tmp 87) (.tmp 89) 24 3 (.int .i64 0) 8 rfl Try.underlying24 info3 rfl (by decide) (by omega) u263002 x263002_4 t269 [.int .i64 t269] (fun _ => True) (fun _ => False) rfl rfl ?aP (fun _ hk => hk.elim) ?aF ?aO ?aB ?aS ?aL ?_; (case aP => exact rfl); (case aB => exact qz38); (case aF => exact qz57); (case aO => exact (rr_ HO_263002.out)); (case aS => exact (below_size qz38)); (case aL => have := LMc41.out; omega); intro v271 w44 ho hb hg hat; rw [← Ny270.out] at ho; have n0_ := aM (Kd.R_over' (rr_ HO_4.out) (Kd.R_typed (rr_ HO_263002.out)) (by decide) hg); have n1_ := aM (blk_grown (bk_ BK257.out) hg (Kd.R_ne HO_263002.out BK257.out (by decide))); have n2_ := aM (blk_grown (bk_ BK262.out) hg (Kd.R_ne HO_263002.out BK262.out (by decide))); have n3_ := aM (hb); have n4_ := aM (ho); clear HO_4 BK257 BK262 HB HO_263002; have HO_4 := n0_; have BK257 := n1_; have BK262 := n2_; have HB := n3_; have HO272 := n4_; clear n0_ n1_ n2_ n3_ n4_; clear ho hb hg hat; obtain ⟨Ao45, co45, eo45⟩ := Kd.R_slice HO272.out; subst eo45; obtain ⟨hcz46_0, hcz46_1, hcz46_2, hfz46_0, hfz46_1, hfz46_2⟩ := b6_ BK262.out)))
         go_roundg k4
         case measure => have := HK1.out; have := HJ10.out; have := HJ19.out; have := HK4.out; omega
         case rel => exact ⟨(wrap64 (x8_4 + 1)), (x258000_4), (x258001_4), (y270), (.slice Ao45 y270.length co45), qz5, H', ⟨by have := HK1.out; have := HJ10.out; have := HJ19.out; have := HK4.out; omega⟩, ⟨by (with_reducible repeat (first | apply Kd.R_alloc | apply Kd.R_drewN | apply Kd.R_drew)); exact Kd.R_mono (Kd.R_far (p := ⟨gb262, 2, none⟩) (Kd.R_types HO_4.out BK262.out (by decide)) (fun _ hk => hk.2) (.slice Ao45 y270.length co45)) (fun _ hk => trivial)⟩, ⟨by (with_reducible repeat (first | apply Kd.R_alloc | apply Kd.R_drewN | apply Kd.R_drew)); exact Kd.R_mono (Kd.R_far (p := ⟨gb262, 2, none⟩) (Kd.R_types HO272.out BK262.out (by decide)) (fun _ hk => hk.2) (.slice Ao45 y270.length co45)) (fun _ hk => trivial)⟩, ⟨by (with_reducible repeat (first | refine blk_drewN ?_ _ | refine blk_drew ?_ | refine blk_alloc ?_ _)); refine blk_far ?_ NB257_262.out _; exact bk_ BK257.out⟩, ⟨by (with_reducible repeat (first | refine blk_drewN ?_ _ | refine blk_drew ?_ | refine blk_alloc ?_ _)); refine blk_put (cs := #[.int .i64 ((rdOf ByteArray.empty t258 0).size : Int), .int .i64 x263001_1, u263002]) ?_ 2 _ rfl; exact bk_ BK262.out⟩, ⟨by repeat (first | (with_reducible first | exact HB.out | apply below_alloc | apply pw_below_drewN | apply below_drew1 | refine below_set ?_ GE257.out | refine below_set ?_ GE262.out) | exact HB.out)⟩⟩
         }
         {
         rw [if_neg c41] at H
         exact absurd H (by simp)
         }
         }
         }
         {
         rw [if_neg c35] at H
         exact absurd H (by simp)
         }
         }
         {
         rw [if_neg c34] at H
         have c34b0 := decide_eq_false c34
         clear c34
         have H' := aM H
         clear H
         have p267 : 0 ≤ (x6_1 : Int) := of_decide_eq_true qz2
         have q267 : x6_1 < (t258.length : Int) := of_decide_eq_true qz2
         obtain ⟨ad267, e267, hx267_0⟩ := Kd.at_string (Kd.R_reads' HO_4.out).2.2 x6_1 p267 q267
         obtain rfl : ad261 = ad267 := (by injection e267)
         replace p267 := eq_true p267
         replace q267 := eq_true q267
         have hnb47 := NB262_257.out
         have hnc47 := NB257_262.out
         obtain ⟨hcz48_0, hcz48_1, hcz48_2, hfz48_0, hfz48_1, hfz48_2⟩ := b6_ BK262.out
         go_wp2
         repeat (go_quiet (fail); try go_wp2)
         go_roundg k4
         case measure => have := HK1.out; have := HJ10.out; have := HJ19.out; have := HK4.out; omega
         case rel => exact ⟨(wrap64 (x6_1 + 1)), (x258000_4), (x258001_4), (wrap64 (x263001_1 + 1)), (x263002_4), (u263002), qz5, H', ⟨by have := HK1.out; have := HJ10.out; have := HJ19.out; have := HK4.out; omega⟩, ⟨by (with_reducible repeat (first | apply Kd.R_alloc | apply Kd.R_drewN | apply Kd.R_drew)); exact Kd.R_mono (Kd.R_far (p := ⟨gb262, 1, none⟩) (Kd.R_types HO_4.out BK262.out (by decide)) (fun _ hk => hk.2) (.int .i64 (wrap64 (x263001_1 + 1)))) (fun _ hk => trivial)⟩, ⟨by (with_reducible repeat (first | apply Kd.R_alloc | apply Kd.R_drewN | apply Kd.R_drew)); exact Kd.R_mono (Kd.R_far (p := ⟨gb262, 1, none⟩) (Kd.R_types HO_263002.out BK262.out (by decide)) (fun _ hk => hk.2) (.int .i64 (wrap64 (x263001_1 + 1)))) (fun _ hk => trivial)⟩, ⟨by (with_reducible repeat (first | refine blk_drewN ?_ _ | refine blk_drew ?_ | refine blk_alloc ?_ _)); refine blk_far ?_ NB257_262.out _; exact bk_ BK257.out⟩, ⟨by (with_reducible repeat (first | refine blk_drewN ?_ _ | refine blk_drew ?_ | refine blk_alloc ?_ _)); refine blk_put (cs := #[.int .i64 ((rdOf ByteArray.empty t258 0).size : Int), .int .i64 x263001_1, u263002]) ?_ 1 _ rfl; exact bk_ BK262.out⟩, ⟨by repeat (first | (with_reducible first | exact HB.out | apply below_alloc | apply pw_below_drewN | apply below_drew1 | refine below_set ?_ GE257.out | refine below_set ?_ GE262.out) | exact HB.out)⟩⟩
         }
         }
         {
         rw [if_neg c33] at H
         exact absurd H (by simp)
         }
         }
         {
         rw [if_neg c32] at H
         exact absurd H (by simp)
         }
       }
     }
   }
   {
   rw [if_neg c10] at H
   have c10b0 := decide_eq_false c10
   clear c10
   simp only [Option.some.injEq, Prod.mk.injEq] at H
   obtain ⟨rfl, rfl, rfl, rfl⟩ := H
   have hnb49 := NB262_257.out
   have hnc49 := NB257_262.out
   obtain ⟨hcz50_0, hcz50_1, hcz50_2, hfz50_0, hfz50_1, hfz50_2⟩ := b6_ BK262.out
   obtain ⟨hcz51_0, hcz51_1, hcz51_2, hfz51_0, hfz51_1, hfz51_2⟩ := b6_ BK257.out
   obtain ⟨Ao52, co52, eo52⟩ := Kd.R_slice HO_263002.out
   subst eo52
   go_wp2
   repeat (go_quiet (fail); try go_wp2)
   refine bodyPost_ret (results_ct rfl _ _ gb257 43 #[.int .i64 ((rdOf ByteArray.empty t258 0).size : Int), .int .i64 x263001_1, .slice Ao52 x263002_1.length co52] (0, 0) _ rfl (by (with_reducible repeat (first | refine blk_drewN ?_ _ | refine blk_drew ?_ | refine blk_alloc ?_ _)); refine blk_put (cs := #[.int .i64 ((rdOf ByteArray.empty t258 0).size : Int), .int .i64 x263001_1, .slice none 0 0]) ?_ 2 _ rfl; (with_reducible repeat (first | refine blk_drewN ?_ _ | refine blk_drew ?_ | refine blk_alloc ?_ _)); refine blk_put (cs := #[.int .i64 ((rdOf ByteArray.empty t258 0).size : Int), .int .i64 x258001_1, .slice none 0 0]) ?_ 1 _ rfl; (with_reducible repeat (first | refine blk_drewN ?_ _ | refine blk_drew ?_ | refine blk_alloc ?_ _)); refine blk_put (cs := #[.int .i64 x258000_1, .int .i64 x258001_1, .slice none 0 0]) ?_ 0 _ rfl; exact bk_ BK257.out) Try.underlying43 rfl (by kernel_rfl)) rfl ?_
   exact ⟨_, by first | rfl | (simp [errW_none, errW_some] <;> rfl) | (simp [*, errW_none, errW_some] <;> rfl), by (with_reducible repeat (first | apply Kd.R_alloc | apply Kd.R_drewN | apply Kd.R_drew)); exact Kd.R_mono (Kd.R_far (p := ⟨gb257, 2, none⟩) (Kd.R_far (p := ⟨gb257, 1, none⟩) (Kd.R_far (p := ⟨gb257, 0, none⟩) (Kd.R_types HO_263002.out BK257.out (by decide)) (fun _ hk => hk.2) (.int .i64 ((rdOf ByteArray.empty t258 0).size : Int))) (fun _ hk => hk.2) (.int .i64 x263001_1)) (fun _ hk => hk.2) (.slice Ao52 x263002_1.length co52)) (fun _ hk => trivial), by repeat (first | (with_reducible first | exact HB.out | apply below_alloc | apply pw_below_drewN | apply below_drew1 | refine below_set ?_ GE257.out | refine below_set ?_ GE262.out) | exact HB.out)⟩
   }
 }
 {
 rw [if_neg c3] at H
 exact absurd H (by simp)

 }
/-! ### spec_l1Str: function 79 -/
def spec_l1Str.f (s0_0 : List Int) (s0_1 : Int) (s0_2 : Int) (l1 : List ByteArray) : Option (ByteArray × Int × Int) := (spec_l1Below.f s0_0 s0_1 s0_2 (l1.length : Int)).bind fun bt273 => (if 0 ≤ bt273.1 then (if bt273.1 < (l1.length : Int) then (some (rdOf ByteArray.empty l1 bt273.1, bt273.2.1, bt273.2.2)) else (none)) else (none))
set_option maxHeartbeats 8000000 in
set_option maxRecDepth 100000 in
theorem spec_l1Str.calls (g : Nat) (s0_0 : List Int) (s0_1 : Int) (s0_2 : Int) (A1 : Option Addr) (c1 : Nat) (l1 : List ByteArray) (r1 : ByteArray) (r2 : Int) (r3 : Int) (w0 w : World) (hI : IsS77 w0 w g s0_0 s0_1 s0_2) (hB : Below w0.heap.size w0 w) (hr1 : Kd.C Kd.string w A1 l1.length l1) (hc1 : l1.length ≤ c1) (hf1 : ∀ ad, A1 = some ad → 0 < l1.length → ad.block ≠ g) (h : spec_l1Str.f s0_0 s0_1 s0_2 l1 = some (r1, r2, r3)) :
  Calls Try.prog 79 #[.pointer (some ⟨g, 0, none⟩), .slice A1 l1.length c1] w fun e w' => e = .returned (.string r1) ∧ IsS77 w0 w' g s0_0 r2 r3 ∧ Below w0.heap.size w0 w' ∧ KeepBut w w' g none := by
 have HR1 := aM hr1
 have HC1 := aM hc1
 clear hr1 hc1
 have HI0 := aM hI
 have HK := aM (KeepBut.refl w g none)
 have HL := aM hB.size
 clear hI
 have HW0 := aM hB.size
 have HB := aM hB
 clear hB
 have H : ((spec_l1Below.f s0_0 s0_1 s0_2 (l1.length : Int)).bind fun bt273 => (if 0 ≤ bt273.1 then (if bt273.1 < (l1.length : Int) then (some (rdOf ByteArray.empty l1 bt273.1, bt273.2.1, bt273.2.2)) else (none)) else (none))) = some (r1, r2, r3) := h
 clear h
 replace H := Option.bind_eq_some_iff.mp H
 obtain ⟨⟨t273, t274, t275⟩, A30, H⟩ := H
 replace H : (if 0 ≤ t273 then (if t273 < (l1.length : Int) then (some (rdOf ByteArray.empty l1 t273, t274, t275)) else (none)) else (none)) = some (r1, r2, r3) := H
 have A3 := aM A30
 clear A30
 by_cases c4 : 0 ≤ t273
 {
 rw [if_pos c4] at H
 have c4b0 := decide_eq_true c4
 clear c4
 by_cases c5 : t273 < (l1.length : Int)
 {
 rw [if_pos c5] at H
 have c5b0 := decide_eq_true c5
 clear c5
 simp only [Option.some.injEq, Prod.mk.injEq] at H
 obtain ⟨rfl, rfl, rfl⟩ := H
 go_enter Try.func79, Try.ntmps79
 go_wp2_with (first | ((with_reducible refine gate_callee (f := 68) rfl ?_); refine goesL_ (some 9) rfl rfl Try.func68 (by kernel_rfl) rfl #[.pointer (some ⟨g, 0, none⟩), .int .i64 (l1.length : Int)] rfl qz3 ?_; (with_reducible refine (spec_l1Below.calls g s0_0 s0_1 s0_2 (l1.length : Int) t273 t274 t275 w0 _ ?side1 ?side2 A3.out).mono ?_); (case side1 => exact qz30); (case side2 => exact qz29); rintro e w6 ⟨rfl, hi, hb, hk⟩; refine ⟨_, rfl, ?_⟩; have n0_ := aM (KeepBut.trans qz7 hk (.inl rfl)); have n1_ := aM (hb); have n2_ := aM (hi); clear HK HB HI0; have HK := n0_; have HB := n1_; have HI0 := n2_; clear n0_ n1_ n2_; (try clear hb); (try clear hb2); (try clear hk); (try clear hi); have p276 : 0 ≤ (t273 : Int) := of_decide_eq_true qz2; have q276 : t273 < (l1.length : Int) := of_decide_eq_true qz2; obtain ⟨ad276, e276, hx276_0⟩ := Kd.at_string HR1.out t273 p276 q276; cases e276; replace hx276_0 := keep_cell HK.out hx276_0 (by first | (rw [add_block]; exact hf1 _ rfl (by omega)) | exact hf1 _ rfl (by omega) | exact hf1 ad276 rfl (by omega)); replace p276 := eq_true p276; replace q276 := eq_true q276))
 go_ret
 exact ⟨by first | rfl | (simp [errW_none, errW_some] <;> rfl) | (simp [*, errW_none, errW_some] <;> rfl), by repeat (first | (with_reducible first | exact HI0.out | apply IsS77.alloc | apply IsS77.drewN | apply IsS77.drew | apply IsS77.set_1 | apply IsS77.set_2) | exact HI0.out), by repeat (first | (with_reducible first | exact HB.out | apply below_alloc | apply pw_below_drewN | apply below_drew1 | refine below_set ?_ (IsS77.ge HI0.out)) | exact HB.out), by repeat (first | (with_reducible first | exact HK.out | apply KeepBut.set_ | apply keep_drewN | apply keep_drew | apply keep_alloc) | exact HK.out)⟩
 }
 {
 rw [if_neg c5] at H
 exact absurd H (by simp)
 }
 }
 {
 rw [if_neg c4] at H
 exact absurd H (by simp)

 }
end Go.Proofs.Ytbebfhlejnidkaa.PFnSound
