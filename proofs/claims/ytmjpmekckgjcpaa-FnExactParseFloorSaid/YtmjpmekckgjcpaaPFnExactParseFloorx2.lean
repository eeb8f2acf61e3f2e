-- Made by a program of this session out of the translation. Lean checks it.
import Derived.Test.YtmjpmekckgjcpaaPFnExactParseFloorx0
import Derived.Test.YtmjpmekckgjcpaaPFnExactParseFloorx1
namespace Go.Proofs.Ytmjpmekckgjcpaa.PFnExactParseFloor
open Go.RowKit Go.Proofs.YtmjpmekckgjcpaaW.PrintWords Go.Proofs.YtmjpmekckgjcpaaW.PrintLast Go.Proofs.YtmjpmekckgjcpaaW.PrintMore
attribute [local go_sem] max2_int min2_int max_two min_two max_three min_three max_four min_four   -- for this text's walks alone
set_option linter.unusedVariables false
set_option linter.unusedSimpArgs false

/-! ### spec_ParseFloor: function 41 -/
mutual
def spec_ParseFloor.l0 : Nat → List ByteArray → Int → Int → Int → List Int → Option (Int × Int × List Int × Int)
  | 0, _, _, _, _, _ => none
  | k + 1, x4, x6, x125000, x125001, x125002 => if x6 < (x4.length : Int) then (if x6 = (wrap64 ((x4.length : Int) - 1)) then (if 0 ≤ x6 then (if (rdOf ByteArray.empty x4 x6).toList = ([] : List UInt8) then (spec_ParseFloor.j1 k x4 x6 (x6 == (wrap64 ((x4.length : Int) - 1))) (decide (x6 > 0)) x125000 x125001 x125002) else (spec_ParseFloor.j1 k x4 x6 (x6 == (wrap64 ((x4.length : Int) - 1))) false x125000 x125001 x125002)) else (none)) else (spec_ParseFloor.j1 k x4 x6 (x6 == (wrap64 ((x4.length : Int) - 1))) false x125000 x125001 x125002)) else (some (x125000, x125001, x125002, (-1)))
def spec_ParseFloor.j1 : Nat → List ByteArray → Int → Bool → Bool → Int → Int → List Int → Option (Int × Int × List Int × Int)
  | 0, _, _, _, _, _, _, _ => none
  | k + 1, x4, x6, x7, x39, x125000, x125001, x125002 => if x39 = true then (some (x125000, x125001, x125002, (-1))) else (if x7 = true then (spec_ParseFloor.j2 k x4 x6 true x125000 x125001 x125002) else (if x6 = 10 then (spec_ParseFloor.j2 k x4 x6 true x125000 x125001 x125002) else (if 0 ≤ x6 then (if x6 < (x4.length : Int) then ((spec_l1In.f ((rdOf ByteArray.empty x4 x6).size : Int) 1 10).bind fun t127 => (if t127 = true then (spec_ParseFloor.j2 k x4 x6 (((rdOf ByteArray.empty x4 x6).size : Int) != x125000) x125000 x125001 x125002) else (spec_ParseFloor.j2 k x4 x6 true x125000 x125001 x125002))) else (none)) else (none))))
def spec_ParseFloor.j2 : Nat → List ByteArray → Int → Bool → Int → Int → List Int → Option (Int × Int × List Int × Int)
  | 0, _, _, _, _, _, _ => none
  | k + 1, x4, x6, x63, x125000, x125001, x125002 => if x63 = true then (some (0, 0, ([] : List Int), x6)) else (spec_ParseFloor.l1 k x4 x6 0 x125000 x125001 x125002)
def spec_ParseFloor.l1 : Nat → List ByteArray → Int → Int → Int → Int → List Int → Option (Int × Int × List Int × Int)
  | 0, _, _, _, _, _, _ => none
  | k + 1, x4, x6, x8, x125000, x125001, x125002 => if 0 ≤ x6 then (if x6 < (x4.length : Int) then (if x8 < ((rdOf ByteArray.empty x4 x6).size : Int) then (if 0 ≤ x8 then ((spec_l1Mark.f k (bt (rdOf ByteArray.empty x4 x6) x8)).bind fun t131 => (if t131 < 0 then (some (0, 0, ([] : List Int), x6)) else (if x125002.length < 17592186044416 then (spec_ParseFloor.l1 k x4 x6 (wrap64 (x8 + 1)) x125000 x125001 (x125002 ++ [t131])) else (none)))) else (none)) else (spec_ParseFloor.l0 k x4 (wrap64 (x6 + 1)) x125000 (wrap64 (x125001 + 1)) x125002)) else (none)) else (none)
end
def spec_ParseFloor.f (k : Nat) (a0 : ByteArray) : Option (Int × Int × List Int × Int) := (spec_l1Split.f k a0 10).bind fun t120 => (if 0 < (t120.length : Int) then (spec_ParseFloor.l0 k t120 0 ((rdOf ByteArray.empty t120 0).size : Int) 0 ([] : List Int)) else (none))
theorem spec_ParseFloor.mono_l : ∀ k, (∀ y0 y1 y2 y3 y4, LeO (spec_ParseFloor.l0 k y0 y1 y2 y3 y4) (spec_ParseFloor.l0 (k + 1) y0 y1 y2 y3 y4)) ∧ (∀ y0 y1 y2 y3 y4 y5 y6, LeO (spec_ParseFloor.j1 k y0 y1 y2 y3 y4 y5 y6) (spec_ParseFloor.j1 (k + 1) y0 y1 y2 y3 y4 y5 y6)) ∧ (∀ y0 y1 y2 y3 y4 y5, LeO (spec_ParseFloor.j2 k y0 y1 y2 y3 y4 y5) (spec_ParseFloor.j2 (k + 1) y0 y1 y2 y3 y4 y5)) ∧ (∀ y0 y1 y2 y3 y4 y5, LeO (spec_ParseFloor.l1 k y0 y1 y2 y3 y4 y5) (spec_ParseFloor.l1 (k + 1) y0 y1 y2 y3 y4 y5))
  | 0 => ⟨fun _ _ _ _ _ r h => by simp [spec_ParseFloor.l0] at h, fun _ _ _ _ _ _ _ r h => by simp [spec_ParseFloor.j1] at h, fun _ _ _ _ _ _ r h => by simp [spec_ParseFloor.j2] at h, fun _ _ _ _ _ _ r h => by simp [spec_ParseFloor.l1] at h⟩
  | k + 1 => by
    obtain ⟨ih0, ih1, ih2, ih3⟩ := spec_ParseFloor.mono_l k
    refine ⟨?_, ?_, ?_, ?_⟩
    {
    intro y0 y1 y2 y3 y4
    unfold spec_ParseFloor.l0
    repeat' first
    | (with_reducible exact ih0 _ _ _ _ _)
    | (with_reducible exact ih1 _ _ _ _ _ _ _)
    | (with_reducible exact ih2 _ _ _ _ _ _)
    | (with_reducible exact ih3 _ _ _ _ _ _)
    | (with_reducible exact spec_l1Mark.mono _ _)
    | (with_reducible exact spec_l1Split.mono _ _ _)
    | (with_reducible exact LeO.refl _)
    | (with_reducible exact LeO.none _)
    | (with_reducible refine LeO.ite ?_ ?_)
    | (with_reducible refine LeO.bind ?_ (fun _ => ?_))
    | exact ih0 _ _ _ _ _
    | exact ih1 _ _ _ _ _ _ _
    | exact ih2 _ _ _ _ _ _
    | exact ih3 _ _ _ _ _ _
    | exact spec_l1Mark.mono _ _
    | exact spec_l1Split.mono _ _ _
    | exact LeO.none _
    | refine LeO.ite ?_ ?_
    | refine LeO.bind ?_ (fun _ => ?_)
    }
    {
    intro y0 y1 y2 y3 y4 y5 y6
    unfold spec_ParseFloor.j1
    repeat' first
    | (with_reducible exact ih0 _ _ _ _ _)
    | (with_reducible exact ih1 _ _ _ _ _ _ _)
    | (with_reducible exact ih2 _ _ _ _ _ _)
    | (with_reducible exact ih3 _ _ _ _ _ _)
    | (with_reducible exact spec_l1Mark.mono _ _)
    | (with_reducible exact spec_l1Split.mono _ _ _)
    | (with_reducible exact LeO.refl _)
    | (with_reducible exact LeO.none _)
    | (with_reducible refine LeO.ite ?_ ?_)
    | (with_reducible refine LeO.bind ?_ (fun _ => ?_))
    | exact ih0 _ _ _ _ _
    | exact ih1 _ _ _ _ _ _ _
    | exact ih2 _ _ _ _ _ _
    | exact ih3 _ _ _ _ _ _
    | exact spec_l1Mark.mono _ _
    | exact spec_l1Split.mono _ _ _
    | exact LeO.none _
    | refine LeO.ite ?_ ?_
    | refine LeO.bind ?_ (fun _ => ?_)
    }
    {
    intro y0 y1 y2 y3 y4 y5
    unfold spec_ParseFloor.j2
    repeat' first
    | (with_reducible exact ih0 _ _ _ _ _)
    | (with_reducible exact ih1 _ _ _ _ _ _ _)
    | (with_reducible exact ih2 _ _ _ _ _ _)
    | (with_reducible exact ih3 _ _ _ _ _ _)
    | (with_reducible exact spec_l1Mark.mono _ _)
    | (with_reducible exact spec_l1Split.mono _ _ _)
    | (with_reducible exact LeO.refl _)
    | (with_reducible exact LeO.none _)
    | (with_reducible refine LeO.ite ?_ ?_)
    | (with_reducible refine LeO.bind ?_ (fun _ => ?_))
    | exact ih0 _ _ _ _ _
    | exact ih1 _ _ _ _ _ _ _
    | exact ih2 _ _ _ _ _ _
    | exact ih3 _ _ _ _ _ _
    | exact spec_l1Mark.mono _ _
    | exact spec_l1Split.mono _ _ _
    | exact LeO.none _
    | refine LeO.ite ?_ ?_
    | refine LeO.bind ?_ (fun _ => ?_)
    }
    {
    intro y0 y1 y2 y3 y4 y5
    unfold spec_ParseFloor.l1
    repeat' first
    | (with_reducible exact ih0 _ _ _ _ _)
    | (with_reducible exact ih1 _ _ _ _ _ _ _)
    | (with_reducible exact ih2 _ _ _ _ _ _)
    | (with_reducible exact ih3 _ _ _ _ _ _)
    | (with_reducible exact spec_l1Mark.mono _ _)
    | (with_reducible exact spec_l1Split.mono _ _ _)
    | (with_reducible exact LeO.refl _)
    | (with_reducible exact LeO.none _)
    | (with_reducible refine LeO.ite ?_ ?_)
    | (with_reducible refine LeO.bind ?_ (fun _ => ?_))
    | exact ih0 _ _ _ _ _
    | exact ih1 _ _ _ _ _ _ _
    | exact ih2 _ _ _ _ _ _
    | exact ih3 _ _ _ _ _ _
    | exact spec_l1Mark.mono _ _
    | exact spec_l1Split.mono _ _ _
    | exact LeO.none _
    | refine LeO.ite ?_ ?_
    | refine LeO.bind ?_ (fun _ => ?_)
    }
theorem spec_ParseFloor.mono : ∀ a0 k, LeO (spec_ParseFloor.f k a0) (spec_ParseFloor.f (k + 1) a0) := by
  intro a0 k
  obtain ⟨ih0, ih1, ih2, ih3⟩ := spec_ParseFloor.mono_l k
  unfold spec_ParseFloor.f
  repeat' first
      | (with_reducible exact ih0 _ _ _ _ _)
      | (with_reducible exact ih1 _ _ _ _ _ _ _)
      | (with_reducible exact ih2 _ _ _ _ _ _)
      | (with_reducible exact ih3 _ _ _ _ _ _)
      | (with_reducible exact spec_l1Mark.mono _ _)
      | (with_reducible exact spec_l1Split.mono _ _ _)
      | (with_reducible exact LeO.refl _)
      | (with_reducible exact LeO.none _)
      | (with_reducible refine LeO.ite ?_ ?_)
      | (with_reducible refine LeO.bind ?_ (fun _ => ?_))
      | exact ih0 _ _ _ _ _
      | exact ih1 _ _ _ _ _ _ _
      | exact ih2 _ _ _ _ _ _
      | exact ih3 _ _ _ _ _ _
      | exact spec_l1Mark.mono _ _
      | exact spec_l1Split.mono _ _ _
      | exact LeO.none _
      | refine LeO.ite ?_ ?_
      | refine LeO.bind ?_ (fun _ => ?_)
set_option maxHeartbeats 8000000 in
set_option maxRecDepth 100000 in
theorem spec_ParseFloor.calls (k : Nat) (a0 : ByteArray) (r1 : Int) (r2 : Int) (r3 : List Int) (r4 : Int) (w : World) (h : spec_ParseFloor.f k a0 = some (r1, r2, r3, r4)) :
    Calls Try.prog 41 #[.string a0] w fun e w' => ∃ v2_ : Value, e = .returned (.tuple #[.agg #[.int .i64 r1, .int .i64 r2, v2_], .int .i64 r4]) ∧ Kd.R (Kd.int .i64) 3 w' w.heap.size (fun _ => True) v2_ r3 ∧ Below w.heap.size w w' := by
  have hu27 := Try.underlying27
  have HB := Aside0.mk (Below.refl w.heap.size w)
  have H : ((spec_l1Split.f k a0 10).bind fun t120 => (if 0 < (t120.length : Int) then (spec_ParseFloor.l0 k t120 0 ((rdOf ByteArray.empty t120 0).size : Int) 0 ([] : List Int)) else (none))) = some (r1, r2, r3, r4) := h
  clear h
  replace H := Option.bind_eq_some_iff.mp H
  obtain ⟨t120, A20, H⟩ := H
  replace H : (if 0 < (t120.length : Int) then (spec_ParseFloor.l0 k t120 0 ((rdOf ByteArray.empty t120 0).size : Int) 0 ([] : List Int)) else (none)) = some (r1, r2, r3, r4) := H
  have A2 := Aside0.mk A20
  clear A20
  by_cases c3 : 0 < (t120.length : Int)
  {
  rw [if_pos c3] at H
  have c3b0 : decide (0 < (t120.length : Int)) = true := decide_eq_true c3
  have c3b1 : decide (0 < t120.length) = true := decide_eq_true (by omega)
  clear c3
  have H' := Aside0.mk H
  clear H
  go_enter Try.func41, Try.ntmps41
  go_wp2_with (first | ((with_reducible refine gate_dst (N := 2) rfl ?_); (try (refine gate_guard (by rfl) ?_; dsimp only)); refine box_event ?hg (N := 2) ?hd (cs := #[.int .i64 0, .int .i64 0, .slice none 0 0]) (t := 27) ?hr ?_; (case hd => rfl); (case hg => rfl); (case hr => first | (go_simp; done) | (go_simp; rfl)); intro gb119 hg w4 hbox hb; have n0_ := Aside0.mk (below_step qz1 hb); have n1_ := Aside0.mk (hbox); have n2_ := Aside0.mk ((by rw [hg]; exact (below_size qz1) : w.heap.size ≤ gb119)); have n3_ := Aside0.mk ((by rw [hg]; exact (below_size qz1) : w.heap.size ≤ gb119)); clear HB; have HB := n0_; have BK119 := n1_; have GW119 := n2_; have GE119 := n3_; clear n0_ n1_ n2_ n3_; clear hb hbox hg) | (go_at_call 83; (with_reducible refine (spec_l1Split.calls k a0 10 t120 _ A2.out).mono ?_); rintro e w5 ⟨v121, rfl, ho0, hb⟩; have n0_ := Aside0.mk (Kd.R_lower ho0 (below_size qz5)); have n1_ := Aside0.mk (blk_below (g := gb119) (o := .cells #[.int .i64 0, .int .i64 0, .slice none 0 0] 27 (0, 0)) qz10 hb); have n2_ := Aside0.mk (below_step qz5 hb); clear BK119; clear HB; have HO122 := n0_; have BK119 := n1_; have HB := n2_; clear n0_ n1_ n2_; (try clear hb); (try clear hb2); (try clear hk); (try clear hi); (try clear ho0); obtain ⟨Ao6, co6, eo6⟩ := Kd.R_slice HO122.out; subst eo6; have p123 : 0 ≤ (0 : Int) := (by omega); have q123 : 0 < (t120.length : Int) := of_decide_eq_true qz4; obtain ⟨ad123, e123, hx123_0⟩ := Kd.at_string (Kd.R_reads' HO122.out).2.2 0 p123 q123; cases e123; have qi123 : (0 < t120.length) = True := eq_true (by omega); (try rw [show ((0 : Int)).toNat = 0 from rfl] at hx123_0); (try rw [Addr.add_zero'] at hx123_0); replace p123 := eq_true p123; replace q123 := eq_true q123) | ((with_reducible refine gate_dst (N := 5) rfl ?_); (try (refine gate_guard (by rfl) ?_; dsimp only)); refine box_event ?hg (N := 5) ?hd (cs := #[.int .i64 0, .int .i64 0, .slice none 0 0]) (t := 27) ?hr ?_; (case hd => rfl); (case hg => rfl); (case hr => first | (go_simp; done) | (go_simp; rfl)); intro gb124 hg w7 hbox hb; have n0_ := Aside0.mk (Kd.R_below (by (with_reducible repeat (first | apply Kd.R_alloc | apply Kd.R_drewN | apply Kd.R_drew)); exact HO122.out) hb); have n1_ := Aside0.mk (blk_below (g := gb119) (o := .cells #[.int .i64 0, .int .i64 0, .slice none 0 0] 27 (0, 0)) qz10 hb); have n2_ := Aside0.mk (below_step qz5 hb); have n3_ := Aside0.mk (hbox); have n4_ := Aside0.mk ((by rw [hg]; exact (below_size qz5) : w.heap.size ≤ gb124)); have n5_ := Aside0.mk ((by rw [hg]; exact (below_size qz5) : w.heap.size ≤ gb124)); have n6_ := Aside0.mk ((by rw [hg]; exact Nat.ne_of_lt (blk_lt (g := gb119) (o := .cells #[.int .i64 0, .int .i64 0, .slice none 0 0] 27 (0, 0)) qz10) : gb119 ≠ gb124)); have n7_ := Aside0.mk ((by rw [hg]; exact Nat.ne_of_gt (blk_lt (g := gb119) (o := .cells #[.int .i64 0, .int .i64 0, .slice none 0 0] 27 (0, 0)) qz10) : gb124 ≠ gb119)); clear HO122; clear BK119; clear HB; have HO122 := n0_; have BK119 := n1_; have HB := n2_; have BK124 := n3_; have GW124 := n4_; have GE124 := n5_; have NB119_124 := n6_; have NB124_119 := n7_; clear n0_ n1_ n2_ n3_ n4_ n5_ n6_ n7_; clear hb hbox hg; have hnb8 := NB124_119.out; have hnc8 := NB119_124.out; have hcz9_0 : w7.cell? ⟨gb124, 0, none⟩ = some (.int .i64 0) := (blk_cell BK124.out 0).trans rfl; have hcz9_1 : w7.cell? ⟨gb124, 1, none⟩ = some (.int .i64 0) := (blk_cell BK124.out 1).trans rfl; have hcz9_2 : w7.cell? ⟨gb124, 2, none⟩ = some (.slice none 0 0) := (blk_cell BK124.out 2).trans rfl; have hfz9_0 := blk_frozen BK124.out 0; have hfz9_1 := blk_frozen BK124.out 1; have hfz9_2 := blk_frozen BK124.out 2))
  repeat (go_quiet (first | ((with_reducible refine gate_dst (N := 2) rfl ?_); (try (refine gate_guard (by rfl) ?_; dsimp only)); refine box_event ?hg (N := 2) ?hd (cs := #[.int .i64 0, .int .i64 0, .slice none 0 0]) (t := 27) ?hr ?_; (case hd => rfl); (case hg => rfl); (case hr => first | (go_simp; done) | (go_simp; rfl)); intro gb119 hg w4 hbox hb; have n0_ := Aside0.mk (below_step qz1 hb); have n1_ := Aside0.mk (hbox); have n2_ := Aside0.mk ((by rw [hg]; exact (below_size qz1) : w.heap.size ≤ gb119)); have n3_ := Aside0.mk ((by rw [hg]; exact (below_size qz1) : w.heap.size ≤ gb119)); clear HB; have HB := n0_; have BK119 := n1_; have GW119 := n2_; have GE119 := n3_; clear n0_ n1_ n2_ n3_; clear hb hbox hg) | (go_at_call 83; (with_reducible refine (spec_l1Split.calls k a0 10 t120 _ A2.out).mono ?_); rintro e w5 ⟨v121, rfl, ho0, hb⟩; have n0_ := Aside0.mk (Kd.R_lower ho0 (below_size qz5)); have n1_ := Aside0.mk (blk_below (g := gb119) (o := .cells #[.int .i64 0, .int .i64 0, .slice none 0 0] 27 (0, 0)) qz10 hb); have n2_ := Aside0.mk (below_step qz5 hb); clear BK119; clear HB; have HO122 := n0_; have BK119 := n1_; have HB := n2_; clear n0_ n1_ n2_; (try clear hb); (try clear hb2); (try clear hk); (try clear hi); (try clear ho0); obtain ⟨Ao6, co6, eo6⟩ := Kd.R_slice HO122.out; subst eo6; have p123 : 0 ≤ (0 : Int) := (by omega); have q123 : 0 < (t120.length : Int) := of_decide_eq_true qz4; obtain ⟨ad123, e123, hx123_0⟩ := Kd.at_string (Kd.R_reads' HO122.out).2.2 0 p123 q123; cases e123; have qi123 : (0 < t120.length) = True := eq_true (by omega); (try rw [show ((0 : Int)).toNat = 0 from rfl] at hx123_0); (try rw [Addr.add_zero'] at hx123_0); replace p123 := eq_true p123; replace q123 := eq_true q123) | ((with_reducible refine gate_dst (N := 5) rfl ?_); (try (refine gate_guard (by rfl) ?_; dsimp only)); refine box_event ?hg (N := 5) ?hd (cs := #[.int .i64 0, .int .i64 0, .slice none 0 0]) (t := 27) ?hr ?_; (case hd => rfl); (case hg => rfl); (case hr => first | (go_simp; done) | (go_simp; rfl)); intro gb124 hg w7 hbox hb; have n0_ := Aside0.mk (Kd.R_below (by (with_reducible repeat (first | apply Kd.R_alloc | apply Kd.R_drewN | apply Kd.R_drew)); exact HO122.out) hb); have n1_ := Aside0.mk (blk_below (g := gb119) (o := .cells #[.int .i64 0, .int .i64 0, .slice none 0 0] 27 (0, 0)) qz10 hb); have n2_ := Aside0.mk (below_step qz5 hb); have n3_ := Aside0.mk (hbox); have n4_ := Aside0.mk ((by rw [hg]; exact (below_size qz5) : w.heap.size ≤ gb124)); have n5_ := Aside0.mk ((by rw [hg]; exact (below_size qz5) : w.heap.size ≤ gb124)); have n6_ := Aside0.mk ((by rw [hg]; exact Nat.ne_of_lt (blk_lt (g := gb119) (o := .cells #[.int .i64 0, .int .i64 0, .slice none 0 0] 27 (0, 0)) qz10) : gb119 ≠ gb124)); have n7_ := Aside0.mk ((by rw [hg]; exact Nat.ne_of_gt (blk_lt (g := gb119) (o := .cells #[.int .i64 0, .int .i64 0, .slice none 0 0] 27 (0, 0)) qz10) : gb124 ≠ gb119)); clear HO122; clear BK119; clear HB; have HO122 := n0_; have BK119 := n1_; have HB := n2_; have BK124 := n3_; have GW124 := n4_; have GE124 := n5_; have NB119_124 := n6_; have NB124_119 := n7_; clear n0_ n1_ n2_ n3_ n4_ n5_ n6_ n7_; clear hb hbox hg; have hnb8 := NB124_119.out; have hnc8 := NB119_124.out; have hcz9_0 : w7.cell? ⟨gb124, 0, none⟩ = some (.int .i64 0) := (blk_cell BK124.out 0).trans rfl; have hcz9_1 : w7.cell? ⟨gb124, 1, none⟩ = some (.int .i64 0) := (blk_cell BK124.out 1).trans rfl; have hcz9_2 : w7.cell? ⟨gb124, 2, none⟩ = some (.slice none 0 0) := (blk_cell BK124.out 2).trans rfl; have hfz9_0 := blk_frozen BK124.out 0; have hfz9_1 := blk_frozen BK124.out 1; have hfz9_2 := blk_frozen BK124.out 2)); try go_wp2_with (first | ((with_reducible refine gate_dst (N := 2) rfl ?_); (try (refine gate_guard (by rfl) ?_; dsimp only)); refine box_event ?hg (N := 2) ?hd (cs := #[.int .i64 0, .int .i64 0, .slice none 0 0]) (t := 27) ?hr ?_; (case hd => rfl); (case hg => rfl); (case hr => first | (go_simp; done) | (go_simp; rfl)); intro gb119 hg w4 hbox hb; have n0_ := Aside0.mk (below_step qz1 hb); have n1_ := Aside0.mk (hbox); have n2_ := Aside0.mk ((by rw [hg]; exact (below_size qz1) : w.heap.size ≤ gb119)); have n3_ := Aside0.mk ((by rw [hg]; exact (below_size qz1) : w.heap.size ≤ gb119)); clear HB; have HB := n0_; have BK119 := n1_; have GW119 := n2_; have GE119 := n3_; clear n0_ n1_ n2_ n3_; clear hb hbox hg) | (go_at_call 83; (with_reducible refine (spec_l1Split.calls k a0 10 t120 _ A2.out).mono ?_); rintro e w5 ⟨v121, rfl, ho0, hb⟩; have n0_ := Aside0.mk (Kd.R_lower ho0 (below_size qz5)); have n1_ := Aside0.mk (blk_below (g := gb119) (o := .cells #[.int .i64 0, .int .i64 0, .slice none 0 0] 27 (0, 0)) qz10 hb); have n2_ := Aside0.mk (below_step qz5 hb); clear BK119; clear HB; have HO122 := n0_; have BK119 := n1_; have HB := n2_; clear n0_ n1_ n2_; (try clear hb); (try clear hb2); (try clear hk); (try clear hi); (try clear ho0); obtain ⟨Ao6, co6, eo6⟩ := Kd.R_slice HO122.out; subst eo6; have p123 : 0 ≤ (0 : Int) := (by omega); have q123 : 0 < (t120.length : Int) := of_decide_eq_true qz4; obtain ⟨ad123, e123, hx123_0⟩ := Kd.at_string (Kd.R_reads' HO122.out).2.2 0 p123 q123; cases e123; have qi123 : (0 < t120.length) = True := eq_true (by omega); (try rw [show ((0 : Int)).toNat = 0 from rfl] at hx123_0); (try rw [Addr.add_zero'] at hx123_0); replace p123 := eq_true p123; replace q123 := eq_true q123) | ((with_reducible refine gate_dst (N := 5) rfl ?_); (try (refine gate_guard (by rfl) ?_; dsimp only)); refine box_event ?hg (N := 5) ?hd (cs := #[.int .i64 0, .int .i64 0, .slice none 0 0]) (t := 27) ?hr ?_; (case hd => rfl); (case hg => rfl); (case hr => first | (go_simp; done) | (go_simp; rfl)); intro gb124 hg w7 hbox hb; have n0_ := Aside0.mk (Kd.R_below (by (with_reducible repeat (first | apply Kd.R_alloc | apply Kd.R_drewN | apply Kd.R_drew)); exact HO122.out) hb); have n1_ := Aside0.mk (blk_below (g := gb119) (o := .cells #[.int .i64 0, .int .i64 0, .slice none 0 0] 27 (0, 0)) qz10 hb); have n2_ := Aside0.mk (below_step qz5 hb); have n3_ := Aside0.mk (hbox); have n4_ := Aside0.mk ((by rw [hg]; exact (below_size qz5) : w.heap.size ≤ gb124)); have n5_ := Aside0.mk ((by rw [hg]; exact (below_size qz5) : w.heap.size ≤ gb124)); have n6_ := Aside0.mk ((by rw [hg]; exact Nat.ne_of_lt (blk_lt (g := gb119) (o := .cells #[.int .i64 0, .int .i64 0, .slice none 0 0] 27 (0, 0)) qz10) : gb119 ≠ gb124)); have n7_ := Aside0.mk ((by rw [hg]; exact Nat.ne_of_gt (blk_lt (g := gb119) (o := .cells #[.int .i64 0, .int .i64 0, .slice none 0 0] 27 (0, 0)) qz10) : gb124 ≠ gb119)); clear HO122; clear BK119; clear HB; have HO122 := n0_; have BK119 := n1_; have HB := n2_; have BK124 := n3_; have GW124 := n4_; have GE124 := n5_; have NB119_124 := n6_; have NB124_119 := n7_; clear n0_ n1_ n2_ n3_ n4_ n5_ n6_ n7_; clear hb hbox hg; have hnb8 := NB124_119.out; have hnc8 := NB119_124.out; have hcz9_0 : w7.cell? ⟨gb124, 0, none⟩ = some (.int .i64 0) := (blk_cell BK124.out 0).trans rfl; have hcz9_1 : w7.cell? ⟨gb124, 1, none⟩ = some (.int .i64 0) := (blk_cell BK124.out 1).trans rfl; have hcz9_2 : w7.cell? ⟨gb124, 2, none⟩ = some (.slice none 0 0) := (blk_cell BK124.out 2).trans rfl; have hfz9_0 := blk_frozen BK124.out 0; have hfz9_1 := blk_frozen BK124.out 1; have hfz9_2 := blk_frozen BK124.out 2)))
  go_loopg [6] k (fun kq v6 w' => ∃ (x6_1 : Int) (x120000_1 : Int) (x120001_1 : Int) (x125001_1 : Int) (x125002_1 : List Int) (u125002 : Value), v6 = .int .i64 x6_1 ∧ Aside0 (spec_ParseFloor.l0 kq t120 x6_1 ((rdOf ByteArray.empty t120 0).size : Int) x125001_1 x125002_1 = some (r1, r2, r3, r4)) ∧ Aside0 (kq ≤ k) ∧ Aside0 (Kd.R Kd.string 9 w' w.heap.size (fun _ => True) (.slice (some ad123) t120.length co6) t120) ∧ Aside0 (Kd.R (Kd.int .i64) 3 w' w.heap.size (fun _ => True) u125002 x125002_1) ∧ Aside0 (w'.heap[gb119]? = some (.cells #[.int .i64 x120000_1, .int .i64 x120001_1, (.slice none 0 0)] 27 (0, 0))) ∧ Aside0 (w'.heap[gb124]? = some (.cells #[.int .i64 ((rdOf ByteArray.empty t120 0).size : Int), .int .i64 x125001_1, u125002] 27 (0, 0))) ∧ Aside0 (Below w.heap.size w w'))
  case atStart => exact ⟨(0), (0), (0), (0), (([] : List Int)), (.slice none 0 0), qz6, H', ⟨Nat.le_refl _⟩, ⟨by (with_reducible repeat (first | apply Kd.R_alloc | apply Kd.R_drewN | apply Kd.R_drew)); exact Kd.R_mono (Kd.R_far (p := ⟨gb124, 2, none⟩) (Kd.R_far (p := ⟨gb124, 1, none⟩) (Kd.R_far (p := ⟨gb124, 0, none⟩) (Kd.R_types HO122.out BK124.out (by decide)) (fun _ hk => hk.2) (.int .i64 ((rdOf ByteArray.empty t120 0).size : Int))) (fun _ hk => hk.2) (.int .i64 0)) (fun _ hk => hk.2) (.slice none 0 0)) (fun _ hk => trivial)⟩, ⟨by first | exact Kd.R_nil _ _ _ _ _ | exact Kd.N_nil _ _ _ _ _ | exact Kd.V_nil _ _ _ _ _ | exact Kd.Q_nil _ _ _ _ _ | exact Kd.S_nil _ _ _ _ _⟩, ⟨by (with_reducible repeat (first | refine blk_drewN ?_ _ | refine blk_drew ?_ | refine blk_alloc ?_ _)); refine blk_far ?_ NB119_124.out _; (with_reducible repeat (first | refine blk_drewN ?_ _ | refine blk_drew ?_ | refine blk_alloc ?_ _)); refine blk_far ?_ NB119_124.out _; (with_reducible repeat (first | refine blk_drewN ?_ _ | refine blk_drew ?_ | refine blk_alloc ?_ _)); refine blk_far ?_ NB119_124.out _; (with_reducible repeat (first | refine blk_drewN ?_ _ | refine blk_drew ?_ | refine blk_alloc ?_ _)); exact BK119.out⟩, ⟨by (with_reducible repeat (first | refine blk_drewN ?_ _ | refine blk_drew ?_ | refine blk_alloc ?_ _)); refine blk_put (cs := #[.int .i64 ((rdOf ByteArray.empty t120 0).size : Int), .int .i64 0, .slice none 0 0]) ?_ 2 _ rfl; (with_reducible repeat (first | refine blk_drewN ?_ _ | refine blk_drew ?_ | refine blk_alloc ?_ _)); refine blk_put (cs := #[.int .i64 ((rdOf ByteArray.empty t120 0).size : Int), .int .i64 0, .slice none 0 0]) ?_ 1 _ rfl; (with_reducible repeat (first | refine blk_drewN ?_ _ | refine blk_drew ?_ | refine blk_alloc ?_ _)); refine blk_put (cs := #[.int .i64 0, .int .i64 0, .slice none 0 0]) ?_ 0 _ rfl; (with_reducible repeat (first | refine blk_drewN ?_ _ | refine blk_drew ?_ | refine blk_alloc ?_ _)); exact BK124.out⟩, ⟨by repeat (first | (with_reducible first | exact HB.out | apply below_alloc | apply pw_below_drewN | apply below_drew1 | refine below_set ?_ GE119.out | refine below_set ?_ GE124.out) | exact HB.out)⟩⟩
  case round =>
    clear H'
    try clear p1
    try clear q1
    try clear hx1
    try clear qi1
    try clear p2
    try clear c3
    try clear c3b0
    try clear c3b1
    try clear c4
    try clear c8
    try clear hcz9_0
    try clear hcz9_1
    try clear hcz9_2
    try clear hfz9_0
    try clear hfz9_1
    try clear hfz9_2
    try clear hx123_0
    try clear p123
    try clear q123
    obtain ⟨x6_1, x120000_1, x120001_1, x125001_1, x125002_1, u125002, rfl, HA, HK1, HO_4, HO_125002, BK119, BK124, HB⟩ := hrel
    cases gk with
    | zero => exact absurd HA.out (by simp [spec_ParseFloor.l0])
    | succ k1 =>
      have H := HA.out
      clear HA
      simp only [spec_ParseFloor.l0] at H
      by_cases c10 : x6_1 < (t120.length : Int)
      {
      rw [if_pos c10] at H
      have c10b0 : decide (x6_1 < (t120.length : Int)) = true := decide_eq_true c10
      clear c10
      have HC11 := Aside0.mk H
      clear H
      go_upto_region 7 with (fail)
      repeat (go_quiet (fail); go_upto_region 7 with (fail))
      go_cut [7, 39] (fun v7 v39 wc => ∃ (kq : Nat) (x7_10 : Bool) (x39_10 : Bool), v7 = .bool x7_10 ∧ v39 = .bool x39_10 ∧ Aside0 (spec_ParseFloor.j1 kq t120 x6_1 x7_10 x39_10 ((rdOf ByteArray.empty t120 0).size : Int) x125001_1 x125002_1 = some (r1, r2, r3, r4)) ∧ Aside0 (kq ≤ k1) ∧ Aside0 (Kd.R Kd.string 9 wc w.heap.size (fun _ => True) (.slice (some ad123) t120.length co6) t120) ∧ Aside0 (Kd.R (Kd.int .i64) 3 wc w.heap.size (fun _ => True) u125002 x125002_1) ∧ Aside0 (wc.heap[gb119]? = some (.cells #[.int .i64 x120000_1, .int .i64 x120001_1, (.slice none 0 0)] 27 (0, 0))) ∧ Aside0 (wc.heap[gb124]? = some (.cells #[.int .i64 ((rdOf ByteArray.empty t120 0).size : Int), .int .i64 x125001_1, u125002] 27 (0, 0))) ∧ Aside0 (Below w.heap.size w wc))
      case first =>
        have H := HC11.out
        clear HC11
        by_cases c12 : x6_1 = (wrap64 ((t120.length : Int) - 1))
        {
        rw [if_pos c12] at H
        have c12b0 : (x6_1 == (wrap64 ((t120.length : Int) - 1))) = true := beq_iff_eq.mpr c12
        have c12b1 : (x6_1 != (wrap64 ((t120.length : Int) - 1))) = false := bne_eq_false_iff_eq.mpr c12
        clear c12
        (first | rw [c12b0] | (simp only [i64_w, i32_w]; rw [c12b0]) | rw [@decide_eq_true _ _ (of_decide_eq_true c12b0)] | rw [@decide_eq_true _ _ (of_decide_eq_true c12b1)] | skip)
        by_cases c13 : 0 ≤ x6_1
        {
        rw [if_pos c13] at H
        have c13b0 : decide (0 ≤ x6_1) = true := decide_eq_true c13
        clear c13
        by_cases c14 : (rdOf ByteArray.empty t120 x6_1).toList = ([] : List UInt8)
        {
        rw [if_pos c14] at H
        have c14b0 : ((rdOf ByteArray.empty t120 x6_1).toList == ([] : List UInt8)) = true := beq_iff_eq.mpr c14
        have c14b1 : ((rdOf ByteArray.empty t120 x6_1).toList != ([] : List UInt8)) = false := bne_eq_false_iff_eq.mpr c14
        clear c14
        have H' := Aside0.mk H
        clear H
        have p125 : 0 ≤ (x6_1 : Int) := of_decide_eq_true qz4
        have q125 : x6_1 < (t120.length : Int) := of_decide_eq_true qz4
        obtain ⟨ad125, e125, hx125_0⟩ := Kd.at_string (Kd.R_reads' HO_4.out).2.2 x6_1 p125 q125
        obtain rfl : ad123 = ad125 := (by injection e125)
        replace p125 := eq_true p125
        replace q125 := eq_true q125
        go_wp2
        repeat (go_quiet (fail); try go_wp2)
        go_meet
        case rel => exact ⟨_, ((x6_1 == (wrap64 ((t120.length : Int) - 1)))), (decide (x6_1 > 0)), qz6, qz6, H', ⟨by have := HK1.out; first | omega | exact Nat.le_refl _⟩, ⟨by (with_reducible repeat (first | apply Kd.R_alloc | apply Kd.R_drewN | apply Kd.R_drew)); exact HO_4.out⟩, ⟨by (with_reducible repeat (first | apply Kd.R_alloc | apply Kd.R_drewN | apply Kd.R_drew)); exact HO_125002.out⟩, ⟨by (with_reducible repeat (first | refine blk_drewN ?_ _ | refine blk_drew ?_ | refine blk_alloc ?_ _)); exact BK119.out⟩, ⟨by (with_reducible repeat (first | refine blk_drewN ?_ _ | refine blk_drew ?_ | refine blk_alloc ?_ _)); exact BK124.out⟩, ⟨by repeat (first | (with_reducible first | exact HB.out | apply below_alloc | apply pw_below_drewN | apply below_drew1 | refine below_set ?_ GE119.out | refine below_set ?_ GE124.out) | exact HB.out)⟩⟩
        }
        {
        rw [if_neg c14] at H
        have c14b0 : ((rdOf ByteArray.empty t120 x6_1).toList == ([] : List UInt8)) = false := beq_eq_false_iff_ne.mpr c14
        have c14b1 : ((rdOf ByteArray.empty t120 x6_1).toList != ([] : List UInt8)) = true := bne_iff_ne.mpr c14
        have H' := Aside0.mk H
        clear H
        have p125 : 0 ≤ (x6_1 : Int) := of_decide_eq_true qz4
        have q125 : x6_1 < (t120.length : Int) := of_decide_eq_true qz4
        obtain ⟨ad125, e125, hx125_0⟩ := Kd.at_string (Kd.R_reads' HO_4.out).2.2 x6_1 p125 q125
        obtain rfl : ad123 = ad125 := (by injection e125)
        replace p125 := eq_true p125
        replace q125 := eq_true q125
        go_wp2
        repeat (go_quiet (fail); try go_wp2)
        go_meet
        case rel => exact ⟨_, ((x6_1 == (wrap64 ((t120.length : Int) - 1)))), (false), qz6, qz6, H', ⟨by have := HK1.out; first | omega | exact Nat.le_refl _⟩, ⟨by (with_reducible repeat (first | apply Kd.R_alloc | apply Kd.R_drewN | apply Kd.R_drew)); exact HO_4.out⟩, ⟨by (with_reducible repeat (first | apply Kd.R_alloc | apply Kd.R_drewN | apply Kd.R_drew)); exact HO_125002.out⟩, ⟨by (with_reducible repeat (first | refine blk_drewN ?_ _ | refine blk_drew ?_ | refine blk_alloc ?_ _)); exact BK119.out⟩, ⟨by (with_reducible repeat (first | refine blk_drewN ?_ _ | refine blk_drew ?_ | refine blk_alloc ?_ _)); exact BK124.out⟩, ⟨by repeat (first | (with_reducible first | exact HB.out | apply below_alloc | apply pw_below_drewN | apply below_drew1 | refine below_set ?_ GE119.out | refine below_set ?_ GE124.out) | exact HB.out)⟩⟩
        }
        }
        {
        rw [if_neg c13] at H
        exact absurd H (by simp)
        }
        }
        {
        rw [if_neg c12] at H
        have c12b0 : (x6_1 == (wrap64 ((t120.length : Int) - 1))) = false := beq_eq_false_iff_ne.mpr c12
        have c12b1 : (x6_1 != (wrap64 ((t120.length : Int) - 1))) = true := bne_iff_ne.mpr c12
        (first | rw [c12b0] | (simp only [i64_w, i32_w]; rw [c12b0]) | rw [@decide_eq_false _ _ (of_decide_eq_false c12b0)] | rw [@decide_eq_false _ _ (of_decide_eq_false c12b1)] | skip)
        have H' := Aside0.mk H
        clear H
        go_wp2
        repeat (go_quiet (fail); try go_wp2)
        go_meet
        case rel => exact ⟨_, ((x6_1 == (wrap64 ((t120.length : Int) - 1)))), (false), qz6, qz6, H', ⟨by have := HK1.out; first | omega | exact Nat.le_refl _⟩, ⟨by (with_reducible repeat (first | apply Kd.R_alloc | apply Kd.R_drewN | apply Kd.R_drew)); exact HO_4.out⟩, ⟨by (with_reducible repeat (first | apply Kd.R_alloc | apply Kd.R_drewN | apply Kd.R_drew)); exact HO_125002.out⟩, ⟨by (with_reducible repeat (first | refine blk_drewN ?_ _ | refine blk_drew ?_ | refine blk_alloc ?_ _)); exact BK119.out⟩, ⟨by (with_reducible repeat (first | refine blk_drewN ?_ _ | refine blk_drew ?_ | refine blk_alloc ?_ _)); exact BK124.out⟩, ⟨by repeat (first | (with_reducible first | exact HB.out | apply below_alloc | apply pw_below_drewN | apply below_drew1 | refine below_set ?_ GE119.out | refine below_set ?_ GE124.out) | exact HB.out)⟩⟩
        }
      case rest =>
        clear HC11
        try clear c1
        try clear p1
        try clear q1
        try clear hx1
        try clear qi1
        try clear p2
        try clear c3
        try clear c3b0
        try clear c3b1
        try clear c4
        try clear p6
        try clear c8
        try clear c10
        try clear c10b0
        try clear c12
        try clear c12b0
        try clear c12b1
        try clear p12
        try clear q12
        try clear hx12
        try clear qi12
        try clear c13
        try clear c13b0
        try clear c14
        try clear c14b0
        try clear c14b1
        try clear hcz9_0
        try clear hcz9_1
        try clear hcz9_2
        try clear hfz9_0
        try clear hfz9_1
        try clear hfz9_2
        try clear hx123_0
        try clear hx125_0
        try clear p1
        try clear p123
        try clear p125
        try clear p2
        try clear q1
        try clear q123
        try clear q125
        obtain ⟨kq, x7_10, x39_10, rfl, rfl, HA, HJ10, HO_4, HO_125002, BK119, BK124, HB⟩ := hcut
        cases kq with
        | zero => exact absurd HA.out (by simp [spec_ParseFloor.j1])
        | succ kj10 =>
          have H := HA.out
          clear HA
          simp only [spec_ParseFloor.j1] at H
          by_cases c15 : x39_10 = true
          {
          subst c15
          have H1 : (some (((rdOf ByteArray.empty t120 0).size : Int), x125001_1, x125002_1, (-1))) = some (r1, r2, r3, r4) := by rw [if_pos rfl] at H; exact H
          clear H
          have H := H1
          clear H1
          simp only [Option.some.injEq, Prod.mk.injEq] at H
          obtain ⟨rfl, rfl, rfl, rfl⟩ := H
          have hnb16 := NB124_119.out
          have hnc16 := NB119_124.out
          have hcz17_0 : wc.cell? ⟨gb124, 0, none⟩ = some (.int .i64 ((rdOf ByteArray.empty t120 0).size : Int)) := (blk_cell BK124.out 0).trans rfl
          have hcz17_1 : wc.cell? ⟨gb124, 1, none⟩ = some (.int .i64 x125001_1) := (blk_cell BK124.out 1).trans rfl
          have hcz17_2 : wc.cell? ⟨gb124, 2, none⟩ = some (u125002) := (blk_cell BK124.out 2).trans rfl
          have hfz17_0 := blk_frozen BK124.out 0
          have hfz17_1 := blk_frozen BK124.out 1
          have hfz17_2 := blk_frozen BK124.out 2
          have hcz18_0 : wc.cell? ⟨gb119, 0, none⟩ = some (.int .i64 x120000_1) := (blk_cell BK119.out 0).trans rfl
          have hcz18_1 : wc.cell? ⟨gb119, 1, none⟩ = some (.int .i64 x120001_1) := (blk_cell BK119.out 1).trans rfl
          have hcz18_2 : wc.cell? ⟨gb119, 2, none⟩ = some (.slice none 0 0) := (blk_cell BK119.out 2).trans rfl
          have hfz18_0 := blk_frozen BK119.out 0
          have hfz18_1 := blk_frozen BK119.out 1
          have hfz18_2 := blk_frozen BK119.out 2
          obtain ⟨Ao19, co19, eo19⟩ := Kd.R_slice HO_125002.out
          subst eo19
          go_wp2
          repeat (go_quiet (fail); try go_wp2)
          refine bodyPost_ret (results_ct rfl _ _ gb119 27 #[.int .i64 ((rdOf ByteArray.empty t120 0).size : Int), .int .i64 x125001_1, .slice Ao19 x125002_1.length co19] (0, 0) _ rfl (by (with_reducible repeat (first | refine blk_drewN ?_ _ | refine blk_drew ?_ | refine blk_alloc ?_ _)); refine blk_put (cs := #[.int .i64 ((rdOf ByteArray.empty t120 0).size : Int), .int .i64 x125001_1, .slice none 0 0]) ?_ 2 _ rfl; (with_reducible repeat (first | refine blk_drewN ?_ _ | refine blk_drew ?_ | refine blk_alloc ?_ _)); refine blk_put (cs := #[.int .i64 ((rdOf ByteArray.empty t120 0).size : Int), .int .i64 x120001_1, .slice none 0 0]) ?_ 1 _ rfl; (with_reducible repeat (first | refine blk_drewN ?_ _ | refine blk_drew ?_ | refine blk_alloc ?_ _)); refine blk_put (cs := #[.int .i64 x120000_1, .int .i64 x120001_1, .slice none 0 0]) ?_ 0 _ rfl; (with_reducible repeat (first | refine blk_drewN ?_ _ | refine blk_drew ?_ | refine blk_alloc ?_ _)); exact BK119.out) Try.underlying27 rfl (by kernel_rfl)) rfl ?_
          exact ⟨_, by first | rfl | (simp [errW_none, errW_some] <;> rfl) | (simp [*, errW_none, errW_some] <;> rfl), by (with_reducible repeat (first | apply Kd.R_alloc | apply Kd.R_drewN | apply Kd.R_drew)); exact Kd.R_mono (Kd.R_far (p := ⟨gb119, 2, none⟩) (Kd.R_far (p := ⟨gb119, 1, none⟩) (Kd.R_far (p := ⟨gb119, 0, none⟩) (Kd.R_types HO_125002.out BK119.out (by decide)) (fun _ hk => hk.2) (.int .i64 ((rdOf ByteArray.empty t120 0).size : Int))) (fun _ hk => hk.2) (.int .i64 x125001_1)) (fun _ hk => hk.2) (.slice Ao19 x125002_1.length co19)) (fun _ hk => trivial), by repeat (first | (with_reducible first | exact HB.out | apply below_alloc | apply pw_below_drewN | apply below_drew1 | refine below_set ?_ GE119.out | refine below_set ?_ GE124.out) | exact HB.out)⟩
          }
          {
          replace c15 := Bool.eq_false_iff.mpr c15
          subst c15
          have H1 : (if x7_10 = true then (spec_ParseFloor.j2 kj10 t120 x6_1 true ((rdOf ByteArray.empty t120 0).size : Int) x125001_1 x125002_1) else (if x6_1 = 10 then (spec_ParseFloor.j2 kj10 t120 x6_1 true ((rdOf ByteArray.empty t120 0).size : Int) x125001_1 x125002_1) else (if 0 ≤ x6_1 then (if x6_1 < (t120.length : Int) then ((spec_l1In.f ((rdOf ByteArray.empty t120 x6_1).size : Int) 1 10).bind fun t127 => (if t127 = true then (spec_ParseFloor.j2 kj10 t120 x6_1 (((rdOf ByteArray.empty t120 x6_1).size : Int) != ((rdOf ByteArray.empty t120 0).size : Int)) ((rdOf ByteArray.empty t120 0).size : Int) x125001_1 x125002_1) else (spec_ParseFloor.j2 kj10 t120 x6_1 true ((rdOf ByteArray.empty t120 0).size : Int) x125001_1 x125002_1))) else (none)) else (none)))) = some (r1, r2, r3, r4) := by rw [if_neg (show ¬ (false = true) by decide)] at H; exact H
          clear H
          have H := H1
          clear H1
          have HC20 := Aside0.mk H
          clear H
          go_upto_region 8 with (fail)
          repeat (go_quiet (fail); go_upto_region 8 with (fail))
          go_cut [63] (fun v63 wc => ∃ (kq : Nat) (x63_19 : Bool), v63 = .bool x63_19 ∧ Aside0 (spec_ParseFloor.j2 kq t120 x6_1 x63_19 ((rdOf ByteArray.empty t120 0).size : Int) x125001_1 x125002_1 = some (r1, r2, r3, r4)) ∧ Aside0 (kq ≤ kj10) ∧ Aside0 (Kd.R Kd.string 9 wc w.heap.size (fun _ => True) (.slice (some ad123) t120.length co6) t120) ∧ Aside0 (Kd.R (Kd.int .i64) 3 wc w.heap.size (fun _ => True) u125002 x125002_1) ∧ Aside0 (wc.heap[gb119]? = some (.cells #[.int .i64 x120000_1, .int .i64 x120001_1, (.slice none 0 0)] 27 (0, 0))) ∧ Aside0 (wc.heap[gb124]? = some (.cells #[.int .i64 ((rdOf ByteArray.empty t120 0).size : Int), .int .i64 x125001_1, u125002] 27 (0, 0))) ∧ Aside0 (Below w.heap.size w wc))
          case first =>
            have H := HC20.out
            clear HC20
            by_cases c21 : x7_10 = true
            {
            subst c21
            have H1 : (spec_ParseFloor.j2 kj10 t120 x6_1 true ((rdOf ByteArray.empty t120 0).size : Int) x125001_1 x125002_1) = some (r1, r2, r3, r4) := by rw [if_pos rfl] at H; exact H
            clear H
            have H := H1
            clear H1
            have H' := Aside0.mk H
            clear H
            go_wp2
            repeat (go_quiet (fail); try go_wp2)
            go_meet
            case rel => exact ⟨_, (true), qz6, H', ⟨by have := HK1.out; have := HJ10.out; first | omega | exact Nat.le_refl _⟩, ⟨by (with_reducible repeat (first | apply Kd.R_alloc | apply Kd.R_drewN | apply Kd.R_drew)); exact HO_4.out⟩, ⟨by (with_reducible repeat (first | apply Kd.R_alloc | apply Kd.R_drewN | apply Kd.R_drew)); exact HO_125002.out⟩, ⟨by (with_reducible repeat (first | refine blk_drewN ?_ _ | refine blk_drew ?_ | refine blk_alloc ?_ _)); exact BK119.out⟩, ⟨by (with_reducible repeat (first | refine blk_drewN ?_ _ | refine blk_drew ?_ | refine blk_alloc ?_ _)); exact BK124.out⟩, ⟨by repeat (first | (with_reducible first | exact HB.out | apply below_alloc | apply pw_below_drewN | apply below_drew1 | refine below_set ?_ GE119.out | refine below_set ?_ GE124.out) | exact HB.out)⟩⟩
            }
            {
            replace c21 := Bool.eq_false_iff.mpr c21
            subst c21
            have H1 : (if x6_1 = 10 then (spec_ParseFloor.j2 kj10 t120 x6_1 true ((rdOf ByteArray.empty t120 0).size : Int) x125001_1 x125002_1) else (if 0 ≤ x6_1 then (if x6_1 < (t120.length : Int) then ((spec_l1In.f ((rdOf ByteArray.empty t120 x6_1).size : Int) 1 10).bind fun t127 => (if t127 = true then (spec_ParseFloor.j2 kj10 t120 x6_1 (((rdOf ByteArray.empty t120 x6_1).size : Int) != ((rdOf ByteArray.empty t120 0).size : Int)) ((rdOf ByteArray.empty t120 0).size : Int) x125001_1 x125002_1) else (spec_ParseFloor.j2 kj10 t120 x6_1 true ((rdOf ByteArray.empty t120 0).size : Int) x125001_1 x125002_1))) else (none)) else (none))) = some (r1, r2, r3, r4) := by rw [if_neg (show ¬ (false = true) by decide)] at H; exact H
            clear H
            have H := H1
            clear H1
            by_cases c22 : x6_1 = 10
            {
            rw [if_pos c22] at H
            have c22b0 : (x6_1 == 10) = true := beq_iff_eq.mpr c22
            have c22b1 : (x6_1 != 10) = false := bne_eq_false_iff_eq.mpr c22
            clear c22
            (first | rw [c22b0] | (simp only [i64_w, i32_w]; rw [c22b0]) | rw [@decide_eq_true _ _ (of_decide_eq_true c22b0)] | rw [@decide_eq_true _ _ (of_decide_eq_true c22b1)] | skip)
            have H' := Aside0.mk H
            clear H
            go_wp2
            repeat (go_quiet (fail); try go_wp2)
            go_meet
            case rel => exact ⟨_, (true), qz6, H', ⟨by have := HK1.out; have := HJ10.out; first | omega | exact Nat.le_refl _⟩, ⟨by (with_reducible repeat (first | apply Kd.R_alloc | apply Kd.R_drewN | apply Kd.R_drew)); exact HO_4.out⟩, ⟨by (with_reducible repeat (first | apply Kd.R_alloc | apply Kd.R_drewN | apply Kd.R_drew)); exact HO_125002.out⟩, ⟨by (with_reducible repeat (first | refine blk_drewN ?_ _ | refine blk_drew ?_ | refine blk_alloc ?_ _)); exact BK119.out⟩, ⟨by (with_reducible repeat (first | refine blk_drewN ?_ _ | refine blk_drew ?_ | refine blk_alloc ?_ _)); exact BK124.out⟩, ⟨by repeat (first | (with_reducible first | exact HB.out | apply below_alloc | apply pw_below_drewN | apply below_drew1 | refine below_set ?_ GE119.out | refine below_set ?_ GE124.out) | exact HB.out)⟩⟩
            }
            {
            rw [if_neg c22] at H
            have c22b0 : (x6_1 == 10) = false := beq_eq_false_iff_ne.mpr c22
            have c22b1 : (x6_1 != 10) = true := bne_iff_ne.mpr c22
            (first | rw [c22b0] | (simp only [i64_w, i32_w]; rw [c22b0]) | rw [@decide_eq_false _ _ (of_decide_eq_false c22b0)] | rw [@decide_eq_false _ _ (of_decide_eq_false c22b1)] | skip)
            by_cases c23 : 0 ≤ x6_1
            {
            rw [if_pos c23] at H
            have c23b0 : decide (0 ≤ x6_1) = true := decide_eq_true c23
            clear c23
            by_cases c24 : x6_1 < (t120.length : Int)
            {
            rw [if_pos c24] at H
            have c24b0 : decide (x6_1 < (t120.length : Int)) = true := decide_eq_true c24
            clear c24
            replace H := Option.bind_eq_some_iff.mp H
            obtain ⟨t127, A250, H⟩ := H
            replace H : (if t127 = true then (spec_ParseFloor.j2 kj10 t120 x6_1 (((rdOf ByteArray.empty t120 x6_1).size : Int) != ((rdOf ByteArray.empty t120 0).size : Int)) ((rdOf ByteArray.empty t120 0).size : Int) x125001_1 x125002_1) else (spec_ParseFloor.j2 kj10 t120 x6_1 true ((rdOf ByteArray.empty t120 0).size : Int) x125001_1 x125002_1)) = some (r1, r2, r3, r4) := H
            have A25 := Aside0.mk A250
            clear A250
            by_cases c26 : t127 = true
            {
            subst c26
            have H1 : (spec_ParseFloor.j2 kj10 t120 x6_1 (((rdOf ByteArray.empty t120 x6_1).size : Int) != ((rdOf ByteArray.empty t120 0).size : Int)) ((rdOf ByteArray.empty t120 0).size : Int) x125001_1 x125002_1) = some (r1, r2, r3, r4) := by rw [if_pos rfl] at H; exact H
            clear H
            have H := H1
            clear H1
            have H' := Aside0.mk H
            clear H
            have p126 : 0 ≤ (x6_1 : Int) := of_decide_eq_true qz4
            have q126 : x6_1 < (t120.length : Int) := of_decide_eq_true qz4
            obtain ⟨ad126, e126, hx126_0⟩ := Kd.at_string (Kd.R_reads' HO_4.out).2.2 x6_1 p126 q126
            obtain rfl : ad123 = ad126 := (by injection e126)
            replace p126 := eq_true p126
            replace q126 := eq_true q126
            go_wp2_with (first | (go_at_call 84; (with_reducible refine (spec_l1In.calls ((rdOf ByteArray.empty t120 x6_1).size : Int) 1 10 true _ A25.out).mono ?_); rintro e w' ⟨rfl, ⟨nd, rfl⟩⟩; (try first | exact ⟨rfl, _, World.drewN_drewN _ _ _⟩ | exact ⟨rfl, _, Eq.trans (World.drewN_drewN _ _ _) (congrArg (World.drewN _) (Nat.add_assoc _ _ _))⟩); have p128 : 0 ≤ (x6_1 : Int) := of_decide_eq_true qz4; have q128 : x6_1 < (t120.length : Int) := of_decide_eq_true qz4; obtain ⟨ad128, e128, hx128_0⟩ := Kd.at_string (Kd.R_reads' HO_4.out).2.2 x6_1 p128 q128; obtain rfl : ad123 = ad128 := (by injection e128); replace p128 := eq_true p128; replace q128 := eq_true q128; have hnb27 := NB124_119.out; have hnc27 := NB119_124.out; have hcz28_0 : wc.cell? ⟨gb124, 0, none⟩ = some (.int .i64 ((rdOf ByteArray.empty t120 0).size : Int)) := (blk_cell BK124.out 0).trans rfl; have hcz28_1 : wc.cell? ⟨gb124, 1, none⟩ = some (.int .i64 x125001_1) := (blk_cell BK124.out 1).trans rfl; have hcz28_2 : wc.cell? ⟨gb124, 2, none⟩ = some (u125002) := (blk_cell BK124.out 2).trans rfl; have hfz28_0 := blk_frozen BK124.out 0; have hfz28_1 := blk_frozen BK124.out 1; have hfz28_2 := blk_frozen BK124.out 2))
            repeat (go_quiet (first | (go_at_call 84; (with_reducible refine (spec_l1In.calls ((rdOf ByteArray.empty t120 x6_1).size : Int) 1 10 true _ A25.out).mono ?_); rintro e w' ⟨rfl, ⟨nd, rfl⟩⟩; (try first | exact ⟨rfl, _, World.drewN_drewN _ _ _⟩ | exact ⟨rfl, _, Eq.trans (World.drewN_drewN _ _ _) (congrArg (World.drewN _) (Nat.add_assoc _ _ _))⟩); have p128 : 0 ≤ (x6_1 : Int) := of_decide_eq_true qz4; have q128 : x6_1 < (t120.length : Int) := of_decide_eq_true qz4; obtain ⟨ad128, e128, hx128_0⟩ := Kd.at_string (Kd.R_reads' HO_4.out).2.2 x6_1 p128 q128; obtain rfl : ad123 = ad128 := (by injection e128); replace p128 := eq_true p128; replace q128 := eq_true q128; have hnb27 := NB124_119.out; have hnc27 := NB119_124.out; have hcz28_0 : wc.cell? ⟨gb124, 0, none⟩ = some (.int .i64 ((rdOf ByteArray.empty t120 0).size : Int)) := (blk_cell BK124.out 0).trans rfl; have hcz28_1 : wc.cell? ⟨gb124, 1, none⟩ = some (.int .i64 x125001_1) := (blk_cell BK124.out 1).trans rfl; have hcz28_2 : wc.cell? ⟨gb124, 2, none⟩ = some (u125002) := (blk_cell BK124.out 2).trans rfl; have hfz28_0 := blk_frozen BK124.out 0; have hfz28_1 := blk_frozen BK124.out 1; have hfz28_2 := blk_frozen BK124.out 2)); try go_wp2_with (first | (go_at_call 84; (with_reducible refine (spec_l1In.calls ((rdOf ByteArray.empty t120 x6_1).size : Int) 1 10 true _ A25.out).mono ?_); rintro e w' ⟨rfl, ⟨nd, rfl⟩⟩; (try first | exact ⟨rfl, _, World.drewN_drewN _ _ _⟩ | exact ⟨rfl, _, Eq.trans (World.drewN_drewN _ _ _) (congrArg (World.drewN _) (Nat.add_assoc _ _ _))⟩); have p128 : 0 ≤ (x6_1 : Int) := of_decide_eq_true qz4; have q128 : x6_1 < (t120.length : Int) := of_decide_eq_true qz4; obtain ⟨ad128, e128, hx128_0⟩ := Kd.at_string (Kd.R_reads' HO_4.out).2.2 x6_1 p128 q128; obtain rfl : ad123 = ad128 := (by injection e128); replace p128 := eq_true p128; replace q128 := eq_true q128; have hnb27 := NB124_119.out; have hnc27 := NB119_124.out; have hcz28_0 : wc.cell? ⟨gb124, 0, none⟩ = some (.int .i64 ((rdOf ByteArray.empty t120 0).size : Int)) := (blk_cell BK124.out 0).trans rfl; have hcz28_1 : wc.cell? ⟨gb124, 1, none⟩ = some (.int .i64 x125001_1) := (blk_cell BK124.out 1).trans rfl; have hcz28_2 : wc.cell? ⟨gb124, 2, none⟩ = some (u125002) := (blk_cell BK124.out 2).trans rfl; have hfz28_0 := blk_frozen BK124.out 0; have hfz28_1 := blk_frozen BK124.out 1; have hfz28_2 := blk_frozen BK124.out 2)))
            go_meet
            case rel => exact ⟨_, ((((rdOf ByteArray.empty t120 x6_1).size : Int) != ((rdOf ByteArray.empty t120 0).size : Int))), qz6, H', ⟨by have := HK1.out; have := HJ10.out; first | omega | exact Nat.le_refl _⟩, ⟨by (with_reducible repeat (first | apply Kd.R_alloc | apply Kd.R_drewN | apply Kd.R_drew)); exact HO_4.out⟩, ⟨by (with_reducible repeat (first | apply Kd.R_alloc | apply Kd.R_drewN | apply Kd.R_drew)); exact HO_125002.out⟩, ⟨by (with_reducible repeat (first | refine blk_drewN ?_ _ | refine blk_drew ?_ | refine blk_alloc ?_ _)); exact BK119.out⟩, ⟨by (with_reducible repeat (first | refine blk_drewN ?_ _ | refine blk_drew ?_ | refine blk_alloc ?_ _)); exact BK124.out⟩, ⟨by repeat (first | (with_reducible first | exact HB.out | apply below_alloc | apply pw_below_drewN | apply below_drew1 | refine below_set ?_ GE119.out | refine below_set ?_ GE124.out) | exact HB.out)⟩⟩
            }
            {
            replace c26 := Bool.eq_false_iff.mpr c26
            subst c26
            have H1 : (spec_ParseFloor.j2 kj10 t120 x6_1 true ((rdOf ByteArray.empty t120 0).size : Int) x125001_1 x125002_1) = some (r1, r2, r3, r4) := by rw [if_neg (show ¬ (false = true) by decide)] at H; exact H
            clear H
            have H := H1
            clear H1
            have H' := Aside0.mk H
            clear H
            have p126 : 0 ≤ (x6_1 : Int) := of_decide_eq_true qz4
            have q126 : x6_1 < (t120.length : Int) := of_decide_eq_true qz4
            obtain ⟨ad126, e126, hx126_0⟩ := Kd.at_string (Kd.R_reads' HO_4.out).2.2 x6_1 p126 q126
            obtain rfl : ad123 = ad126 := (by injection e126)
            replace p126 := eq_true p126
            replace q126 := eq_true q126
            go_wp2_with (first | (go_at_call 84; (with_reducible refine (spec_l1In.calls ((rdOf ByteArray.empty t120 x6_1).size : Int) 1 10 false _ A25.out).mono ?_); rintro e w' ⟨rfl, ⟨nd, rfl⟩⟩; (try first | exact ⟨rfl, _, World.drewN_drewN _ _ _⟩ | exact ⟨rfl, _, Eq.trans (World.drewN_drewN _ _ _) (congrArg (World.drewN _) (Nat.add_assoc _ _ _))⟩)))
            repeat (go_quiet (first | (go_at_call 84; (with_reducible refine (spec_l1In.calls ((rdOf ByteArray.empty t120 x6_1).size : Int) 1 10 false _ A25.out).mono ?_); rintro e w' ⟨rfl, ⟨nd, rfl⟩⟩; (try first | exact ⟨rfl, _, World.drewN_drewN _ _ _⟩ | exact ⟨rfl, _, Eq.trans (World.drewN_drewN _ _ _) (congrArg (World.drewN _) (Nat.add_assoc _ _ _))⟩))); try go_wp2_with (first | (go_at_call 84; (with_reducible refine (spec_l1In.calls ((rdOf ByteArray.empty t120 x6_1).size : Int) 1 10 false _ A25.out).mono ?_); rintro e w' ⟨rfl, ⟨nd, rfl⟩⟩; (try first | exact ⟨rfl, _, World.drewN_drewN _ _ _⟩ | exact ⟨rfl, _, Eq.trans (World.drewN_drewN _ _ _) (congrArg (World.drewN _) (Nat.add_assoc _ _ _))⟩))))
            go_meet
            case rel => exact ⟨_, (true), qz6, H', ⟨by have := HK1.out; have := HJ10.out; first | omega | exact Nat.le_refl _⟩, ⟨by (with_reducible repeat (first | apply Kd.R_alloc | apply Kd.R_drewN | apply Kd.R_drew)); exact HO_4.out⟩, ⟨by (with_reducible repeat (first | apply Kd.R_alloc | apply Kd.R_drewN | apply Kd.R_drew)); exact HO_125002.out⟩, ⟨by (with_reducible repeat (first | refine blk_drewN ?_ _ | refine blk_drew ?_ | refine blk_alloc ?_ _)); exact BK119.out⟩, ⟨by (with_reducible repeat (first | refine blk_drewN ?_ _ | refine blk_drew ?_ | refine blk_alloc ?_ _)); exact BK124.out⟩, ⟨by repeat (first | (with_reducible first | exact HB.out | apply below_alloc | apply pw_below_drewN | apply below_drew1 | refine below_set ?_ GE119.out | refine below_set ?_ GE124.out) | exact HB.out)⟩⟩
            }
            }
            {
            rw [if_neg c24] at H
            exact absurd H (by simp)
            }
            }
            {
            rw [if_neg c23] at H
            exact absurd H (by simp)
            }
            }
            }
          case rest =>
            clear HC20
            try clear c1
            try clear p1
            try clear q1
            try clear hx1
            try clear qi1
            try clear c2
            try clear p2
            try clear c3
            try clear c3b0
            try clear c3b1
            try clear c4
            try clear p6
            try clear c8
            try clear c10
            try clear c10b0
            try clear c12
            try clear c12b0
            try clear c12b1
            try clear p12
            try clear q12
            try clear hx12
            try clear qi12
            try clear c13
            try clear c13b0
            try clear c14
            try clear c14b0
            try clear c14b1
            try clear c15
            try clear c16
            try clear c21
            try clear c22
            try clear c22b0
            try clear c22b1
            try clear c23
            try clear c23b0
            try clear c24
            try clear c24b0
            try clear c26
            try clear c27
            try clear hcz17_0
            try clear hcz17_1
            try clear hcz17_2
            try clear hcz18_0
            try clear hcz18_1
            try clear hcz18_2
            try clear hcz28_0
            try clear hcz28_1
            try clear hcz28_2
            try clear hcz9_0
            try clear hcz9_1
            try clear hcz9_2
            try clear hfz17_0
            try clear hfz17_1
            try clear hfz17_2
            try clear hfz18_0
            try clear hfz18_1
            try clear hfz18_2
            try clear hfz28_0
            try clear hfz28_1
            try clear hfz28_2
            try clear hfz9_0
            try clear hfz9_1
            try clear hfz9_2
            try clear hx123_0
            try clear hx125_0
            try clear hx126_0
            try clear hx128_0
            try clear p1
            try clear p12
            try clear p123
            try clear p125
            try clear p126
            try clear p128
            try clear p2
            try clear p6
            try clear q1
            try clear q12
            try clear q123
            try clear q125
            try clear q126
            try clear q128
            obtain ⟨kq, x63_19, rfl, HA, HJ19, HO_4, HO_125002, BK119, BK124, HB⟩ := hcut
            cases kq with
            | zero => exact absurd HA.out (by simp [spec_ParseFloor.j2])
            | succ kj19 =>
              have H := HA.out
              clear HA
              simp only [spec_ParseFloor.j2] at H
              by_cases c29 : x63_19 = true
              {
              subst c29
              have H1 : (some (0, 0, ([] : List Int), x6_1)) = some (r1, r2, r3, r4) := by rw [if_pos rfl] at H; exact H
              clear H
              have H := H1
              clear H1
              simp only [Option.some.injEq, Prod.mk.injEq] at H
              obtain ⟨rfl, rfl, rfl, rfl⟩ := H
              have hnb30 := NB119_124.out
              have hnc30 := NB124_119.out
              have hcz31_0 : wc.cell? ⟨gb119, 0, none⟩ = some (.int .i64 x120000_1) := (blk_cell BK119.out 0).trans rfl
              have hcz31_1 : wc.cell? ⟨gb119, 1, none⟩ = some (.int .i64 x120001_1) := (blk_cell BK119.out 1).trans rfl
              have hcz31_2 : wc.cell? ⟨gb119, 2, none⟩ = some (.slice none 0 0) := (blk_cell BK119.out 2).trans rfl
              have hfz31_0 := blk_frozen BK119.out 0
              have hfz31_1 := blk_frozen BK119.out 1
              have hfz31_2 := blk_frozen BK119.out 2
              go_wp2
              repeat (go_quiet (fail); try go_wp2)
              refine bodyPost_ret (results_ct rfl _ _ gb119 27 #[.int .i64 0, .int .i64 0, .slice none 0 0] (0, 0) _ rfl (by (with_reducible repeat (first | refine blk_drewN ?_ _ | refine blk_drew ?_ | refine blk_alloc ?_ _)); refine blk_put (cs := #[.int .i64 0, .int .i64 0, .slice none 0 0]) ?_ 2 _ rfl; (with_reducible repeat (first | refine blk_drewN ?_ _ | refine blk_drew ?_ | refine blk_alloc ?_ _)); refine blk_put (cs := #[.int .i64 0, .int .i64 x120001_1, .slice none 0 0]) ?_ 1 _ rfl; (with_reducible repeat (first | refine blk_drewN ?_ _ | refine blk_drew ?_ | refine blk_alloc ?_ _)); refine blk_put (cs := #[.int .i64 x120000_1, .int .i64 x120001_1, .slice none 0 0]) ?_ 0 _ rfl; (with_reducible repeat (first | refine blk_drewN ?_ _ | refine blk_drew ?_ | refine blk_alloc ?_ _)); exact BK119.out) Try.underlying27 rfl (by kernel_rfl)) rfl ?_
              exact ⟨_, by first | rfl | (simp [errW_none, errW_some] <;> rfl) | (simp [*, errW_none, errW_some] <;> rfl), by first | exact Kd.R_nil _ _ _ _ _ | exact Kd.N_nil _ _ _ _ _ | exact Kd.V_nil _ _ _ _ _ | exact Kd.Q_nil _ _ _ _ _ | exact Kd.S_nil _ _ _ _ _, by repeat (first | (with_reducible first | exact HB.out | apply below_alloc | apply pw_below_drewN | apply below_drew1 | refine below_set ?_ GE119.out | refine below_set ?_ GE124.out) | exact HB.out)⟩
              }
              {
              replace c29 := Bool.eq_false_iff.mpr c29
              subst c29
              have H1 : (spec_ParseFloor.l1 kj19 t120 x6_1 0 ((rdOf ByteArray.empty t120 0).size : Int) x125001_1 x125002_1) = some (r1, r2, r3, r4) := by rw [if_neg (show ¬ (false = true) by decide)] at H; exact H
              clear H
              have H := H1
              clear H1
              have H' := Aside0.mk H
              clear H
              go_wp2
              repeat (go_quiet (fail); try go_wp2)
              go_loopg [8] kj19 (fun kq v8 w' => ∃ (x8_4 : Int) (x120000_4 : Int) (x120001_4 : Int) (x125002_4 : List Int) (u125002 : Value), v8 = .int .i64 x8_4 ∧ Aside0 (spec_ParseFloor.l1 kq t120 x6_1 x8_4 ((rdOf ByteArray.empty t120 0).size : Int) x125001_1 x125002_4 = some (r1, r2, r3, r4)) ∧ Aside0 (kq ≤ kj19) ∧ Aside0 (Kd.R Kd.string 9 w' w.heap.size (fun _ => True) (.slice (some ad123) t120.length co6) t120) ∧ Aside0 (Kd.R (Kd.int .i64) 3 w' w.heap.size (fun _ => True) u125002 x125002_4) ∧ Aside0 (w'.heap[gb119]? = some (.cells #[.int .i64 x120000_4, .int .i64 x120001_4, (.slice none 0 0)] 27 (0, 0))) ∧ Aside0 (w'.heap[gb124]? = some (.cells #[.int .i64 ((rdOf ByteArray.empty t120 0).size : Int), .int .i64 x125001_1, u125002] 27 (0, 0))) ∧ Aside0 (Below w.heap.size w w'))
              case atStart => exact ⟨(0), (x120000_1), (x120001_1), (x125002_1), (u125002), qz6, H', ⟨Nat.le_refl _⟩, ⟨by (with_reducible repeat (first | apply Kd.R_alloc | apply Kd.R_drewN | apply Kd.R_drew)); exact HO_4.out⟩, ⟨by (with_reducible repeat (first | apply Kd.R_alloc | apply Kd.R_drewN | apply Kd.R_drew)); exact HO_125002.out⟩, ⟨by (with_reducible repeat (first | refine blk_drewN ?_ _ | refine blk_drew ?_ | refine blk_alloc ?_ _)); exact BK119.out⟩, ⟨by (with_reducible repeat (first | refine blk_drewN ?_ _ | refine blk_drew ?_ | refine blk_alloc ?_ _)); exact BK124.out⟩, ⟨by repeat (first | (with_reducible first | exact HB.out | apply below_alloc | apply pw_below_drewN | apply below_drew1 | refine below_set ?_ GE119.out | refine below_set ?_ GE124.out) | exact HB.out)⟩⟩
              case round =>
                clear H'
                try clear c1
                try clear p1
                try clear q1
                try clear hx1
                try clear qi1
                try clear c2
                try clear p2
                try clear c3
                try clear c3b0
                try clear c3b1
                try clear c4
                try clear p6
                try clear c8
                try clear c10
                try clear c10b0
                try clear c12
                try clear c12b0
                try clear c12b1
                try clear p12
                try clear q12
                try clear hx12
                try clear qi12
                try clear c13
                try clear c13b0
                try clear c14
                try clear c14b0
                try clear c14b1
                try clear c15
                try clear c16
                try clear c21
                try clear c22
                try clear c22b0
                try clear c22b1
                try clear c23
                try clear c23b0
                try clear c24
                try clear c24b0
                try clear c26
                try clear c27
                try clear c29
                try clear c30
                try clear hcz17_0
                try clear hcz17_1
                try clear hcz17_2
                try clear hcz18_0
                try clear hcz18_1
                try clear hcz18_2
                try clear hcz28_0
                try clear hcz28_1
                try clear hcz28_2
                try clear hcz31_0
                try clear hcz31_1
                try clear hcz31_2
                try clear hcz9_0
                try clear hcz9_1
                try clear hcz9_2
                try clear hfz17_0
                try clear hfz17_1
                try clear hfz17_2
                try clear hfz18_0
                try clear hfz18_1
                try clear hfz18_2
                try clear hfz28_0
                try clear hfz28_1
                try clear hfz28_2
                try clear hfz31_0
                try clear hfz31_1
                try clear hfz31_2
                try clear hfz9_0
                try clear hfz9_1
                try clear hfz9_2
                try clear hx123_0
                try clear hx125_0
                try clear hx126_0
                try clear hx128_0
                try clear p1
                try clear p12
                try clear p123
                try clear p125
                try clear p126
                try clear p128
                try clear p2
                try clear p6
                try clear q1
                try clear q12
                try clear q123
                try clear q125
                try clear q126
                try clear q128
                obtain ⟨x8_4, x120000_4, x120001_4, x125002_4, u125002, rfl, HA, HK4, HO_4, HO_125002, BK119, BK124, HB⟩ := hrel
                cases gk with
                | zero => exact absurd HA.out (by simp [spec_ParseFloor.l1])
                | succ k4 =>
                  have H := HA.out
                  clear HA
                  simp only [spec_ParseFloor.l1] at H
                  by_cases c32 : 0 ≤ x6_1
                  {
                  rw [if_pos c32] at H
                  have c32b0 : decide (0 ≤ x6_1) = true := decide_eq_true c32
                  clear c32
                  by_cases c33 : x6_1 < (t120.length : Int)
                  {
                  rw [if_pos c33] at H
                  have c33b0 : decide (x6_1 < (t120.length : Int)) = true := decide_eq_true c33
                  clear c33
                  by_cases c34 : x8_4 < ((rdOf ByteArray.empty t120 x6_1).size : Int)
                  {
                  rw [if_pos c34] at H
                  have c34b0 : decide (x8_4 < ((rdOf ByteArray.empty t120 x6_1).size : Int)) = true := decide_eq_true c34
                  clear c34
                  by_cases c35 : 0 ≤ x8_4
                  {
                  rw [if_pos c35] at H
                  have c35b0 : decide (0 ≤ x8_4) = true := decide_eq_true c35
                  clear c35
                  replace H := Option.bind_eq_some_iff.mp H
                  obtain ⟨t131, A370, H⟩ := H
                  replace H : (if t131 < 0 then (some (0, 0, ([] : List Int), x6_1)) else (if x125002_4.length < 17592186044416 then (spec_ParseFloor.l1 k4 t120 x6_1 (wrap64 (x8_4 + 1)) ((rdOf ByteArray.empty t120 0).size : Int) x125001_1 (x125002_4 ++ [t131])) else (none))) = some (r1, r2, r3, r4) := H
                  have A37 := Aside0.mk A370
                  clear A370
                  by_cases c38 : t131 < 0
                  {
                  rw [if_pos c38] at H
                  have c38b0 : decide (t131 < 0) = true := decide_eq_true c38
                  clear c38
                  simp only [Option.some.injEq, Prod.mk.injEq] at H
                  obtain ⟨rfl, rfl, rfl, rfl⟩ := H
                  have p129 : 0 ≤ (x6_1 : Int) := of_decide_eq_true qz4
                  have q129 : x6_1 < (t120.length : Int) := of_decide_eq_true qz4
                  obtain ⟨ad129, e129, hx129_0⟩ := Kd.at_string (Kd.R_reads' HO_4.out).2.2 x6_1 p129 q129
                  obtain rfl : ad123 = ad129 := (by injection e129)
                  replace p129 := eq_true p129
                  replace q129 := eq_true q129
                  have p130 : 0 ≤ (x6_1 : Int) := of_decide_eq_true qz4
                  have q130 : x6_1 < (t120.length : Int) := of_decide_eq_true qz4
                  obtain ⟨ad130, e130, hx130_0⟩ := Kd.at_string (Kd.R_reads' HO_4.out).2.2 x6_1 p130 q130
                  obtain rfl : ad123 = ad130 := (by injection e130)
                  replace p130 := eq_true p130
                  replace q130 := eq_true q130
                  have p36 : 0 ≤ (x8_4 : Int) := of_decide_eq_true qz4
                  have q36 : x8_4 < ((rdOf ByteArray.empty t120 x6_1).size : Int) := of_decide_eq_true qz4
                  have hx36 := bt_at (rdOf ByteArray.empty t120 x6_1) x8_4
                  replace p36 := eq_true p36
                  replace q36 := eq_true q36
                  go_wp2_with (first | (go_at_call 85; (with_reducible refine (spec_l1Mark.calls k4 (bt (rdOf ByteArray.empty t120 x6_1) x8_4) t131 _ A37.out).mono ?_); rintro e w' ⟨rfl, ⟨nd, rfl⟩⟩; (try first | exact ⟨rfl, _, World.drewN_drewN _ _ _⟩ | exact ⟨rfl, _, Eq.trans (World.drewN_drewN _ _ _) (congrArg (World.drewN _) (Nat.add_assoc _ _ _))⟩); have hnb39 := NB119_124.out; have hnc39 := NB124_119.out; have hcz40_0 : wr.cell? ⟨gb119, 0, none⟩ = some (.int .i64 x120000_4) := (blk_cell BK119.out 0).trans rfl; have hcz40_1 : wr.cell? ⟨gb119, 1, none⟩ = some (.int .i64 x120001_4) := (blk_cell BK119.out 1).trans rfl; have hcz40_2 : wr.cell? ⟨gb119, 2, none⟩ = some (.slice none 0 0) := (blk_cell BK119.out 2).trans rfl; have hfz40_0 := blk_frozen BK119.out 0; have hfz40_1 := blk_frozen BK119.out 1; have hfz40_2 := blk_frozen BK119.out 2))
                  repeat (go_quiet (first | (go_at_call 85; (with_reducible refine (spec_l1Mark.calls k4 (bt (rdOf ByteArray.empty t120 x6_1) x8_4) t131 _ A37.out).mono ?_); rintro e w' ⟨rfl, ⟨nd, rfl⟩⟩; (try first | exact ⟨rfl, _, World.drewN_drewN _ _ _⟩ | exact ⟨rfl, _, Eq.trans (World.drewN_drewN _ _ _) (congrArg (World.drewN _) (Nat.add_assoc _ _ _))⟩); have hnb39 := NB119_124.out; have hnc39 := NB124_119.out; have hcz40_0 : wr.cell? ⟨gb119, 0, none⟩ = some (.int .i64 x120000_4) := (blk_cell BK119.out 0).trans rfl; have hcz40_1 : wr.cell? ⟨gb119, 1, none⟩ = some (.int .i64 x120001_4) := (blk_cell BK119.out 1).trans rfl; have hcz40_2 : wr.cell? ⟨gb119, 2, none⟩ = some (.slice none 0 0) := (blk_cell BK119.out 2).trans rfl; have hfz40_0 := blk_frozen BK119.out 0; have hfz40_1 := blk_frozen BK119.out 1; have hfz40_2 := blk_frozen BK119.out 2)); try go_wp2_with (first | (go_at_call 85; (with_reducible refine (spec_l1Mark.calls k4 (bt (rdOf ByteArray.empty t120 x6_1) x8_4) t131 _ A37.out).mono ?_); rintro e w' ⟨rfl, ⟨nd, rfl⟩⟩; (try first | exact ⟨rfl, _, World.drewN_drewN _ _ _⟩ | exact ⟨rfl, _, Eq.trans (World.drewN_drewN _ _ _) (congrArg (World.drewN _) (Nat.add_assoc _ _ _))⟩); have hnb39 := NB119_124.out; have hnc39 := NB124_119.out; have hcz40_0 : wr.cell? ⟨gb119, 0, none⟩ = some (.int .i64 x120000_4) := (blk_cell BK119.out 0).trans rfl; have hcz40_1 : wr.cell? ⟨gb119, 1, none⟩ = some (.int .i64 x120001_4) := (blk_cell BK119.out 1).trans rfl; have hcz40_2 : wr.cell? ⟨gb119, 2, none⟩ = some (.slice none 0 0) := (blk_cell BK119.out 2).trans rfl; have hfz40_0 := blk_frozen BK119.out 0; have hfz40_1 := blk_frozen BK119.out 1; have hfz40_2 := blk_frozen BK119.out 2)))
                  refine bodyPost_ret (results_ct rfl _ _ gb119 27 #[.int .i64 0, .int .i64 0, .slice none 0 0] (0, 0) _ rfl (by (with_reducible repeat (first | refine blk_drewN ?_ _ | refine blk_drew ?_ | refine blk_alloc ?_ _)); refine blk_put (cs := #[.int .i64 0, .int .i64 0, .slice none 0 0]) ?_ 2 _ rfl; (with_reducible repeat (first | refine blk_drewN ?_ _ | refine blk_drew ?_ | refine blk_alloc ?_ _)); refine blk_put (cs := #[.int .i64 0, .int .i64 x120001_4, .slice none 0 0]) ?_ 1 _ rfl; (with_reducible repeat (first | refine blk_drewN ?_ _ | refine blk_drew ?_ | refine blk_alloc ?_ _)); refine blk_put (cs := #[.int .i64 x120000_4, .int .i64 x120001_4, .slice none 0 0]) ?_ 0 _ rfl; (with_reducible repeat (first | refine blk_drewN ?_ _ | refine blk_drew ?_ | refine blk_alloc ?_ _)); exact BK119.out) Try.underlying27 rfl (by kernel_rfl)) rfl ?_
                  exact ⟨_, by first | rfl | (simp [errW_none, errW_some] <;> rfl) | (simp [*, errW_none, errW_some] <;> rfl), by first | exact Kd.R_nil _ _ _ _ _ | exact Kd.N_nil _ _ _ _ _ | exact Kd.V_nil _ _ _ _ _ | exact Kd.Q_nil _ _ _ _ _ | exact Kd.S_nil _ _ _ _ _, by repeat (first | (with_reducible first | exact HB.out | apply below_alloc | apply pw_below_drewN | apply below_drew1 | refine below_set ?_ GE119.out | refine below_set ?_ GE124.out) | exact HB.out)⟩
                  }
                  {
                  rw [if_neg c38] at H
                  have c38b0 : decide (t131 < 0) = false := decide_eq_false c38
                  clear c38
                  by_cases c41 : x125002_4.length < 17592186044416
                  {
                  rw [if_pos c41] at H
                  have LMc41 := Aside0.mk c41
                  clear c41
                  obtain ⟨y132, hy132⟩ : ∃ y_ : List Int, y_ = (x125002_4 ++ [t131]) := ⟨_, rfl⟩
                  replace H : (spec_ParseFloor.l1 k4 t120 x6_1 (wrap64 (x8_4 + 1)) ((rdOf ByteArray.empty t120 0).size : Int) x125001_1 y132) = some (r1, r2, r3, r4) := by first | (rw [hy132]; with_reducible exact H) | (have H2_ := (Option.bind_some _ _).symm.trans H; rw [hy132]; with_reducible exact H2_) | (have H2_ := (Option.bind_some _ _).symm.trans H; with_reducible exact H2_) | with_reducible exact H | (rw [hy132]; exact H) | exact H
                  have Ny132 := Aside0.mk hy132
                  clear hy132
                  have H' := Aside0.mk H
                  clear H
                  have p129 : 0 ≤ (x6_1 : Int) := of_decide_eq_true qz4
                  have q129 : x6_1 < (t120.length : Int) := of_decide_eq_true qz4
                  obtain ⟨ad129, e129, hx129_0⟩ := Kd.at_string (Kd.R_reads' HO_4.out).2.2 x6_1 p129 q129
                  obtain rfl : ad123 = ad129 := (by injection e129)
                  replace p129 := eq_true p129
                  replace q129 := eq_true q129
                  have p130 : 0 ≤ (x6_1 : Int) := of_decide_eq_true qz4
                  have q130 : x6_1 < (t120.length : Int) := of_decide_eq_true qz4
                  obtain ⟨ad130, e130, hx130_0⟩ := Kd.at_string (Kd.R_reads' HO_4.out).2.2 x6_1 p130 q130
                  obtain rfl : ad123 = ad130 := (by injection e130)
                  replace p130 := eq_true p130
                  replace q130 := eq_true q130
                  have p36 : 0 ≤ (x8_4 : Int) := of_decide_eq_true qz4
                  have q36 : x8_4 < ((rdOf ByteArray.empty t120 x6_1).size : Int) := of_decide_eq_true qz4
                  have hx36 := bt_at (rdOf ByteArray.empty t120 x6_1) x8_4
                  replace p36 := eq_true p36
                  replace q36 := eq_true q36
                  go_wp2_with (first | (go_at_call 85; (with_reducible refine (spec_l1Mark.calls k4 (bt (rdOf ByteArray.empty t120 x6_1) x8_4) t131 _ A37.out).mono ?_); rintro e w' ⟨rfl, ⟨nd, rfl⟩⟩; (try first | exact ⟨rfl, _, World.drewN_drewN _ _ _⟩ | exact ⟨rfl, _, Eq.trans (World.drewN_drewN _ _ _) (congrArg (World.drewN _) (Nat.add_assoc _ _ _))⟩); have hnb42 := NB124_119.out; have hnc42 := NB119_124.out; have hcz43_0 : wr.cell? ⟨gb124, 0, none⟩ = some (.int .i64 ((rdOf ByteArray.empty t120 0).size : Int)) := (blk_cell BK124.out 0).trans rfl; have hcz43_1 : wr.cell? ⟨gb124, 1, none⟩ = some (.int .i64 x125001_1) := (blk_cell BK124.out 1).trans rfl; have hcz43_2 : wr.cell? ⟨gb124, 2, none⟩ = some (u125002) := (blk_cell BK124.out 2).trans rfl; have hfz43_0 := blk_frozen BK124.out 0; have hfz43_1 := blk_frozen BK124.out 1; have hfz43_2 := blk_frozen BK124.out 2) | ((with_reducible refine gate_builtin (b := .append) (xs := #[.tmp 87, .tmp 89]) rfl ?_); (try (refine gate_guard (by rfl) ?_; dsimp only)); at_builtin; refine Kd.R_append (Kd.int .i64) (w0 := w) w.heap.size rfl (.tmp 87) (.tmp 89) 22 3 (.int .i64 0) 8 rfl Try.underlying22 info3 rfl (by decide) (by omega) u125002 x125002_4 t131 [.int .i64 t131] (fun _ => True) (fun _ => False) rfl rfl ?aP (fun _ hk => hk.elim) ?aF ?aO ?aB ?aS ?aL ?_; (case aP => exact rfl); (case aB => exact (by repeat (first | (with_reducible first | exact HB.out | apply below_alloc | apply pw_below_drewN | apply below_drew1 | refine below_set ?_ GE119.out | refine below_set ?_ GE124.out) | exact HB.out))); (case aF => exact (fun _ _ => trivial)); (case aO => exact (by (with_reducible repeat (first | apply Kd.R_alloc | apply Kd.R_drewN | apply Kd.R_drew)); exact HO_125002.out)); (case aS => exact (below_size (by repeat (first | (with_reducible first | exact HB.out | apply below_alloc | apply pw_below_drewN | apply below_drew1 | refine below_set ?_ GE119.out | refine below_set ?_ GE124.out) | exact HB.out)))); (case aL => have := LMc41.out; omega); intro v133 w44 ho hb hg hat; rw [← Ny132.out] at ho; have n0_ := Aside0.mk (Kd.R_over' (by (with_reducible repeat (first | apply Kd.R_alloc | apply Kd.R_drewN | apply Kd.R_drew)); exact HO_4.out) (Kd.R_typed (by (with_reducible repeat (first | apply Kd.R_alloc | apply Kd.R_drewN | apply Kd.R_drew)); exact HO_125002.out)) (by decide) hg); have n1_ := Aside0.mk (blk_grown (g := gb119) (o := .cells #[.int .i64 x120000_4, .int .i64 x120001_4, .slice none 0 0] 27 (0, 0)) qz10 hg (Kd.R_ne HO_125002.out BK119.out (by decide))); have n2_ := Aside0.mk (blk_grown (g := gb124) (o := .cells #[.int .i64 ((rdOf ByteArray.empty t120 0).size : Int), .int .i64 x125001_1, u125002] 27 (0, 0)) (by (with_reducible repeat (first | refine blk_drewN ?_ _ | refine blk_drew ?_ | refine blk_alloc ?_ _)); exact BK124.out) hg (Kd.R_ne HO_125002.out BK124.out (by decide))); have n3_ := Aside0.mk (hb); have n4_ := Aside0.mk (ho); clear HO_4; clear BK119; clear BK124; clear HB; clear HO_125002; have HO_4 := n0_; have BK119 := n1_; have BK124 := n2_; have HB := n3_; have HO134 := n4_; clear n0_ n1_ n2_ n3_ n4_; clear ho hb hg hat; obtain ⟨Ao45, co45, eo45⟩ := Kd.R_slice HO134.out; subst eo45; have hcz46_0 : w44.cell? ⟨gb124, 0, none⟩ = some (.int .i64 ((rdOf ByteArray.empty t120 0).size : Int)) := (blk_cell BK124.out 0).trans rfl; have hcz46_1 : w44.cell? ⟨gb124, 1, none⟩ = some (.int .i64 x125001_1) := (blk_cell BK124.out 1).trans rfl; have hcz46_2 : w44.cell? ⟨gb124, 2, none⟩ = some (u125002) := (blk_cell BK124.out 2).trans rfl; have hfz46_0 := blk_frozen BK124.out 0; have hfz46_1 := blk_frozen BK124.out 1; have hfz46_2 := blk_frozen BK124.out 2))
                  repeat (go_quiet (first | (go_at_call 85; (with_reducible refine (spec_l1Mark.calls k4 (bt (rdOf ByteArray.empty t120 x6_1) x8_4) t131 _ A37.out).mono ?_); rintro e w' ⟨rfl, ⟨nd, rfl⟩⟩; (try first | exact ⟨rfl, _, World.drewN_drewN _ _ _⟩ | exact ⟨rfl, _, Eq.trans (World.drewN_drewN _ _ _) (congrArg (World.drewN _) (Nat.add_assoc _ _ _))⟩); have hnb42 := NB124_119.out; have hnc42 := NB119_124.out; have hcz43_0 : wr.cell? ⟨gb124, 0, none⟩ = some (.int .i64 ((rdOf ByteArray.empty t120 0).size : Int)) := (blk_cell BK124.out 0).trans rfl; have hcz43_1 : wr.cell? ⟨gb124, 1, none⟩ = some (.int .i64 x125001_1) := (blk_cell BK124.out 1).trans rfl; have hcz43_2 : wr.cell? ⟨gb124, 2, none⟩ = some (u125002) := (blk_cell BK124.out 2).trans rfl; have hfz43_0 := blk_frozen BK124.out 0; have hfz43_1 := blk_frozen BK124.out 1; have hfz43_2 := blk_frozen BK124.out 2) | ((with_reducible refine gate_builtin (b := .append) (xs := #[.tmp 87, .tmp 89]) rfl ?_); (try (refine gate_guard (by rfl) ?_; dsimp only)); at_builtin; refine Kd.R_append (Kd.int .i64) (w0 := w) w.heap.size rfl (.tmp 87) (.tmp 89) 22 3 (.int .i64 0) 8 rfl Try.underlying22 info3 rfl (by decide) (by omega) u125002 x125002_4 t131 [.int .i64 t131] (fun _ => True) (fun _ => False) rfl rfl ?aP (fun _ hk => hk.elim) ?aF ?aO ?aB ?aS ?aL ?_; (case aP => exact rfl); (case aB => exact (by repeat (first | (with_reducible first | exact HB.out | apply below_alloc | apply pw_below_drewN | apply below_drew1 | refine below_set ?_ GE119.out | refine below_set ?_ GE124.out) | exact HB.out))); (case aF => exact (fun _ _ => trivial)); (case aO => exact (by (with_reducible repeat (first | apply Kd.R_alloc | apply Kd.R_drewN | apply Kd.R_drew)); exact HO_125002.out)); (case aS => exact (below_size (by repeat (first | (with_reducible first | exact HB.out | apply below_alloc | apply pw_below_drewN | apply below_drew1 | refine below_set ?_ GE119.out | refine below_set ?_ GE124.out) | exact HB.out)))); (case aL => have := LMc41.out; omega); intro v133 w44 ho hb hg hat; rw [← Ny132.out] at ho; have n0_ := Aside0.mk (Kd.R_over' (by (with_reducible repeat (first | apply Kd.R_alloc | apply Kd.R_drewN | apply Kd.R_drew)); exact HO_4.out) (Kd.R_typed (by (with_reducible repeat (first | apply Kd.R_alloc | apply Kd.R_drewN | apply Kd.R_drew)); exact HO_125002.out)) (by decide) hg); have n1_ := Aside0.mk (blk_grown (g := gb119) (o := .cells #[.int .i64 x120000_4, .int .i64 x120001_4, .slice none 0 0] 27 (0, 0)) qz10 hg (Kd.R_ne HO_125002.out BK119.out (by decide))); have n2_ := Aside0.mk (blk_grown (g := gb124) (o := .cells #[.int .i64 ((rdOf ByteArray.empty t120 0).size : Int), .int .i64 x125001_1, u125002] 27 (0, 0)) (by (with_reducible repeat (first | refine blk_drewN ?_ _ | refine blk_drew ?_ | refine blk_alloc ?_ _)); exact BK124.out) hg (Kd.R_ne HO_125002.out BK124.out (by decide))); have n3_ := Aside0.mk (hb); have n4_ := Aside0.mk (ho); clear HO_4; clear BK119; clear BK124; clear HB; clear HO_125002; have HO_4 := n0_; have BK119 := n1_; have BK124 := n2_; have HB := n3_; have HO134 := n4_; clear n0_ n1_ n2_ n3_ n4_; clear ho hb hg hat; obtain ⟨Ao45, co45, eo45⟩ := Kd.R_slice HO134.out; subst eo45; have hcz46_0 : w44.cell? ⟨gb124, 0, none⟩ = some (.int .i64 ((rdOf ByteArray.empty t120 0).size : Int)) := (blk_cell BK124.out 0).trans rfl; have hcz46_1 : w44.cell? ⟨gb124, 1, none⟩ = some (.int .i64 x125001_1) := (blk_cell BK124.out 1).trans rfl; have hcz46_2 : w44.cell? ⟨gb124, 2, none⟩ = some (u125002) := (blk_cell BK124.out 2).trans rfl; have hfz46_0 := blk_frozen BK124.out 0; have hfz46_1 := blk_frozen BK124.out 1; have hfz46_2 := blk_frozen BK124.out 2)); try go_wp2_with (first | (go_at_call 85; (with_reducible refine (spec_l1Mark.calls k4 (bt (rdOf ByteArray.empty t120 x6_1) x8_4) t131 _ A37.out).mono ?_); rintro e w' ⟨rfl, ⟨nd, rfl⟩⟩; (try first | exact ⟨rfl, _, World.drewN_drewN _ _ _⟩ | exact ⟨rfl, _, Eq.trans (World.drewN_drewN _ _ _) (congrArg (World.drewN _) (Nat.add_assoc _ _ _))⟩); have hnb42 := NB124_119.out; have hnc42 := NB119_124.out; have hcz43_0 : wr.cell? ⟨gb124, 0, none⟩ = some (.int .i64 ((rdOf ByteArray.empty t120 0).size : Int)) := (blk_cell BK124.out 0).trans rfl; have hcz43_1 : wr.cell? ⟨gb124, 1, none⟩ = some (.int .i64 x125001_1) := (blk_cell BK124.out 1).trans rfl; have hcz43_2 : wr.cell? ⟨gb124, 2, none⟩ = some (u125002) := (blk_cell BK124.out 2).trans rfl; have hfz43_0 := blk_frozen BK124.out 0; have hfz43_1 := blk_frozen BK124.out 1; have hfz43_2 := blk_frozen BK124.out 2) | ((with_reducible refine gate_builtin (b := .append) (xs := #[.tmp 87, .tmp 89]) rfl ?_); (try (refine gate_guard (by rfl) ?_; dsimp only)); at_builtin; refine Kd.R_append (Kd.int .i64) (w0 := w) w.heap.size rfl (.tmp 87) (.tmp 89) 22 3 (.int .i64 0) 8 rfl Try.underlying22 info3 rfl (by decide) (by omega) u125002 x125002_4 t131 [.int .i64 t131] (fun _ => True) (fun _ => False) rfl rfl ?aP (fun _ hk => hk.elim) ?aF ?aO ?aB ?aS ?aL ?_; (case aP => exact rfl); (case aB => exact (by repeat (first | (with_reducible first | exact HB.out | apply below_alloc | apply pw_below_drewN | apply below_drew1 | refine below_set ?_ GE119.out | refine below_set ?_ GE124.out) | exact HB.out))); (case aF => exact (fun _ _ => trivial)); (case aO => exact (by (with_reducible repeat (first | apply Kd.R_alloc | apply Kd.R_drewN | apply Kd.R_drew)); exact HO_125002.out)); (case aS => exact (below_size (by repeat (first | (with_reducible first | exact HB.out | apply below_alloc | apply pw_below_drewN | apply below_drew1 | refine below_set ?_ GE119.out | refine below_set ?_ GE124.out) | exact HB.out)))); (case aL => have := LMc41.out; omega); intro v133 w44 ho hb hg hat; rw [← Ny132.out] at ho; have n0_ := Aside0.mk (Kd.R_over' (by (with_reducible repeat (first | apply Kd.R_alloc | apply Kd.R_drewN | apply Kd.R_drew)); exact HO_4.out) (Kd.R_typed (by (with_reducible repeat (first | apply Kd.R_alloc | apply Kd.R_drewN | apply Kd.R_drew)); exact HO_125002.out)) (by decide) hg); have n1_ := Aside0.mk (blk_grown (g := gb119) (o := .cells #[.int .i64 x120000_4, .int .i64 x120001_4, .slice none 0 0] 27 (0, 0)) qz10 hg (Kd.R_ne HO_125002.out BK119.out (by decide))); have n2_ := Aside0.mk (blk_grown (g := gb124) (o := .cells #[.int .i64 ((rdOf ByteArray.empty t120 0).size : Int), .int .i64 x125001_1, u125002] 27 (0, 0)) (by (with_reducible repeat (first | refine blk_drewN ?_ _ | refine blk_drew ?_ | refine blk_alloc ?_ _)); exact BK124.out) hg (Kd.R_ne HO_125002.out BK124.out (by decide))); have n3_ := Aside0.mk (hb); have n4_ := Aside0.mk (ho); clear HO_4; clear BK119; clear BK124; clear HB; clear HO_125002; have HO_4 := n0_; have BK119 := n1_; have BK124 := n2_; have HB := n3_; have HO134 := n4_; clear n0_ n1_ n2_ n3_ n4_; clear ho hb hg hat; obtain ⟨Ao45, co45, eo45⟩ := Kd.R_slice HO134.out; subst eo45; have hcz46_0 : w44.cell? ⟨gb124, 0, none⟩ = some (.int .i64 ((rdOf ByteArray.empty t120 0).size : Int)) := (blk_cell BK124.out 0).trans rfl; have hcz46_1 : w44.cell? ⟨gb124, 1, none⟩ = some (.int .i64 x125001_1) := (blk_cell BK124.out 1).trans rfl; have hcz46_2 : w44.cell? ⟨gb124, 2, none⟩ = some (u125002) := (blk_cell BK124.out 2).trans rfl; have hfz46_0 := blk_frozen BK124.out 0; have hfz46_1 := blk_frozen BK124.out 1; have hfz46_2 := blk_frozen BK124.out 2)))
                  go_roundg k4
                  case measure => have := HK1.out; have := HJ10.out; have := HJ19.out; have := HK4.out; omega
                  case rel => exact ⟨(wrap64 (x8_4 + 1)), (x120000_4), (x120001_4), (y132), (.slice Ao45 y132.length co45), qz6, H', ⟨by have := HK1.out; have := HJ10.out; have := HJ19.out; have := HK4.out; omega⟩, ⟨by (with_reducible repeat (first | apply Kd.R_alloc | apply Kd.R_drewN | apply Kd.R_drew)); exact Kd.R_mono (Kd.R_far (p := ⟨gb124, 2, none⟩) (Kd.R_types HO_4.out BK124.out (by decide)) (fun _ hk => hk.2) (.slice Ao45 y132.length co45)) (fun _ hk => trivial)⟩, ⟨by (with_reducible repeat (first | apply Kd.R_alloc | apply Kd.R_drewN | apply Kd.R_drew)); exact Kd.R_mono (Kd.R_far (p := ⟨gb124, 2, none⟩) (Kd.R_types HO134.out BK124.out (by decide)) (fun _ hk => hk.2) (.slice Ao45 y132.length co45)) (fun _ hk => trivial)⟩, ⟨by (with_reducible repeat (first | refine blk_drewN ?_ _ | refine blk_drew ?_ | refine blk_alloc ?_ _)); refine blk_far ?_ NB119_124.out _; (with_reducible repeat (first | refine blk_drewN ?_ _ | refine blk_drew ?_ | refine blk_alloc ?_ _)); exact BK119.out⟩, ⟨by (with_reducible repeat (first | refine blk_drewN ?_ _ | refine blk_drew ?_ | refine blk_alloc ?_ _)); refine blk_put (cs := #[.int .i64 ((rdOf ByteArray.empty t120 0).size : Int), .int .i64 x125001_1, u125002]) ?_ 2 _ rfl; (with_reducible repeat (first | refine blk_drewN ?_ _ | refine blk_drew ?_ | refine blk_alloc ?_ _)); exact BK124.out⟩, ⟨by repeat (first | (with_reducible first | exact HB.out | apply below_alloc | apply pw_below_drewN | apply below_drew1 | refine below_set ?_ GE119.out | refine below_set ?_ GE124.out) | exact HB.out)⟩⟩
                  }
                  {
                  rw [if_neg c41] at H
                  exact absurd H (by simp)
                  }
                  }
                  }
                  {
                  rw [if_neg c35] at H
                  exact absurd H (by simp)
                  }
                  }
                  {
                  rw [if_neg c34] at H
                  have c34b0 : decide (x8_4 < ((rdOf ByteArray.empty t120 x6_1).size : Int)) = false := decide_eq_false c34
                  clear c34
                  have H' := Aside0.mk H
                  clear H
                  have p129 : 0 ≤ (x6_1 : Int) := of_decide_eq_true qz4
                  have q129 : x6_1 < (t120.length : Int) := of_decide_eq_true qz4
                  obtain ⟨ad129, e129, hx129_0⟩ := Kd.at_string (Kd.R_reads' HO_4.out).2.2 x6_1 p129 q129
                  obtain rfl : ad123 = ad129 := (by injection e129)
                  replace p129 := eq_true p129
                  replace q129 := eq_true q129
                  have hnb47 := NB124_119.out
                  have hnc47 := NB119_124.out
                  have hcz48_0 : wr.cell? ⟨gb124, 0, none⟩ = some (.int .i64 ((rdOf ByteArray.empty t120 0).size : Int)) := (blk_cell BK124.out 0).trans rfl
                  have hcz48_1 : wr.cell? ⟨gb124, 1, none⟩ = some (.int .i64 x125001_1) := (blk_cell BK124.out 1).trans rfl
                  have hcz48_2 : wr.cell? ⟨gb124, 2, none⟩ = some (u125002) := (blk_cell BK124.out 2).trans rfl
                  have hfz48_0 := blk_frozen BK124.out 0
                  have hfz48_1 := blk_frozen BK124.out 1
                  have hfz48_2 := blk_frozen BK124.out 2
                  go_wp2
                  repeat (go_quiet (fail); try go_wp2)
                  go_roundg k4
                  case measure => have := HK1.out; have := HJ10.out; have := HJ19.out; have := HK4.out; omega
                  case rel => exact ⟨(wrap64 (x6_1 + 1)), (x120000_4), (x120001_4), (wrap64 (x125001_1 + 1)), (x125002_4), (u125002), qz6, H', ⟨by have := HK1.out; have := HJ10.out; have := HJ19.out; have := HK4.out; omega⟩, ⟨by (with_reducible repeat (first | apply Kd.R_alloc | apply Kd.R_drewN | apply Kd.R_drew)); exact Kd.R_mono (Kd.R_far (p := ⟨gb124, 1, none⟩) (Kd.R_types HO_4.out BK124.out (by decide)) (fun _ hk => hk.2) (.int .i64 (wrap64 (x125001_1 + 1)))) (fun _ hk => trivial)⟩, ⟨by (with_reducible repeat (first | apply Kd.R_alloc | apply Kd.R_drewN | apply Kd.R_drew)); exact Kd.R_mono (Kd.R_far (p := ⟨gb124, 1, none⟩) (Kd.R_types HO_125002.out BK124.out (by decide)) (fun _ hk => hk.2) (.int .i64 (wrap64 (x125001_1 + 1)))) (fun _ hk => trivial)⟩, ⟨by (with_reducible repeat (first | refine blk_drewN ?_ _ | refine blk_drew ?_ | refine blk_alloc ?_ _)); refine blk_far ?_ NB119_124.out _; (with_reducible repeat (first | refine blk_drewN ?_ _ | refine blk_drew ?_ | refine blk_alloc ?_ _)); exact BK119.out⟩, ⟨by (with_reducible repeat (first | refine blk_drewN ?_ _ | refine blk_drew ?_ | refine blk_alloc ?_ _)); refine blk_put (cs := #[.int .i64 ((rdOf ByteArray.empty t120 0).size : Int), .int .i64 x125001_1, u125002]) ?_ 1 _ rfl; (with_reducible repeat (first | refine blk_drewN ?_ _ | refine blk_drew ?_ | refine blk_alloc ?_ _)); exact BK124.out⟩, ⟨by repeat (first | (with_reducible first | exact HB.out | apply below_alloc | apply pw_below_drewN | apply below_drew1 | refine below_set ?_ GE119.out | refine below_set ?_ GE124.out) | exact HB.out)⟩⟩
                  }
                  }
                  {
                  rw [if_neg c33] at H
                  exact absurd H (by simp)
                  }
                  }
                  {
                  rw [if_neg c32] at H
                  exact absurd H (by simp)
                  }
              }
          }
      }
      {
      rw [if_neg c10] at H
      have c10b0 : decide (x6_1 < (t120.length : Int)) = false := decide_eq_false c10
      clear c10
      simp only [Option.some.injEq, Prod.mk.injEq] at H
      obtain ⟨rfl, rfl, rfl, rfl⟩ := H
      have hnb49 := NB124_119.out
      have hnc49 := NB119_124.out
      have hcz50_0 : wr.cell? ⟨gb124, 0, none⟩ = some (.int .i64 ((rdOf ByteArray.empty t120 0).size : Int)) := (blk_cell BK124.out 0).trans rfl
      have hcz50_1 : wr.cell? ⟨gb124, 1, none⟩ = some (.int .i64 x125001_1) := (blk_cell BK124.out 1).trans rfl
      have hcz50_2 : wr.cell? ⟨gb124, 2, none⟩ = some (u125002) := (blk_cell BK124.out 2).trans rfl
      have hfz50_0 := blk_frozen BK124.out 0
      have hfz50_1 := blk_frozen BK124.out 1
      have hfz50_2 := blk_frozen BK124.out 2
      have hcz51_0 : wr.cell? ⟨gb119, 0, none⟩ = some (.int .i64 x120000_1) := (blk_cell BK119.out 0).trans rfl
      have hcz51_1 : wr.cell? ⟨gb119, 1, none⟩ = some (.int .i64 x120001_1) := (blk_cell BK119.out 1).trans rfl
      have hcz51_2 : wr.cell? ⟨gb119, 2, none⟩ = some (.slice none 0 0) := (blk_cell BK119.out 2).trans rfl
      have hfz51_0 := blk_frozen BK119.out 0
      have hfz51_1 := blk_frozen BK119.out 1
      have hfz51_2 := blk_frozen BK119.out 2
      obtain ⟨Ao52, co52, eo52⟩ := Kd.R_slice HO_125002.out
      subst eo52
      go_wp2
      repeat (go_quiet (fail); try go_wp2)
      refine bodyPost_ret (results_ct rfl _ _ gb119 27 #[.int .i64 ((rdOf ByteArray.empty t120 0).size : Int), .int .i64 x125001_1, .slice Ao52 x125002_1.length co52] (0, 0) _ rfl (by (with_reducible repeat (first | refine blk_drewN ?_ _ | refine blk_drew ?_ | refine blk_alloc ?_ _)); refine blk_put (cs := #[.int .i64 ((rdOf ByteArray.empty t120 0).size : Int), .int .i64 x125001_1, .slice none 0 0]) ?_ 2 _ rfl; (with_reducible repeat (first | refine blk_drewN ?_ _ | refine blk_drew ?_ | refine blk_alloc ?_ _)); refine blk_put (cs := #[.int .i64 ((rdOf ByteArray.empty t120 0).size : Int), .int .i64 x120001_1, .slice none 0 0]) ?_ 1 _ rfl; (with_reducible repeat (first | refine blk_drewN ?_ _ | refine blk_drew ?_ | refine blk_alloc ?_ _)); refine blk_put (cs := #[.int .i64 x120000_1, .int .i64 x120001_1, .slice none 0 0]) ?_ 0 _ rfl; (with_reducible repeat (first | refine blk_drewN ?_ _ | refine blk_drew ?_ | refine blk_alloc ?_ _)); exact BK119.out) Try.underlying27 rfl (by kernel_rfl)) rfl ?_
      exact ⟨_, by first | rfl | (simp [errW_none, errW_some] <;> rfl) | (simp [*, errW_none, errW_some] <;> rfl), by (with_reducible repeat (first | apply Kd.R_alloc | apply Kd.R_drewN | apply Kd.R_drew)); exact Kd.R_mono (Kd.R_far (p := ⟨gb119, 2, none⟩) (Kd.R_far (p := ⟨gb119, 1, none⟩) (Kd.R_far (p := ⟨gb119, 0, none⟩) (Kd.R_types HO_125002.out BK119.out (by decide)) (fun _ hk => hk.2) (.int .i64 ((rdOf ByteArray.empty t120 0).size : Int))) (fun _ hk => hk.2) (.int .i64 x125001_1)) (fun _ hk => hk.2) (.slice Ao52 x125002_1.length co52)) (fun _ hk => trivial), by repeat (first | (with_reducible first | exact HB.out | apply below_alloc | apply pw_below_drewN | apply below_drew1 | refine below_set ?_ GE119.out | refine below_set ?_ GE124.out) | exact HB.out)⟩
      }
  }
  {
  rw [if_neg c3] at H
  exact absurd H (by simp)

  }
-- NOT PRINTED: function 130 (bytealg_IndexByteString)

/-! ### stringslite_IndexByte: function 124 -/
def stringslite_IndexByte.f (a0 : ByteArray) (a1 : Int) : Option (Int) := some (Lib.indexByte a0.data.toList a1.toNat.toUInt8)
set_option maxHeartbeats 8000000 in
set_option maxRecDepth 100000 in
theorem stringslite_IndexByte.calls (a0 : ByteArray) (a1 : Int) (r : Int) (w : World) (h : stringslite_IndexByte.f a0 a1 = some r) :
    Calls Try.prog 124 #[.string a0, .int .u8 a1] w fun e w' => e = .returned (.int .i64 r) ∧ Drawn0 w w' := by
  obtain rfl := Option.some.inj h
  go_enter Try.func124, Try.ntmps124
  go_wp2
  rw [run_callFunc_extern (f := 130) (fn := Try.f130) (by kernel_rfl) (by kernel_rfl) (by kernel_rfl) (by kernel_rfl) (e := Extern.BytealgIndexByte.indexByte) (by kernel_rfl), Lib.run_indexByteString]
  simp only [Result.andThen]
  rw [Oper.upon_value]
  go_wp2
  go_ret
  exact ⟨rfl, by repeat (first | exact Drawn0.refl _ | apply Drawn0.step)⟩

-- NOT PRINTED: function 127 (bytealg_IndexString)

-- NOT PRINTED: function 128 (bytealg_Cutover)

-- NOT PRINTED: function 131 (bytealg_hashStr_string)

-- NOT PRINTED: function 129 (bytealg_IndexRabinKarp_string)

/-! ### stringslite_Index: function 123 -/
def stringslite_Index.f (a0 a1 : ByteArray) : Option (Int) := match a1 with
  | ⟨⟨[c]⟩⟩ => some (Lib.indexByte a0.data.toList c)
  | _ => none
set_option maxHeartbeats 8000000 in
set_option maxRecDepth 100000 in
theorem stringslite_Index.calls (a0 a1 : ByteArray) (r : Int) (w : World) (h : stringslite_Index.f a0 a1 = some r) :
    Calls Try.prog 123 #[.string a0, .string a1] w fun e w' => e = .returned (.int .i64 r) ∧ Drawn0 w w' := by
  unfold stringslite_Index.f at h
  split at h
  {
  rename_i c
  obtain rfl := Option.some.inj h
  go_enter Try.func123, Try.ntmps123
  go_wp2_with (go_at_call 124; refine (stringslite_IndexByte.calls _ _ _ _ rfl).mono ?_; rintro e w' ⟨rfl, hw⟩)
  {
  go_ret
  refine ⟨?_, by repeat (first | exact Drawn0.refl _ | apply Drawn0.step)⟩
  have h5 : ([c] == a0.toList) = true := by assumption
  have e5 : a0.data.toList = [c] := by rw [← Lib.toList_data]; exact (beq_iff_eq.1 h5).symm
  rw [e5]; simp [Lib.indexByte]
  }
  {
  go_ret
  exact ⟨rfl, hw⟩
  }
  }
  {
  exact absurd h (by simp)

  }
end Go.Proofs.Ytmjpmekckgjcpaa.PFnExactParseFloor
