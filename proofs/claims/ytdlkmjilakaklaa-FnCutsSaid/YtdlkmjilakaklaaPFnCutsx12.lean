-- Made by a program of this session out of the translation. Lean checks it.
import Derived.Test.YtdlkmjilakaklaaPFnCutsx0
import Derived.Test.YtdlkmjilakaklaaPFnCutsx5
import Derived.Test.YtdlkmjilakaklaaPFnCutsx6
import Derived.Test.YtdlkmjilakaklaaPFnCutsx8
import Derived.Test.YtdlkmjilakaklaaPFnCutsx9
import Derived.Test.YtdlkmjilakaklaaPFnCutsx10
import Derived.Test.YtdlkmjilakaklaaPFnCutsx11
namespace Go.Proofs.Ytdlkmjilakaklaa.PFnCuts
open Go.RowKit Go.Proofs.YtdlkmjilakaklaaW.PrintWords Go.Proofs.YtdlkmjilakaklaaW.PrintLast Go.Proofs.YtdlkmjilakaklaaW.PrintMore
attribute [local go_sem] max2_int min2_int max_two min_two max_three min_three max_four min_four   -- for this text's walks alone
set_option linter.unusedVariables false
set_option linter.unusedSimpArgs false

/-! ### spec_l1Floor: function 80 -/
def spec_l1Floor.l0 : Nat → Int → List Int → Int → Int → Int → Int → List Int → Option (Int × Int × List Int × Int × Int)
  | 0, _, _, _, _, _, _, _ => none
  | k + 1, x6, x1000, x1001, x1002, x369000, x369001, x369002 => if x6 < (wrap64 (x369000 * x369001)) then ((spec_l1Int.f x1000 x1001 x1002 (([1, 1, 1, 1, 1, 1, 0, 2, 3, 4] : List Int))).bind fun bt372 => (if x369002.length < 17592186044416 then (spec_l1Floor.l0 k (wrap64 (x6 + 1)) x1000 bt372.2.1 bt372.2.2 x369000 x369001 (x369002 ++ [bt372.1])) else (none))) else (some (x369000, x369001, x369002, x1001, x1002))
def spec_l1Floor.f (k : Nat) (s0_0 : List Int) (s0_1 : Int) (s0_2 : Int) : Option (Int × Int × List Int × Int × Int) := (spec_l1Once.f s0_0 s0_1 s0_2 3).bind fun bt346 => (if bt346.1 = true then ((spec_l1Str.f s0_0 bt346.2.1 bt346.2.2 (([(⟨#[99, 46, 46, 46, 46, 46, 10, 46, 112, 112, 46, 112, 46, 10, 46, 112, 112, 46, 112, 46, 10, 46, 46, 46, 46, 46, 115, 10]⟩ : ByteArray), (⟨#[99, 46, 46, 10, 46, 46, 46, 10, 46, 46, 115, 10]⟩ : ByteArray), (⟨#[46, 46, 46, 46, 46, 10, 46, 112, 35, 112, 46, 10, 46, 46, 115, 46, 46, 10, 46, 112, 35, 112, 46, 10, 99, 46, 46, 46, 99, 10]⟩ : ByteArray), (⟨#[46, 46, 46, 35, 46, 46, 46, 10, 46, 46, 46, 46, 46, 46, 46, 10, 46, 46, 46, 35, 46, 46, 46, 10]⟩ : ByteArray), (⟨#[99, 46, 46, 46, 46, 46, 46, 46, 10, 46, 112, 46, 112, 46, 112, 46, 46, 10, 46, 46, 46, 46, 46, 46, 46, 115, 10, 46, 112, 46, 112, 46, 112, 46, 46, 10, 99, 46, 46, 46, 46, 46, 46, 115, 10]⟩ : ByteArray), (⟨#[46, 46, 10, 46, 46, 10]⟩ : ByteArray), (⟨#[99, 46, 35, 46, 115, 10, 46, 46, 35, 46, 46, 10]⟩ : ByteArray)] : List ByteArray))).bind fun bt352 => ((spec_ParseFloor.f k bt352.1).bind fun bt355 => (some (bt355.1, bt355.2.1, bt355.2.2.1, bt352.2.1, bt352.2.2)))) else ((spec_l1Below.f s0_0 bt346.2.1 bt346.2.2 7).bind fun bt362 => ((spec_l1Below.f s0_0 bt362.2.1 bt362.2.2 6).bind fun bt365 => (spec_l1Floor.l0 k 0 s0_0 bt365.2.1 bt365.2.2 (wrap64 (1 + bt362.1)) (wrap64 (1 + bt365.1)) ([] : List Int)))))
theorem spec_l1Floor.mono_l : ∀ k, (∀ y0 y1 y2 y3 y4 y5 y6, LeO (spec_l1Floor.l0 k y0 y1 y2 y3 y4 y5 y6) (spec_l1Floor.l0 (k + 1) y0 y1 y2 y3 y4 y5 y6))
  | 0 => fun _ _ _ _ _ _ _ r h => by simp [spec_l1Floor.l0] at h
  | k + 1 => by
    have ih0 := spec_l1Floor.mono_l k
    · intro y0 y1 y2 y3 y4 y5 y6
      unfold spec_l1Floor.l0
      repeat' first
      | (with_reducible exact ih0 _ _ _ _ _ _ _)
      | (with_reducible exact spec_ParseFloor.mono _ _)
      | (with_reducible exact LeO.refl _)
      | (with_reducible exact LeO.none _)
      | (with_reducible refine LeO.ite ?_ ?_)
      | (with_reducible refine LeO.bind ?_ (fun _ => ?_))
      | exact ih0 _ _ _ _ _ _ _
      | exact spec_ParseFloor.mono _ _
      | exact LeO.none _
      | refine LeO.ite ?_ ?_
      | refine LeO.bind ?_ (fun _ => ?_)
theorem spec_l1Floor.mono : ∀ a0 a1 a2 k, LeO (spec_l1Floor.f k a0 a1 a2) (spec_l1Floor.f (k + 1) a0 a1 a2) := by
  intro a0 a1 a2 k
  have ih0 := spec_l1Floor.mono_l k
  unfold spec_l1Floor.f
  repeat' first
      | (with_reducible exact ih0 _ _ _ _ _ _ _)
      | (with_reducible exact spec_ParseFloor.mono _ _)
      | (with_reducible exact LeO.refl _)
      | (with_reducible exact LeO.none _)
      | (with_reducible refine LeO.ite ?_ ?_)
      | (with_reducible refine LeO.bind ?_ (fun _ => ?_))
      | exact ih0 _ _ _ _ _ _ _
      | exact spec_ParseFloor.mono _ _
      | exact LeO.none _
      | refine LeO.ite ?_ ?_
      | refine LeO.bind ?_ (fun _ => ?_)
def spec_l1Floor.T8 : Bool × List (List Nat × List Nat) := (true, [([], []), ([0], [0]), ([], []), ([], []), ([2, 3], [2, 3]), ([4], [4]), ([1, 5, 4], [1, 5]), ([0, 1, 2, 3, 4, 5, 6], []), ([7, 6, 6, 0, 1, 2, 3, 4, 5, 6], [6, 7])])
def spec_l1Floor.B8 : List Nat := [0, 1, 0, 0, 12, 28, 63, 127, 255]
theorem spec_l1Floor.tab8 : rtab .any (opsOf Try.f80 8) = spec_l1Floor.T8 := by kernel_rfl
theorem spec_l1Floor.bits8 : waitsOk spec_l1Floor.T8.2 spec_l1Floor.B8 = true := by kernel_rfl
set_option maxHeartbeats 8000000 in
set_option maxRecDepth 100000 in
theorem spec_l1Floor.calls (k : Nat) (g : Nat) (s0_0 : List Int) (s0_1 : Int) (s0_2 : Int) (r1 : Int) (r2 : Int) (r3 : List Int) (r4 : Int) (r5 : Int) (w0 w : World) (hI : IsS117 w0 w g s0_0 s0_1 s0_2) (hB : Below w0.heap.size w0 w) (h : spec_l1Floor.f k s0_0 s0_1 s0_2 = some (r1, r2, r3, r4, r5)) :
    Calls Try.prog 80 #[.pointer (some ⟨g, 0, none⟩)] w fun e w' => ∃ v2_ : Value, e = .returned (.agg #[.int .i64 r1, .int .i64 r2, v2_]) ∧ Kd.R (Kd.int .i64) 3 w' w.heap.size (fun _ => True) v2_ r3 ∧ IsS117 w0 w' g s0_0 r4 r5 ∧ Below w0.heap.size w0 w' ∧ KeepBut w w' g none := by
  have hu27 := Try.underlying27
  have HI0 := Aside0.mk hI
  have HK := Aside0.mk (KeepBut.refl w g none)
  have HL := Aside0.mk hB.size
  clear hI
  have HW0 := Aside0.mk hB.size
  have HB := Aside0.mk hB
  clear hB
  have H : ((spec_l1Once.f s0_0 s0_1 s0_2 3).bind fun bt346 => (if bt346.1 = true then ((spec_l1Str.f s0_0 bt346.2.1 bt346.2.2 (([(⟨#[99, 46, 46, 46, 46, 46, 10, 46, 112, 112, 46, 112, 46, 10, 46, 112, 112, 46, 112, 46, 10, 46, 46, 46, 46, 46, 115, 10]⟩ : ByteArray), (⟨#[99, 46, 46, 10, 46, 46, 46, 10, 46, 46, 115, 10]⟩ : ByteArray), (⟨#[46, 46, 46, 46, 46, 10, 46, 112, 35, 112, 46, 10, 46, 46, 115, 46, 46, 10, 46, 112, 35, 112, 46, 10, 99, 46, 46, 46, 99, 10]⟩ : ByteArray), (⟨#[46, 46, 46, 35, 46, 46, 46, 10, 46, 46, 46, 46, 46, 46, 46, 10, 46, 46, 46, 35, 46, 46, 46, 10]⟩ : ByteArray), (⟨#[99, 46, 46, 46, 46, 46, 46, 46, 10, 46, 112, 46, 112, 46, 112, 46, 46, 10, 46, 46, 46, 46, 46, 46, 46, 115, 10, 46, 112, 46, 112, 46, 112, 46, 46, 10, 99, 46, 46, 46, 46, 46, 46, 115, 10]⟩ : ByteArray), (⟨#[46, 46, 10, 46, 46, 10]⟩ : ByteArray), (⟨#[99, 46, 35, 46, 115, 10, 46, 46, 35, 46, 46, 10]⟩ : ByteArray)] : List ByteArray))).bind fun bt352 => ((spec_ParseFloor.f k bt352.1).bind fun bt355 => (some (bt355.1, bt355.2.1, bt355.2.2.1, bt352.2.1, bt352.2.2)))) else ((spec_l1Below.f s0_0 bt346.2.1 bt346.2.2 7).bind fun bt362 => ((spec_l1Below.f s0_0 bt362.2.1 bt362.2.2 6).bind fun bt365 => (spec_l1Floor.l0 k 0 s0_0 bt365.2.1 bt365.2.2 (wrap64 (1 + bt362.1)) (wrap64 (1 + bt365.1)) ([] : List Int)))))) = some (r1, r2, r3, r4, r5) := h
  clear h
  replace H := Option.bind_eq_some_iff.mp H
  obtain ⟨⟨t346, t347, t348⟩, A20, H⟩ := H
  replace H : (if t346 = true then ((spec_l1Str.f s0_0 t347 t348 (([(⟨#[99, 46, 46, 46, 46, 46, 10, 46, 112, 112, 46, 112, 46, 10, 46, 112, 112, 46, 112, 46, 10, 46, 46, 46, 46, 46, 115, 10]⟩ : ByteArray), (⟨#[99, 46, 46, 10, 46, 46, 46, 10, 46, 46, 115, 10]⟩ : ByteArray), (⟨#[46, 46, 46, 46, 46, 10, 46, 112, 35, 112, 46, 10, 46, 46, 115, 46, 46, 10, 46, 112, 35, 112, 46, 10, 99, 46, 46, 46, 99, 10]⟩ : ByteArray), (⟨#[46, 46, 46, 35, 46, 46, 46, 10, 46, 46, 46, 46, 46, 46, 46, 10, 46, 46, 46, 35, 46, 46, 46, 10]⟩ : ByteArray), (⟨#[99, 46, 46, 46, 46, 46, 46, 46, 10, 46, 112, 46, 112, 46, 112, 46, 46, 10, 46, 46, 46, 46, 46, 46, 46, 115, 10, 46, 112, 46, 112, 46, 112, 46, 46, 10, 99, 46, 46, 46, 46, 46, 46, 115, 10]⟩ : ByteArray), (⟨#[46, 46, 10, 46, 46, 10]⟩ : ByteArray), (⟨#[99, 46, 35, 46, 115, 10, 46, 46, 35, 46, 46, 10]⟩ : ByteArray)] : List ByteArray))).bind fun bt352 => ((spec_ParseFloor.f k bt352.1).bind fun bt355 => (some (bt355.1, bt355.2.1, bt355.2.2.1, bt352.2.1, bt352.2.2)))) else ((spec_l1Below.f s0_0 t347 t348 7).bind fun bt362 => ((spec_l1Below.f s0_0 bt362.2.1 bt362.2.2 6).bind fun bt365 => (spec_l1Floor.l0 k 0 s0_0 bt365.2.1 bt365.2.2 (wrap64 (1 + bt362.1)) (wrap64 (1 + bt365.1)) ([] : List Int))))) = some (r1, r2, r3, r4, r5) := H
  have A2 := Aside0.mk A20
  clear A20
  by_cases c3 : t346 = true
  · subst c3
    have H1 : ((spec_l1Str.f s0_0 t347 t348 (([(⟨#[99, 46, 46, 46, 46, 46, 10, 46, 112, 112, 46, 112, 46, 10, 46, 112, 112, 46, 112, 46, 10, 46, 46, 46, 46, 46, 115, 10]⟩ : ByteArray), (⟨#[99, 46, 46, 10, 46, 46, 46, 10, 46, 46, 115, 10]⟩ : ByteArray), (⟨#[46, 46, 46, 46, 46, 10, 46, 112, 35, 112, 46, 10, 46, 46, 115, 46, 46, 10, 46, 112, 35, 112, 46, 10, 99, 46, 46, 46, 99, 10]⟩ : ByteArray), (⟨#[46, 46, 46, 35, 46, 46, 46, 10, 46, 46, 46, 46, 46, 46, 46, 10, 46, 46, 46, 35, 46, 46, 46, 10]⟩ : ByteArray), (⟨#[99, 46, 46, 46, 46, 46, 46, 46, 10, 46, 112, 46, 112, 46, 112, 46, 46, 10, 46, 46, 46, 46, 46, 46, 46, 115, 10, 46, 112, 46, 112, 46, 112, 46, 46, 10, 99, 46, 46, 46, 46, 46, 46, 115, 10]⟩ : ByteArray), (⟨#[46, 46, 10, 46, 46, 10]⟩ : ByteArray), (⟨#[99, 46, 35, 46, 115, 10, 46, 46, 35, 46, 46, 10]⟩ : ByteArray)] : List ByteArray))).bind fun bt352 => ((spec_ParseFloor.f k bt352.1).bind fun bt355 => (some (bt355.1, bt355.2.1, bt355.2.2.1, bt352.2.1, bt352.2.2)))) = some (r1, r2, r3, r4, r5) := by rw [if_pos rfl] at H; exact H
    clear H
    have H := H1
    clear H1
    obtain ⟨y349, hy349⟩ : ∃ y_ : List ByteArray, y_ = (([(⟨#[99, 46, 46, 46, 46, 46, 10, 46, 112, 112, 46, 112, 46, 10, 46, 112, 112, 46, 112, 46, 10, 46, 46, 46, 46, 46, 115, 10]⟩ : ByteArray), (⟨#[99, 46, 46, 10, 46, 46, 46, 10, 46, 46, 115, 10]⟩ : ByteArray), (⟨#[46, 46, 46, 46, 46, 10, 46, 112, 35, 112, 46, 10, 46, 46, 115, 46, 46, 10, 46, 112, 35, 112, 46, 10, 99, 46, 46, 46, 99, 10]⟩ : ByteArray), (⟨#[46, 46, 46, 35, 46, 46, 46, 10, 46, 46, 46, 46, 46, 46, 46, 10, 46, 46, 46, 35, 46, 46, 46, 10]⟩ : ByteArray), (⟨#[99, 46, 46, 46, 46, 46, 46, 46, 10, 46, 112, 46, 112, 46, 112, 46, 46, 10, 46, 46, 46, 46, 46, 46, 46, 115, 10, 46, 112, 46, 112, 46, 112, 46, 46, 10, 99, 46, 46, 46, 46, 46, 46, 115, 10]⟩ : ByteArray), (⟨#[46, 46, 10, 46, 46, 10]⟩ : ByteArray), (⟨#[99, 46, 35, 46, 115, 10, 46, 46, 35, 46, 46, 10]⟩ : ByteArray)] : List ByteArray)) := ⟨_, rfl⟩
    replace H : ((spec_l1Str.f s0_0 t347 t348 y349).bind fun bt352 => ((spec_ParseFloor.f k bt352.1).bind fun bt355 => (some (bt355.1, bt355.2.1, bt355.2.2.1, bt352.2.1, bt352.2.2)))) = some (r1, r2, r3, r4, r5) := by first | (rw [hy349]; with_reducible exact H) | (have H2_ := (Option.bind_some _ _).symm.trans H; rw [hy349]; with_reducible exact H2_) | (have H2_ := (Option.bind_some _ _).symm.trans H; with_reducible exact H2_) | with_reducible exact H | (rw [hy349]; exact H) | exact H
    have Ny349 := Aside0.mk hy349
    clear hy349
    replace H := Option.bind_eq_some_iff.mp H
    obtain ⟨⟨t352, t353, t354⟩, A40, H⟩ := H
    replace H : ((spec_ParseFloor.f k t352).bind fun bt355 => (some (bt355.1, bt355.2.1, bt355.2.2.1, t353, t354))) = some (r1, r2, r3, r4, r5) := H
    have A4 := Aside0.mk A40
    clear A40
    replace H := Option.bind_eq_some_iff.mp H
    obtain ⟨⟨t355, t356, t357, t360⟩, A50, H⟩ := H
    replace H : (some (t355, t356, t357, t353, t354)) = some (r1, r2, r3, r4, r5) := H
    have A5 := Aside0.mk A50
    clear A50
    simp only [Option.some.injEq, Prod.mk.injEq] at H
    obtain ⟨rfl, rfl, rfl, rfl, rfl⟩ := H
    go_enter Try.func80, Try.ntmps80
    go_wp2_with (first | ((with_reducible refine gate_dst (N := 2) rfl ?_); refine box_event ?hg (N := 2) ?hd (cs := #[.int .i64 0, .int .i64 0, .slice none 0 0]) (t := 27) ?hr ?_; (case hd => rfl); (case hg => rfl); (case hr => first | (go_simp; done) | (go_simp; rfl)); intro gb345 hg w6 hbox hb; have n0_ := Aside0.mk (IsS117.below (by repeat (first | (with_reducible first | exact HI0.out | apply IsS117.alloc | apply IsS117.drewN | apply IsS117.drew | apply IsS117.set_1 | apply IsS117.set_2) | exact HI0.out)) hb); have n1_ := Aside0.mk (KeepBut.trans qz14 (KeepBut.of_below hb g none) (.inl rfl)); have n2_ := Aside0.mk (below_step (by repeat (first | (with_reducible first | exact HB.out | apply below_alloc | apply pw_below_drewN | apply below_drew1 | refine below_set ?_ (IsS117.ge HI0.out)) | exact HB.out)) hb); have n3_ := Aside0.mk (hbox); have n4_ := Aside0.mk ((by rw [hg]; exact (keep_size (w := w) (g := g) (row := none) qz14) : w.heap.size ≤ gb345)); have n5_ := Aside0.mk ((Nat.le_trans HW0.out (by rw [hg]; exact (keep_size (w := w) (g := g) (row := none) qz14) : w.heap.size ≤ gb345) : w0.heap.size ≤ gb345)); have n6_ := Aside0.mk ((by rw [hg]; exact Nat.ne_of_lt (IsS117.lt (show IsS117 w0 _ g s0_0 s0_1 s0_2 from by repeat (first | (with_reducible first | exact HI0.out | apply IsS117.alloc | apply IsS117.drewN | apply IsS117.drew | apply IsS117.set_1 | apply IsS117.set_2) | exact HI0.out))) : g ≠ gb345)); have n7_ := Aside0.mk ((by rw [hg]; exact Nat.ne_of_gt (IsS117.lt (show IsS117 w0 _ g s0_0 s0_1 s0_2 from by repeat (first | (with_reducible first | exact HI0.out | apply IsS117.alloc | apply IsS117.drewN | apply IsS117.drew | apply IsS117.set_1 | apply IsS117.set_2) | exact HI0.out))) : gb345 ≠ g)); clear HI0; clear HK; clear HB; have HI0 := n0_; have HK := n1_; have HB := n2_; have BK345 := n3_; have GW345 := n4_; have GE345 := n5_; have NB0_345 := n6_; have NB345_0 := n7_; clear n0_ n1_ n2_ n3_ n4_ n5_ n6_ n7_; clear hb hbox hg) | ((with_reducible refine gate_callee (f := 116) rfl ?_); refine goesL_ (some 8) rfl rfl Try.func116 (by kernel_rfl) rfl #[.pointer (some ⟨g, 0, none⟩), .int .i64 3] rfl qz2 ?_; (with_reducible refine (spec_l1Once.calls g s0_0 s0_1 s0_2 3 true t347 t348 w0 _ ?side1 ?side2 A2.out).mono ?_); (case side1 => repeat (first | (with_reducible first | exact HI0.out | apply IsS117.alloc | apply IsS117.drewN | apply IsS117.drew | apply IsS117.set_1 | apply IsS117.set_2 | refine IsS117.far ?_ NB0_345.out _) | exact HI0.out)); (case side2 => repeat (first | (with_reducible first | exact HB.out | apply below_alloc | apply pw_below_drewN | apply below_drew1 | refine below_set ?_ (IsS117.ge HI0.out) | refine below_set ?_ GE345.out) | exact HB.out)); rintro e w7 ⟨rfl, hi, hb, hk⟩; refine ⟨_, rfl, ?_⟩; have n0_ := Aside0.mk (KeepBut.blk hk (g' := gb345) (o := .cells #[.int .i64 0, .int .i64 0, .slice none 0 0] 27 (0, 0)) qz15 NB345_0.out (by simp)); have n1_ := Aside0.mk (KeepBut.trans qz9 hk (.inl rfl)); have n2_ := Aside0.mk (hb); have n3_ := Aside0.mk (hi); clear BK345; clear HK; clear HB; clear HI0; have BK345 := n0_; have HK := n1_; have HB := n2_; have HI0 := n3_; clear n0_ n1_ n2_ n3_; (try clear hb); (try clear hb2); (try clear hk); (try clear hi)) | ((with_reducible refine gate_dst (N := 11) rfl ?_); refine Kd.R_lit Kd.string _ 9 ?hg (N := 11) ?hd (xs := ([(⟨#[99, 46, 46, 46, 46, 46, 10, 46, 112, 112, 46, 112, 46, 10, 46, 112, 112, 46, 112, 46, 10, 46, 46, 46, 46, 46, 115, 10]⟩ : ByteArray), (⟨#[99, 46, 46, 10, 46, 46, 46, 10, 46, 46, 115, 10]⟩ : ByteArray), (⟨#[46, 46, 46, 46, 46, 10, 46, 112, 35, 112, 46, 10, 46, 46, 115, 46, 46, 10, 46, 112, 35, 112, 46, 10, 99, 46, 46, 46, 99, 10]⟩ : ByteArray), (⟨#[46, 46, 46, 35, 46, 46, 46, 10, 46, 46, 46, 46, 46, 46, 46, 10, 46, 46, 46, 35, 46, 46, 46, 10]⟩ : ByteArray), (⟨#[99, 46, 46, 46, 46, 46, 46, 46, 10, 46, 112, 46, 112, 46, 112, 46, 46, 10, 46, 46, 46, 46, 46, 46, 46, 115, 10, 46, 112, 46, 112, 46, 112, 46, 46, 10, 99, 46, 46, 46, 46, 46, 46, 115, 10]⟩ : ByteArray), (⟨#[46, 46, 10, 46, 46, 10]⟩ : ByteArray), (⟨#[99, 46, 35, 46, 115, 10, 46, 46, 35, 46, 46, 10]⟩ : ByteArray)] : List ByteArray)) (inner := [.string (⟨#[99, 46, 46, 46, 46, 46, 10, 46, 112, 112, 46, 112, 46, 10, 46, 112, 112, 46, 112, 46, 10, 46, 46, 46, 46, 46, 115, 10]⟩ : ByteArray), .string (⟨#[99, 46, 46, 10, 46, 46, 46, 10, 46, 46, 115, 10]⟩ : ByteArray), .string (⟨#[46, 46, 46, 46, 46, 10, 46, 112, 35, 112, 46, 10, 46, 46, 115, 46, 46, 10, 46, 112, 35, 112, 46, 10, 99, 46, 46, 46, 99, 10]⟩ : ByteArray), .string (⟨#[46, 46, 46, 35, 46, 46, 46, 10, 46, 46, 46, 46, 46, 46, 46, 10, 46, 46, 46, 35, 46, 46, 46, 10]⟩ : ByteArray), .string (⟨#[99, 46, 46, 46, 46, 46, 46, 46, 10, 46, 112, 46, 112, 46, 112, 46, 46, 10, 46, 46, 46, 46, 46, 46, 46, 115, 10, 46, 112, 46, 112, 46, 112, 46, 46, 10, 99, 46, 46, 46, 46, 46, 46, 115, 10]⟩ : ByteArray), .string (⟨#[46, 46, 10, 46, 46, 10]⟩ : ByteArray), .string (⟨#[99, 46, 35, 46, 115, 10, 46, 46, 35, 46, 46, 10]⟩ : ByteArray)]) (ok := fun _ => True) (okp := fun _ => True) ?hr ?hp (fun _ hk => hk) trivial (Below.refl _ _) (Nat.le_refl _) (by simp) ?_; (case hd => rfl); (case hg => rfl); (case hr => first | (go_simp; done) | (go_simp; rfl)); (case hp => exact (Reps.one (show Kd.M Kd.string _ _ _ (⟨#[99, 46, 46, 46, 46, 46, 10, 46, 112, 112, 46, 112, 46, 10, 46, 112, 112, 46, 112, 46, 10, 46, 46, 46, 46, 46, 115, 10]⟩ : ByteArray) [.string (⟨#[99, 46, 46, 46, 46, 46, 10, 46, 112, 112, 46, 112, 46, 10, 46, 112, 112, 46, 112, 46, 10, 46, 46, 46, 46, 46, 115, 10]⟩ : ByteArray)] from rfl) (Reps.one (show Kd.M Kd.string _ _ _ (⟨#[99, 46, 46, 10, 46, 46, 46, 10, 46, 46, 115, 10]⟩ : ByteArray) [.string (⟨#[99, 46, 46, 10, 46, 46, 46, 10, 46, 46, 115, 10]⟩ : ByteArray)] from rfl) (Reps.one (show Kd.M Kd.string _ _ _ (⟨#[46, 46, 46, 46, 46, 10, 46, 112, 35, 112, 46, 10, 46, 46, 115, 46, 46, 10, 46, 112, 35, 112, 46, 10, 99, 46, 46, 46, 99, 10]⟩ : ByteArray) [.string (⟨#[46, 46, 46, 46, 46, 10, 46, 112, 35, 112, 46, 10, 46, 46, 115, 46, 46, 10, 46, 112, 35, 112, 46, 10, 99, 46, 46, 46, 99, 10]⟩ : ByteArray)] from rfl) (Reps.one (show Kd.M Kd.string _ _ _ (⟨#[46, 46, 46, 35, 46, 46, 46, 10, 46, 46, 46, 46, 46, 46, 46, 10, 46, 46, 46, 35, 46, 46, 46, 10]⟩ : ByteArray) [.string (⟨#[46, 46, 46, 35, 46, 46, 46, 10, 46, 46, 46, 46, 46, 46, 46, 10, 46, 46, 46, 35, 46, 46, 46, 10]⟩ : ByteArray)] from rfl) (Reps.one (show Kd.M Kd.string _ _ _ (⟨#[99, 46, 46, 46, 46, 46, 46, 46, 10, 46, 112, 46, 112, 46, 112, 46, 46, 10, 46, 46, 46, 46, 46, 46, 46, 115, 10, 46, 112, 46, 112, 46, 112, 46, 46, 10, 99, 46, 46, 46, 46, 46, 46, 115, 10]⟩ : ByteArray) [.string (⟨#[99, 46, 46, 46, 46, 46, 46, 46, 10, 46, 112, 46, 112, 46, 112, 46, 46, 10, 46, 46, 46, 46, 46, 46, 46, 115, 10, 46, 112, 46, 112, 46, 112, 46, 46, 10, 99, 46, 46, 46, 46, 46, 46, 115, 10]⟩ : ByteArray)] from rfl) (Reps.one (show Kd.M Kd.string _ _ _ (⟨#[46, 46, 10, 46, 46, 10]⟩ : ByteArray) [.string (⟨#[46, 46, 10, 46, 46, 10]⟩ : ByteArray)] from rfl) (Reps.one (show Kd.M Kd.string _ _ _ (⟨#[99, 46, 35, 46, 115, 10, 46, 46, 35, 46, 46, 10]⟩ : ByteArray) [.string (⟨#[99, 46, 35, 46, 115, 10, 46, 46, 35, 46, 46, 10]⟩ : ByteArray)] from rfl) (Reps.none _ _))))))))); intro v350 w8 ho9 hb hg_ hnew_; clear hg_ hnew_; (first | rw [← Ny349.out] at ho9 | (simp only [Int.reduceToNat] at ho9; rw [← Ny349.out] at ho9)); have n0_ := Aside0.mk (Kd.R_lower ho9 (keep_size (w := w) (g := g) (row := none) qz9)); have n1_ := Aside0.mk (IsS117.below (by repeat (first | (with_reducible first | exact HI0.out | apply IsS117.alloc | apply IsS117.drewN | apply IsS117.drew | apply IsS117.set_1 | apply IsS117.set_2 | refine IsS117.far ?_ NB0_345.out _) | exact HI0.out)) hb); have n2_ := Aside0.mk (blk_below (g := gb345) (o := .cells #[.int .i64 0, .int .i64 0, .slice none 0 0] 27 (0, 0)) qz15 hb); have n3_ := Aside0.mk (KeepBut.trans qz9 (KeepBut.of_below hb g none) (.inl rfl)); have n4_ := Aside0.mk (below_step (by repeat (first | (with_reducible first | exact HB.out | apply below_alloc | apply pw_below_drewN | apply below_drew1 | refine below_set ?_ (IsS117.ge HI0.out) | refine below_set ?_ GE345.out) | exact HB.out)) hb); clear HI0; clear BK345; clear HK; clear HB; have HO351 := n0_; have HI0 := n1_; have BK345 := n2_; have HK := n3_; have HB := n4_; clear n0_ n1_ n2_ n3_ n4_; clear hb ho9; obtain ⟨Ao10, co10, eo10⟩ := Kd.R_slice HO351.out; subst eo10) | ((with_reducible refine gate_callee (f := 118) rfl ?_); refine goesL_ (some 12) rfl rfl Try.func118 (by kernel_rfl) rfl #[.pointer (some ⟨g, 0, none⟩), .slice Ao10 y349.length co10] rfl qz2 ?_; (with_reducible refine (spec_l1Str.calls g s0_0 t347 t348 _ _ y349 t352 t353 t354 w0 _ ?side1 ?side2 ?side3 ?side4 ?side5 A4.out).mono ?_); (case side1 => repeat (first | (with_reducible first | exact HI0.out | apply IsS117.alloc | apply IsS117.drewN | apply IsS117.drew | apply IsS117.set_1 | apply IsS117.set_2 | refine IsS117.far ?_ NB0_345.out _) | exact HI0.out)); (case side2 => repeat (first | (with_reducible first | exact HB.out | apply below_alloc | apply pw_below_drewN | apply below_drew1 | refine below_set ?_ (IsS117.ge HI0.out) | refine below_set ?_ GE345.out) | exact HB.out)); (case side3 => repeat (first | exact (Kd.R_reads' HO351.out).2.2 | (with_reducible refine Kd.C_alloc ?_ _) | (with_reducible refine Kd.C_drewN ?_ _) | (with_reducible refine Kd.C_drew ?_))); (case side4 => exact (Kd.R_reads' HO351.out).2.1); (case side5 => exact far_slice (IsS117.own_ne HI0.out HO351.out (by decide))); rintro e w11 ⟨rfl, hi, hb, hk⟩; refine ⟨_, rfl, ?_⟩; have n0_ := Aside0.mk (KeepBut.blk hk (g' := gb345) (o := .cells #[.int .i64 0, .int .i64 0, .slice none 0 0] 27 (0, 0)) qz15 NB345_0.out (by simp)); have n1_ := Aside0.mk (Kd.R_mono (Kd.R_keep (IsS117.apart (show IsS117 w0 _ g s0_0 t347 t348 from by repeat (first | (with_reducible first | exact HI0.out | apply IsS117.alloc | apply IsS117.drewN | apply IsS117.drew | apply IsS117.set_1 | apply IsS117.set_2 | refine IsS117.far ?_ NB0_345.out _) | exact HI0.out)) (by (with_reducible repeat (first | apply Kd.R_alloc | apply Kd.R_drewN | apply Kd.R_drew)); exact HO351.out) (by decide)) hk (fun _ h => h.2)) (fun _ h => h.1)); have n2_ := Aside0.mk (KeepBut.trans qz9 hk (.inl rfl)); have n3_ := Aside0.mk (hb); have n4_ := Aside0.mk (hi); clear BK345; clear HO351; clear HK; clear HB; clear HI0; have BK345 := n0_; have HO351 := n1_; have HK := n2_; have HB := n3_; have HI0 := n4_; clear n0_ n1_ n2_ n3_ n4_; (try clear hb); (try clear hb2); (try clear hk); (try clear hi)) | ((with_reducible refine gate_callee (f := 117) rfl ?_); refine goesL_ (some 13) rfl rfl Try.func117 (by kernel_rfl) rfl #[.string t352] rfl qz2 ?_; (with_reducible refine (spec_ParseFloor.calls k t352 t355 t356 t357 t360 _ A5.out).mono ?_); rintro e w12 ⟨v358, rfl, ho0, hb⟩; refine ⟨_, rfl, ?_⟩; have n0_ := Aside0.mk (Kd.R_below (by (with_reducible repeat (first | apply Kd.R_alloc | apply Kd.R_drewN | apply Kd.R_drew)); exact HO351.out) hb); have n1_ := Aside0.mk (Kd.R_lower ho0 (keep_size (w := w) (g := g) (row := none) qz9)); have n2_ := Aside0.mk (IsS117.below (by repeat (first | (with_reducible first | exact HI0.out | apply IsS117.alloc | apply IsS117.drewN | apply IsS117.drew | apply IsS117.set_1 | apply IsS117.set_2 | refine IsS117.far ?_ NB0_345.out _) | exact HI0.out)) hb); have n3_ := Aside0.mk (blk_below (g := gb345) (o := .cells #[.int .i64 0, .int .i64 0, .slice none 0 0] 27 (0, 0)) qz15 hb); have n4_ := Aside0.mk (KeepBut.trans qz9 (KeepBut.of_below hb g none) (.inl rfl)); have n5_ := Aside0.mk (below_step (by repeat (first | (with_reducible first | exact HB.out | apply below_alloc | apply pw_below_drewN | apply below_drew1 | refine below_set ?_ (IsS117.ge HI0.out) | refine below_set ?_ GE345.out) | exact HB.out)) hb); clear HO351; clear HI0; clear BK345; clear HK; clear HB; have HO351 := n0_; have HO359 := n1_; have HI0 := n2_; have BK345 := n3_; have HK := n4_; have HB := n5_; clear n0_ n1_ n2_ n3_ n4_ n5_; (try clear hb); (try clear hb2); (try clear hk); (try clear hi); (try clear ho0)) | ((with_reducible refine gate_dst (N := 3) rfl ?_); refine box_event ?hg (N := 3) ?hd (cs := #[.int .i64 0, .int .i64 0, .slice none 0 0]) (t := 27) ?hr ?_; (case hd => rfl); (case hg => rfl); (case hr => first | (go_simp; done) | (go_simp; rfl)); intro gb361 hg w13 hbox hb; have n0_ := Aside0.mk (Kd.R_below (by (with_reducible repeat (first | apply Kd.R_alloc | apply Kd.R_drewN | apply Kd.R_drew)); exact HO351.out) hb); have n1_ := Aside0.mk (Kd.R_below (by (with_reducible repeat (first | apply Kd.R_alloc | apply Kd.R_drewN | apply Kd.R_drew)); exact HO359.out) hb); have n2_ := Aside0.mk (IsS117.below (by repeat (first | (with_reducible first | exact HI0.out | apply IsS117.alloc | apply IsS117.drewN | apply IsS117.drew | apply IsS117.set_1 | apply IsS117.set_2 | refine IsS117.far ?_ NB0_345.out _) | exact HI0.out)) hb); have n3_ := Aside0.mk (blk_below (g := gb345) (o := .cells #[.int .i64 0, .int .i64 0, .slice none 0 0] 27 (0, 0)) qz15 hb); have n4_ := Aside0.mk (KeepBut.trans qz9 (KeepBut.of_below hb g none) (.inl rfl)); have n5_ := Aside0.mk (below_step (by repeat (first | (with_reducible first | exact HB.out | apply below_alloc | apply pw_below_drewN | apply below_drew1 | refine below_set ?_ (IsS117.ge HI0.out) | refine below_set ?_ GE345.out) | exact HB.out)) hb); have n6_ := Aside0.mk (hbox); have n7_ := Aside0.mk ((by rw [hg]; exact (keep_size (w := w) (g := g) (row := none) qz9) : w.heap.size ≤ gb361)); have n8_ := Aside0.mk ((Nat.le_trans HW0.out (by rw [hg]; exact (keep_size (w := w) (g := g) (row := none) qz9) : w.heap.size ≤ gb361) : w0.heap.size ≤ gb361)); have n9_ := Aside0.mk ((by rw [hg]; exact Nat.ne_of_lt (blk_lt (g := gb345) (o := .cells #[.int .i64 0, .int .i64 0, .slice none 0 0] 27 (0, 0)) qz15) : gb345 ≠ gb361)); have n10_ := Aside0.mk ((by rw [hg]; exact Nat.ne_of_gt (blk_lt (g := gb345) (o := .cells #[.int .i64 0, .int .i64 0, .slice none 0 0] 27 (0, 0)) qz15) : gb361 ≠ gb345)); have n11_ := Aside0.mk ((by rw [hg]; exact Nat.ne_of_lt (IsS117.lt (show IsS117 w0 _ g s0_0 t353 t354 from by repeat (first | (with_reducible first | exact HI0.out | apply IsS117.alloc | apply IsS117.drewN | apply IsS117.drew | apply IsS117.set_1 | apply IsS117.set_2 | refine IsS117.far ?_ NB0_345.out _) | exact HI0.out))) : g ≠ gb361)); have n12_ := Aside0.mk ((by rw [hg]; exact Nat.ne_of_gt (IsS117.lt (show IsS117 w0 _ g s0_0 t353 t354 from by repeat (first | (with_reducible first | exact HI0.out | apply IsS117.alloc | apply IsS117.drewN | apply IsS117.drew | apply IsS117.set_1 | apply IsS117.set_2 | refine IsS117.far ?_ NB0_345.out _) | exact HI0.out))) : gb361 ≠ g)); clear HO351; clear HO359; clear HI0; clear BK345; clear HK; clear HB; have HO351 := n0_; have HO359 := n1_; have HI0 := n2_; have BK345 := n3_; have HK := n4_; have HB := n5_; have BK361 := n6_; have GW361 := n7_; have GE361 := n8_; have NB345_361 := n9_; have NB361_345 := n10_; have NB0_361 := n11_; have NB361_0 := n12_; clear n0_ n1_ n2_ n3_ n4_ n5_ n6_ n7_ n8_ n9_ n10_ n11_ n12_; clear hb hbox hg; have hnb14 := NB361_345.out; have hnc14 := NB345_361.out; have hnb15 := NB361_0.out; have hnc15 := NB0_361.out; have hcz16_0 : w13.cell? ⟨gb361, 0, none⟩ = some (.int .i64 0) := (blk_cell BK361.out 0).trans rfl; have hcz16_1 : w13.cell? ⟨gb361, 1, none⟩ = some (.int .i64 0) := (blk_cell BK361.out 1).trans rfl; have hcz16_2 : w13.cell? ⟨gb361, 2, none⟩ = some (.slice none 0 0) := (blk_cell BK361.out 2).trans rfl; have hfz16_0 := blk_frozen BK361.out 0; have hfz16_1 := blk_frozen BK361.out 1; have hfz16_2 := blk_frozen BK361.out 2; obtain ⟨Ao17, co17, eo17⟩ := Kd.R_slice HO359.out; subst eo17; have hnb18 := NB345_0.out; have hnc18 := NB0_345.out; have hcz19_0 : w13.cell? ⟨gb345, 0, none⟩ = some (.int .i64 0) := (blk_cell BK345.out 0).trans rfl; have hcz19_1 : w13.cell? ⟨gb345, 1, none⟩ = some (.int .i64 0) := (blk_cell BK345.out 1).trans rfl; have hcz19_2 : w13.cell? ⟨gb345, 2, none⟩ = some (.slice none 0 0) := (blk_cell BK345.out 2).trans rfl; have hfz19_0 := blk_frozen BK345.out 0; have hfz19_1 := blk_frozen BK345.out 1; have hfz19_2 := blk_frozen BK345.out 2))
    refine bodyPost_ret (results_cell_row rfl _ _ gb345 27 #[.int .i64 t355, .int .i64 t356, .slice Ao17 t357.length co17] (0, 0) _ rfl (by (with_reducible repeat (first | refine blk_drewN ?_ _ | refine blk_drew ?_ | refine blk_alloc ?_ _)); refine blk_put (cs := #[.int .i64 t355, .int .i64 t356, .slice none 0 0]) ?_ 2 _ rfl; (with_reducible repeat (first | refine blk_drewN ?_ _ | refine blk_drew ?_ | refine blk_alloc ?_ _)); refine blk_put (cs := #[.int .i64 t355, .int .i64 0, .slice none 0 0]) ?_ 1 _ rfl; (with_reducible repeat (first | refine blk_drewN ?_ _ | refine blk_drew ?_ | refine blk_alloc ?_ _)); refine blk_put (cs := #[.int .i64 0, .int .i64 0, .slice none 0 0]) ?_ 0 _ rfl; (with_reducible repeat (first | refine blk_drewN ?_ _ | refine blk_drew ?_ | refine blk_alloc ?_ _)); refine blk_far ?_ NB345_361.out _; (with_reducible repeat (first | refine blk_drewN ?_ _ | refine blk_drew ?_ | refine blk_alloc ?_ _)); refine blk_far ?_ NB345_361.out _; (with_reducible repeat (first | refine blk_drewN ?_ _ | refine blk_drew ?_ | refine blk_alloc ?_ _)); refine blk_far ?_ NB345_361.out _; (with_reducible repeat (first | refine blk_drewN ?_ _ | refine blk_drew ?_ | refine blk_alloc ?_ _)); exact BK345.out) Try.underlying27 rfl (by kernel_rfl)) rfl ?_
    exact ⟨_, by first | rfl | (simp [errW_none, errW_some] <;> rfl) | (simp [*, errW_none, errW_some] <;> rfl), by (with_reducible repeat (first | apply Kd.R_alloc | apply Kd.R_drewN | apply Kd.R_drew)); exact Kd.R_mono (Kd.R_far (p := ⟨gb345, 2, none⟩) (Kd.R_far (p := ⟨gb345, 1, none⟩) (Kd.R_far (p := ⟨gb345, 0, none⟩) (Kd.R_far (p := ⟨gb361, 2, none⟩) (Kd.R_far (p := ⟨gb361, 1, none⟩) (Kd.R_far (p := ⟨gb361, 0, none⟩) (Kd.R_types (Kd.R_types HO359.out BK361.out (by decide)) BK345.out (by decide)) (fun _ hk => hk.1.2) (.int .i64 t355)) (fun _ hk => hk.1.2) (.int .i64 t356)) (fun _ hk => hk.1.2) (.slice Ao17 t357.length co17)) (fun _ hk => hk.2) (.int .i64 t355)) (fun _ hk => hk.2) (.int .i64 t356)) (fun _ hk => hk.2) (.slice Ao17 t357.length co17)) (fun _ hk => trivial), by repeat (first | (with_reducible first | exact HI0.out | apply IsS117.alloc | apply IsS117.drewN | apply IsS117.drew | apply IsS117.set_1 | apply IsS117.set_2 | refine IsS117.far ?_ NB0_345.out _ | refine IsS117.far ?_ NB0_361.out _) | exact HI0.out), by repeat (first | (with_reducible first | exact HB.out | apply below_alloc | apply pw_below_drewN | apply below_drew1 | refine below_set ?_ (IsS117.ge HI0.out) | refine below_set ?_ GE345.out | refine below_set ?_ GE361.out) | exact HB.out), by repeat (first | (with_reducible first | exact HK.out | apply KeepBut.set_ | apply keep_drewN | apply keep_drew | apply keep_alloc | refine keep_far ?_ GW345.out _ | refine keep_far ?_ GW361.out _) | exact HK.out)⟩
  · replace c3 := Bool.eq_false_iff.mpr c3
    subst c3
    have H1 : ((spec_l1Below.f s0_0 t347 t348 7).bind fun bt362 => ((spec_l1Below.f s0_0 bt362.2.1 bt362.2.2 6).bind fun bt365 => (spec_l1Floor.l0 k 0 s0_0 bt365.2.1 bt365.2.2 (wrap64 (1 + bt362.1)) (wrap64 (1 + bt365.1)) ([] : List Int)))) = some (r1, r2, r3, r4, r5) := by rw [if_neg (show ¬ (false = true) by decide)] at H; exact H
    clear H
    have H := H1
    clear H1
    replace H := Option.bind_eq_some_iff.mp H
    obtain ⟨⟨t362, t363, t364⟩, A200, H⟩ := H
    replace H : ((spec_l1Below.f s0_0 t363 t364 6).bind fun bt365 => (spec_l1Floor.l0 k 0 s0_0 bt365.2.1 bt365.2.2 (wrap64 (1 + t362)) (wrap64 (1 + bt365.1)) ([] : List Int))) = some (r1, r2, r3, r4, r5) := H
    have A20 := Aside0.mk A200
    clear A200
    replace H := Option.bind_eq_some_iff.mp H
    obtain ⟨⟨t365, t366, t367⟩, A210, H⟩ := H
    replace H : (spec_l1Floor.l0 k 0 s0_0 t366 t367 (wrap64 (1 + t362)) (wrap64 (1 + t365)) ([] : List Int)) = some (r1, r2, r3, r4, r5) := H
    have A21 := Aside0.mk A210
    clear A210
    have H' := Aside0.mk H
    clear H
    go_enter Try.func80, Try.ntmps80
    go_wp2_with (first | ((with_reducible refine gate_dst (N := 2) rfl ?_); refine box_event ?hg (N := 2) ?hd (cs := #[.int .i64 0, .int .i64 0, .slice none 0 0]) (t := 27) ?hr ?_; (case hd => rfl); (case hg => rfl); (case hr => first | (go_simp; done) | (go_simp; rfl)); intro gb345 hg w22 hbox hb; have n0_ := Aside0.mk (IsS117.below (by repeat (first | (with_reducible first | exact HI0.out | apply IsS117.alloc | apply IsS117.drewN | apply IsS117.drew | apply IsS117.set_1 | apply IsS117.set_2) | exact HI0.out)) hb); have n1_ := Aside0.mk (KeepBut.trans qz14 (KeepBut.of_below hb g none) (.inl rfl)); have n2_ := Aside0.mk (below_step (by repeat (first | (with_reducible first | exact HB.out | apply below_alloc | apply pw_below_drewN | apply below_drew1 | refine below_set ?_ (IsS117.ge HI0.out)) | exact HB.out)) hb); have n3_ := Aside0.mk (hbox); have n4_ := Aside0.mk ((by rw [hg]; exact (keep_size (w := w) (g := g) (row := none) qz14) : w.heap.size ≤ gb345)); have n5_ := Aside0.mk ((Nat.le_trans HW0.out (by rw [hg]; exact (keep_size (w := w) (g := g) (row := none) qz14) : w.heap.size ≤ gb345) : w0.heap.size ≤ gb345)); have n6_ := Aside0.mk ((by rw [hg]; exact Nat.ne_of_lt (IsS117.lt (show IsS117 w0 _ g s0_0 s0_1 s0_2 from by repeat (first | (with_reducible first | exact HI0.out | apply IsS117.alloc | apply IsS117.drewN | apply IsS117.drew | apply IsS117.set_1 | apply IsS117.set_2) | exact HI0.out))) : g ≠ gb345)); have n7_ := Aside0.mk ((by rw [hg]; exact Nat.ne_of_gt (IsS117.lt (show IsS117 w0 _ g s0_0 s0_1 s0_2 from by repeat (first | (with_reducible first | exact HI0.out | apply IsS117.alloc | apply IsS117.drewN | apply IsS117.drew | apply IsS117.set_1 | apply IsS117.set_2) | exact HI0.out))) : gb345 ≠ g)); clear HI0; clear HK; clear HB; have HI0 := n0_; have HK := n1_; have HB := n2_; have BK345 := n3_; have GW345 := n4_; have GE345 := n5_; have NB0_345 := n6_; have NB345_0 := n7_; clear n0_ n1_ n2_ n3_ n4_ n5_ n6_ n7_; clear hb hbox hg) | ((with_reducible refine gate_callee (f := 116) rfl ?_); refine goesL_ (some 8) rfl rfl Try.func116 (by kernel_rfl) rfl #[.pointer (some ⟨g, 0, none⟩), .int .i64 3] rfl qz2 ?_; (with_reducible refine (spec_l1Once.calls g s0_0 s0_1 s0_2 3 false t347 t348 w0 _ ?side1 ?side2 A2.out).mono ?_); (case side1 => repeat (first | (with_reducible first | exact HI0.out | apply IsS117.alloc | apply IsS117.drewN | apply IsS117.drew | apply IsS117.set_1 | apply IsS117.set_2 | refine IsS117.far ?_ NB0_345.out _) | exact HI0.out)); (case side2 => repeat (first | (with_reducible first | exact HB.out | apply below_alloc | apply pw_below_drewN | apply below_drew1 | refine below_set ?_ (IsS117.ge HI0.out) | refine below_set ?_ GE345.out) | exact HB.out)); rintro e w23 ⟨rfl, hi, hb, hk⟩; refine ⟨_, rfl, ?_⟩; have n0_ := Aside0.mk (KeepBut.blk hk (g' := gb345) (o := .cells #[.int .i64 0, .int .i64 0, .slice none 0 0] 27 (0, 0)) qz15 NB345_0.out (by simp)); have n1_ := Aside0.mk (KeepBut.trans qz9 hk (.inl rfl)); have n2_ := Aside0.mk (hb); have n3_ := Aside0.mk (hi); clear BK345; clear HK; clear HB; clear HI0; have BK345 := n0_; have HK := n1_; have HB := n2_; have HI0 := n3_; clear n0_ n1_ n2_ n3_; (try clear hb); (try clear hb2); (try clear hk); (try clear hi)) | ((with_reducible refine gate_callee (f := 81) rfl ?_); refine goesL_ (some 18) rfl rfl Try.func81 (by kernel_rfl) rfl #[.pointer (some ⟨g, 0, none⟩), .int .i64 7] rfl qz2 ?_; (with_reducible refine (spec_l1Below.calls g s0_0 t347 t348 7 t362 t363 t364 w0 _ ?side1 ?side2 A20.out).mono ?_); (case side1 => repeat (first | (with_reducible first | exact HI0.out | apply IsS117.alloc | apply IsS117.drewN | apply IsS117.drew | apply IsS117.set_1 | apply IsS117.set_2 | refine IsS117.far ?_ NB0_345.out _) | exact HI0.out)); (case side2 => repeat (first | (with_reducible first | exact HB.out | apply below_alloc | apply pw_below_drewN | apply below_drew1 | refine below_set ?_ (IsS117.ge HI0.out) | refine below_set ?_ GE345.out) | exact HB.out)); rintro e w24 ⟨rfl, hi, hb, hk⟩; refine ⟨_, rfl, ?_⟩; have n0_ := Aside0.mk (KeepBut.blk hk (g' := gb345) (o := .cells #[.int .i64 0, .int .i64 0, .slice none 0 0] 27 (0, 0)) qz15 NB345_0.out (by simp)); have n1_ := Aside0.mk (KeepBut.trans qz9 hk (.inl rfl)); have n2_ := Aside0.mk (hb); have n3_ := Aside0.mk (hi); clear BK345; clear HK; clear HB; clear HI0; have BK345 := n0_; have HK := n1_; have HB := n2_; have HI0 := n3_; clear n0_ n1_ n2_ n3_; (try clear hb); (try clear hb2); (try clear hk); (try clear hi)) | ((with_reducible refine gate_callee (f := 81) rfl ?_); refine goesL_ (some 21) rfl rfl Try.func81 (by kernel_rfl) rfl #[.pointer (some ⟨g, 0, none⟩), .int .i64 6] rfl qz2 ?_; (with_reducible refine (spec_l1Below.calls g s0_0 t363 t364 6 t365 t366 t367 w0 _ ?side1 ?side2 A21.out).mono ?_); (case side1 => repeat (first | (with_reducible first | exact HI0.out | apply IsS117.alloc | apply IsS117.drewN | apply IsS117.drew | apply IsS117.set_1 | apply IsS117.set_2 | refine IsS117.far ?_ NB0_345.out _) | exact HI0.out)); (case side2 => repeat (first | (with_reducible first | exact HB.out | apply below_alloc | apply pw_below_drewN | apply below_drew1 | refine below_set ?_ (IsS117.ge HI0.out) | refine below_set ?_ GE345.out) | exact HB.out)); rintro e w25 ⟨rfl, hi, hb, hk⟩; refine ⟨_, rfl, ?_⟩; have n0_ := Aside0.mk (KeepBut.blk hk (g' := gb345) (o := .cells #[.int .i64 0, .int .i64 0, .slice none 0 0] 27 (0, 0)) qz15 NB345_0.out (by simp)); have n1_ := Aside0.mk (KeepBut.trans qz9 hk (.inl rfl)); have n2_ := Aside0.mk (hb); have n3_ := Aside0.mk (hi); clear BK345; clear HK; clear HB; clear HI0; have BK345 := n0_; have HK := n1_; have HB := n2_; have HI0 := n3_; clear n0_ n1_ n2_ n3_; (try clear hb); (try clear hb2); (try clear hk); (try clear hi)) | ((with_reducible refine gate_dst (N := 5) rfl ?_); refine box_event ?hg (N := 5) ?hd (cs := #[.int .i64 0, .int .i64 0, .slice none 0 0]) (t := 27) ?hr ?_; (case hd => rfl); (case hg => rfl); (case hr => first | (go_simp; done) | (go_simp; rfl)); intro gb368 hg w26 hbox hb; have n0_ := Aside0.mk (IsS117.below (by repeat (first | (with_reducible first | exact HI0.out | apply IsS117.alloc | apply IsS117.drewN | apply IsS117.drew | apply IsS117.set_1 | apply IsS117.set_2 | refine IsS117.far ?_ NB0_345.out _) | exact HI0.out)) hb); have n1_ := Aside0.mk (blk_below (g := gb345) (o := .cells #[.int .i64 0, .int .i64 0, .slice none 0 0] 27 (0, 0)) qz15 hb); have n2_ := Aside0.mk (KeepBut.trans qz9 (KeepBut.of_below hb g none) (.inl rfl)); have n3_ := Aside0.mk (below_step (by repeat (first | (with_reducible first | exact HB.out | apply below_alloc | apply pw_below_drewN | apply below_drew1 | refine below_set ?_ (IsS117.ge HI0.out) | refine below_set ?_ GE345.out) | exact HB.out)) hb); have n4_ := Aside0.mk (hbox); have n5_ := Aside0.mk ((by rw [hg]; exact (keep_size (w := w) (g := g) (row := none) qz9) : w.heap.size ≤ gb368)); have n6_ := Aside0.mk ((Nat.le_trans HW0.out (by rw [hg]; exact (keep_size (w := w) (g := g) (row := none) qz9) : w.heap.size ≤ gb368) : w0.heap.size ≤ gb368)); have n7_ := Aside0.mk ((by rw [hg]; exact Nat.ne_of_lt (blk_lt (g := gb345) (o := .cells #[.int .i64 0, .int .i64 0, .slice none 0 0] 27 (0, 0)) qz15) : gb345 ≠ gb368)); have n8_ := Aside0.mk ((by rw [hg]; exact Nat.ne_of_gt (blk_lt (g := gb345) (o := .cells #[.int .i64 0, .int .i64 0, .slice none 0 0] 27 (0, 0)) qz15) : gb368 ≠ gb345)); have n9_ := Aside0.mk ((by rw [hg]; exact Nat.ne_of_lt (IsS117.lt (show IsS117 w0 _ g s0_0 t366 t367 from by repeat (first | (with_reducible first | exact HI0.out | apply IsS117.alloc | apply IsS117.drewN | apply IsS117.drew | apply IsS117.set_1 | apply IsS117.set_2 | refine IsS117.far ?_ NB0_345.out _) | exact HI0.out))) : g ≠ gb368)); have n10_ := Aside0.mk ((by rw [hg]; exact Nat.ne_of_gt (IsS117.lt (show IsS117 w0 _ g s0_0 t366 t367 from by repeat (first | (with_reducible first | exact HI0.out | apply IsS117.alloc | apply IsS117.drewN | apply IsS117.drew | apply IsS117.set_1 | apply IsS117.set_2 | refine IsS117.far ?_ NB0_345.out _) | exact HI0.out))) : gb368 ≠ g)); clear HI0; clear BK345; clear HK; clear HB; have HI0 := n0_; have BK345 := n1_; have HK := n2_; have HB := n3_; have BK368 := n4_; have GW368 := n5_; have GE368 := n6_; have NB345_368 := n7_; have NB368_345 := n8_; have NB0_368 := n9_; have NB368_0 := n10_; clear n0_ n1_ n2_ n3_ n4_ n5_ n6_ n7_ n8_ n9_ n10_; clear hb hbox hg; have hnb27 := NB368_345.out; have hnc27 := NB345_368.out; have hnb28 := NB368_0.out; have hnc28 := NB0_368.out; have hcz29_0 : w26.cell? ⟨gb368, 0, none⟩ = some (.int .i64 0) := (blk_cell BK368.out 0).trans rfl; have hcz29_1 : w26.cell? ⟨gb368, 1, none⟩ = some (.int .i64 0) := (blk_cell BK368.out 1).trans rfl; have hcz29_2 : w26.cell? ⟨gb368, 2, none⟩ = some (.slice none 0 0) := (blk_cell BK368.out 2).trans rfl; have hfz29_0 := blk_frozen BK368.out 0; have hfz29_1 := blk_frozen BK368.out 1; have hfz29_2 := blk_frozen BK368.out 2))
    go_loopg [6] k (fun kq v6 w' => ∃ (x6_1 : Int) (x1001_1 : Int) (x1002_1 : Int) (x369002_1 : List Int) (u369002 : Value), v6 = .int .i64 x6_1 ∧ Aside0 (spec_l1Floor.l0 kq x6_1 s0_0 x1001_1 x1002_1 (wrap64 (1 + t362)) (wrap64 (1 + t365)) x369002_1 = some (r1, r2, r3, r4, r5)) ∧ Aside0 (kq ≤ k) ∧ Aside0 (Kd.R (Kd.int .i64) 3 w' w.heap.size (fun _ => True) u369002 x369002_1) ∧ Aside0 (w'.heap[gb345]? = some (.cells #[.int .i64 0, .int .i64 0, (.slice none 0 0)] 27 (0, 0))) ∧ Aside0 (w'.heap[gb368]? = some (.cells #[.int .i64 (wrap64 (1 + t362)), .int .i64 (wrap64 (1 + t365)), u369002] 27 (0, 0))) ∧ Aside0 (IsS117 w0 w' g s0_0 x1001_1 x1002_1) ∧ Aside0 (KeepBut w w' g none) ∧ Aside0 (Below w0.heap.size w0 w'))
    case atStart => exact ⟨(0), (t366), (t367), (([] : List Int)), (.slice none 0 0), qz5, H', ⟨Nat.le_refl _⟩, ⟨by first | exact Kd.R_nil _ _ _ _ _ | exact Kd.N_nil _ _ _ _ _ | exact Kd.V_nil _ _ _ _ _ | exact Kd.Q_nil _ _ _ _ _ | exact Kd.S_nil _ _ _ _ _⟩, ⟨by (with_reducible repeat (first | refine blk_drewN ?_ _ | refine blk_drew ?_ | refine blk_alloc ?_ _)); refine blk_far ?_ NB345_368.out _; (with_reducible repeat (first | refine blk_drewN ?_ _ | refine blk_drew ?_ | refine blk_alloc ?_ _)); refine blk_far ?_ NB345_368.out _; (with_reducible repeat (first | refine blk_drewN ?_ _ | refine blk_drew ?_ | refine blk_alloc ?_ _)); refine blk_far ?_ NB345_368.out _; (with_reducible repeat (first | refine blk_drewN ?_ _ | refine blk_drew ?_ | refine blk_alloc ?_ _)); exact BK345.out⟩, ⟨by (with_reducible repeat (first | refine blk_drewN ?_ _ | refine blk_drew ?_ | refine blk_alloc ?_ _)); refine blk_put (cs := #[.int .i64 (wrap64 (1 + t362)), .int .i64 (wrap64 (1 + t365)), .slice none 0 0]) ?_ 2 _ rfl; (with_reducible repeat (first | refine blk_drewN ?_ _ | refine blk_drew ?_ | refine blk_alloc ?_ _)); refine blk_put (cs := #[.int .i64 (wrap64 (1 + t362)), .int .i64 0, .slice none 0 0]) ?_ 1 _ rfl; (with_reducible repeat (first | refine blk_drewN ?_ _ | refine blk_drew ?_ | refine blk_alloc ?_ _)); refine blk_put (cs := #[.int .i64 0, .int .i64 0, .slice none 0 0]) ?_ 0 _ rfl; (with_reducible repeat (first | refine blk_drewN ?_ _ | refine blk_drew ?_ | refine blk_alloc ?_ _)); exact BK368.out⟩, ⟨by repeat (first | (with_reducible first | exact HI0.out | apply IsS117.alloc | apply IsS117.drewN | apply IsS117.drew | apply IsS117.set_1 | apply IsS117.set_2 | refine IsS117.far ?_ NB0_345.out _ | refine IsS117.far ?_ NB0_368.out _) | exact HI0.out)⟩, ⟨by repeat (first | (with_reducible first | exact HK.out | apply KeepBut.set_ | apply keep_drewN | apply keep_drew | apply keep_alloc | refine keep_far ?_ GW345.out _ | refine keep_far ?_ GW368.out _) | exact HK.out)⟩, ⟨by repeat (first | (with_reducible first | exact HB.out | apply below_alloc | apply pw_below_drewN | apply below_drew1 | refine below_set ?_ (IsS117.ge HI0.out) | refine below_set ?_ GE345.out | refine below_set ?_ GE368.out) | exact HB.out)⟩⟩
    case round =>
      clear H'
      try clear c1
      try clear c2
      try clear p2
      try clear c3
      try clear p6
      try clear c8
      try clear c11
      try clear c14
      try clear c15
      try clear c18
      try clear c27
      try clear c28
      try clear hcz16_0
      try clear hcz16_1
      try clear hcz16_2
      try clear hcz19_0
      try clear hcz19_1
      try clear hcz19_2
      try clear hcz29_0
      try clear hcz29_1
      try clear hcz29_2
      try clear hfz16_0
      try clear hfz16_1
      try clear hfz16_2
      try clear hfz19_0
      try clear hfz19_1
      try clear hfz19_2
      try clear hfz29_0
      try clear hfz29_1
      try clear hfz29_2
      obtain ⟨x6_1, x1001_1, x1002_1, x369002_1, u369002, rfl, HA, HK1, HO_369002, BK345, BK368, HI0, HK, HB⟩ := hrel
      cases gk with
      | zero => exact absurd HA.out (by simp [spec_l1Floor.l0])
      | succ k1 =>
        have H := HA.out
        clear HA
        simp only [spec_l1Floor.l0] at H
        by_cases c30 : x6_1 < (wrap64 ((wrap64 (1 + t362)) * (wrap64 (1 + t365))))
        · rw [if_pos c30] at H
          have c30b0 : decide (x6_1 < (wrap64 ((wrap64 (1 + t362)) * (wrap64 (1 + t365))))) = true := decide_eq_true c30
          clear c30
          obtain ⟨y369, hy369⟩ : ∃ y_ : List Int, y_ = (([1, 1, 1, 1, 1, 1, 0, 2, 3, 4] : List Int)) := ⟨_, rfl⟩
          replace H : ((spec_l1Int.f s0_0 x1001_1 x1002_1 y369).bind fun bt372 => (if x369002_1.length < 17592186044416 then (spec_l1Floor.l0 k1 (wrap64 (x6_1 + 1)) s0_0 bt372.2.1 bt372.2.2 (wrap64 (1 + t362)) (wrap64 (1 + t365)) (x369002_1 ++ [bt372.1])) else (none))) = some (r1, r2, r3, r4, r5) := by first | (rw [hy369]; with_reducible exact H) | (have H2_ := (Option.bind_some _ _).symm.trans H; rw [hy369]; with_reducible exact H2_) | (have H2_ := (Option.bind_some _ _).symm.trans H; with_reducible exact H2_) | with_reducible exact H | (rw [hy369]; exact H) | exact H
          have Ny369 := Aside0.mk hy369
          clear hy369
          replace H := Option.bind_eq_some_iff.mp H
          obtain ⟨⟨t372, t373, t374⟩, A310, H⟩ := H
          replace H : (if x369002_1.length < 17592186044416 then (spec_l1Floor.l0 k1 (wrap64 (x6_1 + 1)) s0_0 t373 t374 (wrap64 (1 + t362)) (wrap64 (1 + t365)) (x369002_1 ++ [t372])) else (none)) = some (r1, r2, r3, r4, r5) := H
          have A31 := Aside0.mk A310
          clear A310
          by_cases c32 : x369002_1.length < 17592186044416
          · rw [if_pos c32] at H
            have LMc32 := Aside0.mk c32
            clear c32
            obtain ⟨y375, hy375⟩ : ∃ y_ : List Int, y_ = (x369002_1 ++ [t372]) := ⟨_, rfl⟩
            replace H : (spec_l1Floor.l0 k1 (wrap64 (x6_1 + 1)) s0_0 t373 t374 (wrap64 (1 + t362)) (wrap64 (1 + t365)) y375) = some (r1, r2, r3, r4, r5) := by first | (rw [hy375]; with_reducible exact H) | (have H2_ := (Option.bind_some _ _).symm.trans H; rw [hy375]; with_reducible exact H2_) | (have H2_ := (Option.bind_some _ _).symm.trans H; with_reducible exact H2_) | with_reducible exact H | (rw [hy375]; exact H) | exact H
            have Ny375 := Aside0.mk hy375
            clear hy375
            have H' := Aside0.mk H
            clear H
            have hnb33 := NB368_345.out
            have hnc33 := NB345_368.out
            have hnb34 := NB368_0.out
            have hnc34 := NB0_368.out
            have hcz35_0 : wr.cell? ⟨gb368, 0, none⟩ = some (.int .i64 (wrap64 (1 + t362))) := (blk_cell BK368.out 0).trans rfl
            have hcz35_1 : wr.cell? ⟨gb368, 1, none⟩ = some (.int .i64 (wrap64 (1 + t365))) := (blk_cell BK368.out 1).trans rfl
            have hcz35_2 : wr.cell? ⟨gb368, 2, none⟩ = some (u369002) := (blk_cell BK368.out 2).trans rfl
            have hfz35_0 := blk_frozen BK368.out 0
            have hfz35_1 := blk_frozen BK368.out 1
            have hfz35_2 := blk_frozen BK368.out 2
            try go_wp2
            have n0_ := Aside0.mk (Kd.R_drew HO_369002.out)
            have n1_ := Aside0.mk (blk_drew BK345.out)
            have n2_ := Aside0.mk (blk_drew BK368.out)
            have n3_ := Aside0.mk (IsS117.drew HI0.out)
            have n4_ := Aside0.mk (keep_drew HK.out)
            have n5_ := Aside0.mk (below_drew1 HB.out)
            clear HO_369002
            clear BK345
            clear BK368
            clear HI0
            clear HK
            clear HB
            have HO_369002 := n0_
            have BK345 := n1_
            have BK368 := n2_
            have HI0 := n3_
            have HK := n4_
            have HB := n5_
            clear n0_ n1_ n2_ n3_ n4_ n5_
            refine start_ (n := 9) (S := fun w' => w'.cell? ⟨gb368, 0, none⟩ = some (.int .i64 (wrap64 (1 + t362))) ∧ w'.cell? ⟨gb368, 1, none⟩ = some (.int .i64 (wrap64 (1 + t365))) ∧ w'.cell? ⟨gb368, 2, none⟩ = some (u369002)) (ds := [8]) #[false, false, false, false, false, false, false, false, false] (by kernel_rfl) rfl rfl ⟨(blk_cell BK368.out 0).trans rfl, (blk_cell BK368.out 1).trans rfl, (blk_cell BK368.out 2).trans rfl⟩ (fun hHeld => ?_); refine with_tabW spec_l1Floor.tab8 spec_l1Floor.bits8 (fun HT_ HW_ => ?_)
            generalize wr.drew = w36 at HO_369002 BK345 BK368 HI0 HK HB hHeld ⊢
            refine pure_ (i := 0) (N := some 33) (v := ?_) (a' := ?_) #[true, false, false, false, false, false, false, false, false] rfl rfl (any_of HT_.out (by kernel_rfl)) (fun _ _ _ h => h) (Or.inl ⟨by rfl, ?_⟩) ?_ ?_
            rotate_left
            · intro w'
              go_simp
              with_reducible rfl
            rotate_left
            · simp only [Act.put, List.setIfInBounds_toArray, List.set_cons_zero, List.set_cons_succ, i64_w, i32_w]
              rfl
            refine pure_ (i := 2) (N := some 35) (v := ?_) (a' := ?_) #[true, false, true, false, false, false, false, false, false] rfl rfl (any_of HT_.out (by kernel_rfl)) (fun _ _ _ h => h) (Or.inl ⟨by rfl, ?_⟩) ?_ ?_
            rotate_left
            · intro w'
              go_simp
              with_reducible rfl
            rotate_left
            · simp only [Act.put, List.setIfInBounds_toArray, List.set_cons_zero, List.set_cons_succ, i64_w, i32_w]
              rfl
            refine take_ (i := 1) (N := some 34) (v := ?_) (a' := ?_) #[true, true, true, false, false, false, false, false, false] rfl rfl (take_ofW HT_.out HW_.out (by kernel_rfl)) (fun _ _ _ h => h) (Or.inl ⟨by rfl, ?_⟩) hHeld ?_ ?_
            rotate_left
            · rintro w' ⟨s0, s1, s2⟩
              go_simp
              with_reducible rfl
            rotate_left
            · simp only [Act.put, List.setIfInBounds_toArray, List.set_cons_zero, List.set_cons_succ, i64_w, i32_w]
              rfl
            refine one_ (i := 3) (N := some 36) #[true, true, true, true, false, false, false, false, false] rfl rfl (one_of HT_.out (by kernel_rfl)) (by decide) (fun K hK => ?_)
            refine Kd.R_lit_step (Kd.int .i64) _ 3 ?hg (N := 36) ?hd (xs := ([1, 1, 1, 1, 1, 1, 0, 2, 3, 4] : List Int)) (inner := [.int .i64 1, .int .i64 1, .int .i64 1, .int .i64 1, .int .i64 1, .int .i64 1, .int .i64 0, .int .i64 2, .int .i64 3, .int .i64 4]) (ok := fun _ => True) (okp := fun _ => True) ?hr ?hp (fun _ hk => hk) trivial (Below.refl _ _) (Nat.le_refl _) (by simp) ?_; (case hd => rfl); (case hg => rfl); (case hr => first | (go_simp; done) | (go_simp; rfl)); (case hp => exact (Reps.one (show Kd.M (Kd.int .i64) _ _ _ 1 [.int .i64 1] from rfl) (Reps.one (show Kd.M (Kd.int .i64) _ _ _ 1 [.int .i64 1] from rfl) (Reps.one (show Kd.M (Kd.int .i64) _ _ _ 1 [.int .i64 1] from rfl) (Reps.one (show Kd.M (Kd.int .i64) _ _ _ 1 [.int .i64 1] from rfl) (Reps.one (show Kd.M (Kd.int .i64) _ _ _ 1 [.int .i64 1] from rfl) (Reps.one (show Kd.M (Kd.int .i64) _ _ _ 1 [.int .i64 1] from rfl) (Reps.one (show Kd.M (Kd.int .i64) _ _ _ 0 [.int .i64 0] from rfl) (Reps.one (show Kd.M (Kd.int .i64) _ _ _ 2 [.int .i64 2] from rfl) (Reps.one (show Kd.M (Kd.int .i64) _ _ _ 3 [.int .i64 3] from rfl) (Reps.one (show Kd.M (Kd.int .i64) _ _ _ 4 [.int .i64 4] from rfl) (Reps.none _ _))))))))))))
            intro v370 w37 ho38 hb hg_ hnew_
            clear hg_ hnew_
            (first | rw [← Ny369.out] at ho38 | (simp only [Int.reduceToNat] at ho38; rw [← Ny369.out] at ho38))
            have n0_ := Aside0.mk (Kd.R_elder' (by (with_reducible repeat (first | apply Kd.R_alloc | apply Kd.R_drewN | apply Kd.R_drew)); exact HO_369002.out) (Kd.R_base ho38) hb)
            have n1_ := Aside0.mk (Kd.R_lower (Kd.R_new' ho38 (Kd.R_lt (by (with_reducible repeat (first | apply Kd.R_alloc | apply Kd.R_drewN | apply Kd.R_drew)); exact HO_369002.out))) (keep_size (w := w) (g := g) (row := none) (by repeat (first | (with_reducible first | exact HK.out | apply KeepBut.set_ | apply keep_drewN | apply keep_drew | apply keep_alloc | refine keep_far ?_ GW345.out _ | refine keep_far ?_ GW368.out _) | exact HK.out))))
            have n2_ := Aside0.mk (blk_below (g := gb345) (o := .cells #[.int .i64 0, .int .i64 0, .slice none 0 0] 27 (0, 0)) qz15 hb)
            have n3_ := Aside0.mk (blk_below (g := gb368) (o := .cells #[.int .i64 (wrap64 (1 + t362)), .int .i64 (wrap64 (1 + t365)), u369002] 27 (0, 0)) (by (with_reducible repeat (first | refine blk_drewN ?_ _ | refine blk_drew ?_ | refine blk_alloc ?_ _)); exact BK368.out) hb)
            have n4_ := Aside0.mk (IsS117.below (by repeat (first | (with_reducible first | exact HI0.out | apply IsS117.alloc | apply IsS117.drewN | apply IsS117.drew | apply IsS117.set_1 | apply IsS117.set_2 | refine IsS117.far ?_ NB0_345.out _ | refine IsS117.far ?_ NB0_368.out _) | exact HI0.out)) hb)
            have n5_ := Aside0.mk (KeepBut.trans (by repeat (first | (with_reducible first | exact HK.out | apply KeepBut.set_ | apply keep_drewN | apply keep_drew | apply keep_alloc | refine keep_far ?_ GW345.out _ | refine keep_far ?_ GW368.out _) | exact HK.out)) (KeepBut.of_below hb g none) (.inl rfl))
            have n6_ := Aside0.mk (below_step (by repeat (first | (with_reducible first | exact HB.out | apply below_alloc | apply pw_below_drewN | apply below_drew1 | refine below_set ?_ (IsS117.ge HI0.out) | refine below_set ?_ GE345.out | refine below_set ?_ GE368.out) | exact HB.out)) hb)
            clear HO_369002
            clear BK345
            clear BK368
            clear HI0
            clear HK
            clear HB
            have HO_369002 := n0_
            have HO371 := n1_
            have BK345 := n2_
            have BK368 := n3_
            have HI0 := n4_
            have HK := n5_
            have HB := n6_
            clear n0_ n1_ n2_ n3_ n4_ n5_ n6_
            clear hb ho38
            obtain ⟨Ao39, co39, eo39⟩ := Kd.R_slice HO371.out
            (first | subst eo39 | (injection eo39 with f1_ f2_ f3_; have f4_ := f1_.symm; have f5_ := f3_.symm; clear f1_ f2_ f3_; subst f4_; subst f5_))
            refine hK.out _ _ ⟨(blk_cell BK368.out 0).trans rfl, (blk_cell BK368.out 1).trans rfl, (blk_cell BK368.out 2).trans rfl⟩ (fun hHeld => ?_)
            clear hK K
            refine norm_ (a' := ?_) ?_ ?_
            rotate_left
            · show Act.put _ (some 36) _ = _
              simp only [Act.put, List.setIfInBounds_toArray, List.set_cons_zero, List.set_cons_succ, i64_w, i32_w]
              rfl
            refine one_ (i := 4) (N := some 37) #[true, true, true, true, true, false, false, false, false] rfl rfl (one_of HT_.out (by kernel_rfl)) (by decide) (fun K hK => ?_)
            refine goes_ Try.func119 (by kernel_rfl) rfl #[.pointer (some ⟨g, 0, none⟩), .slice Ao39 y369.length co39] (by rfl) rfl rfl qz2 ?_
            with_reducible refine (spec_l1Int.calls g s0_0 x1001_1 x1002_1 _ _ y369 t372 t373 t374 w0 _ ?side1 ?side2 ?side3 ?side4 ?side5 A31.out).mono ?_
            (case side1 => repeat (first | (with_reducible first | exact HI0.out | apply IsS117.alloc | apply IsS117.drewN | apply IsS117.drew | apply IsS117.set_1 | apply IsS117.set_2 | refine IsS117.far ?_ NB0_345.out _ | refine IsS117.far ?_ NB0_368.out _) | exact HI0.out))
            (case side2 => repeat (first | (with_reducible first | exact HB.out | apply below_alloc | apply pw_below_drewN | apply below_drew1 | refine below_set ?_ (IsS117.ge HI0.out) | refine below_set ?_ GE345.out | refine below_set ?_ GE368.out) | exact HB.out))
            (case side3 => repeat (first | exact (Kd.R_reads' HO371.out).2.2 | (with_reducible refine Kd.C_alloc ?_ _) | (with_reducible refine Kd.C_drewN ?_ _) | (with_reducible refine Kd.C_drew ?_)))
            (case side4 => exact (Kd.R_reads' HO371.out).2.1)
            (case side5 => exact far_slice (IsS117.own_ne HI0.out HO371.out (by decide)))
            rintro e w40 ⟨rfl, hi, hb, hk⟩
            refine ⟨_, rfl, ?_⟩
            have n0_ := Aside0.mk (Kd.R_mono (Kd.R_keep (IsS117.apart (show IsS117 w0 _ g s0_0 x1001_1 x1002_1 from by repeat (first | (with_reducible first | exact HI0.out | apply IsS117.alloc | apply IsS117.drewN | apply IsS117.drew | apply IsS117.set_1 | apply IsS117.set_2 | refine IsS117.far ?_ NB0_345.out _ | refine IsS117.far ?_ NB0_368.out _) | exact HI0.out)) (by (with_reducible repeat (first | apply Kd.R_alloc | apply Kd.R_drewN | apply Kd.R_drew)); exact HO_369002.out) (by decide)) hk (fun _ h => h.2)) (fun _ h => h.1))
            have n1_ := Aside0.mk (KeepBut.blk hk (g' := gb345) (o := .cells #[.int .i64 0, .int .i64 0, .slice none 0 0] 27 (0, 0)) qz15 NB345_0.out (by simp))
            have n2_ := Aside0.mk (KeepBut.blk hk (g' := gb368) (o := .cells #[.int .i64 (wrap64 (1 + t362)), .int .i64 (wrap64 (1 + t365)), u369002] 27 (0, 0)) (by (with_reducible repeat (first | refine blk_drewN ?_ _ | refine blk_drew ?_ | refine blk_alloc ?_ _)); exact BK368.out) NB368_0.out (by simp))
            have n3_ := Aside0.mk (Kd.R_mono (Kd.R_keep (IsS117.apart (show IsS117 w0 _ g s0_0 x1001_1 x1002_1 from by repeat (first | (with_reducible first | exact HI0.out | apply IsS117.alloc | apply IsS117.drewN | apply IsS117.drew | apply IsS117.set_1 | apply IsS117.set_2 | refine IsS117.far ?_ NB0_345.out _ | refine IsS117.far ?_ NB0_368.out _) | exact HI0.out)) (by (with_reducible repeat (first | apply Kd.R_alloc | apply Kd.R_drewN | apply Kd.R_drew)); exact HO371.out) (by decide)) hk (fun _ h => h.2)) (fun _ h => h.1))
            have n4_ := Aside0.mk (KeepBut.trans (by repeat (first | (with_reducible first | exact HK.out | apply KeepBut.set_ | apply keep_drewN | apply keep_drew | apply keep_alloc | refine keep_far ?_ GW345.out _ | refine keep_far ?_ GW368.out _) | exact HK.out)) hk (.inl rfl))
            have n5_ := Aside0.mk (hb)
            have n6_ := Aside0.mk (hi)
            clear HO_369002
            clear BK345
            clear BK368
            clear HO371
            clear HK
            clear HB
            clear HI0
            have HO_369002 := n0_
            have BK345 := n1_
            have BK368 := n2_
            have HO371 := n3_
            have HK := n4_
            have HB := n5_
            have HI0 := n6_
            clear n0_ n1_ n2_ n3_ n4_ n5_ n6_
            (try clear hb)
            (try clear hb2)
            (try clear hk)
            (try clear hi)
            refine hK.out _ _ ⟨(blk_cell BK368.out 0).trans rfl, (blk_cell BK368.out 1).trans rfl, (blk_cell BK368.out 2).trans rfl⟩ (fun hHeld => ?_)
            clear hK K
            refine norm_ (a' := ?_) ?_ ?_
            rotate_left
            · show Act.put _ (some 37) _ = _
              simp only [Act.put, List.setIfInBounds_toArray, List.set_cons_zero, List.set_cons_succ, i64_w, i32_w]
              rfl
            refine one_ (i := 5) (N := some 38) #[true, true, true, true, true, true, false, false, false] rfl rfl (one_of HT_.out (by kernel_rfl)) (by decide) (fun K hK => ?_)
            refine value_ (w1 := ?_) (v := ?_) (by rfl) rfl ?_ ?_
            rotate_left 2
            · go_simp
              constructor
              · rfl
              · rfl
            refine hK.out _ _ ⟨(blk_cell (blk_alloc BK368.out _) 0).trans rfl, (blk_cell (blk_alloc BK368.out _) 1).trans rfl, (blk_cell (blk_alloc BK368.out _) 2).trans rfl⟩ (fun hHeld => ?_)
            clear hK K
            refine norm_ (a' := ?_) ?_ ?_
            rotate_left
            · show Act.put _ (some 38) _ = _
              simp only [Act.put, List.setIfInBounds_toArray, List.set_cons_zero, List.set_cons_succ, i64_w, i32_w]
              rfl
            refine one_ (i := 6) (N := some 39) #[true, true, true, true, true, true, true, false, false] rfl rfl (one_of HT_.out (by kernel_rfl)) (by decide) (fun K hK => ?_)
            refine Kd.R_append_step (Kd.int .i64) w.heap.size (by rfl) (.tmp 34) (.tmp 38) 22 3 (.int .i64 0) 8 rfl Try.underlying22 info3 rfl (by decide) (by omega) u369002 x369002_1 t372 [.int .i64 t372] (fun k_ => some k_ ≠ (.slice Ao39 y369.length co39 : Value).ownBlock) (fun _ => False) rfl rfl ?aP (fun _ hk => hk.elim) ?aF ?aO (Below.refl _ _) ?aS ?aL ?_
            (case aP => exact rfl)
            (case aF => exact (fun k_ hk => Kd.fresh' (Kd.R_lt (by (with_reducible repeat (first | apply Kd.R_alloc | apply Kd.R_drewN | apply Kd.R_drew)); exact HO371.out)) k_ hk))
            (case aO => exact (by (with_reducible repeat (first | apply Kd.R_alloc | apply Kd.R_drewN | apply Kd.R_drew)); exact Kd.R_mono HO_369002.out (fun _ hk => hk.2)))
            (case aS => exact (keep_size (w := w) (g := g) (row := none) (by repeat (first | (with_reducible first | exact HK.out | apply KeepBut.set_ | apply keep_drewN | apply keep_drew | apply keep_alloc | refine keep_far ?_ GW345.out _ | refine keep_far ?_ GW368.out _) | exact HK.out))))
            (case aL => have := LMc32.out; omega)
            intro v376 w41 ho hb hg hat
            rw [← Ny375.out] at ho
            have n0_ := Aside0.mk (blk_grown (g := gb345) (o := .cells #[.int .i64 0, .int .i64 0, .slice none 0 0] 27 (0, 0)) qz15 hg (Kd.R_ne HO_369002.out BK345.out (by decide)))
            have n1_ := Aside0.mk (blk_grown (g := gb368) (o := .cells #[.int .i64 (wrap64 (1 + t362)), .int .i64 (wrap64 (1 + t365)), u369002] 27 (0, 0)) (by (with_reducible repeat (first | refine blk_drewN ?_ _ | refine blk_drew ?_ | refine blk_alloc ?_ _)); exact BK368.out) hg (Kd.R_ne HO_369002.out BK368.out (by decide)))
            have n2_ := Aside0.mk (IsS117.grown (by repeat (first | (with_reducible first | exact HI0.out | apply IsS117.alloc | apply IsS117.drewN | apply IsS117.drew | apply IsS117.set_1 | apply IsS117.set_2 | refine IsS117.far ?_ NB0_345.out _ | refine IsS117.far ?_ NB0_368.out _) | exact HI0.out)) hg (IsS117.own_ne HI0.out HO_369002.out (by decide)))
            have n3_ := Aside0.mk (Kd.R_after (ok := (fun _ => True)) (by (with_reducible repeat (first | apply Kd.R_alloc | apply Kd.R_drewN | apply Kd.R_drew)); exact HO371.out) hg hat)
            have n4_ := Aside0.mk (below_weaken (by repeat (first | (with_reducible first | exact HB.out | apply below_alloc | apply pw_below_drewN | apply below_drew1 | refine below_set ?_ (IsS117.ge HI0.out) | refine below_set ?_ GE345.out | refine below_set ?_ GE368.out) | exact HB.out)) HL.out hb)
            have n5_ := Aside0.mk (KeepBut.trans (by repeat (first | (with_reducible first | exact HK.out | apply KeepBut.set_ | apply keep_drewN | apply keep_drew | apply keep_alloc | refine keep_far ?_ GW345.out _ | refine keep_far ?_ GW368.out _) | exact HK.out)) (KeepBut.of_grown hg g) (Kd.R_base2 HO_369002.out))
            have n6_ := Aside0.mk (ho)
            clear BK345
            clear BK368
            clear HI0
            clear HO371
            clear HB
            clear HK
            clear HO_369002
            have BK345 := n0_
            have BK368 := n1_
            have HI0 := n2_
            have HO371 := n3_
            have HB := n4_
            have HK := n5_
            have HO377 := n6_
            clear n0_ n1_ n2_ n3_ n4_ n5_ n6_
            clear ho hb hg hat
            obtain ⟨Ao42, co42, eo42⟩ := Kd.R_slice HO377.out
            (first | subst eo42 | (injection eo42 with f1_ f2_ f3_; have f4_ := f1_.symm; have f5_ := f3_.symm; clear f1_ f2_ f3_; subst f4_; subst f5_))
            refine hK.out _ _ ⟨(blk_cell BK368.out 0).trans rfl, (blk_cell BK368.out 1).trans rfl, (blk_cell BK368.out 2).trans rfl⟩ (fun hHeld => ?_)
            clear hK K
            refine norm_ (a' := ?_) ?_ ?_
            rotate_left
            · show Act.put _ (some 39) _ = _
              simp only [Act.put, List.setIfInBounds_toArray, List.set_cons_zero, List.set_cons_succ, i64_w, i32_w]
              rfl
            refine pure_ (i := 7) (N := some 40) (v := ?_) (a' := ?_) #[true, true, true, true, true, true, true, true, false] rfl rfl (any_of HT_.out (by kernel_rfl)) (fun _ _ _ h => h) (Or.inl ⟨by rfl, ?_⟩) ?_ ?_
            rotate_left
            · intro w'
              go_simp
              with_reducible rfl
            rotate_left
            · simp only [Act.put, List.setIfInBounds_toArray, List.set_cons_zero, List.set_cons_succ, i64_w, i32_w]
              rfl
            refine last_ (i := 8) (N := none) #[true, true, true, true, true, true, true, true, true] rfl rfl (one_of HT_.out (by kernel_rfl)) (by decide) (fun K hK => ?_)
            have hs43 : w41.cell? ⟨gb368, 2, none⟩ = some (u369002) := (blk_cell BK368.out 2).trans rfl
            have hfs43 := blk_frozen BK368.out 2
            have hns43_0 := NB345_368.out
            have hms43_0 := NB368_345.out
            refine skip_ (w1 := ?_) (by rfl) rfl ?_ ?_
            rotate_left
            · go_simp
              rfl
            refine hK.out _ _ ?_
            clear hK K
            refine done_ (done_of HT_.out (by kernel_rfl)) ?_
            try go_wp2
            go_roundg k1
            case measure => have := HK1.out; omega
            case rel => exact ⟨(wrap64 (x6_1 + 1)), (t373), (t374), (y375), (.slice Ao42 y375.length co42), qz5, H', ⟨by have := HK1.out; omega⟩, ⟨by (with_reducible repeat (first | apply Kd.R_alloc | apply Kd.R_drewN | apply Kd.R_drew)); exact Kd.R_mono (Kd.R_far (p := ⟨gb368, 2, none⟩) (Kd.R_types HO377.out BK368.out (by decide)) (fun _ hk => hk.2) (.slice Ao42 y375.length co42)) (fun _ hk => trivial)⟩, ⟨by (with_reducible repeat (first | refine blk_drewN ?_ _ | refine blk_drew ?_ | refine blk_alloc ?_ _)); refine blk_far ?_ NB345_368.out _; (with_reducible repeat (first | refine blk_drewN ?_ _ | refine blk_drew ?_ | refine blk_alloc ?_ _)); exact BK345.out⟩, ⟨by (with_reducible repeat (first | refine blk_drewN ?_ _ | refine blk_drew ?_ | refine blk_alloc ?_ _)); refine blk_put (cs := #[.int .i64 (wrap64 (1 + t362)), .int .i64 (wrap64 (1 + t365)), u369002]) ?_ 2 _ rfl; (with_reducible repeat (first | refine blk_drewN ?_ _ | refine blk_drew ?_ | refine blk_alloc ?_ _)); exact BK368.out⟩, ⟨by repeat (first | (with_reducible first | exact HI0.out | apply IsS117.alloc | apply IsS117.drewN | apply IsS117.drew | apply IsS117.set_1 | apply IsS117.set_2 | refine IsS117.far ?_ NB0_345.out _ | refine IsS117.far ?_ NB0_368.out _) | exact HI0.out)⟩, ⟨by repeat (first | (with_reducible first | exact HK.out | apply KeepBut.set_ | apply keep_drewN | apply keep_drew | apply keep_alloc | refine keep_far ?_ GW345.out _ | refine keep_far ?_ GW368.out _) | exact HK.out)⟩, ⟨by repeat (first | (with_reducible first | exact HB.out | apply below_alloc | apply pw_below_drewN | apply below_drew1 | refine below_set ?_ (IsS117.ge HI0.out) | refine below_set ?_ GE345.out | refine below_set ?_ GE368.out) | exact HB.out)⟩⟩
          · rw [if_neg c32] at H
            exact absurd H (by simp)
        · rw [if_neg c30] at H
          have c30b0 : decide (x6_1 < (wrap64 ((wrap64 (1 + t362)) * (wrap64 (1 + t365))))) = false := decide_eq_false c30
          clear c30
          simp only [Option.some.injEq, Prod.mk.injEq] at H
          obtain ⟨rfl, rfl, rfl, rfl, rfl⟩ := H
          have hnb44 := NB368_345.out
          have hnc44 := NB345_368.out
          have hnb45 := NB368_0.out
          have hnc45 := NB0_368.out
          have hcz46_0 : wr.cell? ⟨gb368, 0, none⟩ = some (.int .i64 (wrap64 (1 + t362))) := (blk_cell BK368.out 0).trans rfl
          have hcz46_1 : wr.cell? ⟨gb368, 1, none⟩ = some (.int .i64 (wrap64 (1 + t365))) := (blk_cell BK368.out 1).trans rfl
          have hcz46_2 : wr.cell? ⟨gb368, 2, none⟩ = some (u369002) := (blk_cell BK368.out 2).trans rfl
          have hfz46_0 := blk_frozen BK368.out 0
          have hfz46_1 := blk_frozen BK368.out 1
          have hfz46_2 := blk_frozen BK368.out 2
          have hnb47 := NB345_0.out
          have hnc47 := NB0_345.out
          have hcz48_0 : wr.cell? ⟨gb345, 0, none⟩ = some (.int .i64 0) := (blk_cell BK345.out 0).trans rfl
          have hcz48_1 : wr.cell? ⟨gb345, 1, none⟩ = some (.int .i64 0) := (blk_cell BK345.out 1).trans rfl
          have hcz48_2 : wr.cell? ⟨gb345, 2, none⟩ = some (.slice none 0 0) := (blk_cell BK345.out 2).trans rfl
          have hfz48_0 := blk_frozen BK345.out 0
          have hfz48_1 := blk_frozen BK345.out 1
          have hfz48_2 := blk_frozen BK345.out 2
          obtain ⟨Ao49, co49, eo49⟩ := Kd.R_slice HO_369002.out
          subst eo49
          go_wp2
          refine bodyPost_ret (results_cell_row rfl _ _ gb345 27 #[.int .i64 (wrap64 (1 + t362)), .int .i64 (wrap64 (1 + t365)), .slice Ao49 x369002_1.length co49] (0, 0) _ rfl (by (with_reducible repeat (first | refine blk_drewN ?_ _ | refine blk_drew ?_ | refine blk_alloc ?_ _)); refine blk_put (cs := #[.int .i64 (wrap64 (1 + t362)), .int .i64 (wrap64 (1 + t365)), .slice none 0 0]) ?_ 2 _ rfl; (with_reducible repeat (first | refine blk_drewN ?_ _ | refine blk_drew ?_ | refine blk_alloc ?_ _)); refine blk_put (cs := #[.int .i64 (wrap64 (1 + t362)), .int .i64 0, .slice none 0 0]) ?_ 1 _ rfl; (with_reducible repeat (first | refine blk_drewN ?_ _ | refine blk_drew ?_ | refine blk_alloc ?_ _)); refine blk_put (cs := #[.int .i64 0, .int .i64 0, .slice none 0 0]) ?_ 0 _ rfl; (with_reducible repeat (first | refine blk_drewN ?_ _ | refine blk_drew ?_ | refine blk_alloc ?_ _)); exact BK345.out) Try.underlying27 rfl (by kernel_rfl)) rfl ?_
          exact ⟨_, by first | rfl | (simp [errW_none, errW_some] <;> rfl) | (simp [*, errW_none, errW_some] <;> rfl), by (with_reducible repeat (first | apply Kd.R_alloc | apply Kd.R_drewN | apply Kd.R_drew)); exact Kd.R_mono (Kd.R_far (p := ⟨gb345, 2, none⟩) (Kd.R_far (p := ⟨gb345, 1, none⟩) (Kd.R_far (p := ⟨gb345, 0, none⟩) (Kd.R_types HO_369002.out BK345.out (by decide)) (fun _ hk => hk.2) (.int .i64 (wrap64 (1 + t362)))) (fun _ hk => hk.2) (.int .i64 (wrap64 (1 + t365)))) (fun _ hk => hk.2) (.slice Ao49 x369002_1.length co49)) (fun _ hk => trivial), by repeat (first | (with_reducible first | exact HI0.out | apply IsS117.alloc | apply IsS117.drewN | apply IsS117.drew | apply IsS117.set_1 | apply IsS117.set_2 | refine IsS117.far ?_ NB0_345.out _ | refine IsS117.far ?_ NB0_368.out _) | exact HI0.out), by repeat (first | (with_reducible first | exact HB.out | apply below_alloc | apply pw_below_drewN | apply below_drew1 | refine below_set ?_ (IsS117.ge HI0.out) | refine below_set ?_ GE345.out | refine below_set ?_ GE368.out) | exact HB.out), by repeat (first | (with_reducible first | exact HK.out | apply KeepBut.set_ | apply keep_drewN | apply keep_drew | apply keep_alloc | refine keep_far ?_ GW345.out _ | refine keep_far ?_ GW368.out _) | exact HK.out)⟩

/-! ### spec_DrawFloor: function 27 -/
def spec_DrawFloor.f (k : Nat) (l0 : List Int) : Option (Int × Int × List Int × Int × Int) := (spec_l1New.f k l0).bind fun bt379 => ((spec_l1Floor.f k bt379.1 bt379.2.1 bt379.2.2).bind fun bt383 => ((spec_l1Below.f bt379.1 bt383.2.2.2.1 bt383.2.2.2.2 (bt383.2.2.1.length : Int)).bind fun bt391 => ((spec_l1Below.f bt379.1 bt391.2.1 bt391.2.2 (bt383.2.2.1.length : Int)).bind fun bt394 => (some (bt383.1, bt383.2.1, bt383.2.2.1, bt391.1, bt394.1)))))
theorem spec_DrawFloor.mono : ∀ a0 k, LeO (spec_DrawFloor.f k a0) (spec_DrawFloor.f (k + 1) a0) := by
  intro a0 k
  unfold spec_DrawFloor.f
  repeat' first
      | (with_reducible exact spec_l1Floor.mono _ _ _ _)
      | (with_reducible exact spec_l1New.mono _ _)
      | (with_reducible exact LeO.refl _)
      | (with_reducible exact LeO.none _)
      | (with_reducible refine LeO.ite ?_ ?_)
      | (with_reducible refine LeO.bind ?_ (fun _ => ?_))
      | exact spec_l1Floor.mono _ _ _ _
      | exact spec_l1New.mono _ _
      | exact LeO.none _
      | refine LeO.ite ?_ ?_
      | refine LeO.bind ?_ (fun _ => ?_)
def spec_DrawFloor.T4 : Bool × List (List Nat × List Nat) := (true, [([], []), ([], []), ([], []), ([], []), ([3], [3]), ([4], [4]), ([2, 5], [2, 5]), ([0, 6, 0], [0]), ([1, 7, 0, 1, 7], [1]), ([6, 8, 0, 1, 2, 3, 4, 5, 6, 7, 8], [6])])
def spec_DrawFloor.B4 : List Nat := [0, 0, 0, 0, 8, 24, 60, 125, 255, 511]
theorem spec_DrawFloor.tab4 : rtab .any (opsOf Try.f27 4) = spec_DrawFloor.T4 := by kernel_rfl
theorem spec_DrawFloor.bits4 : waitsOk spec_DrawFloor.T4.2 spec_DrawFloor.B4 = true := by kernel_rfl
set_option maxHeartbeats 8000000 in
set_option maxRecDepth 100000 in
theorem spec_DrawFloor.calls (k : Nat) (A0 : Option Addr) (c0 : Nat) (l0 : List Int) (r1 : Int) (r2 : Int) (r3 : List Int) (r4 : Int) (r5 : Int) (w : World) (hr0 : Kd.C (Kd.int .u8) w A0 l0.length l0) (hc0 : l0.length ≤ c0) (h : spec_DrawFloor.f k l0 = some (r1, r2, r3, r4, r5)) :
    Calls Try.prog 27 #[.slice A0 l0.length c0] w fun e w' => ∃ v2_ : Value, e = .returned (.tuple #[.agg #[.int .i64 r1, .int .i64 r2, v2_], .int .i64 r4, .int .i64 r5]) ∧ Kd.R (Kd.int .i64) 3 w' w.heap.size (fun _ => True) v2_ r3 ∧ Below w.heap.size w w' := by
  have hu27 := Try.underlying27
  have HR0 := Aside0.mk hr0
  have HC0 := Aside0.mk hc0
  clear hr0 hc0
  have HB := Aside0.mk (Below.refl w.heap.size w)
  have H : ((spec_l1New.f k l0).bind fun bt379 => ((spec_l1Floor.f k bt379.1 bt379.2.1 bt379.2.2).bind fun bt383 => ((spec_l1Below.f bt379.1 bt383.2.2.2.1 bt383.2.2.2.2 (bt383.2.2.1.length : Int)).bind fun bt391 => ((spec_l1Below.f bt379.1 bt391.2.1 bt391.2.2 (bt383.2.2.1.length : Int)).bind fun bt394 => (some (bt383.1, bt383.2.1, bt383.2.2.1, bt391.1, bt394.1)))))) = some (r1, r2, r3, r4, r5) := h
  clear h
  replace H := Option.bind_eq_some_iff.mp H
  obtain ⟨⟨t379, t380, t381⟩, A20, H⟩ := H
  replace H : ((spec_l1Floor.f k t379 t380 t381).bind fun bt383 => ((spec_l1Below.f t379 bt383.2.2.2.1 bt383.2.2.2.2 (bt383.2.2.1.length : Int)).bind fun bt391 => ((spec_l1Below.f t379 bt391.2.1 bt391.2.2 (bt383.2.2.1.length : Int)).bind fun bt394 => (some (bt383.1, bt383.2.1, bt383.2.2.1, bt391.1, bt394.1))))) = some (r1, r2, r3, r4, r5) := H
  have A2 := Aside0.mk A20
  clear A20
  replace H := Option.bind_eq_some_iff.mp H
  obtain ⟨⟨t383, t384, t385, t388, t389⟩, A30, H⟩ := H
  replace H : ((spec_l1Below.f t379 t388 t389 (t385.length : Int)).bind fun bt391 => ((spec_l1Below.f t379 bt391.2.1 bt391.2.2 (t385.length : Int)).bind fun bt394 => (some (t383, t384, t385, bt391.1, bt394.1)))) = some (r1, r2, r3, r4, r5) := H
  have A3 := Aside0.mk A30
  clear A30
  replace H := Option.bind_eq_some_iff.mp H
  obtain ⟨⟨t391, t392, t393⟩, A40, H⟩ := H
  replace H : ((spec_l1Below.f t379 t392 t393 (t385.length : Int)).bind fun bt394 => (some (t383, t384, t385, t391, bt394.1))) = some (r1, r2, r3, r4, r5) := H
  have A4 := Aside0.mk A40
  clear A40
  replace H := Option.bind_eq_some_iff.mp H
  obtain ⟨⟨t394, t395, t396⟩, A50, H⟩ := H
  replace H : (some (t383, t384, t385, t391, t394)) = some (r1, r2, r3, r4, r5) := H
  have A5 := Aside0.mk A50
  clear A50
  simp only [Option.some.injEq, Prod.mk.injEq] at H
  obtain ⟨rfl, rfl, rfl, rfl, rfl⟩ := H
  go_enter Try.func27, Try.ntmps27
  try go_wp2_with (first | ((with_reducible refine gate_dst (N := 2) rfl ?_); refine box_event ?hg (N := 2) ?hd (cs := #[.int .i64 0, .int .i64 0, .slice none 0 0]) (t := 27) ?hr ?_; (case hd => rfl); (case hg => rfl); (case hr => first | (go_simp; done) | (go_simp; rfl)); intro gb378 hg w6 hbox hb; have n0_ := Aside0.mk (below_step qz1 hb); have n1_ := Aside0.mk (hbox); have n2_ := Aside0.mk ((by rw [hg]; exact (below_size qz1) : w.heap.size ≤ gb378)); have n3_ := Aside0.mk ((by rw [hg]; exact (below_size qz1) : w.heap.size ≤ gb378)); clear HB; have HB := n0_; have BK378 := n1_; have GW378 := n2_; have GE378 := n3_; clear n0_ n1_ n2_ n3_; clear hb hbox hg) | ((with_reducible refine gate_callee (f := 79) rfl ?_); refine goesL_ (some 9) rfl rfl Try.func79 (by kernel_rfl) rfl #[.slice A0 l0.length c0] rfl qz2 ?_; (with_reducible refine (spec_l1New.calls k _ _ l0 t379 t380 t381 w _ ?side1 ?side2 ?side3 A2.out).mono ?_); (case side1 => repeat (first | (with_reducible first | exact HB.out | apply below_alloc | apply pw_below_drewN | apply below_drew1 | refine below_set ?_ GE378.out) | exact HB.out)); (case side2 => exact HR0.out); (case side3 => exact HC0.out); rintro e w7 ⟨g382, rfl, hi, hb, hb2⟩; refine ⟨_, rfl, ?_⟩; have n0_ := Aside0.mk (blk_below (g := gb378) (o := .cells #[.int .i64 0, .int .i64 0, .slice none 0 0] 27 (0, 0)) (by (with_reducible repeat (first | refine blk_drewN ?_ _ | refine blk_drew ?_ | refine blk_alloc ?_ _)); exact BK378.out) hb2); have n1_ := Aside0.mk (hb); have n2_ := Aside0.mk (hi); have n3_ := Aside0.mk (IsS117.ne_blk hi (blk_below (g := gb378) (o := .cells #[.int .i64 0, .int .i64 0, .slice none 0 0] 27 (0, 0)) (by (with_reducible repeat (first | refine blk_drewN ?_ _ | refine blk_drew ?_ | refine blk_alloc ?_ _)); exact BK378.out) hb2) (by decide)); have n4_ := Aside0.mk (Ne.symm (IsS117.ne_blk hi (blk_below (g := gb378) (o := .cells #[.int .i64 0, .int .i64 0, .slice none 0 0] 27 (0, 0)) (by (with_reducible repeat (first | refine blk_drewN ?_ _ | refine blk_drew ?_ | refine blk_alloc ?_ _)); exact BK378.out) hb2) (by decide))); clear BK378; clear HB; have BK378 := n0_; have HB := n1_; have HI382 := n2_; have NB382_378 := n3_; have NB378_382 := n4_; clear n0_ n1_ n2_ n3_ n4_; (try clear hb); (try clear hb2); (try clear hk); (try clear hi)) | ((with_reducible refine gate_callee (f := 80) rfl ?_); refine goesL_ (some 11) rfl rfl Try.func80 (by kernel_rfl) rfl #[.pointer (some ⟨g382, 0, none⟩)] rfl qz2 ?_; (with_reducible refine (spec_l1Floor.calls k g382 t379 t380 t381 t383 t384 t385 t388 t389 w _ ?side1 ?side2 A3.out).mono ?_); (case side1 => repeat (first | (with_reducible first | exact HI382.out | apply IsS117.alloc | apply IsS117.drewN | apply IsS117.drew | apply IsS117.set_1 | apply IsS117.set_2 | refine IsS117.far ?_ NB382_378.out _) | exact HI382.out)); (case side2 => repeat (first | (with_reducible first | exact HB.out | apply below_alloc | apply pw_below_drewN | apply below_drew1 | refine below_set ?_ (IsS117.ge HI382.out) | refine below_set ?_ GE378.out) | exact HB.out)); rintro e w8 ⟨v386, rfl, ho0, hi, hb, hk⟩; refine ⟨_, rfl, ?_⟩; have n0_ := Aside0.mk (KeepBut.blk hk (g' := gb378) (o := .cells #[.int .i64 0, .int .i64 0, .slice none 0 0] 27 (0, 0)) (by (with_reducible repeat (first | refine blk_drewN ?_ _ | refine blk_drew ?_ | refine blk_alloc ?_ _)); exact BK378.out) NB378_382.out (by simp)); have n1_ := Aside0.mk (Kd.R_lower ho0 (below_size (by repeat (first | (with_reducible first | exact HB.out | apply below_alloc | apply pw_below_drewN | apply below_drew1 | refine below_set ?_ (IsS117.ge HI382.out) | refine below_set ?_ GE378.out) | exact HB.out)))); have n2_ := Aside0.mk (hb); have n3_ := Aside0.mk (hi); clear BK378; clear HB; clear HI382; have BK378 := n0_; have HO387 := n1_; have HB := n2_; have HI382 := n3_; clear n0_ n1_ n2_ n3_; (try clear hb); (try clear hb2); (try clear hk); (try clear hi); (try clear ho0)) | ((with_reducible refine gate_dst (N := 6) rfl ?_); refine box_event ?hg (N := 6) ?hd (cs := #[.int .i64 0, .int .i64 0, .slice none 0 0]) (t := 27) ?hr ?_; (case hd => rfl); (case hg => rfl); (case hr => first | (go_simp; done) | (go_simp; rfl)); intro gb390 hg w9 hbox hb; have n0_ := Aside0.mk (Kd.R_below (by (with_reducible repeat (first | apply Kd.R_alloc | apply Kd.R_drewN | apply Kd.R_drew)); exact HO387.out) hb); have n1_ := Aside0.mk (blk_below (g := gb378) (o := .cells #[.int .i64 0, .int .i64 0, .slice none 0 0] 27 (0, 0)) (by (with_reducible repeat (first | refine blk_drewN ?_ _ | refine blk_drew ?_ | refine blk_alloc ?_ _)); exact BK378.out) hb); have n2_ := Aside0.mk (IsS117.below (by repeat (first | (with_reducible first | exact HI382.out | apply IsS117.alloc | apply IsS117.drewN | apply IsS117.drew | apply IsS117.set_1 | apply IsS117.set_2 | refine IsS117.far ?_ NB382_378.out _) | exact HI382.out)) hb); have n3_ := Aside0.mk (below_step (by repeat (first | (with_reducible first | exact HB.out | apply below_alloc | apply pw_below_drewN | apply below_drew1 | refine below_set ?_ (IsS117.ge HI382.out) | refine below_set ?_ GE378.out) | exact HB.out)) hb); have n4_ := Aside0.mk (hbox); have n5_ := Aside0.mk ((by rw [hg]; exact (below_size (by repeat (first | (with_reducible first | exact HB.out | apply below_alloc | apply pw_below_drewN | apply below_drew1 | refine below_set ?_ (IsS117.ge HI382.out) | refine below_set ?_ GE378.out) | exact HB.out))) : w.heap.size ≤ gb390)); have n6_ := Aside0.mk ((by rw [hg]; exact (below_size (by repeat (first | (with_reducible first | exact HB.out | apply below_alloc | apply pw_below_drewN | apply below_drew1 | refine below_set ?_ (IsS117.ge HI382.out) | refine below_set ?_ GE378.out) | exact HB.out))) : w.heap.size ≤ gb390)); have n7_ := Aside0.mk ((by rw [hg]; exact Nat.ne_of_lt (blk_lt (g := gb378) (o := .cells #[.int .i64 0, .int .i64 0, .slice none 0 0] 27 (0, 0)) (by (with_reducible repeat (first | refine blk_drewN ?_ _ | refine blk_drew ?_ | refine blk_alloc ?_ _)); exact BK378.out)) : gb378 ≠ gb390)); have n8_ := Aside0.mk ((by rw [hg]; exact Nat.ne_of_gt (blk_lt (g := gb378) (o := .cells #[.int .i64 0, .int .i64 0, .slice none 0 0] 27 (0, 0)) (by (with_reducible repeat (first | refine blk_drewN ?_ _ | refine blk_drew ?_ | refine blk_alloc ?_ _)); exact BK378.out)) : gb390 ≠ gb378)); have n9_ := Aside0.mk ((by rw [hg]; exact Nat.ne_of_lt (IsS117.lt (show IsS117 w _ g382 t379 t388 t389 from by repeat (first | (with_reducible first | exact HI382.out | apply IsS117.alloc | apply IsS117.drewN | apply IsS117.drew | apply IsS117.set_1 | apply IsS117.set_2 | refine IsS117.far ?_ NB382_378.out _) | exact HI382.out))) : g382 ≠ gb390)); have n10_ := Aside0.mk ((by rw [hg]; exact Nat.ne_of_gt (IsS117.lt (show IsS117 w _ g382 t379 t388 t389 from by repeat (first | (with_reducible first | exact HI382.out | apply IsS117.alloc | apply IsS117.drewN | apply IsS117.drew | apply IsS117.set_1 | apply IsS117.set_2 | refine IsS117.far ?_ NB382_378.out _) | exact HI382.out))) : gb390 ≠ g382)); clear HO387; clear BK378; clear HI382; clear HB; have HO387 := n0_; have BK378 := n1_; have HI382 := n2_; have HB := n3_; have BK390 := n4_; have GW390 := n5_; have GE390 := n6_; have NB378_390 := n7_; have NB390_378 := n8_; have NB382_390 := n9_; have NB390_382 := n10_; clear n0_ n1_ n2_ n3_ n4_ n5_ n6_ n7_ n8_ n9_ n10_; clear hb hbox hg; have hnb10 := NB390_378.out; have hnc10 := NB378_390.out; have hnb11 := NB390_382.out; have hnc11 := NB382_390.out; have hcz12_0 : w9.cell? ⟨gb390, 0, none⟩ = some (.int .i64 0) := (blk_cell BK390.out 0).trans rfl; have hcz12_1 : w9.cell? ⟨gb390, 1, none⟩ = some (.int .i64 0) := (blk_cell BK390.out 1).trans rfl; have hcz12_2 : w9.cell? ⟨gb390, 2, none⟩ = some (.slice none 0 0) := (blk_cell BK390.out 2).trans rfl; have hfz12_0 := blk_frozen BK390.out 0; have hfz12_1 := blk_frozen BK390.out 1; have hfz12_2 := blk_frozen BK390.out 2; obtain ⟨Ao13, co13, eo13⟩ := Kd.R_slice HO387.out; subst eo13) | ((with_reducible refine gate_callee (f := 81) rfl ?_); refine goesL_ (some 16) rfl rfl Try.func81 (by kernel_rfl) rfl #[.pointer (some ⟨g382, 0, none⟩), .int .i64 (t385.length : Int)] rfl qz2 ?_; (with_reducible refine (spec_l1Below.calls g382 t379 t388 t389 (t385.length : Int) t391 t392 t393 w _ ?side1 ?side2 A4.out).mono ?_); (case side1 => repeat (first | (with_reducible first | exact HI382.out | apply IsS117.alloc | apply IsS117.drewN | apply IsS117.drew | apply IsS117.set_1 | apply IsS117.set_2 | refine IsS117.far ?_ NB382_378.out _ | refine IsS117.far ?_ NB382_390.out _) | exact HI382.out)); (case side2 => repeat (first | (with_reducible first | exact HB.out | apply below_alloc | apply pw_below_drewN | apply below_drew1 | refine below_set ?_ (IsS117.ge HI382.out) | refine below_set ?_ GE378.out | refine below_set ?_ GE390.out) | exact HB.out)); rintro e w14 ⟨rfl, hi, hb, hk⟩; refine ⟨_, rfl, ?_⟩; have n0_ := Aside0.mk (KeepBut.blk hk (g' := gb378) (o := .cells #[.int .i64 0, .int .i64 0, .slice none 0 0] 27 (0, 0)) (by (with_reducible repeat (first | refine blk_drewN ?_ _ | refine blk_drew ?_ | refine blk_alloc ?_ _)); refine blk_far ?_ NB378_390.out _; (with_reducible repeat (first | refine blk_drewN ?_ _ | refine blk_drew ?_ | refine blk_alloc ?_ _)); refine blk_far ?_ NB378_390.out _; (with_reducible repeat (first | refine blk_drewN ?_ _ | refine blk_drew ?_ | refine blk_alloc ?_ _)); refine blk_far ?_ NB378_390.out _; (with_reducible repeat (first | refine blk_drewN ?_ _ | refine blk_drew ?_ | refine blk_alloc ?_ _)); exact BK378.out) NB378_382.out (by simp)); have n1_ := Aside0.mk (Kd.R_mono (Kd.R_keep (IsS117.apart (show IsS117 w _ g382 t379 t388 t389 from by repeat (first | (with_reducible first | exact HI382.out | apply IsS117.alloc | apply IsS117.drewN | apply IsS117.drew | apply IsS117.set_1 | apply IsS117.set_2 | refine IsS117.far ?_ NB382_378.out _ | refine IsS117.far ?_ NB382_390.out _) | exact HI382.out)) (by (with_reducible repeat (first | apply Kd.R_alloc | apply Kd.R_drewN | apply Kd.R_drew)); exact (Kd.R_mono (Kd.R_far (p := ⟨gb390, 2, none⟩) (Kd.R_far (p := ⟨gb390, 1, none⟩) (Kd.R_far (p := ⟨gb390, 0, none⟩) (Kd.R_types HO387.out BK390.out (by decide)) (fun _ hk => hk.2) (.int .i64 t383)) (fun _ hk => hk.2) (.int .i64 t384)) (fun _ hk => hk.2) (.slice Ao13 t385.length co13)) (fun _ h_ => h_.1))) (by decide)) hk (fun _ h => h.2)) (fun _ h => h.1)); have n2_ := Aside0.mk (KeepBut.blk hk (g' := gb390) (o := .cells #[.int .i64 t383, .int .i64 t384, .slice Ao13 t385.length co13] 27 (0, 0)) (by (with_reducible repeat (first | refine blk_drewN ?_ _ | refine blk_drew ?_ | refine blk_alloc ?_ _)); refine blk_put (cs := #[.int .i64 t383, .int .i64 t384, .slice none 0 0]) ?_ 2 _ rfl; (with_reducible repeat (first | refine blk_drewN ?_ _ | refine blk_drew ?_ | refine blk_alloc ?_ _)); refine blk_put (cs := #[.int .i64 t383, .int .i64 0, .slice none 0 0]) ?_ 1 _ rfl; (with_reducible repeat (first | refine blk_drewN ?_ _ | refine blk_drew ?_ | refine blk_alloc ?_ _)); refine blk_put (cs := #[.int .i64 0, .int .i64 0, .slice none 0 0]) ?_ 0 _ rfl; (with_reducible repeat (first | refine blk_drewN ?_ _ | refine blk_drew ?_ | refine blk_alloc ?_ _)); exact BK390.out) NB390_382.out (by simp)); have n3_ := Aside0.mk (hb); have n4_ := Aside0.mk (hi); clear BK378; clear HO387; clear BK390; clear HB; clear HI382; have BK378 := n0_; have HO387 := n1_; have BK390 := n2_; have HB := n3_; have HI382 := n4_; clear n0_ n1_ n2_ n3_ n4_; (try clear hb); (try clear hb2); (try clear hk); (try clear hi)))
  have n0_ := Aside0.mk (Kd.R_drew HO387.out)
  have n1_ := Aside0.mk (blk_drew BK378.out)
  have n2_ := Aside0.mk (blk_drew BK390.out)
  have n3_ := Aside0.mk (IsS117.drew HI382.out)
  have n4_ := Aside0.mk (below_drew1 HB.out)
  clear HO387
  clear BK378
  clear BK390
  clear HI382
  clear HB
  have HO387 := n0_
  have BK378 := n1_
  have BK390 := n2_
  have HI382 := n3_
  have HB := n4_
  clear n0_ n1_ n2_ n3_ n4_
  refine start_ (n := 10) (S := fun w' => w'.cell? ⟨gb390, 0, none⟩ = some (.int .i64 t383) ∧ w'.cell? ⟨gb390, 1, none⟩ = some (.int .i64 t384) ∧ w'.cell? ⟨gb390, 2, none⟩ = some (.slice Ao13 t385.length co13)) (ds := []) #[false, false, false, false, false, false, false, false, false, false] (by kernel_rfl) rfl rfl ⟨(blk_cell BK390.out 0).trans rfl, (blk_cell BK390.out 1).trans rfl, (blk_cell BK390.out 2).trans rfl⟩ (fun hHeld => ?_); refine with_tabW spec_DrawFloor.tab4 spec_DrawFloor.bits4 (fun HT_ HW_ => ?_)
  generalize w14.drew = w15 at HO387 BK378 BK390 HI382 HB hHeld ⊢
  refine pure_ (i := 1) (N := some 18) (v := ?_) (a' := ?_) #[false, true, false, false, false, false, false, false, false, false] rfl rfl (any_of HT_.out (by kernel_rfl)) (fun _ _ _ h => h) (Or.inl ⟨by rfl, ?_⟩) ?_ ?_
  rotate_left
  · intro w'
    go_simp
    with_reducible rfl
  rotate_left
  · simp only [Act.put, List.setIfInBounds_toArray, List.set_cons_zero, List.set_cons_succ, i64_w, i32_w]
    rfl
  refine pure_ (i := 2) (N := some 19) (v := ?_) (a' := ?_) #[false, true, true, false, false, false, false, false, false, false] rfl rfl (any_of HT_.out (by kernel_rfl)) (fun _ _ _ h => h) (Or.inl ⟨by rfl, ?_⟩) ?_ ?_
  rotate_left
  · intro w'
    go_simp
    with_reducible rfl
  rotate_left
  · simp only [Act.put, List.setIfInBounds_toArray, List.set_cons_zero, List.set_cons_succ, i64_w, i32_w]
    rfl
  refine pure_ (i := 3) (N := some 20) (v := ?_) (a' := ?_) #[false, true, true, true, false, false, false, false, false, false] rfl rfl (any_of HT_.out (by kernel_rfl)) (fun _ _ _ h => h) (Or.inl ⟨by rfl, ?_⟩) ?_ ?_
  rotate_left
  · intro w'
    go_simp
    with_reducible rfl
  rotate_left
  · simp only [Act.put, List.setIfInBounds_toArray, List.set_cons_zero, List.set_cons_succ, i64_w, i32_w]
    rfl
  refine take_ (i := 0) (N := some 17) (v := ?_) (a' := ?_) #[true, true, true, true, false, false, false, false, false, false] rfl rfl (take_ofW HT_.out HW_.out (by kernel_rfl)) (fun _ _ _ h => h) (Or.inl ⟨by rfl, ?_⟩) hHeld ?_ ?_
  rotate_left
  · rintro w' ⟨s0, s1, s2⟩
    go_simp
    with_reducible rfl
  rotate_left
  · simp only [Act.put, List.setIfInBounds_toArray, List.set_cons_zero, List.set_cons_succ, i64_w, i32_w]
    rfl
  refine take_ (i := 4) (N := some 21) (v := ?_) (a' := ?_) #[true, true, true, true, true, false, false, false, false, false] rfl rfl (take_ofW HT_.out HW_.out (by kernel_rfl)) (fun _ _ _ h => h) (Or.inl ⟨by rfl, ?_⟩) hHeld ?_ ?_
  rotate_left
  · rintro w' ⟨s0, s1, s2⟩
    go_simp
    with_reducible rfl
  rotate_left
  · simp only [Act.put, List.setIfInBounds_toArray, List.set_cons_zero, List.set_cons_succ, i64_w, i32_w]
    rfl
  refine pure_ (i := 5) (N := some 22) (v := ?_) (a' := ?_) #[true, true, true, true, true, true, false, false, false, false] rfl rfl (any_of HT_.out (by kernel_rfl)) (fun _ _ _ h => h) (Or.inl ⟨by rfl, ?_⟩) ?_ ?_
  rotate_left
  · intro w'
    go_simp
    with_reducible rfl
  rotate_left
  · simp only [Act.put, List.setIfInBounds_toArray, List.set_cons_zero, List.set_cons_succ, i64_w, i32_w]
    rfl
  refine one_ (i := 6) (N := some 23) #[true, true, true, true, true, true, true, false, false, false] rfl rfl (one_of HT_.out (by kernel_rfl)) (by decide) (fun K hK => ?_)
  refine goes_ Try.func81 (by kernel_rfl) rfl #[.pointer (some ⟨g382, 0, none⟩), .int .i64 (t385.length : Int)] (by rfl) rfl rfl qz2 ?_
  with_reducible refine (spec_l1Below.calls g382 t379 t392 t393 (t385.length : Int) t394 t395 t396 w _ ?side1 ?side2 A5.out).mono ?_
  (case side1 => repeat (first | (with_reducible first | exact HI382.out | apply IsS117.alloc | apply IsS117.drewN | apply IsS117.drew | apply IsS117.set_1 | apply IsS117.set_2 | refine IsS117.far ?_ NB382_378.out _ | refine IsS117.far ?_ NB382_390.out _) | exact HI382.out))
  (case side2 => repeat (first | (with_reducible first | exact HB.out | apply below_alloc | apply pw_below_drewN | apply below_drew1 | refine below_set ?_ (IsS117.ge HI382.out) | refine below_set ?_ GE378.out | refine below_set ?_ GE390.out) | exact HB.out))
  rintro e w16 ⟨rfl, hi, hb, hk⟩
  refine ⟨_, rfl, ?_⟩
  have n0_ := Aside0.mk (KeepBut.blk hk (g' := gb378) (o := .cells #[.int .i64 0, .int .i64 0, .slice none 0 0] 27 (0, 0)) (by (with_reducible repeat (first | refine blk_drewN ?_ _ | refine blk_drew ?_ | refine blk_alloc ?_ _)); exact BK378.out) NB378_382.out (by simp))
  have n1_ := Aside0.mk (Kd.R_mono (Kd.R_keep (IsS117.apart (show IsS117 w _ g382 t379 t392 t393 from by repeat (first | (with_reducible first | exact HI382.out | apply IsS117.alloc | apply IsS117.drewN | apply IsS117.drew | apply IsS117.set_1 | apply IsS117.set_2 | refine IsS117.far ?_ NB382_378.out _ | refine IsS117.far ?_ NB382_390.out _) | exact HI382.out)) (by (with_reducible repeat (first | apply Kd.R_alloc | apply Kd.R_drewN | apply Kd.R_drew)); exact HO387.out) (by decide)) hk (fun _ h => h.2)) (fun _ h => h.1))
  have n2_ := Aside0.mk (KeepBut.blk hk (g' := gb390) (o := .cells #[.int .i64 t383, .int .i64 t384, .slice Ao13 t385.length co13] 27 (0, 0)) (by (with_reducible repeat (first | refine blk_drewN ?_ _ | refine blk_drew ?_ | refine blk_alloc ?_ _)); exact BK390.out) NB390_382.out (by simp))
  have n3_ := Aside0.mk (hb)
  have n4_ := Aside0.mk (hi)
  clear BK378
  clear HO387
  clear BK390
  clear HB
  clear HI382
  have BK378 := n0_
  have HO387 := n1_
  have BK390 := n2_
  have HB := n3_
  have HI382 := n4_
  clear n0_ n1_ n2_ n3_ n4_
  (try clear hb)
  (try clear hb2)
  (try clear hk)
  (try clear hi)
  refine hK.out _ _ ⟨(blk_cell BK390.out 0).trans rfl, (blk_cell BK390.out 1).trans rfl, (blk_cell BK390.out 2).trans rfl⟩ (fun hHeld => ?_)
  clear hK K
  refine norm_ (a' := ?_) ?_ ?_
  rotate_left
  · show Act.put _ (some 23) _ = _
    simp only [Act.put, List.setIfInBounds_toArray, List.set_cons_zero, List.set_cons_succ, i64_w, i32_w]
    rfl
  refine one_ (i := 7) (N := none) #[true, true, true, true, true, true, true, true, false, false] rfl rfl (one_of HT_.out (by kernel_rfl)) (by decide) (fun K hK => ?_)
  have hs17 : w16.cell? ⟨gb378, 0, none⟩ = some (.int .i64 0) := (blk_cell BK378.out 0).trans rfl
  have hfs17 := blk_frozen BK378.out 0
  have hns17_1 := NB390_378.out
  have hms17_1 := NB378_390.out
  have hs18 : w16.cell? ⟨gb378, 1, none⟩ = some (.int .i64 0) := (blk_cell BK378.out 1).trans rfl
  have hfs18 := blk_frozen BK378.out 1
  have hns18_1 := NB390_378.out
  have hms18_1 := NB378_390.out
  have hs19 : w16.cell? ⟨gb378, 2, none⟩ = some (.slice none 0 0) := (blk_cell BK378.out 2).trans rfl
  have hfs19 := blk_frozen BK378.out 2
  have hns19_1 := NB390_378.out
  have hms19_1 := NB378_390.out
  refine skip_ (w1 := ?_) (by rfl) rfl ?_ ?_
  rotate_left
  · go_simp
    rfl
  refine hK.out _ _ ⟨((cell_far (p := ⟨gb378, _, none⟩) NB390_378.out _).trans (((cell_far (p := ⟨gb378, _, none⟩) NB390_378.out _).trans (((cell_far (p := ⟨gb378, _, none⟩) NB390_378.out _).trans (hHeld.1)))))), ((cell_far (p := ⟨gb378, _, none⟩) NB390_378.out _).trans (((cell_far (p := ⟨gb378, _, none⟩) NB390_378.out _).trans (((cell_far (p := ⟨gb378, _, none⟩) NB390_378.out _).trans (hHeld.2.1)))))), ((cell_far (p := ⟨gb378, _, none⟩) NB390_378.out _).trans (((cell_far (p := ⟨gb378, _, none⟩) NB390_378.out _).trans (((cell_far (p := ⟨gb378, _, none⟩) NB390_378.out _).trans (hHeld.2.2))))))⟩ (fun hHeld => ?_)
  clear hK K
  refine pure_ (i := 8) (N := some 3) (v := ?_) (a' := ?_) #[true, true, true, true, true, true, true, true, true, false] rfl rfl (any_of HT_.out (by kernel_rfl)) (fun _ _ _ h => h) (Or.inl ⟨by rfl, ?_⟩) ?_ ?_
  rotate_left
  · intro w'
    go_simp
    with_reducible rfl
  rotate_left
  · simp only [Act.put, List.setIfInBounds_toArray, List.set_cons_zero, List.set_cons_succ, i64_w, i32_w]
    rfl
  refine pure_ (i := 9) (N := some 4) (v := ?_) (a' := ?_) #[true, true, true, true, true, true, true, true, true, true] rfl rfl (any_of HT_.out (by kernel_rfl)) (fun _ _ _ h => h) (Or.inl ⟨by rfl, ?_⟩) ?_ ?_
  rotate_left
  · intro w'
    go_simp
    with_reducible rfl
  rotate_left
  · simp only [Act.put, List.setIfInBounds_toArray, List.set_cons_zero, List.set_cons_succ, i64_w, i32_w]
    rfl
  refine done_ (done_of HT_.out (by kernel_rfl)) ?_
  try go_wp2
  refine bodyPost_ret (results_ctt rfl _ _ gb378 27 #[.int .i64 t383, .int .i64 t384, .slice Ao13 t385.length co13] (0, 0) _ rfl (by (with_reducible repeat (first | refine blk_drewN ?_ _ | refine blk_drew ?_ | refine blk_alloc ?_ _)); refine blk_put (cs := #[.int .i64 t383, .int .i64 t384, .slice none 0 0]) ?_ 2 _ rfl; (with_reducible repeat (first | refine blk_drewN ?_ _ | refine blk_drew ?_ | refine blk_alloc ?_ _)); refine blk_put (cs := #[.int .i64 t383, .int .i64 0, .slice none 0 0]) ?_ 1 _ rfl; (with_reducible repeat (first | refine blk_drewN ?_ _ | refine blk_drew ?_ | refine blk_alloc ?_ _)); refine blk_put (cs := #[.int .i64 0, .int .i64 0, .slice none 0 0]) ?_ 0 _ rfl; (with_reducible repeat (first | refine blk_drewN ?_ _ | refine blk_drew ?_ | refine blk_alloc ?_ _)); exact BK378.out) Try.underlying27 rfl (by kernel_rfl)) rfl ?_
  exact ⟨_, by first | rfl | (simp [errW_none, errW_some] <;> rfl) | (simp [*, errW_none, errW_some] <;> rfl), by (with_reducible repeat (first | apply Kd.R_alloc | apply Kd.R_drewN | apply Kd.R_drew)); exact Kd.R_mono (Kd.R_far (p := ⟨gb378, 2, none⟩) (Kd.R_far (p := ⟨gb378, 1, none⟩) (Kd.R_far (p := ⟨gb378, 0, none⟩) (Kd.R_types HO387.out BK378.out (by decide)) (fun _ hk => hk.2) (.int .i64 t383)) (fun _ hk => hk.2) (.int .i64 t384)) (fun _ hk => hk.2) (.slice Ao13 t385.length co13)) (fun _ hk => trivial), by repeat (first | (with_reducible first | exact HB.out | apply below_alloc | apply pw_below_drewN | apply below_drew1 | refine below_set ?_ (IsS117.ge HI382.out) | refine below_set ?_ GE378.out | refine below_set ?_ GE390.out) | exact HB.out)⟩

/-! ### impl_isCell: function 87 -/
def impl_isCell.f (a0_0 : Int) (a0_1 : Int) (l0_2 : List Int) (a1 : Int) : Option (Bool) := (impl_in.f a1 0 (wrap64 ((l0_2.length : Int) - 1))).bind fun t398 => (some t398)
set_option maxHeartbeats 8000000 in
set_option maxRecDepth 100000 in
theorem impl_isCell.calls (a0_0 : Int) (a0_1 : Int) (A0_2 : Option Addr) (c0_2 : Nat) (l0_2 : List Int) (a1 : Int) (r : Bool) (w : World) (hr0_2 : Kd.C (Kd.int .i64) w A0_2 l0_2.length l0_2) (hc0_2 : l0_2.length ≤ c0_2) (h : impl_isCell.f a0_0 a0_1 l0_2 a1 = some r) :
    Calls Try.prog 87 #[.agg #[.int .i64 a0_0, .int .i64 a0_1, .slice A0_2 l0_2.length c0_2], .int .i64 a1] w fun e w' => e = .returned (.bool r) ∧ Below w.heap.size w w' := by
  have hu27 := Try.underlying27
  have HR0_2 := Aside0.mk hr0_2
  have HC0_2 := Aside0.mk hc0_2
  clear hr0_2 hc0_2
  have HB := Aside0.mk (Below.refl w.heap.size w)
  have H : ((impl_in.f a1 0 (wrap64 ((l0_2.length : Int) - 1))).bind fun t398 => (some t398)) = some r := h
  clear h
  replace H := Option.bind_eq_some_iff.mp H
  obtain ⟨t398, A30, H⟩ := H
  replace H : (some t398) = some r := H
  have A3 := Aside0.mk A30
  clear A30
  obtain rfl := Option.some.inj H
  simp only [Option.some.injEq, Prod.mk.injEq] at H
  obtain ⟨rfl⟩ := H
  go_enter Try.func87, Try.ntmps87
  go_wp2_with (first | ((with_reducible refine gate_dst (N := 2) rfl ?_); refine box_event ?hg (N := 2) ?hd (cs := #[.int .i64 a0_0, .int .i64 a0_1, .slice A0_2 l0_2.length c0_2]) (t := 27) ?hr ?_; (case hd => rfl); (case hg => rfl); (case hr => first | (go_simp; done) | (go_simp; rfl)); intro gb397 hg w4 hbox hb; have n0_ := Aside0.mk (below_step qz1 hb); have n1_ := Aside0.mk (hbox); have n2_ := Aside0.mk ((by rw [hg]; exact (below_size qz1) : w.heap.size ≤ gb397)); have n3_ := Aside0.mk ((by rw [hg]; exact (below_size qz1) : w.heap.size ≤ gb397)); clear HB; have HB := n0_; have BK397 := n1_; have GW397 := n2_; have GE397 := n3_; clear n0_ n1_ n2_ n3_; clear hb hbox hg; have hcz5_0 : w4.cell? ⟨gb397, 0, none⟩ = some (.int .i64 a0_0) := (blk_cell BK397.out 0).trans rfl; have hcz5_1 : w4.cell? ⟨gb397, 1, none⟩ = some (.int .i64 a0_1) := (blk_cell BK397.out 1).trans rfl; have hcz5_2 : w4.cell? ⟨gb397, 2, none⟩ = some (.slice A0_2 l0_2.length c0_2) := (blk_cell BK397.out 2).trans rfl; have hfz5_0 := blk_frozen BK397.out 0; have hfz5_1 := blk_frozen BK397.out 1; have hfz5_2 := blk_frozen BK397.out 2) | ((with_reducible refine gate_callee (f := 85) rfl ?_); refine goesL_ (some 10) rfl rfl Try.func85 (by kernel_rfl) rfl #[.int .i64 a1, .int .i64 0, .int .i64 (wrap64 ((l0_2.length : Int) - 1))] rfl qz2 ?_; (with_reducible refine (impl_in.calls a1 0 (wrap64 ((l0_2.length : Int) - 1)) t398 _ A3.out).mono ?_); rintro e w' ⟨rfl, ⟨nd, rfl⟩⟩; refine ⟨_, rfl, ?_⟩))
  go_ret
  exact ⟨by first | rfl | (simp [errW_none, errW_some] <;> rfl) | (simp [*, errW_none, errW_some] <;> rfl), by repeat (first | (with_reducible first | exact HB.out | apply below_alloc | apply pw_below_drewN | apply below_drew1 | refine below_set ?_ GE397.out) | exact HB.out)⟩

/-! ### impl_KindAt: function 35 -/
def impl_KindAt.f (k : Nat) (a0_0 : Int) (a0_1 : Int) (l0_2 : List Int) (a1 : Int) : Option (Int) := (impl_FloorOk.f k a0_0 a0_1 l0_2).bind fun t400 => (if t400 = true then ((impl_isCell.f a0_0 a0_1 l0_2 a1).bind fun t401 => (if t401 = true then (if 0 ≤ a1 then (if a1 < (l0_2.length : Int) then (some (rd l0_2 a1)) else (none)) else (none)) else (some 0))) else (some 0))
theorem impl_KindAt.mono : ∀ a0 a1 a2 a3 k, LeO (impl_KindAt.f k a0 a1 a2 a3) (impl_KindAt.f (k + 1) a0 a1 a2 a3) := by
  intro a0 a1 a2 a3 k
  unfold impl_KindAt.f
  repeat' first
      | (with_reducible exact impl_FloorOk.mono _ _ _ _)
      | (with_reducible exact LeO.refl _)
      | (with_reducible exact LeO.none _)
      | (with_reducible refine LeO.ite ?_ ?_)
      | (with_reducible refine LeO.bind ?_ (fun _ => ?_))
      | exact impl_FloorOk.mono _ _ _ _
      | exact LeO.none _
      | refine LeO.ite ?_ ?_
      | refine LeO.bind ?_ (fun _ => ?_)
set_option maxHeartbeats 8000000 in
set_option maxRecDepth 100000 in
theorem impl_KindAt.calls (k : Nat) (a0_0 : Int) (a0_1 : Int) (A0_2 : Option Addr) (c0_2 : Nat) (l0_2 : List Int) (a1 : Int) (r : Int) (w : World) (hr0_2 : Kd.C (Kd.int .i64) w A0_2 l0_2.length l0_2) (hc0_2 : l0_2.length ≤ c0_2) (h : impl_KindAt.f k a0_0 a0_1 l0_2 a1 = some r) :
    Calls Try.prog 35 #[.agg #[.int .i64 a0_0, .int .i64 a0_1, .slice A0_2 l0_2.length c0_2], .int .i64 a1] w fun e w' => e = .returned (.int .i64 r) ∧ Below w.heap.size w w' := by
  have hu27 := Try.underlying27
  have HR0_2 := Aside0.mk hr0_2
  have HC0_2 := Aside0.mk hc0_2
  clear hr0_2 hc0_2
  have HB := Aside0.mk (Below.refl w.heap.size w)
  have H : ((impl_FloorOk.f k a0_0 a0_1 l0_2).bind fun t400 => (if t400 = true then ((impl_isCell.f a0_0 a0_1 l0_2 a1).bind fun t401 => (if t401 = true then (if 0 ≤ a1 then (if a1 < (l0_2.length : Int) then (some (rd l0_2 a1)) else (none)) else (none)) else (some 0))) else (some 0))) = some r := h
  clear h
  replace H := Option.bind_eq_some_iff.mp H
  obtain ⟨t400, A30, H⟩ := H
  replace H : (if t400 = true then ((impl_isCell.f a0_0 a0_1 l0_2 a1).bind fun t401 => (if t401 = true then (if 0 ≤ a1 then (if a1 < (l0_2.length : Int) then (some (rd l0_2 a1)) else (none)) else (none)) else (some 0))) else (some 0)) = some r := H
  have A3 := Aside0.mk A30
  clear A30
  by_cases c4 : t400 = true
  · subst c4
    have H1 : ((impl_isCell.f a0_0 a0_1 l0_2 a1).bind fun t401 => (if t401 = true then (if 0 ≤ a1 then (if a1 < (l0_2.length : Int) then (some (rd l0_2 a1)) else (none)) else (none)) else (some 0))) = some r := by rw [if_pos rfl] at H; exact H
    clear H
    have H := H1
    clear H1
    replace H := Option.bind_eq_some_iff.mp H
    obtain ⟨t401, A50, H⟩ := H
    replace H : (if t401 = true then (if 0 ≤ a1 then (if a1 < (l0_2.length : Int) then (some (rd l0_2 a1)) else (none)) else (none)) else (some 0)) = some r := H
    have A5 := Aside0.mk A50
    clear A50
    by_cases c6 : t401 = true
    · subst c6
      have H1 : (if 0 ≤ a1 then (if a1 < (l0_2.length : Int) then (some (rd l0_2 a1)) else (none)) else (none)) = some r := by rw [if_pos rfl] at H; exact H
      clear H
      have H := H1
      clear H1
      by_cases c7 : 0 ≤ a1
      · rw [if_pos c7] at H
        have c7b0 : decide (0 ≤ a1) = true := decide_eq_true c7
        clear c7
        by_cases c8 : a1 < (l0_2.length : Int)
        · rw [if_pos c8] at H
          have c8b0 : decide (a1 < (l0_2.length : Int)) = true := decide_eq_true c8
          clear c8
          obtain rfl := Option.some.inj H
          simp only [Option.some.injEq, Prod.mk.injEq] at H
          obtain ⟨rfl⟩ := H
          go_enter Try.func35, Try.ntmps35
          go_wp2_with (first | ((with_reducible refine gate_dst (N := 2) rfl ?_); refine box_event ?hg (N := 2) ?hd (cs := #[.int .i64 a0_0, .int .i64 a0_1, .slice A0_2 l0_2.length c0_2]) (t := 27) ?hr ?_; (case hd => rfl); (case hg => rfl); (case hr => first | (go_simp; done) | (go_simp; rfl)); intro gb399 hg w9 hbox hb; have n0_ := Aside0.mk (below_step qz1 hb); have n1_ := Aside0.mk (hbox); have n2_ := Aside0.mk ((by rw [hg]; exact (below_size qz1) : w.heap.size ≤ gb399)); have n3_ := Aside0.mk ((by rw [hg]; exact (below_size qz1) : w.heap.size ≤ gb399)); clear HB; have HB := n0_; have BK399 := n1_; have GW399 := n2_; have GE399 := n3_; clear n0_ n1_ n2_ n3_; clear hb hbox hg; have hcz10_0 : w9.cell? ⟨gb399, 0, none⟩ = some (.int .i64 a0_0) := (blk_cell BK399.out 0).trans rfl; have hcz10_1 : w9.cell? ⟨gb399, 1, none⟩ = some (.int .i64 a0_1) := (blk_cell BK399.out 1).trans rfl; have hcz10_2 : w9.cell? ⟨gb399, 2, none⟩ = some (.slice A0_2 l0_2.length c0_2) := (blk_cell BK399.out 2).trans rfl; have hfz10_0 := blk_frozen BK399.out 0; have hfz10_1 := blk_frozen BK399.out 1; have hfz10_2 := blk_frozen BK399.out 2) | ((with_reducible refine gate_callee (f := 30) rfl ?_); refine goesL_ (some 6) rfl rfl Try.func30 (by kernel_rfl) rfl #[.agg #[.int .i64 a0_0, .int .i64 a0_1, .slice A0_2 l0_2.length c0_2]] rfl qz2 ?_; (with_reducible refine (impl_FloorOk.calls k a0_0 a0_1 _ _ l0_2 true _ ?side1 ?side2 A3.out).mono ?_); (case side1 => repeat (first | exact (Kd.C_below HR0_2.out HB.out) | (with_reducible refine Kd.C_alloc ?_ _) | (with_reducible refine Kd.C_drewN ?_ _) | (with_reducible refine Kd.C_drew ?_))); (case side2 => exact HC0_2.out); rintro e w11 ⟨rfl, hb⟩; refine ⟨_, rfl, ?_⟩; have n0_ := Aside0.mk (blk_below (g := gb399) (o := .cells #[.int .i64 a0_0, .int .i64 a0_1, .slice A0_2 l0_2.length c0_2] 27 (0, 0)) (by (with_reducible repeat (first | refine blk_drewN ?_ _ | refine blk_drew ?_ | refine blk_alloc ?_ _)); exact BK399.out) hb); have n1_ := Aside0.mk (below_step (by repeat (first | (with_reducible first | exact HB.out | apply below_alloc | apply pw_below_drewN | apply below_drew1 | refine below_set ?_ GE399.out) | exact HB.out)) hb); clear BK399; clear HB; have BK399 := n0_; have HB := n1_; clear n0_ n1_; (try clear hb); (try clear hb2); (try clear hk); (try clear hi); have hcz12_0 : w11.cell? ⟨gb399, 0, none⟩ = some (.int .i64 a0_0) := (blk_cell BK399.out 0).trans rfl; have hcz12_1 : w11.cell? ⟨gb399, 1, none⟩ = some (.int .i64 a0_1) := (blk_cell BK399.out 1).trans rfl; have hcz12_2 : w11.cell? ⟨gb399, 2, none⟩ = some (.slice A0_2 l0_2.length c0_2) := (blk_cell BK399.out 2).trans rfl; have hfz12_0 := blk_frozen BK399.out 0; have hfz12_1 := blk_frozen BK399.out 1; have hfz12_2 := blk_frozen BK399.out 2) | (go_at_call 87; (with_reducible refine (impl_isCell.calls a0_0 a0_1 _ _ l0_2 a1 true _ ?side1 ?side2 A5.out).mono ?_); (case side1 => repeat (first | exact (Kd.C_below HR0_2.out HB.out) | (with_reducible refine Kd.C_alloc ?_ _) | (with_reducible refine Kd.C_drewN ?_ _) | (with_reducible refine Kd.C_drew ?_))); (case side2 => exact HC0_2.out); rintro e w13 ⟨rfl, hb⟩; have n0_ := Aside0.mk (blk_below (g := gb399) (o := .cells #[.int .i64 a0_0, .int .i64 a0_1, .slice A0_2 l0_2.length c0_2] 27 (0, 0)) (by (with_reducible repeat (first | refine blk_drewN ?_ _ | refine blk_drew ?_ | refine blk_alloc ?_ _)); exact BK399.out) hb); have n1_ := Aside0.mk (below_step (by repeat (first | (with_reducible first | exact HB.out | apply below_alloc | apply pw_below_drewN | apply below_drew1 | refine below_set ?_ GE399.out) | exact HB.out)) hb); clear BK399; clear HB; have BK399 := n0_; have HB := n1_; clear n0_ n1_; (try clear hb); (try clear hb2); (try clear hk); (try clear hi); have hcz14_0 : w13.cell? ⟨gb399, 0, none⟩ = some (.int .i64 a0_0) := (blk_cell BK399.out 0).trans rfl; have hcz14_1 : w13.cell? ⟨gb399, 1, none⟩ = some (.int .i64 a0_1) := (blk_cell BK399.out 1).trans rfl; have hcz14_2 : w13.cell? ⟨gb399, 2, none⟩ = some (.slice A0_2 l0_2.length c0_2) := (blk_cell BK399.out 2).trans rfl; have hfz14_0 := blk_frozen BK399.out 0; have hfz14_1 := blk_frozen BK399.out 1; have hfz14_2 := blk_frozen BK399.out 2; have p402 : 0 ≤ (a1 : Int) := of_decide_eq_true qz3; have q402 : a1 < (l0_2.length : Int) := of_decide_eq_true qz3; obtain ⟨ad402, e402, hx402_0⟩ := Kd.at_int HR0_2.out a1 p402 q402; cases e402; replace hx402_0 := (HB.out.cell (World.block_lt_of_cell? w _ hx402_0)).trans hx402_0; replace p402 := eq_true p402; replace q402 := eq_true q402))
          go_ret
          exact ⟨by first | rfl | (simp [errW_none, errW_some] <;> rfl) | (simp [*, errW_none, errW_some] <;> rfl), by repeat (first | (with_reducible first | exact HB.out | apply below_alloc | apply pw_below_drewN | apply below_drew1 | refine below_set ?_ GE399.out) | exact HB.out)⟩
        · rw [if_neg c8] at H
          exact absurd H (by simp)
      · rw [if_neg c7] at H
        exact absurd H (by simp)
    · replace c6 := Bool.eq_false_iff.mpr c6
      subst c6
      have H1 : (some 0) = some r := by rw [if_neg (show ¬ (false = true) by decide)] at H; exact H
      clear H
      have H := H1
      clear H1
      obtain rfl := Option.some.inj H
      simp only [Option.some.injEq, Prod.mk.injEq] at H
      obtain ⟨rfl⟩ := H
      go_enter Try.func35, Try.ntmps35
      go_wp2_with (first | ((with_reducible refine gate_dst (N := 2) rfl ?_); refine box_event ?hg (N := 2) ?hd (cs := #[.int .i64 a0_0, .int .i64 a0_1, .slice A0_2 l0_2.length c0_2]) (t := 27) ?hr ?_; (case hd => rfl); (case hg => rfl); (case hr => first | (go_simp; done) | (go_simp; rfl)); intro gb399 hg w15 hbox hb; have n0_ := Aside0.mk (below_step qz1 hb); have n1_ := Aside0.mk (hbox); have n2_ := Aside0.mk ((by rw [hg]; exact (below_size qz1) : w.heap.size ≤ gb399)); have n3_ := Aside0.mk ((by rw [hg]; exact (below_size qz1) : w.heap.size ≤ gb399)); clear HB; have HB := n0_; have BK399 := n1_; have GW399 := n2_; have GE399 := n3_; clear n0_ n1_ n2_ n3_; clear hb hbox hg; have hcz16_0 : w15.cell? ⟨gb399, 0, none⟩ = some (.int .i64 a0_0) := (blk_cell BK399.out 0).trans rfl; have hcz16_1 : w15.cell? ⟨gb399, 1, none⟩ = some (.int .i64 a0_1) := (blk_cell BK399.out 1).trans rfl; have hcz16_2 : w15.cell? ⟨gb399, 2, none⟩ = some (.slice A0_2 l0_2.length c0_2) := (blk_cell BK399.out 2).trans rfl; have hfz16_0 := blk_frozen BK399.out 0; have hfz16_1 := blk_frozen BK399.out 1; have hfz16_2 := blk_frozen BK399.out 2) | ((with_reducible refine gate_callee (f := 30) rfl ?_); refine goesL_ (some 6) rfl rfl Try.func30 (by kernel_rfl) rfl #[.agg #[.int .i64 a0_0, .int .i64 a0_1, .slice A0_2 l0_2.length c0_2]] rfl qz2 ?_; (with_reducible refine (impl_FloorOk.calls k a0_0 a0_1 _ _ l0_2 true _ ?side1 ?side2 A3.out).mono ?_); (case side1 => repeat (first | exact (Kd.C_below HR0_2.out HB.out) | (with_reducible refine Kd.C_alloc ?_ _) | (with_reducible refine Kd.C_drewN ?_ _) | (with_reducible refine Kd.C_drew ?_))); (case side2 => exact HC0_2.out); rintro e w17 ⟨rfl, hb⟩; refine ⟨_, rfl, ?_⟩; have n0_ := Aside0.mk (blk_below (g := gb399) (o := .cells #[.int .i64 a0_0, .int .i64 a0_1, .slice A0_2 l0_2.length c0_2] 27 (0, 0)) (by (with_reducible repeat (first | refine blk_drewN ?_ _ | refine blk_drew ?_ | refine blk_alloc ?_ _)); exact BK399.out) hb); have n1_ := Aside0.mk (below_step (by repeat (first | (with_reducible first | exact HB.out | apply below_alloc | apply pw_below_drewN | apply below_drew1 | refine below_set ?_ GE399.out) | exact HB.out)) hb); clear BK399; clear HB; have BK399 := n0_; have HB := n1_; clear n0_ n1_; (try clear hb); (try clear hb2); (try clear hk); (try clear hi); have hcz18_0 : w17.cell? ⟨gb399, 0, none⟩ = some (.int .i64 a0_0) := (blk_cell BK399.out 0).trans rfl; have hcz18_1 : w17.cell? ⟨gb399, 1, none⟩ = some (.int .i64 a0_1) := (blk_cell BK399.out 1).trans rfl; have hcz18_2 : w17.cell? ⟨gb399, 2, none⟩ = some (.slice A0_2 l0_2.length c0_2) := (blk_cell BK399.out 2).trans rfl; have hfz18_0 := blk_frozen BK399.out 0; have hfz18_1 := blk_frozen BK399.out 1; have hfz18_2 := blk_frozen BK399.out 2) | (go_at_call 87; (with_reducible refine (impl_isCell.calls a0_0 a0_1 _ _ l0_2 a1 false _ ?side1 ?side2 A5.out).mono ?_); (case side1 => repeat (first | exact (Kd.C_below HR0_2.out HB.out) | (with_reducible refine Kd.C_alloc ?_ _) | (with_reducible refine Kd.C_drewN ?_ _) | (with_reducible refine Kd.C_drew ?_))); (case side2 => exact HC0_2.out); rintro e w19 ⟨rfl, hb⟩; have n0_ := Aside0.mk (blk_below (g := gb399) (o := .cells #[.int .i64 a0_0, .int .i64 a0_1, .slice A0_2 l0_2.length c0_2] 27 (0, 0)) (by (with_reducible repeat (first | refine blk_drewN ?_ _ | refine blk_drew ?_ | refine blk_alloc ?_ _)); exact BK399.out) hb); have n1_ := Aside0.mk (below_step (by repeat (first | (with_reducible first | exact HB.out | apply below_alloc | apply pw_below_drewN | apply below_drew1 | refine below_set ?_ GE399.out) | exact HB.out)) hb); clear BK399; clear HB; have BK399 := n0_; have HB := n1_; clear n0_ n1_; (try clear hb); (try clear hb2); (try clear hk); (try clear hi)))
      go_ret
      exact ⟨by first | rfl | (simp [errW_none, errW_some] <;> rfl) | (simp [*, errW_none, errW_some] <;> rfl), by repeat (first | (with_reducible first | exact HB.out | apply below_alloc | apply pw_below_drewN | apply below_drew1 | refine below_set ?_ GE399.out) | exact HB.out)⟩
  · replace c4 := Bool.eq_false_iff.mpr c4
    subst c4
    have H1 : (some 0) = some r := by rw [if_neg (show ¬ (false = true) by decide)] at H; exact H
    clear H
    have H := H1
    clear H1
    obtain rfl := Option.some.inj H
    simp only [Option.some.injEq, Prod.mk.injEq] at H
    obtain ⟨rfl⟩ := H
    go_enter Try.func35, Try.ntmps35
    go_wp2_with (first | ((with_reducible refine gate_dst (N := 2) rfl ?_); refine box_event ?hg (N := 2) ?hd (cs := #[.int .i64 a0_0, .int .i64 a0_1, .slice A0_2 l0_2.length c0_2]) (t := 27) ?hr ?_; (case hd => rfl); (case hg => rfl); (case hr => first | (go_simp; done) | (go_simp; rfl)); intro gb399 hg w20 hbox hb; have n0_ := Aside0.mk (below_step qz1 hb); have n1_ := Aside0.mk (hbox); have n2_ := Aside0.mk ((by rw [hg]; exact (below_size qz1) : w.heap.size ≤ gb399)); have n3_ := Aside0.mk ((by rw [hg]; exact (below_size qz1) : w.heap.size ≤ gb399)); clear HB; have HB := n0_; have BK399 := n1_; have GW399 := n2_; have GE399 := n3_; clear n0_ n1_ n2_ n3_; clear hb hbox hg; have hcz21_0 : w20.cell? ⟨gb399, 0, none⟩ = some (.int .i64 a0_0) := (blk_cell BK399.out 0).trans rfl; have hcz21_1 : w20.cell? ⟨gb399, 1, none⟩ = some (.int .i64 a0_1) := (blk_cell BK399.out 1).trans rfl; have hcz21_2 : w20.cell? ⟨gb399, 2, none⟩ = some (.slice A0_2 l0_2.length c0_2) := (blk_cell BK399.out 2).trans rfl; have hfz21_0 := blk_frozen BK399.out 0; have hfz21_1 := blk_frozen BK399.out 1; have hfz21_2 := blk_frozen BK399.out 2) | ((with_reducible refine gate_callee (f := 30) rfl ?_); refine goesL_ (some 6) rfl rfl Try.func30 (by kernel_rfl) rfl #[.agg #[.int .i64 a0_0, .int .i64 a0_1, .slice A0_2 l0_2.length c0_2]] rfl qz2 ?_; (with_reducible refine (impl_FloorOk.calls k a0_0 a0_1 _ _ l0_2 false _ ?side1 ?side2 A3.out).mono ?_); (case side1 => repeat (first | exact (Kd.C_below HR0_2.out HB.out) | (with_reducible refine Kd.C_alloc ?_ _) | (with_reducible refine Kd.C_drewN ?_ _) | (with_reducible refine Kd.C_drew ?_))); (case side2 => exact HC0_2.out); rintro e w22 ⟨rfl, hb⟩; refine ⟨_, rfl, ?_⟩; have n0_ := Aside0.mk (blk_below (g := gb399) (o := .cells #[.int .i64 a0_0, .int .i64 a0_1, .slice A0_2 l0_2.length c0_2] 27 (0, 0)) (by (with_reducible repeat (first | refine blk_drewN ?_ _ | refine blk_drew ?_ | refine blk_alloc ?_ _)); exact BK399.out) hb); have n1_ := Aside0.mk (below_step (by repeat (first | (with_reducible first | exact HB.out | apply below_alloc | apply pw_below_drewN | apply below_drew1 | refine below_set ?_ GE399.out) | exact HB.out)) hb); clear BK399; clear HB; have BK399 := n0_; have HB := n1_; clear n0_ n1_; (try clear hb); (try clear hb2); (try clear hk); (try clear hi)))
    go_ret
    exact ⟨by first | rfl | (simp [errW_none, errW_some] <;> rfl) | (simp [*, errW_none, errW_some] <;> rfl), by repeat (first | (with_reducible first | exact HB.out | apply below_alloc | apply pw_below_drewN | apply below_drew1 | refine below_set ?_ GE399.out) | exact HB.out)⟩

/-! ### impl_Steps: function 34 -/
def impl_Steps.f (k : Nat) (a0_0 : Int) (a0_1 : Int) (l0_2 : List Int) (a1 : Int) (a2 : Int) : Option (Int) := (impl_KindAt.f k a0_0 a0_1 l0_2 a2).bind fun t404 => (if t404 = 0 then (some (-1)) else ((impl_isCell.f a0_0 a0_1 l0_2 a1).bind fun t405 => (if t405 = true then ((impl_field.f k a0_0 a0_1 l0_2 a2 false).bind fun t406 => (if 0 ≤ a1 then (if a1 < (t406.length : Int) then (some (rd t406 a1)) else (none)) else (none))) else (some (-1)))))
theorem impl_Steps.mono : ∀ a0 a1 a2 a3 a4 k, LeO (impl_Steps.f k a0 a1 a2 a3 a4) (impl_Steps.f (k + 1) a0 a1 a2 a3 a4) := by
  intro a0 a1 a2 a3 a4 k
  unfold impl_Steps.f
  repeat' first
      | (with_reducible exact impl_KindAt.mono _ _ _ _ _)
      | (with_reducible exact impl_field.mono _ _ _ _ _ _)
      | (with_reducible exact LeO.refl _)
      | (with_reducible exact LeO.none _)
      | (with_reducible refine LeO.ite ?_ ?_)
      | (with_reducible refine LeO.bind ?_ (fun _ => ?_))
      | exact impl_KindAt.mono _ _ _ _ _
      | exact impl_field.mono _ _ _ _ _ _
      | exact LeO.none _
      | refine LeO.ite ?_ ?_
      | refine LeO.bind ?_ (fun _ => ?_)
set_option maxHeartbeats 8000000 in
set_option maxRecDepth 100000 in
theorem impl_Steps.calls (k : Nat) (a0_0 : Int) (a0_1 : Int) (A0_2 : Option Addr) (c0_2 : Nat) (l0_2 : List Int) (a1 : Int) (a2 : Int) (r : Int) (w : World) (hr0_2 : Kd.C (Kd.int .i64) w A0_2 l0_2.length l0_2) (hc0_2 : l0_2.length ≤ c0_2) (h : impl_Steps.f k a0_0 a0_1 l0_2 a1 a2 = some r) :
    Calls Try.prog 34 #[.agg #[.int .i64 a0_0, .int .i64 a0_1, .slice A0_2 l0_2.length c0_2], .int .i64 a1, .int .i64 a2] w fun e w' => e = .returned (.int .i64 r) ∧ Below w.heap.size w w' := by
  have hu27 := Try.underlying27
  have HR0_2 := Aside0.mk hr0_2
  have HC0_2 := Aside0.mk hc0_2
  clear hr0_2 hc0_2
  have HB := Aside0.mk (Below.refl w.heap.size w)
  have H : ((impl_KindAt.f k a0_0 a0_1 l0_2 a2).bind fun t404 => (if t404 = 0 then (some (-1)) else ((impl_isCell.f a0_0 a0_1 l0_2 a1).bind fun t405 => (if t405 = true then ((impl_field.f k a0_0 a0_1 l0_2 a2 false).bind fun t406 => (if 0 ≤ a1 then (if a1 < (t406.length : Int) then (some (rd t406 a1)) else (none)) else (none))) else (some (-1)))))) = some r := h
  clear h
  replace H := Option.bind_eq_some_iff.mp H
  obtain ⟨t404, A40, H⟩ := H
  replace H : (if t404 = 0 then (some (-1)) else ((impl_isCell.f a0_0 a0_1 l0_2 a1).bind fun t405 => (if t405 = true then ((impl_field.f k a0_0 a0_1 l0_2 a2 false).bind fun t406 => (if 0 ≤ a1 then (if a1 < (t406.length : Int) then (some (rd t406 a1)) else (none)) else (none))) else (some (-1))))) = some r := H
  have A4 := Aside0.mk A40
  clear A40
  by_cases c5 : t404 = 0
  · rw [if_pos c5] at H
    have c5b0 : (t404 == 0) = true := beq_iff_eq.mpr c5
    have c5b1 : (t404 != 0) = false := bne_eq_false_iff_eq.mpr c5
    clear c5
    obtain rfl := Option.some.inj H
    simp only [Option.some.injEq, Prod.mk.injEq] at H
    obtain ⟨rfl⟩ := H
    go_enter Try.func34, Try.ntmps34
    go_wp2_with (first | ((with_reducible refine gate_dst (N := 3) rfl ?_); refine box_event ?hg (N := 3) ?hd (cs := #[.int .i64 a0_0, .int .i64 a0_1, .slice A0_2 l0_2.length c0_2]) (t := 27) ?hr ?_; (case hd => rfl); (case hg => rfl); (case hr => first | (go_simp; done) | (go_simp; rfl)); intro gb403 hg w6 hbox hb; have n0_ := Aside0.mk (below_step qz1 hb); have n1_ := Aside0.mk (hbox); have n2_ := Aside0.mk ((by rw [hg]; exact (below_size qz1) : w.heap.size ≤ gb403)); have n3_ := Aside0.mk ((by rw [hg]; exact (below_size qz1) : w.heap.size ≤ gb403)); clear HB; have HB := n0_; have BK403 := n1_; have GW403 := n2_; have GE403 := n3_; clear n0_ n1_ n2_ n3_; clear hb hbox hg; have hcz7_0 : w6.cell? ⟨gb403, 0, none⟩ = some (.int .i64 a0_0) := (blk_cell BK403.out 0).trans rfl; have hcz7_1 : w6.cell? ⟨gb403, 1, none⟩ = some (.int .i64 a0_1) := (blk_cell BK403.out 1).trans rfl; have hcz7_2 : w6.cell? ⟨gb403, 2, none⟩ = some (.slice A0_2 l0_2.length c0_2) := (blk_cell BK403.out 2).trans rfl; have hfz7_0 := blk_frozen BK403.out 0; have hfz7_1 := blk_frozen BK403.out 1; have hfz7_2 := blk_frozen BK403.out 2) | ((with_reducible refine gate_callee (f := 35) rfl ?_); refine goesL_ (some 9) rfl rfl Try.func35 (by kernel_rfl) rfl #[.agg #[.int .i64 a0_0, .int .i64 a0_1, .slice A0_2 l0_2.length c0_2], .int .i64 a2] rfl qz2 ?_; (with_reducible refine (impl_KindAt.calls k a0_0 a0_1 _ _ l0_2 a2 t404 _ ?side1 ?side2 A4.out).mono ?_); (case side1 => repeat (first | exact (Kd.C_below HR0_2.out HB.out) | (with_reducible refine Kd.C_alloc ?_ _) | (with_reducible refine Kd.C_drewN ?_ _) | (with_reducible refine Kd.C_drew ?_))); (case side2 => exact HC0_2.out); rintro e w8 ⟨rfl, hb⟩; refine ⟨_, rfl, ?_⟩; have n0_ := Aside0.mk (blk_below (g := gb403) (o := .cells #[.int .i64 a0_0, .int .i64 a0_1, .slice A0_2 l0_2.length c0_2] 27 (0, 0)) (by (with_reducible repeat (first | refine blk_drewN ?_ _ | refine blk_drew ?_ | refine blk_alloc ?_ _)); exact BK403.out) hb); have n1_ := Aside0.mk (below_step (by repeat (first | (with_reducible first | exact HB.out | apply below_alloc | apply pw_below_drewN | apply below_drew1 | refine below_set ?_ GE403.out) | exact HB.out)) hb); clear BK403; clear HB; have BK403 := n0_; have HB := n1_; clear n0_ n1_; (try clear hb); (try clear hb2); (try clear hk); (try clear hi)))
    go_ret
    exact ⟨by first | rfl | (simp [errW_none, errW_some] <;> rfl) | (simp [*, errW_none, errW_some] <;> rfl), by repeat (first | (with_reducible first | exact HB.out | apply below_alloc | apply pw_below_drewN | apply below_drew1 | refine below_set ?_ GE403.out) | exact HB.out)⟩
  · rw [if_neg c5] at H
    have c5b0 : (t404 == 0) = false := beq_eq_false_iff_ne.mpr c5
    have c5b1 : (t404 != 0) = true := bne_iff_ne.mpr c5
    replace H := Option.bind_eq_some_iff.mp H
    obtain ⟨t405, A90, H⟩ := H
    replace H : (if t405 = true then ((impl_field.f k a0_0 a0_1 l0_2 a2 false).bind fun t406 => (if 0 ≤ a1 then (if a1 < (t406.length : Int) then (some (rd t406 a1)) else (none)) else (none))) else (some (-1))) = some r := H
    have A9 := Aside0.mk A90
    clear A90
    by_cases c10 : t405 = true
    · subst c10
      have H1 : ((impl_field.f k a0_0 a0_1 l0_2 a2 false).bind fun t406 => (if 0 ≤ a1 then (if a1 < (t406.length : Int) then (some (rd t406 a1)) else (none)) else (none))) = some r := by rw [if_pos rfl] at H; exact H
      clear H
      have H := H1
      clear H1
      replace H := Option.bind_eq_some_iff.mp H
      obtain ⟨t406, A110, H⟩ := H
      replace H : (if 0 ≤ a1 then (if a1 < (t406.length : Int) then (some (rd t406 a1)) else (none)) else (none)) = some r := H
      have A11 := Aside0.mk A110
      clear A110
      by_cases c12 : 0 ≤ a1
      · rw [if_pos c12] at H
        have c12b0 : decide (0 ≤ a1) = true := decide_eq_true c12
        clear c12
        by_cases c13 : a1 < (t406.length : Int)
        · rw [if_pos c13] at H
          have c13b0 : decide (a1 < (t406.length : Int)) = true := decide_eq_true c13
          clear c13
          obtain rfl := Option.some.inj H
          simp only [Option.some.injEq, Prod.mk.injEq] at H
          obtain ⟨rfl⟩ := H
          go_enter Try.func34, Try.ntmps34
          go_wp2_with (first | ((with_reducible refine gate_dst (N := 3) rfl ?_); refine box_event ?hg (N := 3) ?hd (cs := #[.int .i64 a0_0, .int .i64 a0_1, .slice A0_2 l0_2.length c0_2]) (t := 27) ?hr ?_; (case hd => rfl); (case hg => rfl); (case hr => first | (go_simp; done) | (go_simp; rfl)); intro gb403 hg w14 hbox hb; have n0_ := Aside0.mk (below_step qz1 hb); have n1_ := Aside0.mk (hbox); have n2_ := Aside0.mk ((by rw [hg]; exact (below_size qz1) : w.heap.size ≤ gb403)); have n3_ := Aside0.mk ((by rw [hg]; exact (below_size qz1) : w.heap.size ≤ gb403)); clear HB; have HB := n0_; have BK403 := n1_; have GW403 := n2_; have GE403 := n3_; clear n0_ n1_ n2_ n3_; clear hb hbox hg; have hcz15_0 : w14.cell? ⟨gb403, 0, none⟩ = some (.int .i64 a0_0) := (blk_cell BK403.out 0).trans rfl; have hcz15_1 : w14.cell? ⟨gb403, 1, none⟩ = some (.int .i64 a0_1) := (blk_cell BK403.out 1).trans rfl; have hcz15_2 : w14.cell? ⟨gb403, 2, none⟩ = some (.slice A0_2 l0_2.length c0_2) := (blk_cell BK403.out 2).trans rfl; have hfz15_0 := blk_frozen BK403.out 0; have hfz15_1 := blk_frozen BK403.out 1; have hfz15_2 := blk_frozen BK403.out 2) | ((with_reducible refine gate_callee (f := 35) rfl ?_); refine goesL_ (some 9) rfl rfl Try.func35 (by kernel_rfl) rfl #[.agg #[.int .i64 a0_0, .int .i64 a0_1, .slice A0_2 l0_2.length c0_2], .int .i64 a2] rfl qz2 ?_; (with_reducible refine (impl_KindAt.calls k a0_0 a0_1 _ _ l0_2 a2 t404 _ ?side1 ?side2 A4.out).mono ?_); (case side1 => repeat (first | exact (Kd.C_below HR0_2.out HB.out) | (with_reducible refine Kd.C_alloc ?_ _) | (with_reducible refine Kd.C_drewN ?_ _) | (with_reducible refine Kd.C_drew ?_))); (case side2 => exact HC0_2.out); rintro e w16 ⟨rfl, hb⟩; refine ⟨_, rfl, ?_⟩; have n0_ := Aside0.mk (blk_below (g := gb403) (o := .cells #[.int .i64 a0_0, .int .i64 a0_1, .slice A0_2 l0_2.length c0_2] 27 (0, 0)) (by (with_reducible repeat (first | refine blk_drewN ?_ _ | refine blk_drew ?_ | refine blk_alloc ?_ _)); exact BK403.out) hb); have n1_ := Aside0.mk (below_step (by repeat (first | (with_reducible first | exact HB.out | apply below_alloc | apply pw_below_drewN | apply below_drew1 | refine below_set ?_ GE403.out) | exact HB.out)) hb); clear BK403; clear HB; have BK403 := n0_; have HB := n1_; clear n0_ n1_; (try clear hb); (try clear hb2); (try clear hk); (try clear hi); have hcz17_0 : w16.cell? ⟨gb403, 0, none⟩ = some (.int .i64 a0_0) := (blk_cell BK403.out 0).trans rfl; have hcz17_1 : w16.cell? ⟨gb403, 1, none⟩ = some (.int .i64 a0_1) := (blk_cell BK403.out 1).trans rfl; have hcz17_2 : w16.cell? ⟨gb403, 2, none⟩ = some (.slice A0_2 l0_2.length c0_2) := (blk_cell BK403.out 2).trans rfl; have hfz17_0 := blk_frozen BK403.out 0; have hfz17_1 := blk_frozen BK403.out 1; have hfz17_2 := blk_frozen BK403.out 2) | (go_at_call 87; (with_reducible refine (impl_isCell.calls a0_0 a0_1 _ _ l0_2 a1 true _ ?side1 ?side2 A9.out).mono ?_); (case side1 => repeat (first | exact (Kd.C_below HR0_2.out HB.out) | (with_reducible refine Kd.C_alloc ?_ _) | (with_reducible refine Kd.C_drewN ?_ _) | (with_reducible refine Kd.C_drew ?_))); (case side2 => exact HC0_2.out); rintro e w18 ⟨rfl, hb⟩; have n0_ := Aside0.mk (blk_below (g := gb403) (o := .cells #[.int .i64 a0_0, .int .i64 a0_1, .slice A0_2 l0_2.length c0_2] 27 (0, 0)) (by (with_reducible repeat (first | refine blk_drewN ?_ _ | refine blk_drew ?_ | refine blk_alloc ?_ _)); exact BK403.out) hb); have n1_ := Aside0.mk (below_step (by repeat (first | (with_reducible first | exact HB.out | apply below_alloc | apply pw_below_drewN | apply below_drew1 | refine below_set ?_ GE403.out) | exact HB.out)) hb); clear BK403; clear HB; have BK403 := n0_; have HB := n1_; clear n0_ n1_; (try clear hb); (try clear hb2); (try clear hk); (try clear hi); have hcz19_0 : w18.cell? ⟨gb403, 0, none⟩ = some (.int .i64 a0_0) := (blk_cell BK403.out 0).trans rfl; have hcz19_1 : w18.cell? ⟨gb403, 1, none⟩ = some (.int .i64 a0_1) := (blk_cell BK403.out 1).trans rfl; have hcz19_2 : w18.cell? ⟨gb403, 2, none⟩ = some (.slice A0_2 l0_2.length c0_2) := (blk_cell BK403.out 2).trans rfl; have hfz19_0 := blk_frozen BK403.out 0; have hfz19_1 := blk_frozen BK403.out 1; have hfz19_2 := blk_frozen BK403.out 2) | ((with_reducible refine gate_callee (f := 88) rfl ?_); refine goesL_ (some 19) rfl rfl Try.func88 (by kernel_rfl) rfl #[.agg #[.int .i64 a0_0, .int .i64 a0_1, .slice A0_2 l0_2.length c0_2], .int .i64 a2, .bool false] rfl qz2 ?_; (with_reducible refine (impl_field.calls k a0_0 a0_1 _ _ l0_2 a2 false t406 _ ?side1 ?side2 A11.out).mono ?_); (case side1 => repeat (first | exact (Kd.C_below HR0_2.out HB.out) | (with_reducible refine Kd.C_alloc ?_ _) | (with_reducible refine Kd.C_drewN ?_ _) | (with_reducible refine Kd.C_drew ?_))); (case side2 => exact HC0_2.out); rintro e w20 ⟨v407, rfl, ho0, hb⟩; refine ⟨_, rfl, ?_⟩; have n0_ := Aside0.mk (Kd.R_lower ho0 (below_size (by repeat (first | (with_reducible first | exact HB.out | apply below_alloc | apply pw_below_drewN | apply below_drew1 | refine below_set ?_ GE403.out) | exact HB.out)))); have n1_ := Aside0.mk (blk_below (g := gb403) (o := .cells #[.int .i64 a0_0, .int .i64 a0_1, .slice A0_2 l0_2.length c0_2] 27 (0, 0)) (by (with_reducible repeat (first | refine blk_drewN ?_ _ | refine blk_drew ?_ | refine blk_alloc ?_ _)); exact BK403.out) hb); have n2_ := Aside0.mk (below_step (by repeat (first | (with_reducible first | exact HB.out | apply below_alloc | apply pw_below_drewN | apply below_drew1 | refine below_set ?_ GE403.out) | exact HB.out)) hb); clear BK403; clear HB; have HO408 := n0_; have BK403 := n1_; have HB := n2_; clear n0_ n1_ n2_; (try clear hb); (try clear hb2); (try clear hk); (try clear hi); (try clear ho0); obtain ⟨Ao21, co21, eo21⟩ := Kd.R_slice HO408.out; subst eo21; have p409 : 0 ≤ (a1 : Int) := of_decide_eq_true qz3; have q409 : a1 < (t406.length : Int) := of_decide_eq_true qz3; obtain ⟨ad409, e409, hx409_0⟩ := Kd.at_int (Kd.R_reads' HO408.out).2.2 a1 p409 q409; cases e409; replace p409 := eq_true p409; replace q409 := eq_true q409))
          go_ret
          exact ⟨by first | rfl | (simp [errW_none, errW_some] <;> rfl) | (simp [*, errW_none, errW_some] <;> rfl), by repeat (first | (with_reducible first | exact HB.out | apply below_alloc | apply pw_below_drewN | apply below_drew1 | refine below_set ?_ GE403.out) | exact HB.out)⟩
        · rw [if_neg c13] at H
          exact absurd H (by simp)
      · rw [if_neg c12] at H
        exact absurd H (by simp)
    · replace c10 := Bool.eq_false_iff.mpr c10
      subst c10
      have H1 : (some (-1)) = some r := by rw [if_neg (show ¬ (false = true) by decide)] at H; exact H
      clear H
      have H := H1
      clear H1
      obtain rfl := Option.some.inj H
      simp only [Option.some.injEq, Prod.mk.injEq] at H
      obtain ⟨rfl⟩ := H
      go_enter Try.func34, Try.ntmps34
      go_wp2_with (first | ((with_reducible refine gate_dst (N := 3) rfl ?_); refine box_event ?hg (N := 3) ?hd (cs := #[.int .i64 a0_0, .int .i64 a0_1, .slice A0_2 l0_2.length c0_2]) (t := 27) ?hr ?_; (case hd => rfl); (case hg => rfl); (case hr => first | (go_simp; done) | (go_simp; rfl)); intro gb403 hg w22 hbox hb; have n0_ := Aside0.mk (below_step qz1 hb); have n1_ := Aside0.mk (hbox); have n2_ := Aside0.mk ((by rw [hg]; exact (below_size qz1) : w.heap.size ≤ gb403)); have n3_ := Aside0.mk ((by rw [hg]; exact (below_size qz1) : w.heap.size ≤ gb403)); clear HB; have HB := n0_; have BK403 := n1_; have GW403 := n2_; have GE403 := n3_; clear n0_ n1_ n2_ n3_; clear hb hbox hg; have hcz23_0 : w22.cell? ⟨gb403, 0, none⟩ = some (.int .i64 a0_0) := (blk_cell BK403.out 0).trans rfl; have hcz23_1 : w22.cell? ⟨gb403, 1, none⟩ = some (.int .i64 a0_1) := (blk_cell BK403.out 1).trans rfl; have hcz23_2 : w22.cell? ⟨gb403, 2, none⟩ = some (.slice A0_2 l0_2.length c0_2) := (blk_cell BK403.out 2).trans rfl; have hfz23_0 := blk_frozen BK403.out 0; have hfz23_1 := blk_frozen BK403.out 1; have hfz23_2 := blk_frozen BK403.out 2) | ((with_reducible refine gate_callee (f := 35) rfl ?_); refine goesL_ (some 9) rfl rfl Try.func35 (by kernel_rfl) rfl #[.agg #[.int .i64 a0_0, .int .i64 a0_1, .slice A0_2 l0_2.length c0_2], .int .i64 a2] rfl qz2 ?_; (with_reducible refine (impl_KindAt.calls k a0_0 a0_1 _ _ l0_2 a2 t404 _ ?side1 ?side2 A4.out).mono ?_); (case side1 => repeat (first | exact (Kd.C_below HR0_2.out HB.out) | (with_reducible refine Kd.C_alloc ?_ _) | (with_reducible refine Kd.C_drewN ?_ _) | (with_reducible refine Kd.C_drew ?_))); (case side2 => exact HC0_2.out); rintro e w24 ⟨rfl, hb⟩; refine ⟨_, rfl, ?_⟩; have n0_ := Aside0.mk (blk_below (g := gb403) (o := .cells #[.int .i64 a0_0, .int .i64 a0_1, .slice A0_2 l0_2.length c0_2] 27 (0, 0)) (by (with_reducible repeat (first | refine blk_drewN ?_ _ | refine blk_drew ?_ | refine blk_alloc ?_ _)); exact BK403.out) hb); have n1_ := Aside0.mk (below_step (by repeat (first | (with_reducible first | exact HB.out | apply below_alloc | apply pw_below_drewN | apply below_drew1 | refine below_set ?_ GE403.out) | exact HB.out)) hb); clear BK403; clear HB; have BK403 := n0_; have HB := n1_; clear n0_ n1_; (try clear hb); (try clear hb2); (try clear hk); (try clear hi); have hcz25_0 : w24.cell? ⟨gb403, 0, none⟩ = some (.int .i64 a0_0) := (blk_cell BK403.out 0).trans rfl; have hcz25_1 : w24.cell? ⟨gb403, 1, none⟩ = some (.int .i64 a0_1) := (blk_cell BK403.out 1).trans rfl; have hcz25_2 : w24.cell? ⟨gb403, 2, none⟩ = some (.slice A0_2 l0_2.length c0_2) := (blk_cell BK403.out 2).trans rfl; have hfz25_0 := blk_frozen BK403.out 0; have hfz25_1 := blk_frozen BK403.out 1; have hfz25_2 := blk_frozen BK403.out 2) | (go_at_call 87; (with_reducible refine (impl_isCell.calls a0_0 a0_1 _ _ l0_2 a1 false _ ?side1 ?side2 A9.out).mono ?_); (case side1 => repeat (first | exact (Kd.C_below HR0_2.out HB.out) | (with_reducible refine Kd.C_alloc ?_ _) | (with_reducible refine Kd.C_drewN ?_ _) | (with_reducible refine Kd.C_drew ?_))); (case side2 => exact HC0_2.out); rintro e w26 ⟨rfl, hb⟩; have n0_ := Aside0.mk (blk_below (g := gb403) (o := .cells #[.int .i64 a0_0, .int .i64 a0_1, .slice A0_2 l0_2.length c0_2] 27 (0, 0)) (by (with_reducible repeat (first | refine blk_drewN ?_ _ | refine blk_drew ?_ | refine blk_alloc ?_ _)); exact BK403.out) hb); have n1_ := Aside0.mk (below_step (by repeat (first | (with_reducible first | exact HB.out | apply below_alloc | apply pw_below_drewN | apply below_drew1 | refine below_set ?_ GE403.out) | exact HB.out)) hb); clear BK403; clear HB; have BK403 := n0_; have HB := n1_; clear n0_ n1_; (try clear hb); (try clear hb2); (try clear hk); (try clear hi)))
      go_ret
      exact ⟨by first | rfl | (simp [errW_none, errW_some] <;> rfl) | (simp [*, errW_none, errW_some] <;> rfl), by repeat (first | (with_reducible first | exact HB.out | apply below_alloc | apply pw_below_drewN | apply below_drew1 | refine below_set ?_ GE403.out) | exact HB.out)⟩

end Go.Proofs.Ytdlkmjilakaklaa.PFnCuts
