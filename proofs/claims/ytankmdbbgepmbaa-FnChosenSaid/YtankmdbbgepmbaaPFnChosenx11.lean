-- Made by a program of this session out of the translation. Lean checks it.
import Derived.Test.YtankmdbbgepmbaaPFnChosenx10
namespace Go.Proofs.Ytankmdbbgepmbaa.PFnChosen
open Go.RowKit Go.Proofs.YtankmdbbgepmbaaW.PrintWords Go.Proofs.YtankmdbbgepmbaaW.PrintLast Go.Proofs.YtankmdbbgepmbaaW.PrintMore
attribute [local go_sem] max2_int min2_int max_two min_two max_three min_three max_four min_four   -- for this text's walks alone
set_option linter.unusedVariables false
set_option linter.unusedSimpArgs false

/-! ### spec_l1Floor: function 84 -/
def spec_l1Floor.l0 : Nat → Int → List Int → Int → Int → Int → Int → List Int → Option (Int × Int × List Int × Int × Int)
 | 0, _, _, _, _, _, _, _ => none
 | k + 1, x6, x1000, x1001, x1002, x384000, x384001, x384002 => if x6 < (wrap64 (x384000 * x384001)) then ((spec_l1Int.f x1000 x1001 x1002 (([1, 1, 1, 1, 1, 1, 0, 2, 3, 4] : List Int))).bind fun bt387 => (if x384002.length < 17592186044416 then (spec_l1Floor.l0 k (wrap64 (x6 + 1)) x1000 bt387.2.1 bt387.2.2 x384000 x384001 (x384002 ++ [bt387.1])) else (none))) else (some (x384000, x384001, x384002, x1001, x1002))
def spec_l1Floor.f (k : Nat) (s0_0 : List Int) (s0_1 : Int) (s0_2 : Int) : Option (Int × Int × List Int × Int × Int) := (spec_l1Once.f s0_0 s0_1 s0_2 3).bind fun bt361 => (if bt361.1 = true then ((spec_l1Str.f s0_0 bt361.2.1 bt361.2.2 (([(⟨#[99, 46, 46, 46, 46, 46, 10, 46, 112, 112, 46, 112, 46, 10, 46, 112, 112, 46, 112, 46, 10, 46, 46, 46, 46, 46, 115, 10]⟩ : ByteArray), (⟨#[99, 46, 46, 10, 46, 46, 46, 10, 46, 46, 115, 10]⟩ : ByteArray), (⟨#[46, 46, 46, 46, 46, 10, 46, 112, 35, 112, 46, 10, 46, 46, 115, 46, 46, 10, 46, 112, 35, 112, 46, 10, 99, 46, 46, 46, 99, 10]⟩ : ByteArray), (⟨#[46, 46, 46, 35, 46, 46, 46, 10, 46, 46, 46, 46, 46, 46, 46, 10, 46, 46, 46, 35, 46, 46, 46, 10]⟩ : ByteArray), (⟨#[99, 46, 46, 46, 46, 46, 46, 46, 10, 46, 112, 46, 112, 46, 112, 46, 46, 10, 46, 46, 46, 46, 46, 46, 46, 115, 10, 46, 112, 46, 112, 46, 112, 46, 46, 10, 99, 46, 46, 46, 46, 46, 46, 115, 10]⟩ : ByteArray), (⟨#[46, 46, 10, 46, 46, 10]⟩ : ByteArray), (⟨#[99, 46, 35, 46, 115, 10, 46, 46, 35, 46, 46, 10]⟩ : ByteArray)] : List ByteArray))).bind fun bt367 => ((spec_ParseFloor.f k bt367.1).bind fun bt370 => (some (bt370.1, bt370.2.1, bt370.2.2.1, bt367.2.1, bt367.2.2)))) else ((spec_l1Below.f s0_0 bt361.2.1 bt361.2.2 7).bind fun bt377 => ((spec_l1Below.f s0_0 bt377.2.1 bt377.2.2 6).bind fun bt380 => (spec_l1Floor.l0 k 0 s0_0 bt380.2.1 bt380.2.2 (wrap64 (1 + bt377.1)) (wrap64 (1 + bt380.1)) ([] : List Int)))))
theorem spec_l1Floor.mono_l : ∀ k, (∀ y0 y1 y2 y3 y4 y5 y6, LeO (spec_l1Floor.l0 k y0 y1 y2 y3 y4 y5 y6) (spec_l1Floor.l0 (k + 1) y0 y1 y2 y3 y4 y5 y6))
 | 0 => fun _ _ _ _ _ _ _ r h => by simp [spec_l1Floor.l0] at h
 | k + 1 => by
  have ih0 := spec_l1Floor.mono_l k
  {
  intro y0 y1 y2 y3 y4 y5 y6
  unfold spec_l1Floor.l0
  have j0 := @spec_ParseFloor.mono
  exact qL
  }
theorem spec_l1Floor.mono : ∀ a0 a1 a2 k, LeO (spec_l1Floor.f k a0 a1 a2) (spec_l1Floor.f (k + 1) a0 a1 a2) := by
 intro a0 a1 a2 k
 have ih0 := spec_l1Floor.mono_l k
 unfold spec_l1Floor.f
 have j0 := @spec_ParseFloor.mono
 exact qL
def spec_l1Floor.T8 : Bool × List (List Nat × List Nat) := (true, [([], []), ([0], [0]), ([], []), ([], []), ([2, 3], [2, 3]), ([4], [4]), ([1, 5, 4], [1, 5]), ([0, 1, 2, 3, 4, 5, 6], []), ([7, 6, 6, 0, 1, 2, 3, 4, 5, 6], [6, 7])])
def spec_l1Floor.B8 : List Nat := [0, 1, 0, 0, 12, 28, 63, 127, 255]
theorem spec_l1Floor.tab8 : rtab .any (opsOf Try.f84 8) = spec_l1Floor.T8 := by kernel_rfl
theorem spec_l1Floor.bits8 : waitsOk spec_l1Floor.T8.2 spec_l1Floor.B8 = true := by kernel_rfl
set_option maxHeartbeats 8000000 in
set_option maxRecDepth 100000 in
theorem spec_l1Floor.calls (k : Nat) (g : Nat) (s0_0 : List Int) (s0_1 : Int) (s0_2 : Int) (r1 : Int) (r2 : Int) (r3 : List Int) (r4 : Int) (r5 : Int) (w0 w : World) (hI : IsS113 w0 w g s0_0 s0_1 s0_2) (hB : Below w0.heap.size w0 w) (h : spec_l1Floor.f k s0_0 s0_1 s0_2 = some (r1, r2, r3, r4, r5)) :
  Calls Try.prog 84 #[.pointer (some ⟨g, 0, none⟩)] w fun e w' => ∃ v2_ : Value, e = .returned (.agg #[.int .i64 r1, .int .i64 r2, v2_]) ∧ Kd.R (Kd.int .i64) 3 w' w.heap.size (fun _ => True) v2_ r3 ∧ IsS113 w0 w' g s0_0 r4 r5 ∧ Below w0.heap.size w0 w' ∧ KeepBut w w' g none := by
 have hu43 := Try.underlying43
 have HI0 := aM hI
 have HK := aM (KeepBut.refl w g none)
 have HL := aM hB.size
 clear hI
 have HW0 := aM hB.size
 have HB := aM hB
 clear hB
 have H : ((spec_l1Once.f s0_0 s0_1 s0_2 3).bind fun bt361 => (if bt361.1 = true then ((spec_l1Str.f s0_0 bt361.2.1 bt361.2.2 (([(⟨#[99, 46, 46, 46, 46, 46, 10, 46, 112, 112, 46, 112, 46, 10, 46, 112, 112, 46, 112, 46, 10, 46, 46, 46, 46, 46, 115, 10]⟩ : ByteArray), (⟨#[99, 46, 46, 10, 46, 46, 46, 10, 46, 46, 115, 10]⟩ : ByteArray), (⟨#[46, 46, 46, 46, 46, 10, 46, 112, 35, 112, 46, 10, 46, 46, 115, 46, 46, 10, 46, 112, 35, 112, 46, 10, 99, 46, 46, 46, 99, 10]⟩ : ByteArray), (⟨#[46, 46, 46, 35, 46, 46, 46, 10, 46, 46, 46, 46, 46, 46, 46, 10, 46, 46, 46, 35, 46, 46, 46, 10]⟩ : ByteArray), (⟨#[99, 46, 46, 46, 46, 46, 46, 46, 10, 46, 112, 46, 112, 46, 112, 46, 46, 10, 46, 46, 46, 46, 46, 46, 46, 115, 10, 46, 112, 46, 112, 46, 112, 46, 46, 10, 99, 46, 46, 46, 46, 46, 46, 115, 10]⟩ : ByteArray), (⟨#[46, 46, 10, 46, 46, 10]⟩ : ByteArray), (⟨#[99, 46, 35, 46, 115, 10, 46, 46, 35, 46, 46, 10]⟩ : ByteArray)] : List ByteArray))).bind fun bt367 => ((spec_ParseFloor.f k bt367.1).bind fun bt370 => (some (bt370.1, bt370.2.1, bt370.2.2.1, bt367.2.1, bt367.2.2)))) else ((spec_l1Below.f s0_0 bt361.2.1 bt361.2.2 7).bind fun bt377 => ((spec_l1Below.f s0_0 bt377.2.1 bt377.2.2 6).bind fun bt380 => (spec_l1Floor.l0 k 0 s0_0 bt380.2.1 bt380.2.2 (wrap64 (1 + bt377.1)) (wrap64 (1 + bt380.1)) ([] : List Int)))))) = some (r1, r2, r3, r4, r5) := h
 clear h
 replace H := Option.bind_eq_some_iff.mp H
 obtain ⟨⟨t361, t362, t363⟩, A20, H⟩ := H
 replace H : (if t361 = true then ((spec_l1Str.f s0_0 t362 t363 (([(⟨#[99, 46, 46, 46, 46, 46, 10, 46, 112, 112, 46, 112, 46, 10, 46, 112, 112, 46, 112, 46, 10, 46, 46, 46, 46, 46, 115, 10]⟩ : ByteArray), (⟨#[99, 46, 46, 10, 46, 46, 46, 10, 46, 46, 115, 10]⟩ : ByteArray), (⟨#[46, 46, 46, 46, 46, 10, 46, 112, 35, 112, 46, 10, 46, 46, 115, 46, 46, 10, 46, 112, 35, 112, 46, 10, 99, 46, 46, 46, 99, 10]⟩ : ByteArray), (⟨#[46, 46, 46, 35, 46, 46, 46, 10, 46, 46, 46, 46, 46, 46, 46, 10, 46, 46, 46, 35, 46, 46, 46, 10]⟩ : ByteArray), (⟨#[99, 46, 46, 46, 46, 46, 46, 46, 10, 46, 112, 46, 112, 46, 112, 46, 46, 10, 46, 46, 46, 46, 46, 46, 46, 115, 10, 46, 112, 46, 112, 46, 112, 46, 46, 10, 99, 46, 46, 46, 46, 46, 46, 115, 10]⟩ : ByteArray), (⟨#[46, 46, 10, 46, 46, 10]⟩ : ByteArray), (⟨#[99, 46, 35, 46, 115, 10, 46, 46, 35, 46, 46, 10]⟩ : ByteArray)] : List ByteArray))).bind fun bt367 => ((spec_ParseFloor.f k bt367.1).bind fun bt370 => (some (bt370.1, bt370.2.1, bt370.2.2.1, bt367.2.1, bt367.2.2)))) else ((spec_l1Below.f s0_0 t362 t363 7).bind fun bt377 => ((spec_l1Below.f s0_0 bt377.2.1 bt377.2.2 6).bind fun bt380 => (spec_l1Floor.l0 k 0 s0_0 bt380.2.1 bt380.2.2 (wrap64 (1 + bt377.1)) (wrap64 (1 + bt380.1)) ([] : List Int))))) = some (r1, r2, r3, r4, r5) := H
 have A2 := aM A20
 clear A20
 by_cases c3 : t361 = true
 {
 subst c3
 rw [if_pos rfl] at H
 obtain ⟨y364, hy364⟩ : ∃ y_ : List ByteArray, y_ = (([(⟨#[99, 46, 46, 46, 46, 46, 10, 46, 112, 112, 46, 112, 46, 10, 46, 112, 112, 46, 112, 46, 10, 46, 46, 46, 46, 46, 115, 10]⟩ : ByteArray), (⟨#[99, 46, 46, 10, 46, 46, 46, 10, 46, 46, 115, 10]⟩ : ByteArray), (⟨#[46, 46, 46, 46, 46, 10, 46, 112, 35, 112, 46, 10, 46, 46, 115, 46, 46, 10, 46, 112, 35, 112, 46, 10, 99, 46, 46, 46, 99, 10]⟩ : ByteArray), (⟨#[46, 46, 46, 35, 46, 46, 46, 10, 46, 46, 46, 46, 46, 46, 46, 10, 46, 46, 46, 35, 46, 46, 46, 10]⟩ : ByteArray), (⟨#[99, 46, 46, 46, 46, 46, 46, 46, 10, 46, 112, 46, 112, 46, 112, 46, 46, 10, 46, 46, 46, 46, 46, 46, 46, 115, 10, 46, 112, 46, 112, 46, 112, 46, 46, 10, 99, 46, 46, 46, 46, 46, 46, 115, 10]⟩ : ByteArray), (⟨#[46, 46, 10, 46, 46, 10]⟩ : ByteArray), (⟨#[99, 46, 35, 46, 115, 10, 46, 46, 35, 46, 46, 10]⟩ : ByteArray)] : List ByteArray)) := ⟨_, rfl⟩
 replace H : ((spec_l1Str.f s0_0 t362 t363 y364).bind fun bt367 => ((spec_ParseFloor.f k bt367.1).bind fun bt370 => (some (bt370.1, bt370.2.1, bt370.2.2.1, bt367.2.1, bt367.2.2)))) = some (r1, r2, r3, r4, r5) := by first | (rw [hy364]; with_reducible exact H) | (have H2_ := (Option.bind_some _ _).symm.trans H; rw [hy364]; with_reducible exact H2_) | (have H2_ := (Option.bind_some _ _).symm.trans H; with_reducible exact H2_) | with_reducible exact H | (rw [hy364]; exact H) | exact H
 have Ny364 := aM hy364
 clear hy364
 replace H := Option.bind_eq_some_iff.mp H
 obtain ⟨⟨t367, t368, t369⟩, A40, H⟩ := H
 replace H : ((spec_ParseFloor.f k t367).bind fun bt370 => (some (bt370.1, bt370.2.1, bt370.2.2.1, t368, t369))) = some (r1, r2, r3, r4, r5) := H
 have A4 := aM A40
 clear A40
 replace H := Option.bind_eq_some_iff.mp H
 obtain ⟨⟨t370, t371, t372, t375⟩, A50, H⟩ := H
 replace H : (some (t370, t371, t372, t368, t369)) = some (r1, r2, r3, r4, r5) := H
 have A5 := aM A50
 clear A50
 simp only [Option.some.injEq, Prod.mk.injEq] at H
 obtain ⟨rfl, rfl, rfl, rfl, rfl⟩ := H
 go_enter Try.func84, Try.ntmps84
 go_wp2_with (first | ((with_reducible refine gate_dst (N := 2) rfl ?_); refine bx_ 2 #[.int .i64 0, .int .i64 0, .slice none 0 0] 43 ?_; intro gb360 hg w6 hbox hb; replace HB := bS_ hb; have BK360 := aM (hbox); have GW360 := aM (kz_ w g hg qz2); have GE360 := aM ((Nat.le_trans HW0.out (by rw [hg]; exact (keep_size (w := w) (g := g) (row := none) qz2) : w.heap.size ≤ gb360) : w0.heap.size ≤ gb360)); replace HK := aM (KeepBut.trans qz2 (KeepBut.of_below hb g none) (.inl rfl)); have NB0_360 := aM ((by rw [hg]; exact Nat.ne_of_lt (IsS113.lt (show IsS113 w0 _ g s0_0 s0_1 s0_2 from qz3)) : g ≠ gb360)); have NB360_0 := aM ((by rw [hg]; exact Nat.ne_of_gt (IsS113.lt (show IsS113 w0 _ g s0_0 s0_1 s0_2 from qz3)) : gb360 ≠ g)); replace HI0 := aM (IsS113.below qz3 hb); clear hb hbox hg) | ((with_reducible refine gate_callee (f := 80) rfl ?_); refine goesL_ (some 8) rfl rfl Try.func80 (by kernel_rfl) rfl #[.pointer (some ⟨g, 0, none⟩), .int .i64 3] rfl qz4 ?_; (with_reducible refine (spec_l1Once.calls g s0_0 s0_1 s0_2 3 true t362 t363 w0 _ ?side1 ?side2 A2.out).mono ?_); (case side1 => exact qz3); (case side2 => exact qz1); rintro e w7 ⟨rfl, hi, hb, hk⟩; refine ⟨_, rfl, ?_⟩; replace BK360 := aM (KeepBut.blk hk (bk_ BK360.out) NB360_0.out (by simp)); replace HK := aM (KeepBut.trans qz2 hk (.inl rfl)); replace HB := aM (hb); replace HI0 := aM (hi); (try clear hb hk hi)) | ((with_reducible refine gate_dst (N := 11) rfl ?_); refine Kd.R_lit Kd.string _ 9 ?hg (N := 11) ?hd (xs := ([(⟨#[99, 46, 46, 46, 46, 46, 10, 46, 112, 112, 46, 112, 46, 10, 46, 112, 112, 46, 112, 46, 10, 46, 46, 46, 46, 46, 115, 10]⟩ : ByteArray), (⟨#[99, 46, 46, 10, 46, 46, 46, 10, 46, 46, 115, 10]⟩ : ByteArray), (⟨#[46, 46, 46, 46, 46, 10, 46, 112, 35, 112, 46, 10, 46, 46, 115, 46, 46, 10, 46, 112, 35, 112, 46, 10, 99, 46, 46, 46, 99, 10]⟩ : ByteArray), (⟨#[46, 46, 46, 35, 46, 46, 46, 10, 46, 46, 46, 46, 46, 46, 46, 10, 46, 46, 46, 35, 46, 46, 46, 10]⟩ : ByteArray), (⟨#[99, 46, 46, 46, 46, 46, 46, 46, 10, 46, 112, 46, 112, 46, 112, 46, 46, 10, 46, 46, 46, 46, 46, 46, 46, 115, 10, 46, 112, 46, 112, 46, 112, 46, 46, 10, 99, 46, 46, 46, 46, 46, 46, 115, 10]⟩ : ByteArray), (⟨#[46, 46, 10, 46, 46, 10]⟩ : ByteArray), (⟨#[99, 46, 35, 46, 115, 10, 46, 46, 35, 46, 46, 10]⟩ : ByteArray)] : List ByteArray)) (inner := [.string (⟨#[99, 46, 46, 46, 46, 46, 10, 46, 112, 112, 46, 112, 46, 10, 46, 112, 112, 46, 112, 46, 10, 46, 46, 46, 46, 46, 115, 10]⟩ : ByteArray), .string (⟨#[99, 46, 46, 10, 46, 46, 46, 10, 46, 46, 115, 10]⟩ : ByteArray), .string (⟨#[46, 46, 46, 46, 46, 10, 46, 112, 35, 112, 46, 10, 46, 46, 115, 46, 46, 10, 46, 112, 35, 112, 46, 10, 99, 46, 46, 46, 99, 10]⟩ : ByteArray), .string (⟨#[46, 46, 46, 35, 46, 46, 46, 10, 46, 46, 46, 46, 46, 46, 46, 10, 46, 46, 46, 35, 46, 46, 46, 10]⟩ : ByteArray), .string (⟨#[99, 46, 46, 46, 46, 46, 46, 46, 10, 46, 112, 46, 112, 46, 112, 46, 46, 10, 46, 46, 46, 46, 46, 46, 46, 115, 10, 46, 112, 46, 112, 46, 112, 46, 46, 10, 99, 46, 46, 46, 46, 46, 46, 115, 10]⟩ : ByteArray), .string (⟨#[46, 46, 10, 46, 46, 10]⟩ : ByteArray), .string (⟨#[99, 46, 35, 46, 115, 10, 46, 46, 35, 46, 46, 10]⟩ : ByteArray)]) (ok := fun _ => True) (okp := fun _ => True) ?hr ?hp (fun _ hk => hk) trivial (Below.refl _ _) (Nat.le_refl _) (by simp) ?_; (case hd => rfl); (case hg => rfl); (case hr => exact qz10); (case hp => exact (Reps.one (show Kd.M Kd.string _ _ _ (⟨#[99, 46, 46, 46, 46, 46, 10, 46, 112, 112, 46, 112, 46, 10, 46, 112, 112, 46, 112, 46, 10, 46, 46, 46, 46, 46, 115, 10]⟩ : ByteArray) [.string (⟨#[99, 46, 46, 46, 46, 46, 10, 46, 112, 112, 46, 112, 46, 10, 46, 112, 112, 46, 112, 46, 10, 46, 46, 46, 46, 46, 115, 10]⟩ : ByteArray)] from rfl) (Reps.one (show Kd.M Kd.string _ _ _ (⟨#[99, 46, 46, 10, 46, 46, 46, 10, 46, 46, 115, 10]⟩ : ByteArray) [.string (⟨#[99, 46, 46, 10, 46, 46, 46, 10, 46, 46, 115, 10]⟩ : ByteArray)] from rfl) (Reps.one (show Kd.M Kd.string _ _ _ (⟨#[46, 46, 46, 46, 46, 10, 46, 112, 35, 112, 46, 10, 46, 46, 115, 46, 46, 10, 46, 112, 35, 112, 46, 10, 99, 46, 46, 46, 99, 10]⟩ : ByteArray) [.string (⟨#[46, 46, 46, 46, 46, 10, 46, 112, 35, 112, 46, 10, 46, 46, 115, 46, 46, 10, 46, 112, 35, 112, 46, 10, 99, 46, 46, 46, 99, 10]⟩ : ByteArray)] from rfl) (Reps.one (show Kd.M Kd.string _ _ _ (⟨#[46, 46, 46, 35, 46, 46, 46, 10, 46, 46, 46, 46, 46, 46, 46, 10, 46, 46, 46, 35, 46, 46, 46, 10]⟩ : ByteArray) [.string (⟨#[46, 46, 46, 35, 46, 46, 46, 10, 46, 46, 46, 46, 46, 46, 46, 10, 46, 46, 46, 35, 46, 46, 46, 10]⟩ : ByteArray)] from rfl) (Reps.one (show Kd.M Kd.string _ _ _ (⟨#[99, 46, 46, 46, 46, 46, 46, 46, 10, 46, 112, 46, 112, 46, 112, 46, 46, 10, 46, 46, 46, 46, 46, 46, 46, 115, 10, 46, 112, 46, 112, 46, 112, 46, 46, 10, 99, 46, 46, 46, 46, 46, 46, 115, 10]⟩ : ByteArray) [.string (⟨#[99, 46, 46, 46, 46, 46, 46, 46, 10, 46, 112, 46, 112, 46, 112, 46, 46, 10, 46, 46, 46, 46, 46, 46, 46, 115, 10, 46, 112, 46, 112, 46, 112, 46, 46, 10, 99, 46, 46, 46, 46, 46, 46, 115, 10]⟩ : ByteArray)] from rfl) (Reps.one (show Kd.M Kd.string _ _ _ (⟨#[46, 46, 10, 46, 46, 10]⟩ : ByteArray) [.string (⟨#[46, 46, 10, 46, 46, 10]⟩ : ByteArray)] from rfl) (Reps.one (show Kd.M Kd.string _ _ _ (⟨#[99, 46, 35, 46, 115, 10, 46, 46, 35, 46, 46, 10]⟩ : ByteArray) [.string (⟨#[99, 46, 35, 46, 115, 10, 46, 46, 35, 46, 46, 10]⟩ : ByteArray)] from rfl) (Reps.none _ _))))))))); intro v365 w8 ho9 hb hg_ hnew_; clear hg_ hnew_; (first | rw [← Ny364.out] at ho9 | (simp only [Int.reduceToNat] at ho9; rw [← Ny364.out] at ho9)); have HO366 := aM (Kd.R_lower ho9 (keep_size (w := w) (g := g) (row := none) qz2)); replace BK360 := bB_ BK360 hb; replace HK := aM (KeepBut.trans qz2 (KeepBut.of_below hb g none) (.inl rfl)); replace HB := bS_ hb; replace HI0 := aM (IsS113.below qz3 hb); clear hb ho9; obtain ⟨Ao10, co10, eo10⟩ := Kd.R_slice HO366.out; subst eo10) | ((with_reducible refine gate_callee (f := 107) rfl ?_); refine goesL_ (some 12) rfl rfl Try.func107 (by kernel_rfl) rfl #[.pointer (some ⟨g, 0, none⟩), .slice Ao10 y364.length co10] rfl qz4 ?_; (with_reducible refine (spec_l1Str.calls g s0_0 t362 t363 _ _ y364 t367 t368 t369 w0 _ ?side1 ?side2 ?side3 ?side4 ?side5 A4.out).mono ?_); (case side1 => exact qz3); (case side2 => exact qz1); (case side3 => repeat (first | exact (Kd.R_reads' HO366.out).2.2 | (with_reducible refine Kd.C_alloc ?_ _) | (with_reducible refine Kd.C_drewN ?_ _) | (with_reducible refine Kd.C_drew ?_))); (case side4 => exact (Kd.R_reads' HO366.out).2.1); (case side5 => exact far_slice (IsS113.own_ne HI0.out HO366.out (by decide))); rintro e w11 ⟨rfl, hi, hb, hk⟩; refine ⟨_, rfl, ?_⟩; replace BK360 := aM (KeepBut.blk hk (bk_ BK360.out) NB360_0.out (by simp)); replace HO366 := aM (Kd.R_mono (Kd.R_keep (IsS113.apart (show IsS113 w0 _ g s0_0 t362 t363 from qz3) (rr_ HO366.out) (by decide)) hk (fun _ h => h.2)) (fun _ h => h.1)); replace HK := aM (KeepBut.trans qz2 hk (.inl rfl)); replace HB := aM (hb); replace HI0 := aM (hi); (try clear hb hk hi)) | ((with_reducible refine gate_callee (f := 106) rfl ?_); refine goesL_ (some 13) rfl rfl Try.func106 (by kernel_rfl) rfl #[.string t367] rfl qz4 ?_; (with_reducible refine (spec_ParseFloor.calls k t367 t370 t371 t372 t375 _ A5.out).mono ?_); rintro e w12 ⟨v373, rfl, ho0, hb⟩; refine ⟨_, rfl, ?_⟩; replace HO366 := aM (Kd.R_below (rr_ HO366.out) hb); have HO374 := aM (Kd.R_lower ho0 (keep_size (w := w) (g := g) (row := none) qz2)); replace BK360 := bB_ BK360 hb; replace HK := aM (KeepBut.trans qz2 (KeepBut.of_below hb g none) (.inl rfl)); replace HB := bS_ hb; replace HI0 := aM (IsS113.below qz3 hb); (try clear hb ho0)) | ((with_reducible refine gate_dst (N := 3) rfl ?_); refine bx_ 3 #[.int .i64 0, .int .i64 0, .slice none 0 0] 43 ?_; intro gb376 hg w13 hbox hb; replace HO366 := aM (Kd.R_below (rr_ HO366.out) hb); replace HO374 := aM (Kd.R_below (rr_ HO374.out) hb); replace HB := bS_ hb; have BK376 := aM (hbox); have GW376 := aM (kz_ w g hg qz2); have GE376 := aM ((Nat.le_trans HW0.out (by rw [hg]; exact (keep_size (w := w) (g := g) (row := none) qz2) : w.heap.size ≤ gb376) : w0.heap.size ≤ gb376)); replace HK := aM (KeepBut.trans qz2 (KeepBut.of_below hb g none) (.inl rfl)); obtain ⟨NB360_376, NB376_360⟩ := nb_ hg (bk_ BK360.out); replace BK360 := bB_ BK360 hb; have NB0_376 := aM ((by rw [hg]; exact Nat.ne_of_lt (IsS113.lt (show IsS113 w0 _ g s0_0 t368 t369 from qz3)) : g ≠ gb376)); have NB376_0 := aM ((by rw [hg]; exact Nat.ne_of_gt (IsS113.lt (show IsS113 w0 _ g s0_0 t368 t369 from qz3)) : gb376 ≠ g)); replace HI0 := aM (IsS113.below qz3 hb); clear hb hbox hg; have hnb14 := NB376_360.out; have hnc14 := NB360_376.out; have hnb15 := NB376_0.out; have hnc15 := NB0_376.out; obtain ⟨hcz16_0, hcz16_1, hcz16_2, hfz16_0, hfz16_1, hfz16_2⟩ := b6_ BK376.out; obtain ⟨Ao17, co17, eo17⟩ := Kd.R_slice HO374.out; subst eo17; have hnb18 := NB360_0.out; have hnc18 := NB0_360.out; obtain ⟨hcz19_0, hcz19_1, hcz19_2, hfz19_0, hfz19_1, hfz19_2⟩ := b6_ BK360.out))
 refine bodyPost_ret (results_cell_row rfl _ _ gb360 43 #[.int .i64 t370, .int .i64 t371, .slice Ao17 t372.length co17] (0, 0) _ rfl (by (with_reducible repeat (first | refine blk_drewN ?_ _ | refine blk_drew ?_ | refine blk_alloc ?_ _)); refine blk_put (cs := #[.int .i64 t370, .int .i64 t371, .slice none 0 0]) ?_ 2 _ rfl; (with_reducible repeat (first | refine blk_drewN ?_ _ | refine blk_drew ?_ | refine blk_alloc ?_ _)); refine blk_put (cs := #[.int .i64 t370, .int .i64 0, .slice none 0 0]) ?_ 1 _ rfl; (with_reducible repeat (first | refine blk_drewN ?_ _ | refine blk_drew ?_ | refine blk_alloc ?_ _)); refine blk_put (cs := #[.int .i64 0, .int .i64 0, .slice none 0 0]) ?_ 0 _ rfl; (with_reducible repeat (first | refine blk_drewN ?_ _ | refine blk_drew ?_ | refine blk_alloc ?_ _)); exact bk2_ BK360.out) Try.underlying43 rfl (by kernel_rfl)) rfl ?_
 exact ⟨_, qzw, by (with_reducible repeat (first | apply Kd.R_alloc | apply Kd.R_drewN | apply Kd.R_drew)); exact Kd.R_mono (Kd.R_far (p := ⟨gb360, 2, none⟩) (Kd.R_far (p := ⟨gb360, 1, none⟩) (Kd.R_far (p := ⟨gb360, 0, none⟩) (Kd.R_far (p := ⟨gb376, 2, none⟩) (Kd.R_far (p := ⟨gb376, 1, none⟩) (Kd.R_far (p := ⟨gb376, 0, none⟩) (Kd.R_types (Kd.R_types HO374.out BK376.out (by decide)) BK360.out (by decide)) (fun _ hk => hk.1.2) (.int .i64 t370)) (fun _ hk => hk.1.2) (.int .i64 t371)) (fun _ hk => hk.1.2) (.slice Ao17 t372.length co17)) (fun _ hk => hk.2) (.int .i64 t370)) (fun _ hk => hk.2) (.int .i64 t371)) (fun _ hk => hk.2) (.slice Ao17 t372.length co17)) (fun _ hk => trivial), qz3, qz1, qz2⟩
 }
 {
 replace c3 := Bool.eq_false_iff.mpr c3
 subst c3
 rw [if_neg (show ¬ (false = true) by decide)] at H
 replace H := Option.bind_eq_some_iff.mp H
 obtain ⟨⟨t377, t378, t379⟩, A200, H⟩ := H
 replace H : ((spec_l1Below.f s0_0 t378 t379 6).bind fun bt380 => (spec_l1Floor.l0 k 0 s0_0 bt380.2.1 bt380.2.2 (wrap64 (1 + t377)) (wrap64 (1 + bt380.1)) ([] : List Int))) = some (r1, r2, r3, r4, r5) := H
 have A20 := aM A200
 clear A200
 replace H := Option.bind_eq_some_iff.mp H
 obtain ⟨⟨t380, t381, t382⟩, A210, H⟩ := H
 replace H : (spec_l1Floor.l0 k 0 s0_0 t381 t382 (wrap64 (1 + t377)) (wrap64 (1 + t380)) ([] : List Int)) = some (r1, r2, r3, r4, r5) := H
 have A21 := aM A210
 clear A210
 have H' := aM H
 clear H
 go_enter Try.func84, Try.ntmps84
 go_wp2_with (first | ((with_reducible refine gate_dst (N := 2) rfl ?_); refine bx_ 2 #[.int .i64 0, .int .i64 0, .slice none 0 0] 43 ?_; intro gb360 hg w22 hbox hb; replace HB := bS_ hb; have BK360 := aM (hbox); have GW360 := aM (kz_ w g hg qz2); have GE360 := aM ((Nat.le_trans HW0.out (by rw [hg]; exact (keep_size (w := w) (g := g) (row := none) qz2) : w.heap.size ≤ gb360) : w0.heap.size ≤ gb360)); replace HK := aM (KeepBut.trans qz2 (KeepBut.of_below hb g none) (.inl rfl)); have NB0_360 := aM ((by rw [hg]; exact Nat.ne_of_lt (IsS113.lt (show IsS113 w0 _ g s0_0 s0_1 s0_2 from qz3)) : g ≠ gb360)); have NB360_0 := aM ((by rw [hg]; exact Nat.ne_of_gt (IsS113.lt (show IsS113 w0 _ g s0_0 s0_1 s0_2 from qz3)) : gb360 ≠ g)); replace HI0 := aM (IsS113.below qz3 hb); clear hb hbox hg) | ((with_reducible refine gate_callee (f := 80) rfl ?_); refine goesL_ (some 8) rfl rfl Try.func80 (by kernel_rfl) rfl #[.pointer (some ⟨g, 0, none⟩), .int .i64 3] rfl qz4 ?_; (with_reducible refine (spec_l1Once.calls g s0_0 s0_1 s0_2 3 false t362 t363 w0 _ ?side1 ?side2 A2.out).mono ?_); (case side1 => exact qz3); (case side2 => exact qz1); rintro e w23 ⟨rfl, hi, hb, hk⟩; refine ⟨_, rfl, ?_⟩; replace BK360 := aM (KeepBut.blk hk (bk_ BK360.out) NB360_0.out (by simp)); replace HK := aM (KeepBut.trans qz2 hk (.inl rfl)); replace HB := aM (hb); replace HI0 := aM (hi); (try clear hb hk hi)) | ((with_reducible refine gate_callee (f := 73) rfl ?_); refine goesL_ (some 18) rfl rfl Try.func73 (by kernel_rfl) rfl #[.pointer (some ⟨g, 0, none⟩), .int .i64 7] rfl qz4 ?_; (with_reducible refine (spec_l1Below.calls g s0_0 t362 t363 7 t377 t378 t379 w0 _ ?side1 ?side2 A20.out).mono ?_); (case side1 => exact qz3); (case side2 => exact qz1); rintro e w24 ⟨rfl, hi, hb, hk⟩; refine ⟨_, rfl, ?_⟩; replace BK360 := aM (KeepBut.blk hk (bk_ BK360.out) NB360_0.out (by simp)); replace HK := aM (KeepBut.trans qz2 hk (.inl rfl)); replace HB := aM (hb); replace HI0 := aM (hi); (try clear hb hk hi)) | ((with_reducible refine gate_callee (f := 73) rfl ?_); refine goesL_ (some 21) rfl rfl Try.func73 (by kernel_rfl) rfl #[.pointer (some ⟨g, 0, none⟩), .int .i64 6] rfl qz4 ?_; (with_reducible refine (spec_l1Below.calls g s0_0 t378 t379 6 t380 t381 t382 w0 _ ?side1 ?side2 A21.out).mono ?_); (case side1 => exact qz3); (case side2 => exact qz1); rintro e w25 ⟨rfl, hi, hb, hk⟩; refine ⟨_, rfl, ?_⟩; replace BK360 := aM (KeepBut.blk hk (bk_ BK360.out) NB360_0.out (by simp)); replace HK := aM (KeepBut.trans qz2 hk (.inl rfl)); replace HB := aM (hb); replace HI0 := aM (hi); (try clear hb hk hi)) | ((with_reducible refine gate_dst (N := 5) rfl ?_); refine bx_ 5 #[.int .i64 0, .int .i64 0, .slice none 0 0] 43 ?_; intro gb383 hg w26 hbox hb; replace HB := bS_ hb; have BK383 := aM (hbox); have GW383 := aM (kz_ w g hg qz2); have GE383 := aM ((Nat.le_trans HW0.out (by rw [hg]; exact (keep_size (w := w) (g := g) (row := none) qz2) : w.heap.size ≤ gb383) : w0.heap.size ≤ gb383)); replace HK := aM (KeepBut.trans qz2 (KeepBut.of_below hb g none) (.inl rfl)); obtain ⟨NB360_383, NB383_360⟩ := nb_ hg (bk_ BK360.out); replace BK360 := bB_ BK360 hb; have NB0_383 := aM ((by rw [hg]; exact Nat.ne_of_lt (IsS113.lt (show IsS113 w0 _ g s0_0 t381 t382 from qz3)) : g ≠ gb383)); have NB383_0 := aM ((by rw [hg]; exact Nat.ne_of_gt (IsS113.lt (show IsS113 w0 _ g s0_0 t381 t382 from qz3)) : gb383 ≠ g)); replace HI0 := aM (IsS113.below qz3 hb); clear hb hbox hg; have hnb27 := NB383_360.out; have hnc27 := NB360_383.out; have hnb28 := NB383_0.out; have hnc28 := NB0_383.out; obtain ⟨hcz29_0, hcz29_1, hcz29_2, hfz29_0, hfz29_1, hfz29_2⟩ := b6_ BK383.out))
 go_loopg [6] k (fun kq v6 w' => ∃ (x6_1 : Int) (x1001_1 : Int) (x1002_1 : Int) (x384002_1 : List Int) (u384002 : Value), v6 = .int .i64 x6_1 ∧ Aside0 (spec_l1Floor.l0 kq x6_1 s0_0 x1001_1 x1002_1 (wrap64 (1 + t377)) (wrap64 (1 + t380)) x384002_1 = some (r1, r2, r3, r4, r5)) ∧ Aside0 (kq ≤ k) ∧ Aside0 (Kd.R (Kd.int .i64) 3 w' w.heap.size (fun _ => True) u384002 x384002_1) ∧ Aside0 (w'.heap[gb360]? = some (.cells #[.int .i64 0, .int .i64 0, (.slice none 0 0)] 43 (0, 0))) ∧ Aside0 (w'.heap[gb383]? = some (.cells #[.int .i64 (wrap64 (1 + t377)), .int .i64 (wrap64 (1 + t380)), u384002] 43 (0, 0))) ∧ Aside0 (IsS113 w0 w' g s0_0 x1001_1 x1002_1) ∧ Aside0 (KeepBut w w' g none) ∧ Aside0 (Below w0.heap.size w0 w'))
 case atStart => exact ⟨(0), (t381), (t382), (([] : List Int)), (.slice none 0 0), qz8, H', ⟨Nat.le_refl _⟩, ⟨by first | exact Kd.R_nil _ _ _ _ _ | exact Kd.N_nil _ _ _ _ _ | exact Kd.V_nil _ _ _ _ _ | exact Kd.Q_nil _ _ _ _ _ | exact Kd.S_nil _ _ _ _ _⟩, ⟨by (with_reducible repeat (first | refine blk_drewN ?_ _ | refine blk_drew ?_ | refine blk_alloc ?_ _)); refine blk_far ?_ NB360_383.out _; (with_reducible repeat (first | refine blk_drewN ?_ _ | refine blk_drew ?_ | refine blk_alloc ?_ _)); refine blk_far ?_ NB360_383.out _; (with_reducible repeat (first | refine blk_drewN ?_ _ | refine blk_drew ?_ | refine blk_alloc ?_ _)); refine blk_far ?_ NB360_383.out _; exact bk_ BK360.out⟩, ⟨by (with_reducible repeat (first | refine blk_drewN ?_ _ | refine blk_drew ?_ | refine blk_alloc ?_ _)); refine blk_put (cs := #[.int .i64 (wrap64 (1 + t377)), .int .i64 (wrap64 (1 + t380)), .slice none 0 0]) ?_ 2 _ rfl; (with_reducible repeat (first | refine blk_drewN ?_ _ | refine blk_drew ?_ | refine blk_alloc ?_ _)); refine blk_put (cs := #[.int .i64 (wrap64 (1 + t377)), .int .i64 0, .slice none 0 0]) ?_ 1 _ rfl; (with_reducible repeat (first | refine blk_drewN ?_ _ | refine blk_drew ?_ | refine blk_alloc ?_ _)); refine blk_put (cs := #[.int .i64 0, .int .i64 0, .slice none 0 0]) ?_ 0 _ rfl; exact bk_ BK383.out⟩, ⟨qz3⟩, ⟨qz2⟩, ⟨qz1⟩⟩
 case round =>
  clear H'
  try clear c1
  try clear c2
  try clear p2
  try clear c3
  try clear p6
  try clear c7
  try clear c8
  try clear c10
  try clear c14
  try clear c15
  try clear c18
  try clear c27
  try clear c28
  try clear hcz16_0 hcz16_1 hcz16_2 hfz16_0 hfz16_1 hfz16_2
  try clear hcz19_0 hcz19_1 hcz19_2 hfz19_0 hfz19_1 hfz19_2
  try clear hcz29_0 hcz29_1 hcz29_2 hfz29_0 hfz29_1 hfz29_2
  obtain ⟨x6_1, x1001_1, x1002_1, x384002_1, u384002, rfl, HA, HK1, HO_384002, BK360, BK383, HI0, HK, HB⟩ := hrel
  cases gk with
  | zero => exact absurd HA.out (by simp [spec_l1Floor.l0])
  | succ k1 =>
   have H := HA.out
   clear HA
   simp only [spec_l1Floor.l0] at H
   by_cases c30 : x6_1 < (wrap64 ((wrap64 (1 + t377)) * (wrap64 (1 + t380))))
   {
   rw [if_pos c30] at H
   have c30b0 := decide_eq_true c30
   clear c30
   obtain ⟨y384, hy384⟩ : ∃ y_ : List Int, y_ = (([1, 1, 1, 1, 1, 1, 0, 2, 3, 4] : List Int)) := ⟨_, rfl⟩
   replace H : ((spec_l1Int.f s0_0 x1001_1 x1002_1 y384).bind fun bt387 => (if x384002_1.length < 17592186044416 then (spec_l1Floor.l0 k1 (wrap64 (x6_1 + 1)) s0_0 bt387.2.1 bt387.2.2 (wrap64 (1 + t377)) (wrap64 (1 + t380)) (x384002_1 ++ [bt387.1])) else (none))) = some (r1, r2, r3, r4, r5) := by first | (rw [hy384]; with_reducible exact H) | (have H2_ := (Option.bind_some _ _).symm.trans H; rw [hy384]; with_reducible exact H2_) | (have H2_ := (Option.bind_some _ _).symm.trans H; with_reducible exact H2_) | with_reducible exact H | (rw [hy384]; exact H) | exact H
   have Ny384 := aM hy384
   clear hy384
   replace H := Option.bind_eq_some_iff.mp H
   obtain ⟨⟨t387, t388, t389⟩, A310, H⟩ := H
   replace H : (if x384002_1.length < 17592186044416 then (spec_l1Floor.l0 k1 (wrap64 (x6_1 + 1)) s0_0 t388 t389 (wrap64 (1 + t377)) (wrap64 (1 + t380)) (x384002_1 ++ [t387])) else (none)) = some (r1, r2, r3, r4, r5) := H
   have A31 := aM A310
   clear A310
   by_cases c32 : x384002_1.length < 17592186044416
   {
   rw [if_pos c32] at H
   have LMc32 := aM c32
   clear c32
   obtain ⟨y390, hy390⟩ : ∃ y_ : List Int, y_ = (x384002_1 ++ [t387]) := ⟨_, rfl⟩
   replace H : (spec_l1Floor.l0 k1 (wrap64 (x6_1 + 1)) s0_0 t388 t389 (wrap64 (1 + t377)) (wrap64 (1 + t380)) y390) = some (r1, r2, r3, r4, r5) := by first | (rw [hy390]; with_reducible exact H) | (have H2_ := (Option.bind_some _ _).symm.trans H; rw [hy390]; with_reducible exact H2_) | (have H2_ := (Option.bind_some _ _).symm.trans H; with_reducible exact H2_) | with_reducible exact H | (rw [hy390]; exact H) | exact H
   have Ny390 := aM hy390
   clear hy390
   have H' := aM H
   clear H
   have hnb33 := NB383_360.out
   have hnc33 := NB360_383.out
   have hnb34 := NB383_0.out
   have hnc34 := NB0_383.out
   obtain ⟨hcz35_0, hcz35_1, hcz35_2, hfz35_0, hfz35_1, hfz35_2⟩ := b6_ BK383.out
   try go_wp2
   replace HO_384002 := aM (Kd.R_drew HO_384002.out)
   replace BK360 := aM (blk_drew BK360.out)
   replace BK383 := aM (blk_drew BK383.out)
   replace HI0 := aM (IsS113.drew HI0.out)
   replace HK := aM (keep_drew HK.out)
   replace HB := aM (below_drew1 HB.out)
   refine start_ (n := 9) (S := fun w' => w'.cell? ⟨gb383, 0, none⟩ = some (.int .i64 (wrap64 (1 + t377))) ∧ w'.cell? ⟨gb383, 1, none⟩ = some (.int .i64 (wrap64 (1 + t380))) ∧ w'.cell? ⟨gb383, 2, none⟩ = some (u384002)) (ds := [8]) #[false, false, false, false, false, false, false, false, false] (by kernel_rfl) rfl rfl ⟨(blk_cell BK383.out 0).trans rfl, (blk_cell BK383.out 1).trans rfl, (blk_cell BK383.out 2).trans rfl⟩ (fun hHeld => ?_); refine with_tabW spec_l1Floor.tab8 spec_l1Floor.bits8 (fun HT_ HW_ => ?_)
   generalize wr.drew = w36 at HO_384002 BK360 BK383 HI0 HK HB hHeld ⊢
   refine pI_ 0 33 (bqz 9 1) ?_
   refine jI_ 2 35 ?_
   refine sI3_ 1 34 ?_
   refine one_ (i := 3) (N := some 36) (bqz 9 15) rfl rfl qzc (by decide) (fun K hK => ?_)
   refine Kd.R_lit_step (Kd.int .i64) _ 3 ?hg (N := 36) ?hd (xs := ([1, 1, 1, 1, 1, 1, 0, 2, 3, 4] : List Int)) (inner := [.int .i64 1, .int .i64 1, .int .i64 1, .int .i64 1, .int .i64 1, .int .i64 1, .int .i64 0, .int .i64 2, .int .i64 3, .int .i64 4]) (ok := fun _ => True) (okp := fun _ => True) ?hr ?hp (fun _ hk => hk) trivial (Below.refl _ _) (Nat.le_refl _) (by simp) ?_; (case hd => rfl); (case hg => rfl); (case hr => exact qz10); (case hp => exact (Reps.one (show Kd.M (Kd.int .i64) _ _ _ 1 [.int .i64 1] from rfl) (Reps.one (show Kd.M (Kd.int .i64) _ _ _ 1 [.int .i64 1] from rfl) (Reps.one (show Kd.M (Kd.int .i64) _ _ _ 1 [.int .i64 1] from rfl) (Reps.one (show Kd.M (Kd.int .i64) _ _ _ 1 [.int .i64 1] from rfl) (Reps.one (show Kd.M (Kd.int .i64) _ _ _ 1 [.int .i64 1] from rfl) (Reps.one (show Kd.M (Kd.int .i64) _ _ _ 1 [.int .i64 1] from rfl) (Reps.one (show Kd.M (Kd.int .i64) _ _ _ 0 [.int .i64 0] from rfl) (Reps.one (show Kd.M (Kd.int .i64) _ _ _ 2 [.int .i64 2] from rfl) (Reps.one (show Kd.M (Kd.int .i64) _ _ _ 3 [.int .i64 3] from rfl) (Reps.one (show Kd.M (Kd.int .i64) _ _ _ 4 [.int .i64 4] from rfl) (Reps.none _ _))))))))))))
   intro v385 w37 ho38 hb hg_ hnew_
   clear hg_ hnew_
   (first | rw [← Ny384.out] at ho38 | (simp only [Int.reduceToNat] at ho38; rw [← Ny384.out] at ho38))
   have HO386 := aM (Kd.R_lower (Kd.R_new' ho38 (Kd.R_lt (rr_ HO_384002.out))) (keep_size (w := w) (g := g) (row := none) qz2))
   replace HO_384002 := aM (Kd.R_elder' (rr_ HO_384002.out) (Kd.R_base ho38) hb)
   replace BK360 := bB_ BK360 hb
   replace BK383 := bB_ BK383 hb
   replace HK := aM (KeepBut.trans qz2 (KeepBut.of_below hb g none) (.inl rfl))
   replace HB := bS_ hb
   replace HI0 := aM (IsS113.below qz3 hb)
   clear hb ho38
   obtain ⟨Ao39, co39, eo39⟩ := Kd.R_slice HO386.out
   (first | subst eo39 | (injection eo39 with f1_ f2_ f3_; have f4_ := f1_.symm; have f5_ := f3_.symm; clear f1_ f2_ f3_; subst f4_; subst f5_))
   refine hK.out _ _ ⟨(blk_cell BK383.out 0).trans rfl, (blk_cell BK383.out 1).trans rfl, (blk_cell BK383.out 2).trans rfl⟩ (fun hHeld => ?_)
   clear hK K
   refine nm_ 36 ?_
   refine one_ (i := 4) (N := some 37) (bqz 9 31) rfl rfl qzc (by decide) (fun K hK => ?_)
   refine goes_ Try.func81 (by kernel_rfl) rfl #[.pointer (some ⟨g, 0, none⟩), .slice Ao39 y384.length co39] (by rfl) rfl rfl qz4 ?_
   with_reducible refine (spec_l1Int.calls g s0_0 x1001_1 x1002_1 _ _ y384 t387 t388 t389 w0 _ ?side1 ?side2 ?side3 ?side4 ?side5 A31.out).mono ?_
   (case side1 => exact qz3)
   (case side2 => exact qz1)
   (case side3 => repeat (first | exact (Kd.R_reads' HO386.out).2.2 | (with_reducible refine Kd.C_alloc ?_ _) | (with_reducible refine Kd.C_drewN ?_ _) | (with_reducible refine Kd.C_drew ?_)))
   (case side4 => exact (Kd.R_reads' HO386.out).2.1)
   (case side5 => exact far_slice (IsS113.own_ne HI0.out HO386.out (by decide)))
   rintro e w40 ⟨rfl, hi, hb, hk⟩
   refine ⟨_, rfl, ?_⟩
   replace HO_384002 := aM (Kd.R_mono (Kd.R_keep (IsS113.apart (show IsS113 w0 _ g s0_0 x1001_1 x1002_1 from qz3) (rr_ HO_384002.out) (by decide)) hk (fun _ h => h.2)) (fun _ h => h.1))
   replace BK360 := aM (KeepBut.blk hk (bk_ BK360.out) NB360_0.out (by simp))
   replace BK383 := aM (KeepBut.blk hk (bk_ BK383.out) NB383_0.out (by simp))
   replace HO386 := aM (Kd.R_mono (Kd.R_keep (IsS113.apart (show IsS113 w0 _ g s0_0 x1001_1 x1002_1 from qz3) (rr_ HO386.out) (by decide)) hk (fun _ h => h.2)) (fun _ h => h.1))
   replace HK := aM (KeepBut.trans qz2 hk (.inl rfl))
   replace HB := aM (hb)
   replace HI0 := aM (hi)
   (try clear hb)
   (try clear hb2)
   (try clear hk)
   (try clear hi)
   refine hK.out _ _ ⟨(blk_cell BK383.out 0).trans rfl, (blk_cell BK383.out 1).trans rfl, (blk_cell BK383.out 2).trans rfl⟩ (fun hHeld => ?_)
   clear hK K
   refine nm_ 37 ?_
   refine one_ (i := 5) (N := some 38) (bqz 9 63) rfl rfl qzc (by decide) (fun K hK => ?_)
   refine value_ (w1 := ?_) (v := ?_) (by rfl) rfl ?_ ?_
   rotate_left 2
   {
   go_simp
   constructor
   {
   rfl
   }
   {
   rfl
   }
   }
   refine hK.out _ _ ⟨(blk_cell (blk_alloc BK383.out _) 0).trans rfl, (blk_cell (blk_alloc BK383.out _) 1).trans rfl, (blk_cell (blk_alloc BK383.out _) 2).trans rfl⟩ (fun hHeld => ?_)
   clear hK K
   refine nm_ 38 ?_
   refine one_ (i := 6) (N := some 39) (bqz 9 127) rfl rfl qzc (by decide) (fun K hK => ?_)
   refine Kd.R_append_step (Kd.int .i64) w.heap.size (by rfl) (.tmp 34) (.tmp 38) 24 3 (.int .i64 0) 8 rfl Try.underlying24 info3 rfl (by decide) (by omega) u384002 x384002_1 t387 [.int .i64 t387] (fun k_ => some k_ ≠ (.slice Ao39 y384.length co39 : Value).ownBlock) (fun _ => False) rfl rfl ?aP (fun _ hk => hk.elim) ?aF ?aO (Below.refl _ _) ?aS ?aL ?_
   (case aP => exact rfl)
   (case aF => exact (fun k_ hk => Kd.fresh' (Kd.R_lt (rr_ HO386.out)) k_ hk))
   (case aO => exact (by (with_reducible repeat (first | apply Kd.R_alloc | apply Kd.R_drewN | apply Kd.R_drew)); exact Kd.R_mono HO_384002.out (fun _ hk => hk.2)))
   (case aS => exact (keep_size (w := w) (g := g) (row := none) qz2))
   (case aL => have := LMc32.out; omega)
   intro v391 w41 ho hb hg hat
   rw [← Ny390.out] at ho
   replace BK360 := aM (blk_grown (bk_ BK360.out) hg (Kd.R_ne HO_384002.out BK360.out (by decide)))
   replace BK383 := aM (blk_grown (bk_ BK383.out) hg (Kd.R_ne HO_384002.out BK383.out (by decide)))
   replace HO386 := aM (Kd.R_after (ok := (fun _ => True)) (rr_ HO386.out) hg hat)
   replace HB := aM (below_weaken qz1 HL.out hb)
   replace HI0 := aM (IsS113.grown qz3 hg (IsS113.own_ne HI0.out HO_384002.out (by decide)))
   replace HK := aM (KeepBut.trans qz2 (KeepBut.of_grown hg g) (Kd.R_base2 HO_384002.out))
   have HO392 := aM (ho)
   clear HO_384002 ho hb hg hat
   obtain ⟨Ao42, co42, eo42⟩ := Kd.R_slice HO392.out
   (first | subst eo42 | (injection eo42 with f1_ f2_ f3_; have f4_ := f1_.symm; have f5_ := f3_.symm; clear f1_ f2_ f3_; subst f4_; subst f5_))
   refine hK.out _ _ ⟨(blk_cell BK383.out 0).trans rfl, (blk_cell BK383.out 1).trans rfl, (blk_cell BK383.out 2).trans rfl⟩ (fun hHeld => ?_)
   clear hK K
   refine nm_ 39 ?_
   refine pI_ 7 40 (bqz 9 255) ?_
   refine last_ (i := 8) (N := none) (bqz 9 511) rfl rfl qzc (by decide) (fun K hK => ?_)
   have hs43 : w41.cell? ⟨gb383, 2, none⟩ = some (u384002) := (blk_cell BK383.out 2).trans rfl
   have hfs43 := blk_frozen BK383.out 2
   have hns43_0 := NB360_383.out
   have hms43_0 := NB383_360.out
   refine sk_ ?_
   refine hK.out _ _ ?_
   clear hK K
   refine done_ (done_of HT_.out (by kernel_rfl)) ?_
   try go_wp2
   go_roundg k1
   case measure => have := HK1.out; omega
   case rel => exact ⟨(wrap64 (x6_1 + 1)), (t388), (t389), (y390), (.slice Ao42 y390.length co42), qz8, H', ⟨by have := HK1.out; omega⟩, ⟨by (with_reducible repeat (first | apply Kd.R_alloc | apply Kd.R_drewN | apply Kd.R_drew)); exact Kd.R_mono (Kd.R_far (p := ⟨gb383, 2, none⟩) (Kd.R_types HO392.out BK383.out (by decide)) (fun _ hk => hk.2) (.slice Ao42 y390.length co42)) (fun _ hk => trivial)⟩, ⟨by (with_reducible repeat (first | refine blk_drewN ?_ _ | refine blk_drew ?_ | refine blk_alloc ?_ _)); refine blk_far ?_ NB360_383.out _; exact bk_ BK360.out⟩, ⟨by (with_reducible repeat (first | refine blk_drewN ?_ _ | refine blk_drew ?_ | refine blk_alloc ?_ _)); refine blk_put (cs := #[.int .i64 (wrap64 (1 + t377)), .int .i64 (wrap64 (1 + t380)), u384002]) ?_ 2 _ rfl; exact bk_ BK383.out⟩, ⟨qz3⟩, ⟨qz2⟩, ⟨qz1⟩⟩
   }
   {
   exact an_ c32 H
   }
   }
   {
   rw [if_neg c30] at H
   have c30b0 := decide_eq_false c30
   clear c30
   simp only [Option.some.injEq, Prod.mk.injEq] at H
   obtain ⟨rfl, rfl, rfl, rfl, rfl⟩ := H
   have hnb44 := NB383_360.out
   have hnc44 := NB360_383.out
   have hnb45 := NB383_0.out
   have hnc45 := NB0_383.out
   obtain ⟨hcz46_0, hcz46_1, hcz46_2, hfz46_0, hfz46_1, hfz46_2⟩ := b6_ BK383.out
   have hnb47 := NB360_0.out
   have hnc47 := NB0_360.out
   obtain ⟨hcz48_0, hcz48_1, hcz48_2, hfz48_0, hfz48_1, hfz48_2⟩ := b6_ BK360.out
   obtain ⟨Ao49, co49, eo49⟩ := Kd.R_slice HO_384002.out
   subst eo49
   go_wp2
   refine bodyPost_ret (results_cell_row rfl _ _ gb360 43 #[.int .i64 (wrap64 (1 + t377)), .int .i64 (wrap64 (1 + t380)), .slice Ao49 x384002_1.length co49] (0, 0) _ rfl (by (with_reducible repeat (first | refine blk_drewN ?_ _ | refine blk_drew ?_ | refine blk_alloc ?_ _)); refine blk_put (cs := #[.int .i64 (wrap64 (1 + t377)), .int .i64 (wrap64 (1 + t380)), .slice none 0 0]) ?_ 2 _ rfl; (with_reducible repeat (first | refine blk_drewN ?_ _ | refine blk_drew ?_ | refine blk_alloc ?_ _)); refine blk_put (cs := #[.int .i64 (wrap64 (1 + t377)), .int .i64 0, .slice none 0 0]) ?_ 1 _ rfl; (with_reducible repeat (first | refine blk_drewN ?_ _ | refine blk_drew ?_ | refine blk_alloc ?_ _)); refine blk_put (cs := #[.int .i64 0, .int .i64 0, .slice none 0 0]) ?_ 0 _ rfl; exact bk_ BK360.out) Try.underlying43 rfl (by kernel_rfl)) rfl ?_
   exact ⟨_, qzw, by (with_reducible repeat (first | apply Kd.R_alloc | apply Kd.R_drewN | apply Kd.R_drew)); exact Kd.R_mono (Kd.R_far (p := ⟨gb360, 2, none⟩) (Kd.R_far (p := ⟨gb360, 1, none⟩) (Kd.R_far (p := ⟨gb360, 0, none⟩) (Kd.R_types HO_384002.out BK360.out (by decide)) (fun _ hk => hk.2) (.int .i64 (wrap64 (1 + t377)))) (fun _ hk => hk.2) (.int .i64 (wrap64 (1 + t380)))) (fun _ hk => hk.2) (.slice Ao49 x384002_1.length co49)) (fun _ hk => trivial), qz3, qz1, qz2⟩

   }
 }
/-! ### spec_l2Free: function 108 -/
def spec_l2Free.l0 : Nat → List Int → Int → Int → Int → List Int → Option (List Int)
 | 0, _, _, _, _, _ => none
 | k + 1, x3, x4, x394000, x394001, x394002 => if x4 < (x394002.length : Int) then (if 0 ≤ x4 then (if (rd x394002 x4) = 0 then (spec_l2Free.l0 k x3 (wrap64 (x4 + 1)) x394000 x394001 x394002) else (if x3.length < 17592186044416 then (spec_l2Free.l0 k (x3 ++ [x4]) (wrap64 (x4 + 1)) x394000 x394001 x394002) else (none))) else (none)) else (some x3)
def spec_l2Free.f (k : Nat) (a0_0 : Int) (a0_1 : Int) (l0_2 : List Int) : Option (List Int) := spec_l2Free.l0 k (([] : List Int)) 0 a0_0 a0_1 l0_2
theorem spec_l2Free.mono_l : ∀ k, (∀ y0 y1 y2 y3 y4, LeO (spec_l2Free.l0 k y0 y1 y2 y3 y4) (spec_l2Free.l0 (k + 1) y0 y1 y2 y3 y4))
 | 0 => fun _ _ _ _ _ r h => by simp [spec_l2Free.l0] at h
 | k + 1 => by
  have ih0 := spec_l2Free.mono_l k
  {
  intro y0 y1 y2 y3 y4
  unfold spec_l2Free.l0
  exact qL
  }
theorem spec_l2Free.mono : ∀ a0 a1 a2 k, LeO (spec_l2Free.f k a0 a1 a2) (spec_l2Free.f (k + 1) a0 a1 a2) := by
 intro a0 a1 a2 k
 have ih0 := spec_l2Free.mono_l k
 unfold spec_l2Free.f
 exact qL
set_option maxHeartbeats 8000000 in
set_option maxRecDepth 100000 in
theorem spec_l2Free.calls (k : Nat) (a0_0 : Int) (a0_1 : Int) (A0_2 : Option Addr) (c0_2 : Nat) (l0_2 : List Int) (r : List Int) (w : World) (hr0_2 : Kd.C (Kd.int .i64) w A0_2 l0_2.length l0_2) (hc0_2 : l0_2.length ≤ c0_2) (h : spec_l2Free.f k a0_0 a0_1 l0_2 = some r) :
  Calls Try.prog 108 #[.agg #[.int .i64 a0_0, .int .i64 a0_1, .slice A0_2 l0_2.length c0_2]] w fun e w' => ∃ v0_ : Value, e = .returned (v0_) ∧ Kd.R (Kd.int .i64) 3 w' w.heap.size (fun _ => True) v0_ r ∧ Below w.heap.size w w' := by
 have hu43 := Try.underlying43
 have HR0_2 := aM hr0_2
 have HC0_2 := aM hc0_2
 clear hr0_2 hc0_2
 have HB := aM (Below.refl w.heap.size w)
 have H : (spec_l2Free.l0 k (([] : List Int)) 0 a0_0 a0_1 l0_2) = some r := h
 clear h
 obtain ⟨y394, hy394⟩ : ∃ y_ : List Int, y_ = (([] : List Int)) := ⟨_, rfl⟩
 replace H : (spec_l2Free.l0 k y394 0 a0_0 a0_1 l0_2) = some r := by first | (rw [hy394]; with_reducible exact H) | (have H2_ := (Option.bind_some _ _).symm.trans H; rw [hy394]; with_reducible exact H2_) | (have H2_ := (Option.bind_some _ _).symm.trans H; with_reducible exact H2_) | with_reducible exact H | (rw [hy394]; exact H) | exact H
 have Ny394 := aM hy394
 clear hy394
 have H' := aM H
 clear H
 go_enter Try.func108, Try.ntmps108
 go_wp2_with (first | ((with_reducible refine gate_dst (N := 1) rfl ?_); refine bx_ 1 #[.int .i64 a0_0, .int .i64 a0_1, .slice A0_2 l0_2.length c0_2] 43 ?_; intro gb393 hg w2 hbox hb; have BK393 := aM (hbox); have GW393 := aM (bz_ w hg qz1); have GE393 := GW393; replace HB := bS_ hb; clear hb hbox hg) | ((with_reducible refine gate_dst (N := 5) rfl ?_); refine Kd.R_lit (Kd.int .i64) _ 3 ?hg (N := 5) ?hd (xs := ([] : List Int)) (inner := []) (ok := fun _ => True) (okp := fun _ => True) ?hr ?hp (fun _ hk => hk) trivial (Below.refl _ _) (Nat.le_refl _) (by simp) ?_; (case hd => rfl); (case hg => rfl); (case hr => exact qz10); (case hp => exact qz30); intro v395 w3 ho4 hb hg_ hnew_; clear hg_ hnew_; (first | rw [← Ny394.out] at ho4 | (simp only [Int.reduceToNat] at ho4; rw [← Ny394.out] at ho4)); have HO396 := aM (Kd.R_lower ho4 (below_size qz1)); replace BK393 := bB_ BK393 hb; replace HB := bS_ hb; clear hb ho4))
 go_loopg [3, 4] k (fun kq v3 v4 w' => ∃ (x3_1 : List Int) (x4_1 : Int), v4 = .int .i64 x4_1 ∧ Aside0 (spec_l2Free.l0 kq x3_1 x4_1 a0_0 a0_1 l0_2 = some r) ∧ Aside0 (kq ≤ k) ∧ Aside0 (Kd.R (Kd.int .i64) 3 w' w.heap.size (fun _ => True) v3 x3_1) ∧ Aside0 (w'.heap[gb393]? = some (.cells #[.int .i64 a0_0, .int .i64 a0_1, (.slice A0_2 l0_2.length c0_2)] 43 (0, 0))) ∧ Aside0 (Below w.heap.size w w'))
 case atStart => exact ⟨(y394), (0), qz8, H', ⟨Nat.le_refl _⟩, ⟨rr_ HO396.out⟩, ⟨bk_ BK393.out⟩, ⟨qz1⟩⟩
 case round =>
  clear H'
  try clear c1
  try clear p2
  obtain ⟨x3_1, x4_1, rfl, HA, HK1, HO_3, BK393, HB⟩ := hrel
  cases gk with
  | zero => exact absurd HA.out (by simp [spec_l2Free.l0])
  | succ k1 =>
   have H := HA.out
   clear HA
   simp only [spec_l2Free.l0] at H
   by_cases c5 : x4_1 < (l0_2.length : Int)
   {
   rw [if_pos c5] at H
   have c5b0 := decide_eq_true c5
   clear c5
   by_cases c6 : 0 ≤ x4_1
   {
   rw [if_pos c6] at H
   have c6b0 := decide_eq_true c6
   clear c6
   by_cases c7 : (rd l0_2 x4_1) = 0
   {
   rw [if_pos c7] at H
   have c7b0 := beq_iff_eq.mpr c7
   have c7b1 := bne_eq_false_iff_eq.mpr c7
   clear c7
   have H' := aM H
   clear H
   obtain ⟨hcz8_0, hcz8_1, hcz8_2, hfz8_0, hfz8_1, hfz8_2⟩ := b6_ BK393.out
   have p397 : 0 ≤ (x4_1 : Int) := dt_
   have q397 : x4_1 < (l0_2.length : Int) := dt_
   obtain ⟨ad397, e397, hx397_0⟩ := Kd.at_int HR0_2.out x4_1 p397 q397
   cases e397
   replace hx397_0 := cB_ hx397_0
   replace p397 := eq_true p397
   replace q397 := eq_true q397
   go_wp2
   go_roundg k1
   case measure => have := HK1.out; omega
   case rel => exact ⟨(x3_1), (wrap64 (x4_1 + 1)), qz8, H', ⟨by have := HK1.out; omega⟩, ⟨rm_ HO_3.out⟩, ⟨bk_ BK393.out⟩, ⟨qz1⟩⟩
   }
   {
   rw [if_neg c7] at H
   have c7b0 := beq_eq_false_iff_ne.mpr c7
   have c7b1 := bne_iff_ne.mpr c7
   by_cases c9 : x3_1.length < 17592186044416
   {
   rw [if_pos c9] at H
   have LMc9 := aM c9
   clear c9
   obtain ⟨y398, hy398⟩ : ∃ y_ : List Int, y_ = (x3_1 ++ [x4_1]) := ⟨_, rfl⟩
   replace H : (spec_l2Free.l0 k1 y398 (wrap64 (x4_1 + 1)) a0_0 a0_1 l0_2) = some r := by first | (rw [hy398]; with_reducible exact H) | (have H2_ := (Option.bind_some _ _).symm.trans H; rw [hy398]; with_reducible exact H2_) | (have H2_ := (Option.bind_some _ _).symm.trans H; with_reducible exact H2_) | with_reducible exact H | (rw [hy398]; exact H) | exact H
   have Ny398 := aM hy398
   clear hy398
   have H' := aM H
   clear H
   obtain ⟨hcz10_0, hcz10_1, hcz10_2, hfz10_0, hfz10_1, hfz10_2⟩ := b6_ BK393.out
   have p397 : 0 ≤ (x4_1 : Int) := dt_
   have q397 : x4_1 < (l0_2.length : Int) := dt_
   obtain ⟨ad397, e397, hx397_0⟩ := Kd.at_int HR0_2.out x4_1 p397 q397
   cases e397
   replace hx397_0 := cB_ hx397_0
   replace p397 := eq_true p397
   replace q397 := eq_true q397
   go_wp2_with (first | ((with_reducible refine gate_builtin (b := .append) (xs := #[.tmp 19, .tmp 21]) rfl ?_); at_builtin; refine Kd.R_append (Kd.int .i64) (w0 := w) w.heap.size rfl (.tmp 19) (.tmp 21) 24 3 (.int .i64 0) 8 rfl Try.underlying24 info3 rfl (by decide) (by omega) u3 x3_1 x4_1 [.int .i64 x4_1] (fun _ => True) (fun _ => False) rfl rfl ?aP (fun _ hk => hk.elim) ?aF ?aO ?aB ?aS ?aL ?_; (case aP => exact rfl); (case aB => exact qz1); (case aF => exact qz21); (case aO => exact (rr_ HO_3.out)); (case aS => exact qz32); (case aL => have := LMc9.out; omega); intro v399 w11 ho hb hg hat; rw [← Ny398.out] at ho; replace BK393 := aM (blk_grown (bk_ BK393.out) hg (Kd.R_ne HO_3.out BK393.out (by decide))); replace HB := aM (hb); have HO400 := aM (ho); clear HO_3; clear ho hb hg hat))
   go_roundg k1
   case measure => have := HK1.out; omega
   case rel => exact ⟨(y398), (wrap64 (x4_1 + 1)), qz8, H', ⟨by have := HK1.out; omega⟩, ⟨rm_ HO400.out⟩, ⟨bk_ BK393.out⟩, ⟨qz1⟩⟩
   }
   {
   exact an_ c9 H
   }
   }
   }
   {
   exact an_ c6 H
   }
   }
   {
   rw [if_neg c5] at H
   have c5b0 := decide_eq_false c5
   clear c5
   obtain rfl := Option.some.inj H
   simp only [Option.some.injEq, Prod.mk.injEq] at H
   obtain ⟨rfl⟩ := H
   obtain ⟨hcz12_0, hcz12_1, hcz12_2, hfz12_0, hfz12_1, hfz12_2⟩ := b6_ BK393.out
   go_wp2
   go_ret
   exact ⟨_, qzw, by (with_reducible repeat (first | apply Kd.R_alloc | apply Kd.R_drewN | apply Kd.R_drew)); exact HO_3.out, qz1⟩

   }
end Go.Proofs.Ytankmdbbgepmbaa.PFnChosen
