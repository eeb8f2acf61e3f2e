-- Made by a program of this session out of the translation. Lean checks it.
import Derived.Test.YtankmdbbgepmbaaPFnClashesx19
namespace Go.Proofs.Ytankmdbbgepmbaa.PFnClashes
open Go.RowKit Go.Proofs.YtankmdbbgepmbaaW.PrintWords Go.Proofs.YtankmdbbgepmbaaW.PrintLast Go.Proofs.YtankmdbbgepmbaaW.PrintMore
set_option linter.unusedVariables false
set_option linter.unusedSimpArgs false
set_option maxHeartbeats 16000000
set_option maxRecDepth 100000

/-! ### spec_l1Floor: function 84 -/
def spec_l1Floor.l0 : Nat → Int → List Int → Int → Int → Int → Int → List Int → Option (Int × Int × List Int × Int × Int)
 | 0, _, _, _, _, _, _, _ => none
 | k + 1, x6, x1000, x1001, x1002, x481000, x481001, x481002 => if x6 < (wrap64 (x481000 * x481001)) then ((spec_l1Int.f x1000 x1001 x1002 (([1, 1, 1, 1, 1, 1, 0, 2, 3, 4] : List Int))).bind fun bt484 => (if x481002.length < 17592186044416 then (spec_l1Floor.l0 k (wrap64 (x6 + 1)) x1000 bt484.2.1 bt484.2.2 x481000 x481001 (x481002 ++ [bt484.1])) else (none))) else (some (x481000, x481001, x481002, x1001, x1002))
def spec_l1Floor.f (k : Nat) (s0_0 : List Int) (s0_1 : Int) (s0_2 : Int) : Option (Int × Int × List Int × Int × Int) := (spec_l1Once.f s0_0 s0_1 s0_2 3).bind fun bt458 => (if bt458.1 = true then ((spec_l1Str.f s0_0 bt458.2.1 bt458.2.2 (([(⟨#[99, 46, 46, 46, 46, 46, 10, 46, 112, 112, 46, 112, 46, 10, 46, 112, 112, 46, 112, 46, 10, 46, 46, 46, 46, 46, 115, 10]⟩ : ByteArray), (⟨#[99, 46, 46, 10, 46, 46, 46, 10, 46, 46, 115, 10]⟩ : ByteArray), (⟨#[46, 46, 46, 46, 46, 10, 46, 112, 35, 112, 46, 10, 46, 46, 115, 46, 46, 10, 46, 112, 35, 112, 46, 10, 99, 46, 46, 46, 99, 10]⟩ : ByteArray), (⟨#[46, 46, 46, 35, 46, 46, 46, 10, 46, 46, 46, 46, 46, 46, 46, 10, 46, 46, 46, 35, 46, 46, 46, 10]⟩ : ByteArray), (⟨#[99, 46, 46, 46, 46, 46, 46, 46, 10, 46, 112, 46, 112, 46, 112, 46, 46, 10, 46, 46, 46, 46, 46, 46, 46, 115, 10, 46, 112, 46, 112, 46, 112, 46, 46, 10, 99, 46, 46, 46, 46, 46, 46, 115, 10]⟩ : ByteArray), (⟨#[46, 46, 10, 46, 46, 10]⟩ : ByteArray), (⟨#[99, 46, 35, 46, 115, 10, 46, 46, 35, 46, 46, 10]⟩ : ByteArray)] : List ByteArray))).bind fun bt464 => ((spec_ParseFloor.f k bt464.1).bind fun bt467 => (some (bt467.1, bt467.2.1, bt467.2.2.1, bt464.2.1, bt464.2.2)))) else ((spec_l1Below.f s0_0 bt458.2.1 bt458.2.2 7).bind fun bt474 => ((spec_l1Below.f s0_0 bt474.2.1 bt474.2.2 6).bind fun bt477 => (spec_l1Floor.l0 k 0 s0_0 bt477.2.1 bt477.2.2 (wrap64 (1 + bt474.1)) (wrap64 (1 + bt477.1)) ([] : List Int)))))
theorem spec_l1Floor.mono_l : ∀ k, (∀ y0 y1 y2 y3 y4 y5 y6, LeO (spec_l1Floor.l0 k y0 y1 y2 y3 y4 y5 y6) (spec_l1Floor.l0 (k + 1) y0 y1 y2 y3 y4 y5 y6))
 | 0 => fun _ _ _ _ _ _ _ r h => by simp [spec_l1Floor.l0] at h
 | k + 1 => by
  have ih0 := spec_l1Floor.mono_l k
  {
  intro y0 y1 y2 y3 y4 y5 y6
  unfold spec_l1Floor.l0
  have j0 := @spec_ParseFloor.mono
  exact qL
  }
theorem spec_l1Floor.mono : ∀ a0 a1 a2 k, LeO (spec_l1Floor.f k a0 a1 a2) (spec_l1Floor.f (k + 1) a0 a1 a2) := by
 intro a0 a1 a2 k
 have ih0 := spec_l1Floor.mono_l k
 unfold spec_l1Floor.f
 have j0 := @spec_ParseFloor.mono
 exact qL
def spec_l1Floor.T8 : Bool × List (List Nat × List Nat) := (true, [([], []), ([0], [0]), ([], []), ([], []), ([2, 3], [2, 3]), ([4], [4]), ([1, 5, 4], [1, 5]), ([0, 1, 2, 3, 4, 5, 6], []), ([7, 6, 6, 0, 1, 2, 3, 4, 5, 6], [6, 7])])
def spec_l1Floor.B8 : List Nat := [0, 1, 0, 0, 12, 28, 63, 127, 255]
theorem spec_l1Floor.tab8 : rtab .any (opsOf Try.f84 8) = spec_l1Floor.T8 := by kernel_rfl
theorem spec_l1Floor.bits8 : waitsOk spec_l1Floor.T8.2 spec_l1Floor.B8 = true := by kernel_rfl
theorem spec_l1Floor.calls (k : Nat) (g : Nat) (s0_0 : List Int) (s0_1 : Int) (s0_2 : Int) (r1 : Int) (r2 : Int) (r3 : List Int) (r4 : Int) (r5 : Int) (w0 w : World) (hI : IsS113 w0 w g s0_0 s0_1 s0_2) (hB : Below w0.heap.size w0 w) (h : spec_l1Floor.f k s0_0 s0_1 s0_2 = some (r1, r2, r3, r4, r5)) :
  Calls Try.prog 84 #[.pointer (some ⟨g, 0, none⟩)] w fun e w' => ∃ v2_ : Value, e = .returned (.agg #[.int .i64 r1, .int .i64 r2, v2_]) ∧ Kd.R (Kd.int .i64) 3 w' w.heap.size (fun _ => True) v2_ r3 ∧ IsS113 w0 w' g s0_0 r4 r5 ∧ Below w0.heap.size w0 w' ∧ KeepBut w w' g none := by
 have hu43 := Try.underlying43
 have HI0 := aM hI
 have HK := aM (KeepBut.refl w g none)
 have HL := aM hB.size
 clear hI
 have HW0 := aM hB.size
 have HB := aM hB
 clear hB
 unfold spec_l1Floor.f at h
 have H := h
 clear h
 replace H := Option.bind_eq_some_iff.mp H
 obtain ⟨⟨t458, t459, t460⟩, A20, H⟩ := H
 try dsimp only at H
 have A2 := aM A20
 clear A20
 replace H := iB_ H
 rcases H with ⟨rfl, H⟩ | ⟨rfl, H⟩
 {
 obtain ⟨y461, hy461⟩ : ∃ y_ : List ByteArray, y_ = (([(⟨#[99, 46, 46, 46, 46, 46, 10, 46, 112, 112, 46, 112, 46, 10, 46, 112, 112, 46, 112, 46, 10, 46, 46, 46, 46, 46, 115, 10]⟩ : ByteArray), (⟨#[99, 46, 46, 10, 46, 46, 46, 10, 46, 46, 115, 10]⟩ : ByteArray), (⟨#[46, 46, 46, 46, 46, 10, 46, 112, 35, 112, 46, 10, 46, 46, 115, 46, 46, 10, 46, 112, 35, 112, 46, 10, 99, 46, 46, 46, 99, 10]⟩ : ByteArray), (⟨#[46, 46, 46, 35, 46, 46, 46, 10, 46, 46, 46, 46, 46, 46, 46, 10, 46, 46, 46, 35, 46, 46, 46, 10]⟩ : ByteArray), (⟨#[99, 46, 46, 46, 46, 46, 46, 46, 10, 46, 112, 46, 112, 46, 112, 46, 46, 10, 46, 46, 46, 46, 46, 46, 46, 115, 10, 46, 112, 46, 112, 46, 112, 46, 46, 10, 99, 46, 46, 46, 46, 46, 46, 115, 10]⟩ : ByteArray), (⟨#[46, 46, 10, 46, 46, 10]⟩ : ByteArray), (⟨#[99, 46, 35, 46, 115, 10, 46, 46, 35, 46, 46, 10]⟩ : ByteArray)] : List ByteArray)) := ⟨_, rfl⟩
 replace H : ((spec_l1Str.f s0_0 t459 t460 y461).bind fun bt464 => ((spec_ParseFloor.f k bt464.1).bind fun bt467 => (some (bt467.1, bt467.2.1, bt467.2.2.1, bt464.2.1, bt464.2.2)))) = some (r1, r2, r3, r4, r5) := by first | (rw [hy461]; exact H) | exact H
 have Ny461 := aM hy461
 clear hy461
 replace H := Option.bind_eq_some_iff.mp H
 obtain ⟨⟨t464, t465, t466⟩, A40, H⟩ := H
 try dsimp only at H
 have A4 := aM A40
 clear A40
 replace H := Option.bind_eq_some_iff.mp H
 obtain ⟨⟨t467, t468, t469, t472⟩, A50, H⟩ := H
 try dsimp only at H
 have A5 := aM A50
 clear A50
 simp only [Option.some.injEq, Prod.mk.injEq] at H
 obtain ⟨rfl, rfl, rfl, rfl, rfl⟩ := H
 go_enter Try.func84, Try.ntmps84
 go_wp2_with (first | ((with_reducible refine gate_dst (N := 2) rfl ?_); refine bx_ 2 #[.int .i64 0, .int .i64 0, .slice none 0 0] 43 ?_; intro gb457 hg w6 hbox hb; replace HB := bS_ hb; have BK457 := aM (hbox); have GW457 := aM (kz_ w g hg qz3); have GE457 := aM ((Nat.le_trans HW0.out (by rw [hg]; exact (keep_size (w := w) (g := g) (row := none) qz3) : w.heap.size ≤ gb457) : w0.heap.size ≤ gb457)); replace HK := aM (KeepBut.trans qz3 (KeepBut.of_below hb g none) (.inl rfl)); have NB0_457 := aM ((by rw [hg]; exact Nat.ne_of_lt (IsS113.lt (show IsS113 w0 _ g s0_0 s0_1 s0_2 from qz4)) : g ≠ gb457)); have NB457_0 := aM ((by rw [hg]; exact Nat.ne_of_gt (IsS113.lt (show IsS113 w0 _ g s0_0 s0_1 s0_2 from qz4)) : gb457 ≠ g)); replace HI0 := aM (IsS113.below qz4 hb); clear hb hbox hg) | ((with_reducible refine gate_callee (f := 80) rfl ?_); refine goesL_ (some 8) rfl rfl Try.func80 (by kernel_rfl) rfl #[.pointer (some ⟨g, 0, none⟩), .int .i64 3] rfl qz2 ?_; (with_reducible refine (spec_l1Once.calls g s0_0 s0_1 s0_2 3 true t459 t460 w0 _ ?_ ?_ A2.out).mono ?_); exact qz4; exact qz1; rintro e w7 ⟨rfl, hi, hb, hk⟩; refine ⟨_, rfl, ?_⟩; replace BK457 := aM (KeepBut.blk hk (bk_ BK457.out) NB457_0.out (by simp)); replace HK := aM (KeepBut.trans qz3 hk (.inl rfl)); replace HB := aM (hb); replace HI0 := aM (hi); (try clear hb hk hi)) | ((with_reducible refine gate_dst (N := 11) rfl ?_); refine Kd.R_lit Kd.string _ 9 ?hg (N := 11) ?hd (xs := ([(⟨#[99, 46, 46, 46, 46, 46, 10, 46, 112, 112, 46, 112, 46, 10, 46, 112, 112, 46, 112, 46, 10, 46, 46, 46, 46, 46, 115, 10]⟩ : ByteArray), (⟨#[99, 46, 46, 10, 46, 46, 46, 10, 46, 46, 115, 10]⟩ : ByteArray), (⟨#[46, 46, 46, 46, 46, 10, 46, 112, 35, 112, 46, 10, 46, 46, 115, 46, 46, 10, 46, 112, 35, 112, 46, 10, 99, 46, 46, 46, 99, 10]⟩ : ByteArray), (⟨#[46, 46, 46, 35, 46, 46, 46, 10, 46, 46, 46, 46, 46, 46, 46, 10, 46, 46, 46, 35, 46, 46, 46, 10]⟩ : ByteArray), (⟨#[99, 46, 46, 46, 46, 46, 46, 46, 10, 46, 112, 46, 112, 46, 112, 46, 46, 10, 46, 46, 46, 46, 46, 46, 46, 115, 10, 46, 112, 46, 112, 46, 112, 46, 46, 10, 99, 46, 46, 46, 46, 46, 46, 115, 10]⟩ : ByteArray), (⟨#[46, 46, 10, 46, 46, 10]⟩ : ByteArray), (⟨#[99, 46, 35, 46, 115, 10, 46, 46, 35, 46, 46, 10]⟩ : ByteArray)] : List ByteArray)) (inner := [.string (⟨#[99, 46, 46, 46, 46, 46, 10, 46, 112, 112, 46, 112, 46, 10, 46, 112, 112, 46, 112, 46, 10, 46, 46, 46, 46, 46, 115, 10]⟩ : ByteArray), .string (⟨#[99, 46, 46, 10, 46, 46, 46, 10, 46, 46, 115, 10]⟩ : ByteArray), .string (⟨#[46, 46, 46, 46, 46, 10, 46, 112, 35, 112, 46, 10, 46, 46, 115, 46, 46, 10, 46, 112, 35, 112, 46, 10, 99, 46, 46, 46, 99, 10]⟩ : ByteArray), .string (⟨#[46, 46, 46, 35, 46, 46, 46, 10, 46, 46, 46, 46, 46, 46, 46, 10, 46, 46, 46, 35, 46, 46, 46, 10]⟩ : ByteArray), .string (⟨#[99, 46, 46, 46, 46, 46, 46, 46, 10, 46, 112, 46, 112, 46, 112, 46, 46, 10, 46, 46, 46, 46, 46, 46, 46, 115, 10, 46, 112, 46, 112, 46, 112, 46, 46, 10, 99, 46, 46, 46, 46, 46, 46, 115, 10]⟩ : ByteArray), .string (⟨#[46, 46, 10, 46, 46, 10]⟩ : ByteArray), .string (⟨#[99, 46, 35, 46, 115, 10, 46, 46, 35, 46, 46, 10]⟩ : ByteArray)]) (ok := fun _ => True) (okp := fun _ => True) ?hr ?hp (fun _ hk => hk) trivial (Below.refl _ _) (Nat.le_refl _) (by simp) ?_; (case hd => rfl); (case hg => rfl); (case hr => exact qz9); (case hp => exact (Reps.one (show Kd.M Kd.string _ _ _ (⟨#[99, 46, 46, 46, 46, 46, 10, 46, 112, 112, 46, 112, 46, 10, 46, 112, 112, 46, 112, 46, 10, 46, 46, 46, 46, 46, 115, 10]⟩ : ByteArray) [.string (⟨#[99, 46, 46, 46, 46, 46, 10, 46, 112, 112, 46, 112, 46, 10, 46, 112, 112, 46, 112, 46, 10, 46, 46, 46, 46, 46, 115, 10]⟩ : ByteArray)] from rfl) (Reps.one (show Kd.M Kd.string _ _ _ (⟨#[99, 46, 46, 10, 46, 46, 46, 10, 46, 46, 115, 10]⟩ : ByteArray) [.string (⟨#[99, 46, 46, 10, 46, 46, 46, 10, 46, 46, 115, 10]⟩ : ByteArray)] from rfl) (Reps.one (show Kd.M Kd.string _ _ _ (⟨#[46, 46, 46, 46, 46, 10, 46, 112, 35, 112, 46, 10, 46, 46, 115, 46, 46, 10, 46, 112, 35, 112, 46, 10, 99, 46, 46, 46, 99, 10]⟩ : ByteArray) [.string (⟨#[46, 46, 46, 46, 46, 10, 46, 112, 35, 112, 46, 10, 46, 46, 115, 46, 46, 10, 46, 112, 35, 112, 46, 10, 99, 46, 46, 46, 99, 10]⟩ : ByteArray)] from rfl) (Reps.one (show Kd.M Kd.string _ _ _ (⟨#[46, 46, 46, 35, 46, 46, 46, 10, 46, 46, 46, 46, 46, 46, 46, 10, 46, 46, 46, 35, 46, 46, 46, 10]⟩ : ByteArray) [.string (⟨#[46, 46, 46, 35, 46, 46, 46, 10, 46, 46, 46, 46, 46, 46, 46, 10, 46, 46, 46, 35, 46, 46, 46, 10]⟩ : ByteArray)] from rfl) (Reps.one (show Kd.M Kd.string _ _ _ (⟨#[99, 46, 46, 46, 46, 46, 46, 46, 10, 46, 112, 46, 112, 46, 112, 46, 46, 10, 46, 46, 46, 46, 46, 46, 46, 115, 10, 46, 112, 46, 112, 46, 112, 46, 46, 10, 99, 46, 46, 46, 46, 46, 46, 115, 10]⟩ : ByteArray) [.string (⟨#[99, 46, 46, 46, 46, 46, 46, 46, 10, 46, 112, 46, 112, 46, 112, 46, 46, 10, 46, 46, 46, 46, 46, 46, 46, 115, 10, 46, 112, 46, 112, 46, 112, 46, 46, 10, 99, 46, 46, 46, 46, 46, 46, 115, 10]⟩ : ByteArray)] from rfl) (Reps.one (show Kd.M Kd.string _ _ _ (⟨#[46, 46, 10, 46, 46, 10]⟩ : ByteArray) [.string (⟨#[46, 46, 10, 46, 46, 10]⟩ : ByteArray)] from rfl) (Reps.one (show Kd.M Kd.string _ _ _ (⟨#[99, 46, 35, 46, 115, 10, 46, 46, 35, 46, 46, 10]⟩ : ByteArray) [.string (⟨#[99, 46, 35, 46, 115, 10, 46, 46, 35, 46, 46, 10]⟩ : ByteArray)] from rfl) (Reps.none _ _))))))))); intro v462 w8 ho9 hb hg_ hnew_; clear hg_ hnew_; (first | rw [← Ny461.out] at ho9 | (simp only [Int.reduceToNat] at ho9; rw [← Ny461.out] at ho9)); have HO463 := aM (Kd.R_lower ho9 (keep_size (w := w) (g := g) (row := none) qz3)); replace BK457 := bB_ BK457 hb; replace HK := aM (KeepBut.trans qz3 (KeepBut.of_below hb g none) (.inl rfl)); replace HB := bS_ hb; replace HI0 := aM (IsS113.below qz4 hb); clear hb ho9; obtain ⟨Ao10, co10, eo10⟩ := Kd.R_slice HO463.out; subst eo10) | ((with_reducible refine gate_callee (f := 107) rfl ?_); refine goesL_ (some 12) rfl rfl Try.func107 (by kernel_rfl) rfl #[.pointer (some ⟨g, 0, none⟩), .slice Ao10 y461.length co10] rfl qz2 ?_; (with_reducible refine (spec_l1Str.calls g s0_0 t459 t460 _ _ y461 t464 t465 t466 w0 _ ?side1 ?side2 ?side3 ?side4 ?side5 A4.out).mono ?_); (case side1 => exact qz4); (case side2 => exact qz1); (case side3 => repeat (first | exact (Kd.R_reads' HO463.out).2.2 | (with_reducible refine Kd.C_alloc ?_ _) | (with_reducible refine Kd.C_drewN ?_ _) | (with_reducible refine Kd.C_drew ?_))); (case side4 => exact (Kd.R_reads' HO463.out).2.1); (case side5 => exact far_slice (IsS113.own_ne HI0.out HO463.out (by decide))); rintro e w11 ⟨rfl, hi, hb, hk⟩; refine ⟨_, rfl, ?_⟩; replace BK457 := aM (KeepBut.blk hk (bk_ BK457.out) NB457_0.out (by simp)); replace HO463 := aM (Kd.R_mono (Kd.R_keep (IsS113.apart (show IsS113 w0 _ g s0_0 t459 t460 from qz4) (rr_ HO463.out) (by decide)) hk (fun _ h => h.2)) (fun _ h => h.1)); replace HK := aM (KeepBut.trans qz3 hk (.inl rfl)); replace HB := aM (hb); replace HI0 := aM (hi); (try clear hb hk hi)) | ((with_reducible refine gate_callee (f := 106) rfl ?_); refine goesL_ (some 13) rfl rfl Try.func106 (by kernel_rfl) rfl #[.string t464] rfl qz2 ?_; (with_reducible refine (spec_ParseFloor.calls k t464 t467 t468 t469 t472 _ A5.out).mono ?_); rintro e w12 ⟨v470, rfl, ho0, hb⟩; refine ⟨_, rfl, ?_⟩; replace HO463 := aM (Kd.R_below (rr_ HO463.out) hb); have HO471 := aM (Kd.R_lower ho0 (keep_size (w := w) (g := g) (row := none) qz3)); replace BK457 := bB_ BK457 hb; replace HK := aM (KeepBut.trans qz3 (KeepBut.of_below hb g none) (.inl rfl)); replace HB := bS_ hb; replace HI0 := aM (IsS113.below qz4 hb); (try clear hb ho0)) | ((with_reducible refine gate_dst (N := 3) rfl ?_); refine bx_ 3 #[.int .i64 0, .int .i64 0, .slice none 0 0] 43 ?_; intro gb473 hg w13 hbox hb; replace HO463 := aM (Kd.R_below (rr_ HO463.out) hb); replace HO471 := aM (Kd.R_below (rr_ HO471.out) hb); replace HB := bS_ hb; have BK473 := aM (hbox); have GW473 := aM (kz_ w g hg qz3); have GE473 := aM ((Nat.le_trans HW0.out (by rw [hg]; exact (keep_size (w := w) (g := g) (row := none) qz3) : w.heap.size ≤ gb473) : w0.heap.size ≤ gb473)); replace HK := aM (KeepBut.trans qz3 (KeepBut.of_below hb g none) (.inl rfl)); obtain ⟨NB457_473, NB473_457⟩ := nb_ hg (bk_ BK457.out); replace BK457 := bB_ BK457 hb; have NB0_473 := aM ((by rw [hg]; exact Nat.ne_of_lt (IsS113.lt (show IsS113 w0 _ g s0_0 t465 t466 from qz4)) : g ≠ gb473)); have NB473_0 := aM ((by rw [hg]; exact Nat.ne_of_gt (IsS113.lt (show IsS113 w0 _ g s0_0 t465 t466 from qz4)) : gb473 ≠ g)); replace HI0 := aM (IsS113.below qz4 hb); clear hb hbox hg; have hnb14 := NB473_457.out; have hnc14 := NB457_473.out; have hnb15 := NB473_0.out; have hnc15 := NB0_473.out; obtain ⟨hcz16_0, hcz16_1, hcz16_2, hfz16_0, hfz16_1, hfz16_2⟩ := b6_ BK473.out; obtain ⟨Ao17, co17, eo17⟩ := Kd.R_slice HO471.out; subst eo17; have hnb18 := NB457_0.out; have hnc18 := NB0_457.out; obtain ⟨hcz19_0, hcz19_1, hcz19_2, hfz19_0, hfz19_1, hfz19_2⟩ := b6_ BK457.out))
 refine bodyPost_ret (results_cell_row rfl _ _ gb457 43 #[.int .i64 t467, .int .i64 t468, .slice Ao17 t469.length co17] (0, 0) _ rfl (by (with_reducible repeat (first | refine blk_drewN ?_ _ | refine blk_drew ?_ | refine blk_alloc ?_ _)); refine blk_put (cs := #[.int .i64 t467, .int .i64 t468, .slice none 0 0]) ?_ 2 _ rfl; (with_reducible repeat (first | refine blk_drewN ?_ _ | refine blk_drew ?_ | refine blk_alloc ?_ _)); refine blk_put (cs := #[.int .i64 t467, .int .i64 0, .slice none 0 0]) ?_ 1 _ rfl; (with_reducible repeat (first | refine blk_drewN ?_ _ | refine blk_drew ?_ | refine blk_alloc ?_ _)); refine blk_put (cs := #[.int .i64 0, .int .i64 0, .slice none 0 0]) ?_ 0 _ rfl; (with_reducible repeat (first | refine blk_drewN ?_ _ | refine blk_drew ?_ | refine blk_alloc ?_ _)); exact bk2_ BK457.out) Try.underlying43 rfl (by kernel_rfl)) rfl ?_
 exact ⟨_, qzw, by (with_reducible repeat (first | apply Kd.R_alloc | apply Kd.R_drewN | apply Kd.R_drew)); exact Kd.R_mono (Kd.R_far (p := ⟨gb457, 2, none⟩) (Kd.R_far (p := ⟨gb457, 1, none⟩) (Kd.R_far (p := ⟨gb457, 0, none⟩) (Kd.R_far (p := ⟨gb473, 2, none⟩) (Kd.R_far (p := ⟨gb473, 1, none⟩) (Kd.R_far (p := ⟨gb473, 0, none⟩) (Kd.R_types (Kd.R_types HO471.out BK473.out (by decide)) BK457.out (by decide)) (fun _ hk => hk.1.2) (.int .i64 t467)) (fun _ hk => hk.1.2) (.int .i64 t468)) (fun _ hk => hk.1.2) (.slice Ao17 t469.length co17)) (fun _ hk => hk.2) (.int .i64 t467)) (fun _ hk => hk.2) (.int .i64 t468)) (fun _ hk => hk.2) (.slice Ao17 t469.length co17)) (fun _ hk => trivial), qz4, qz1, qz3⟩
 }
 {
 replace H := Option.bind_eq_some_iff.mp H
 obtain ⟨⟨t474, t475, t476⟩, A200, H⟩ := H
 try dsimp only at H
 have A20 := aM A200
 clear A200
 replace H := Option.bind_eq_some_iff.mp H
 obtain ⟨⟨t477, t478, t479⟩, A210, H⟩ := H
 try dsimp only at H
 have A21 := aM A210
 clear A210
 have H' := aM H
 clear H
 go_enter Try.func84, Try.ntmps84
 go_wp2_with (first | ((with_reducible refine gate_dst (N := 2) rfl ?_); refine bx_ 2 #[.int .i64 0, .int .i64 0, .slice none 0 0] 43 ?_; intro gb457 hg w22 hbox hb; replace HB := bS_ hb; have BK457 := aM (hbox); have GW457 := aM (kz_ w g hg qz3); have GE457 := aM ((Nat.le_trans HW0.out (by rw [hg]; exact (keep_size (w := w) (g := g) (row := none) qz3) : w.heap.size ≤ gb457) : w0.heap.size ≤ gb457)); replace HK := aM (KeepBut.trans qz3 (KeepBut.of_below hb g none) (.inl rfl)); have NB0_457 := aM ((by rw [hg]; exact Nat.ne_of_lt (IsS113.lt (show IsS113 w0 _ g s0_0 s0_1 s0_2 from qz4)) : g ≠ gb457)); have NB457_0 := aM ((by rw [hg]; exact Nat.ne_of_gt (IsS113.lt (show IsS113 w0 _ g s0_0 s0_1 s0_2 from qz4)) : gb457 ≠ g)); replace HI0 := aM (IsS113.below qz4 hb); clear hb hbox hg) | ((with_reducible refine gate_callee (f := 80) rfl ?_); refine goesL_ (some 8) rfl rfl Try.func80 (by kernel_rfl) rfl #[.pointer (some ⟨g, 0, none⟩), .int .i64 3] rfl qz2 ?_; (with_reducible refine (spec_l1Once.calls g s0_0 s0_1 s0_2 3 false t459 t460 w0 _ ?_ ?_ A2.out).mono ?_); exact qz4; exact qz1; rintro e w23 ⟨rfl, hi, hb, hk⟩; refine ⟨_, rfl, ?_⟩; replace BK457 := aM (KeepBut.blk hk (bk_ BK457.out) NB457_0.out (by simp)); replace HK := aM (KeepBut.trans qz3 hk (.inl rfl)); replace HB := aM (hb); replace HI0 := aM (hi); (try clear hb hk hi)) | ((with_reducible refine gate_callee (f := 73) rfl ?_); refine goesL_ (some 18) rfl rfl Try.func73 (by kernel_rfl) rfl #[.pointer (some ⟨g, 0, none⟩), .int .i64 7] rfl qz2 ?_; (with_reducible refine (spec_l1Below.calls g s0_0 t459 t460 7 t474 t475 t476 w0 _ ?_ ?_ A20.out).mono ?_); exact qz4; exact qz1; rintro e w24 ⟨rfl, hi, hb, hk⟩; refine ⟨_, rfl, ?_⟩; replace BK457 := aM (KeepBut.blk hk (bk_ BK457.out) NB457_0.out (by simp)); replace HK := aM (KeepBut.trans qz3 hk (.inl rfl)); replace HB := aM (hb); replace HI0 := aM (hi); (try clear hb hk hi)) | ((with_reducible refine gate_callee (f := 73) rfl ?_); refine goesL_ (some 21) rfl rfl Try.func73 (by kernel_rfl) rfl #[.pointer (some ⟨g, 0, none⟩), .int .i64 6] rfl qz2 ?_; (with_reducible refine (spec_l1Below.calls g s0_0 t475 t476 6 t477 t478 t479 w0 _ ?_ ?_ A21.out).mono ?_); exact qz4; exact qz1; rintro e w25 ⟨rfl, hi, hb, hk⟩; refine ⟨_, rfl, ?_⟩; replace BK457 := aM (KeepBut.blk hk (bk_ BK457.out) NB457_0.out (by simp)); replace HK := aM (KeepBut.trans qz3 hk (.inl rfl)); replace HB := aM (hb); replace HI0 := aM (hi); (try clear hb hk hi)) | ((with_reducible refine gate_dst (N := 5) rfl ?_); refine bx_ 5 #[.int .i64 0, .int .i64 0, .slice none 0 0] 43 ?_; intro gb480 hg w26 hbox hb; replace HB := bS_ hb; have BK480 := aM (hbox); have GW480 := aM (kz_ w g hg qz3); have GE480 := aM ((Nat.le_trans HW0.out (by rw [hg]; exact (keep_size (w := w) (g := g) (row := none) qz3) : w.heap.size ≤ gb480) : w0.heap.size ≤ gb480)); replace HK := aM (KeepBut.trans qz3 (KeepBut.of_below hb g none) (.inl rfl)); obtain ⟨NB457_480, NB480_457⟩ := nb_ hg (bk_ BK457.out); replace BK457 := bB_ BK457 hb; have NB0_480 := aM ((by rw [hg]; exact Nat.ne_of_lt (IsS113.lt (show IsS113 w0 _ g s0_0 t478 t479 from qz4)) : g ≠ gb480)); have NB480_0 := aM ((by rw [hg]; exact Nat.ne_of_gt (IsS113.lt (show IsS113 w0 _ g s0_0 t478 t479 from qz4)) : gb480 ≠ g)); replace HI0 := aM (IsS113.below qz4 hb); clear hb hbox hg; have hnb27 := NB480_457.out; have hnc27 := NB457_480.out; have hnb28 := NB480_0.out; have hnc28 := NB0_480.out; obtain ⟨hcz29_0, hcz29_1, hcz29_2, hfz29_0, hfz29_1, hfz29_2⟩ := b6_ BK480.out))
 go_loopg [6] k (fun kq v6 w' => ∃ (x6_1 : Int) (x1001_1 : Int) (x1002_1 : Int) (x481002_1 : List Int) (u481002 : Value), v6 = .int .i64 x6_1 ∧ Aside0 (spec_l1Floor.l0 kq x6_1 s0_0 x1001_1 x1002_1 (wrap64 (1 + t474)) (wrap64 (1 + t477)) x481002_1 = some (r1, r2, r3, r4, r5)) ∧ Aside0 (kq ≤ k) ∧ Aside0 (Kd.R (Kd.int .i64) 3 w' w.heap.size (fun _ => True) u481002 x481002_1) ∧ Aside0 (w'.heap[gb457]? = some (.cells #[.int .i64 0, .int .i64 0, (.slice none 0 0)] 43 (0, 0))) ∧ Aside0 (w'.heap[gb480]? = some (.cells #[.int .i64 (wrap64 (1 + t474)), .int .i64 (wrap64 (1 + t477)), u481002] 43 (0, 0))) ∧ Aside0 (IsS113 w0 w' g s0_0 x1001_1 x1002_1) ∧ Aside0 (KeepBut w w' g none) ∧ Aside0 (Below w0.heap.size w0 w'))
 case atStart => exact ⟨(0), (t478), (t479), (([] : List Int)), (.slice none 0 0), qz7, H', ⟨Nat.le_refl _⟩, ⟨by first | exact Kd.R_nil _ _ _ _ _ | exact Kd.N_nil _ _ _ _ _ | exact Kd.V_nil _ _ _ _ _ | exact Kd.Q_nil _ _ _ _ _ | exact Kd.S_nil _ _ _ _ _⟩, ⟨by (with_reducible repeat (first | refine blk_drewN ?_ _ | refine blk_drew ?_ | refine blk_alloc ?_ _)); refine blk_far ?_ NB457_480.out _; (with_reducible repeat (first | refine blk_drewN ?_ _ | refine blk_drew ?_ | refine blk_alloc ?_ _)); refine blk_far ?_ NB457_480.out _; (with_reducible repeat (first | refine blk_drewN ?_ _ | refine blk_drew ?_ | refine blk_alloc ?_ _)); refine blk_far ?_ NB457_480.out _; exact bk_ BK457.out⟩, ⟨by (with_reducible repeat (first | refine blk_drewN ?_ _ | refine blk_drew ?_ | refine blk_alloc ?_ _)); refine blk_put (cs := #[.int .i64 (wrap64 (1 + t474)), .int .i64 (wrap64 (1 + t477)), .slice none 0 0]) ?_ 2 _ rfl; (with_reducible repeat (first | refine blk_drewN ?_ _ | refine blk_drew ?_ | refine blk_alloc ?_ _)); refine blk_put (cs := #[.int .i64 (wrap64 (1 + t474)), .int .i64 0, .slice none 0 0]) ?_ 1 _ rfl; (with_reducible repeat (first | refine blk_drewN ?_ _ | refine blk_drew ?_ | refine blk_alloc ?_ _)); refine blk_put (cs := #[.int .i64 0, .int .i64 0, .slice none 0 0]) ?_ 0 _ rfl; exact bk_ BK480.out⟩, ⟨qz4⟩, ⟨qz3⟩, ⟨qz1⟩⟩
 case round =>
 clear H'
 try clear c3
 try clear hcz29_0 hcz29_1 hcz29_2 hfz29_0 hfz29_1 hfz29_2
 obtain ⟨x6_1, x1001_1, x1002_1, x481002_1, u481002, rfl, HA, HK1, HO_481002, BK457, BK480, HI0, HK, HB⟩ := hrel
 cases gk with
 | zero => exact absurd HA.out (by simp [spec_l1Floor.l0])
 | succ k1 =>
 have H := HA.out
 clear HA
 simp only [spec_l1Floor.l0] at H
 replace H := iE_ H
 rcases H with ⟨c30b0, H⟩ | ⟨c30b0, H⟩
 {
 obtain ⟨y481, hy481⟩ : ∃ y_ : List Int, y_ = (([1, 1, 1, 1, 1, 1, 0, 2, 3, 4] : List Int)) := ⟨_, rfl⟩
 replace H : ((spec_l1Int.f s0_0 x1001_1 x1002_1 y481).bind fun bt484 => (if x481002_1.length < 17592186044416 then (spec_l1Floor.l0 k1 (wrap64 (x6_1 + 1)) s0_0 bt484.2.1 bt484.2.2 (wrap64 (1 + t474)) (wrap64 (1 + t477)) (x481002_1 ++ [bt484.1])) else (none))) = some (r1, r2, r3, r4, r5) := by first | (rw [hy481]; exact H) | exact H
 have Ny481 := aM hy481
 clear hy481
 replace H := Option.bind_eq_some_iff.mp H
 obtain ⟨⟨t484, t485, t486⟩, A310, H⟩ := H
 try dsimp only at H
 have A31 := aM A310
 clear A310
 replace H := iN_ H
 obtain ⟨c32, H⟩ := H
 have LMc32 := aM c32
 clear c32
 obtain ⟨y487, hy487⟩ : ∃ y_ : List Int, y_ = (x481002_1 ++ [t484]) := ⟨_, rfl⟩
 replace H : (spec_l1Floor.l0 k1 (wrap64 (x6_1 + 1)) s0_0 t485 t486 (wrap64 (1 + t474)) (wrap64 (1 + t477)) y487) = some (r1, r2, r3, r4, r5) := by first | (rw [hy487]; exact H) | exact H
 have Ny487 := aM hy487
 clear hy487
 have H' := aM H
 clear H
 have hnb33 := NB480_457.out
 have hnc33 := NB457_480.out
 have hnb34 := NB480_0.out
 have hnc34 := NB0_480.out
 obtain ⟨hcz35_0, hcz35_1, hcz35_2, hfz35_0, hfz35_1, hfz35_2⟩ := b6_ BK480.out
 try go_wp2
 replace HO_481002 := aM (Kd.R_drew HO_481002.out)
 replace BK457 := aM (blk_drew BK457.out)
 replace BK480 := aM (blk_drew BK480.out)
 replace HI0 := aM (IsS113.drew HI0.out)
 replace HK := aM (keep_drew HK.out)
 replace HB := aM (below_drew1 HB.out)
 refine start_ (n := 9) (S := fun w' => w'.cell? ⟨gb480, 0, none⟩ = some (.int .i64 (wrap64 (1 + t474))) ∧ w'.cell? ⟨gb480, 1, none⟩ = some (.int .i64 (wrap64 (1 + t477))) ∧ w'.cell? ⟨gb480, 2, none⟩ = some (u481002)) (ds := [8]) #[false, false, false, false, false, false, false, false, false] (by kernel_rfl) rfl rfl ⟨(blk_cell BK480.out 0).trans rfl, (blk_cell BK480.out 1).trans rfl, (blk_cell BK480.out 2).trans rfl⟩ (fun hHeld => ?_); refine with_tabW spec_l1Floor.tab8 spec_l1Floor.bits8 (fun HT_ HW_ => ?_)
 generalize wr.drew = w36 at HO_481002 BK457 BK480 HI0 HK HB hHeld ⊢
 refine pI_ 0 (bqz 9 1) ?_
 refine jI_ 2 ?_
 refine sI3_ 1 ?_
 refine oI_ 3 36 (bqz 9 15) (fun K hK => ?_)
 refine Kd.R_lit_step (Kd.int .i64) _ 3 ?hg (N := 36) ?hd (xs := ([1, 1, 1, 1, 1, 1, 0, 2, 3, 4] : List Int)) (inner := [.int .i64 1, .int .i64 1, .int .i64 1, .int .i64 1, .int .i64 1, .int .i64 1, .int .i64 0, .int .i64 2, .int .i64 3, .int .i64 4]) (ok := fun _ => True) (okp := fun _ => True) ?hr ?hp (fun _ hk => hk) trivial (Below.refl _ _) (Nat.le_refl _) (by simp) ?_; (case hd => rfl); (case hg => rfl); (case hr => exact qz9); (case hp => exact (Reps.one (show Kd.M (Kd.int .i64) _ _ _ 1 [.int .i64 1] from rfl) (Reps.one (show Kd.M (Kd.int .i64) _ _ _ 1 [.int .i64 1] from rfl) (Reps.one (show Kd.M (Kd.int .i64) _ _ _ 1 [.int .i64 1] from rfl) (Reps.one (show Kd.M (Kd.int .i64) _ _ _ 1 [.int .i64 1] from rfl) (Reps.one (show Kd.M (Kd.int .i64) _ _ _ 1 [.int .i64 1] from rfl) (Reps.one (show Kd.M (Kd.int .i64) _ _ _ 1 [.int .i64 1] from rfl) (Reps.one (show Kd.M (Kd.int .i64) _ _ _ 0 [.int .i64 0] from rfl) (Reps.one (show Kd.M (Kd.int .i64) _ _ _ 2 [.int .i64 2] from rfl) (Reps.one (show Kd.M (Kd.int .i64) _ _ _ 3 [.int .i64 3] from rfl) (Reps.one (show Kd.M (Kd.int .i64) _ _ _ 4 [.int .i64 4] from rfl) (Reps.none _ _))))))))))))
 intro v482 w37 ho38 hb hg_ hnew_
 clear hg_ hnew_
 (first | rw [← Ny481.out] at ho38 | (simp only [Int.reduceToNat] at ho38; rw [← Ny481.out] at ho38))
 have HO483 := aM (Kd.R_lower (Kd.R_new' ho38 (Kd.R_lt (rr_ HO_481002.out))) (keep_size (w := w) (g := g) (row := none) qz3))
 replace HO_481002 := aM (Kd.R_elder' (rr_ HO_481002.out) (Kd.R_base ho38) hb)
 replace BK457 := bB_ BK457 hb
 replace BK480 := bB_ BK480 hb
 replace HK := aM (KeepBut.trans qz3 (KeepBut.of_below hb g none) (.inl rfl))
 replace HB := bS_ hb
 replace HI0 := aM (IsS113.below qz4 hb)
 clear hb ho38
 obtain ⟨Ao39, co39, eo39⟩ := Kd.R_slice HO483.out
 (first | subst eo39 | (injection eo39 with f1_ f2_ f3_; have f4_ := f1_.symm; have f5_ := f3_.symm; clear f1_ f2_ f3_; subst f4_; subst f5_))
 refine hK.out _ _ ⟨(blk_cell BK480.out 0).trans rfl, (blk_cell BK480.out 1).trans rfl, (blk_cell BK480.out 2).trans rfl⟩ (fun hHeld => ?_)
 clear hK K
 refine nm_ 36 ?_
 refine oI_ 4 37 (bqz 9 31) (fun K hK => ?_)
 refine goes_ Try.func81 (by kernel_rfl) rfl #[.pointer (some ⟨g, 0, none⟩), .slice Ao39 y481.length co39] (by rfl) rfl rfl qz2 ?_
 with_reducible refine (spec_l1Int.calls g s0_0 x1001_1 x1002_1 _ _ y481 t484 t485 t486 w0 _ ?side1 ?side2 ?side3 ?side4 ?side5 A31.out).mono ?_
 (case side1 => exact qz4)
 (case side2 => exact qz1)
 (case side3 => repeat (first | exact (Kd.R_reads' HO483.out).2.2 | (with_reducible refine Kd.C_alloc ?_ _) | (with_reducible refine Kd.C_drewN ?_ _) | (with_reducible refine Kd.C_drew ?_)))
 (case side4 => exact (Kd.R_reads' HO483.out).2.1)
 (case side5 => exact far_slice (IsS113.own_ne HI0.out HO483.out (by decide)))
 rintro e w40 ⟨rfl, hi, hb, hk⟩
 refine ⟨_, rfl, ?_⟩
 replace HO_481002 := aM (Kd.R_mono (Kd.R_keep (IsS113.apart (show IsS113 w0 _ g s0_0 x1001_1 x1002_1 from qz4) (rr_ HO_481002.out) (by decide)) hk (fun _ h => h.2)) (fun _ h => h.1))
 replace BK457 := aM (KeepBut.blk hk (bk_ BK457.out) NB457_0.out (by simp))
 replace BK480 := aM (KeepBut.blk hk (bk_ BK480.out) NB480_0.out (by simp))
 replace HO483 := aM (Kd.R_mono (Kd.R_keep (IsS113.apart (show IsS113 w0 _ g s0_0 x1001_1 x1002_1 from qz4) (rr_ HO483.out) (by decide)) hk (fun _ h => h.2)) (fun _ h => h.1))
 replace HK := aM (KeepBut.trans qz3 hk (.inl rfl))
 replace HB := aM (hb)
 replace HI0 := aM (hi)
 (try clear hb)
 (try clear hb2)
 (try clear hk)
 (try clear hi)
 refine hK.out _ _ ⟨(blk_cell BK480.out 0).trans rfl, (blk_cell BK480.out 1).trans rfl, (blk_cell BK480.out 2).trans rfl⟩ (fun hHeld => ?_)
 clear hK K
 refine nm_ 37 ?_
 refine oI_ 5 38 (bqz 9 63) (fun K hK => ?_)
 refine value_ (w1 := ?_) (v := ?_) (by rfl) rfl ?_ ?_
 rotate_left 2
 {
 go_simp
 constructor
 {
 rfl
 }
 {
 rfl
 }
 }
 refine hK.out _ _ ⟨(blk_cell (blk_alloc BK480.out _) 0).trans rfl, (blk_cell (blk_alloc BK480.out _) 1).trans rfl, (blk_cell (blk_alloc BK480.out _) 2).trans rfl⟩ (fun hHeld => ?_)
 clear hK K
 refine nm_ 38 ?_
 refine oI_ 6 39 (bqz 9 127) (fun K hK => ?_)
 refine Kd.R_append_step (Kd.int .i64) w.heap.size (by rfl) (.tmp 34) (.tmp 38) 24 3 (.int .i64 0) 8 rfl Try.underlying24 info3 rfl (by decide) (by omega) u481002 x481002_1 t484 [.int .i64 t484] (fun k_ => some k_ ≠ (.slice Ao39 y481.length co39 : Value).ownBlock) (fun _ => False) rfl rfl ?aP (fun _ hk => hk.elim) ?aF ?aO (Below.refl _ _) ?aS ?aL ?_
 (case aP => exact rfl)
 (case aF => exact (fun k_ hk => Kd.fresh' (Kd.R_lt (rr_ HO483.out)) k_ hk))
 (case aO => exact (by (with_reducible repeat (first | apply Kd.R_alloc | apply Kd.R_drewN | apply Kd.R_drew)); exact Kd.R_mono HO_481002.out (fun _ hk => hk.2)))
 (case aS => exact (keep_size (w := w) (g := g) (row := none) qz3))
 (case aL => have := LMc32.out; omega)
 intro v488 w41 ho hb hg hat
 rw [← Ny487.out] at ho
 replace BK457 := aM (blk_grown (bk_ BK457.out) hg (Kd.R_ne HO_481002.out BK457.out (by decide)))
 replace BK480 := aM (blk_grown (bk_ BK480.out) hg (Kd.R_ne HO_481002.out BK480.out (by decide)))
 replace HO483 := aM (Kd.R_after (ok := (fun _ => True)) (rr_ HO483.out) hg hat)
 replace HB := aM (below_weaken qz1 HL.out hb)
 replace HI0 := aM (IsS113.grown qz4 hg (IsS113.own_ne HI0.out HO_481002.out (by decide)))
 replace HK := aM (KeepBut.trans qz3 (KeepBut.of_grown hg g) (Kd.R_base2 HO_481002.out))
 have HO489 := aM (ho)
 clear HO_481002 ho hb hg hat
 obtain ⟨Ao42, co42, eo42⟩ := Kd.R_slice HO489.out
 (first | subst eo42 | (injection eo42 with f1_ f2_ f3_; have f4_ := f1_.symm; have f5_ := f3_.symm; clear f1_ f2_ f3_; subst f4_; subst f5_))
 refine hK.out _ _ ⟨(blk_cell BK480.out 0).trans rfl, (blk_cell BK480.out 1).trans rfl, (blk_cell BK480.out 2).trans rfl⟩ (fun hHeld => ?_)
 clear hK K
 refine nm_ 39 ?_
 refine pI_ 7 (bqz 9 255) ?_
 refine last_ (i := 8) (N := none) (bqz 9 511) rfl rfl qzc (by decide) (fun K hK => ?_)
 have hs43 : w41.cell? ⟨gb480, 2, none⟩ = some (u481002) := (blk_cell BK480.out 2).trans rfl
 have hfs43 := blk_frozen BK480.out 2
 have hns43_0 := NB457_480.out
 have hms43_0 := NB480_457.out
 refine sk_ ?_
 refine hK.out _ _ ?_
 clear hK K
 refine dN_ ?_
 try go_wp2
 go_roundg k1
 case measure => have := HK1.out; omega
 case rel => exact ⟨(wrap64 (x6_1 + 1)), (t485), (t486), (y487), (.slice Ao42 y487.length co42), qz7, H', ⟨by have := HK1.out; omega⟩, ⟨by (with_reducible repeat (first | apply Kd.R_alloc | apply Kd.R_drewN | apply Kd.R_drew)); exact Kd.R_mono (Kd.R_far (p := ⟨gb480, 2, none⟩) (Kd.R_types HO489.out BK480.out (by decide)) (fun _ hk => hk.2) (.slice Ao42 y487.length co42)) (fun _ hk => trivial)⟩, ⟨by (with_reducible repeat (first | refine blk_drewN ?_ _ | refine blk_drew ?_ | refine blk_alloc ?_ _)); refine blk_far ?_ NB457_480.out _; exact bk_ BK457.out⟩, ⟨by (with_reducible repeat (first | refine blk_drewN ?_ _ | refine blk_drew ?_ | refine blk_alloc ?_ _)); refine blk_put (cs := #[.int .i64 (wrap64 (1 + t474)), .int .i64 (wrap64 (1 + t477)), u481002]) ?_ 2 _ rfl; exact bk_ BK480.out⟩, ⟨qz4⟩, ⟨qz3⟩, ⟨qz1⟩⟩
 }
 {
 simp only [Option.some.injEq, Prod.mk.injEq] at H
 obtain ⟨rfl, rfl, rfl, rfl, rfl⟩ := H
 have hnb44 := NB480_457.out
 have hnc44 := NB457_480.out
 have hnb45 := NB480_0.out
 have hnc45 := NB0_480.out
 obtain ⟨hcz46_0, hcz46_1, hcz46_2, hfz46_0, hfz46_1, hfz46_2⟩ := b6_ BK480.out
 have hnb47 := NB457_0.out
 have hnc47 := NB0_457.out
 obtain ⟨hcz48_0, hcz48_1, hcz48_2, hfz48_0, hfz48_1, hfz48_2⟩ := b6_ BK457.out
 obtain ⟨Ao49, co49, eo49⟩ := Kd.R_slice HO_481002.out
 subst eo49
 go_wp2
 refine bodyPost_ret (results_cell_row rfl _ _ gb457 43 #[.int .i64 (wrap64 (1 + t474)), .int .i64 (wrap64 (1 + t477)), .slice Ao49 x481002_1.length co49] (0, 0) _ rfl (by (with_reducible repeat (first | refine blk_drewN ?_ _ | refine blk_drew ?_ | refine blk_alloc ?_ _)); refine blk_put (cs := #[.int .i64 (wrap64 (1 + t474)), .int .i64 (wrap64 (1 + t477)), .slice none 0 0]) ?_ 2 _ rfl; (with_reducible repeat (first | refine blk_drewN ?_ _ | refine blk_drew ?_ | refine blk_alloc ?_ _)); refine blk_put (cs := #[.int .i64 (wrap64 (1 + t474)), .int .i64 0, .slice none 0 0]) ?_ 1 _ rfl; (with_reducible repeat (first | refine blk_drewN ?_ _ | refine blk_drew ?_ | refine blk_alloc ?_ _)); refine blk_put (cs := #[.int .i64 0, .int .i64 0, .slice none 0 0]) ?_ 0 _ rfl; exact bk_ BK457.out) Try.underlying43 rfl (by kernel_rfl)) rfl ?_
 exact ⟨_, qzw, by (with_reducible repeat (first | apply Kd.R_alloc | apply Kd.R_drewN | apply Kd.R_drew)); exact Kd.R_mono (Kd.R_far (p := ⟨gb457, 2, none⟩) (Kd.R_far (p := ⟨gb457, 1, none⟩) (Kd.R_far (p := ⟨gb457, 0, none⟩) (Kd.R_types HO_481002.out BK457.out (by decide)) (fun _ hk => hk.2) (.int .i64 (wrap64 (1 + t474)))) (fun _ hk => hk.2) (.int .i64 (wrap64 (1 + t477)))) (fun _ hk => hk.2) (.slice Ao49 x481002_1.length co49)) (fun _ hk => trivial), qz4, qz1, qz3⟩
 }
 }
/-! ### spec_l2Free: function 108 -/
def spec_l2Free.l0 : Nat → List Int → Int → Int → Int → List Int → Option (List Int)
 | 0, _, _, _, _, _ => none
 | k + 1, x3, x4, x491000, x491001, x491002 => if x4 < (x491002.length : Int) then (if 0 ≤ x4 then (if (rd x491002 x4) = 0 then (spec_l2Free.l0 k x3 (wrap64 (x4 + 1)) x491000 x491001 x491002) else (if x3.length < 17592186044416 then (spec_l2Free.l0 k (x3 ++ [x4]) (wrap64 (x4 + 1)) x491000 x491001 x491002) else (none))) else (none)) else (some x3)
def spec_l2Free.f (k : Nat) (a0_0 : Int) (a0_1 : Int) (l0_2 : List Int) : Option (List Int) := spec_l2Free.l0 k (([] : List Int)) 0 a0_0 a0_1 l0_2
theorem spec_l2Free.mono_l : ∀ k, (∀ y0 y1 y2 y3 y4, LeO (spec_l2Free.l0 k y0 y1 y2 y3 y4) (spec_l2Free.l0 (k + 1) y0 y1 y2 y3 y4))
 | 0 => fun _ _ _ _ _ r h => by simp [spec_l2Free.l0] at h
 | k + 1 => by
  have ih0 := spec_l2Free.mono_l k
  {
  intro y0 y1 y2 y3 y4
  unfold spec_l2Free.l0
  exact qL
  }
theorem spec_l2Free.mono : ∀ a0 a1 a2 k, LeO (spec_l2Free.f k a0 a1 a2) (spec_l2Free.f (k + 1) a0 a1 a2) := by
 intro a0 a1 a2 k
 have ih0 := spec_l2Free.mono_l k
 unfold spec_l2Free.f
 exact qL
theorem spec_l2Free.calls (k : Nat) (a0_0 : Int) (a0_1 : Int) (A0_2 : Option Addr) (c0_2 : Nat) (l0_2 : List Int) (r : List Int) (w : World) (hr0_2 : Kd.C (Kd.int .i64) w A0_2 l0_2.length l0_2) (hc0_2 : l0_2.length ≤ c0_2) (h : spec_l2Free.f k a0_0 a0_1 l0_2 = some r) :
  Calls Try.prog 108 #[.agg #[.int .i64 a0_0, .int .i64 a0_1, .slice A0_2 l0_2.length c0_2]] w fun e w' => ∃ v0_ : Value, e = .returned (v0_) ∧ Kd.R (Kd.int .i64) 3 w' w.heap.size (fun _ => True) v0_ r ∧ Below w.heap.size w w' := by
 have hu43 := Try.underlying43
 have HR0_2 := aM hr0_2
 have HC0_2 := aM hc0_2
 clear hr0_2 hc0_2
 have HB := aM (Below.refl w.heap.size w)
 unfold spec_l2Free.f at h
 have H := h
 clear h
 obtain ⟨y491, hy491⟩ : ∃ y_ : List Int, y_ = (([] : List Int)) := ⟨_, rfl⟩
 replace H : (spec_l2Free.l0 k y491 0 a0_0 a0_1 l0_2) = some r := by first | (rw [hy491]; exact H) | exact H
 have Ny491 := aM hy491
 clear hy491
 have H' := aM H
 clear H
 go_enter Try.func108, Try.ntmps108
 go_wp2_with (first | ((with_reducible refine gate_dst (N := 1) rfl ?_); refine bx_ 1 #[.int .i64 a0_0, .int .i64 a0_1, .slice A0_2 l0_2.length c0_2] 43 ?_; intro gb490 hg w2 hbox hb; have BK490 := aM (hbox); have GW490 := aM (bz_ w hg qz1); have GE490 := GW490; replace HB := bS_ hb; clear hb hbox hg) | ((with_reducible refine gate_dst (N := 5) rfl ?_); refine Kd.R_lit (Kd.int .i64) _ 3 ?hg (N := 5) ?hd (xs := ([] : List Int)) (inner := []) (ok := fun _ => True) (okp := fun _ => True) ?hr ?hp (fun _ hk => hk) trivial (Below.refl _ _) (Nat.le_refl _) (by simp) ?_; (case hd => rfl); (case hg => rfl); (case hr => exact qz9); (case hp => exact (Reps.none _ _)); intro v492 w3 ho4 hb hg_ hnew_; clear hg_ hnew_; (first | rw [← Ny491.out] at ho4 | (simp only [Int.reduceToNat] at ho4; rw [← Ny491.out] at ho4)); have HO493 := aM (Kd.R_lower ho4 (below_size qz1)); replace BK490 := bB_ BK490 hb; replace HB := bS_ hb; clear hb ho4))
 go_loopg [3, 4] k (fun kq v3 v4 w' => ∃ (x3_1 : List Int) (x4_1 : Int), v4 = .int .i64 x4_1 ∧ Aside0 (spec_l2Free.l0 kq x3_1 x4_1 a0_0 a0_1 l0_2 = some r) ∧ Aside0 (kq ≤ k) ∧ Aside0 (Kd.R (Kd.int .i64) 3 w' w.heap.size (fun _ => True) v3 x3_1) ∧ Aside0 (w'.heap[gb490]? = some (.cells #[.int .i64 a0_0, .int .i64 a0_1, (.slice A0_2 l0_2.length c0_2)] 43 (0, 0))) ∧ Aside0 (Below w.heap.size w w'))
 case atStart => exact ⟨(y491), (0), qz7, H', ⟨Nat.le_refl _⟩, ⟨rr_ HO493.out⟩, ⟨bk_ BK490.out⟩, ⟨qz1⟩⟩
 case round =>
 clear H'
 obtain ⟨x3_1, x4_1, rfl, HA, HK1, HO_3, BK490, HB⟩ := hrel
 cases gk with
 | zero => exact absurd HA.out (by simp [spec_l2Free.l0])
 | succ k1 =>
 have H := HA.out
 clear HA
 simp only [spec_l2Free.l0] at H
 replace H := iE_ H
 rcases H with ⟨c5b0, H⟩ | ⟨c5b0, H⟩
 {
 replace H := iD_ H
 obtain ⟨c6b0, H⟩ := H
 replace H := iQ_ H
 rcases H with ⟨c7b0, c7b1, H⟩ | ⟨c7, c7b0, c7b1, H⟩
 {
 have H' := aM H
 clear H
 obtain ⟨hcz8_0, hcz8_1, hcz8_2, hfz8_0, hfz8_1, hfz8_2⟩ := b6_ BK490.out
 have p494 : (0 ≤ (x4_1 : Int)) = True := et_
 have q494 : (x4_1 < (l0_2.length : Int)) = True := et_
 obtain ⟨ad494, e494, hx494_0⟩ := tC1_ (Kd.at_int HR0_2.out x4_1 dt_ dt_)
 cases e494
 go_wp2
 go_roundg k1
 case measure => have := HK1.out; omega
 case rel => exact ⟨(x3_1), (wrap64 (x4_1 + 1)), qz7, H', ⟨by have := HK1.out; omega⟩, ⟨rm_ HO_3.out⟩, ⟨bk_ BK490.out⟩, ⟨qz1⟩⟩
 }
 {
 replace H := iN_ H
 obtain ⟨c9, H⟩ := H
 have LMc9 := aM c9
 clear c9
 obtain ⟨y495, hy495⟩ : ∃ y_ : List Int, y_ = (x3_1 ++ [x4_1]) := ⟨_, rfl⟩
 replace H : (spec_l2Free.l0 k1 y495 (wrap64 (x4_1 + 1)) a0_0 a0_1 l0_2) = some r := by first | (rw [hy495]; exact H) | exact H
 have Ny495 := aM hy495
 clear hy495
 have H' := aM H
 clear H
 obtain ⟨hcz10_0, hcz10_1, hcz10_2, hfz10_0, hfz10_1, hfz10_2⟩ := b6_ BK490.out
 have p494 : (0 ≤ (x4_1 : Int)) = True := et_
 have q494 : (x4_1 < (l0_2.length : Int)) = True := et_
 obtain ⟨ad494, e494, hx494_0⟩ := tC1_ (Kd.at_int HR0_2.out x4_1 dt_ dt_)
 cases e494
 go_wp2_with (first | ((with_reducible refine gate_builtin (b := .append) (xs := #[.tmp 19, .tmp 21]) rfl ?_); at_builtin; refine Kd.R_append (Kd.int .i64) (w0 := w) w.heap.size rfl (.tmp 19) (.tmp 21) 24 3 (.int .i64 0) 8 rfl Try.underlying24 info3 rfl (by decide) (by omega) u3 x3_1 x4_1 [.int .i64 x4_1] (fun _ => True) (fun _ => False) rfl rfl ?aP (fun _ hk => hk.elim) ?aF ?aO ?aB ?aS ?aL ?_; (case aP => exact rfl); (case aB => exact qz1); (case aF => exact qz21); (case aO => exact (rr_ HO_3.out)); (case aS => exact qz32); (case aL => have := LMc9.out; omega); intro v496 w11 ho hb hg hat; rw [← Ny495.out] at ho; replace BK490 := aM (blk_grown (bk_ BK490.out) hg (Kd.R_ne HO_3.out BK490.out (by decide))); replace HB := aM (hb); have HO497 := aM (ho); clear HO_3; clear ho hb hg hat))
 go_roundg k1
 case measure => have := HK1.out; omega
 case rel => exact ⟨(y495), (wrap64 (x4_1 + 1)), qz7, H', ⟨by have := HK1.out; omega⟩, ⟨rm_ HO497.out⟩, ⟨bk_ BK490.out⟩, ⟨qz1⟩⟩
 }
 }
 {
 obtain rfl := Option.some.inj H
 obtain ⟨hcz12_0, hcz12_1, hcz12_2, hfz12_0, hfz12_1, hfz12_2⟩ := b6_ BK490.out
 go_wp2
 go_ret
 exact ⟨_, qzw, by (with_reducible repeat (first | apply Kd.R_alloc | apply Kd.R_drewN | apply Kd.R_drew)); exact HO_3.out, qz1⟩
 }
/-! ### spec_l7Crew: function 85 -/
def spec_l7Crew.l0 : Nat → List S37 → List Int → Int → List Int → Int → Int → Int → Int → List Int → Option (List S37 × Int × Int)
 | 0, _, _, _, _, _, _, _, _, _ => none
 | k + 1, x7, x8, x9, b, p, h, a1_0, a1_1, l1_2 => if 0 < x9 then (if 0 < x8.length then (if x7.length < 20 then
   (spec_l1Below.f b p h (x8.length : Int)).bind fun q1 => (spec_l2Free.f k a1_0 a1_1 l1_2).bind fun gs => if 0 ≤ q1.1 then (if q1.1 < (x8.length : Int) then (if x8.length ≤ 1000000 then
   (spec_l1Below.f b q1.2.1 q1.2.2 (gs.length : Int)).bind fun q2 => if 0 ≤ q2.1 then (if q2.1 < (gs.length : Int) then
   (spec_l1Once.f b q2.2.1 q2.2.2 3).bind fun q3 => (spec_l1Int.f b q3.2.1 q3.2.2 [0, 0, 1, 2, 7]).bind fun q4 => (spec_l1Once.f b q4.2.1 q4.2.2 5).bind fun q5 =>
    spec_l7Crew.l0 k (x7 ++ [⟨wrap64 ((x7.length : Int) + 1), rd x8 q1.1, if q5.1 = true then -1 else rd gs q2.1, q3.1, q4.1⟩]) (([] ++ x8.take q1.1.toNat) ++ x8.drop (wrap64 (q1.1 + 1)).toNat) (wrap64 (x9 - 1)) b q5.2.1 q5.2.2 a1_0 a1_1 l1_2
   else none) else none else none) else none) else none
  else some (x7, p, h)) else some (x7, p, h)) else some (x7, p, h)
def spec_l7Crew.f (k : Nat) (s0_0 : List Int) (s0_1 s0_2 a1_0 a1_1 : Int) (l1_2 : List Int) (a2 : Int) : Option (List S37 × Int × Int) :=
 (spec_l2Free.f k a1_0 a1_1 l1_2).bind fun fr => if -1000 ≤ a2 then (if a2 ≤ 1000 then (spec_l1Below.f s0_0 s0_1 s0_2 (a2 + 1)).bind fun q => spec_l7Crew.l0 k [] fr q.1 s0_0 q.2.1 q.2.2 a1_0 a1_1 l1_2 else none) else none
theorem spec_l7Crew.mono_l : ∀ k, (∀ y0 y1 y2 y3 y4 y5 y6 y7 y8, LeO (spec_l7Crew.l0 k y0 y1 y2 y3 y4 y5 y6 y7 y8) (spec_l7Crew.l0 (k + 1) y0 y1 y2 y3 y4 y5 y6 y7 y8))
 | 0 => fun _ _ _ _ _ _ _ _ _ r h => by simp [spec_l7Crew.l0] at h
 | k + 1 => by
  have ih0 := spec_l7Crew.mono_l k
  intro y0 y1 y2 y3 y4 y5 y6 y7 y8
  unfold spec_l7Crew.l0
  have j0 := @spec_l2Free.mono
  exact qL
theorem spec_l7Crew.mono : ∀ a0 a1 a2 a3 a4 a5 a6 k, LeO (spec_l7Crew.f k a0 a1 a2 a3 a4 a5 a6) (spec_l7Crew.f (k + 1) a0 a1 a2 a3 a4 a5 a6) := by
 intro a0 a1 a2 a3 a4 a5 a6 k
 have ih0 := spec_l7Crew.mono_l k
 unfold spec_l7Crew.f
 have j0 := @spec_l2Free.mono
 exact qL
def spec_l7Crew.T8 : Bool × List (List Nat × List Nat) := (true, [([], []), ([0], [0]), ([1], [1]), ([], []), ([], []), ([3, 4], [3, 4]), ([5], [5]), ([], []), ([], []), ([], []), ([9], [9]), ([8, 10], [8, 10]), ([7, 11], [7, 11]), ([12], [12]), ([], []), ([14, 11], [14]), ([], []), ([], []), ([16, 17, 15], [16, 17]), ([2, 6, 13, 15, 18], [2, 6, 13, 15, 18]), ([], []), ([20, 19, 18, 0, 1, 2, 3, 4, 5, 6, 7, 8, 9, 10, 11, 12, 13, 14, 15, 16, 17, 18, 19, 20], [19, 20])])
def spec_l7Crew.B8 : List Nat := [0, 1, 3, 0, 0, 24, 56, 0, 0, 0, 512, 1792, 3968, 8064, 0, 20224, 0, 0, 249600, 524287, 0, 2097151]
theorem spec_l7Crew.tab8 : rtab .any (opsOf Try.f85 8) = spec_l7Crew.T8 := by kernel_rfl
theorem spec_l7Crew.bits8 : waitsOk spec_l7Crew.T8.2 spec_l7Crew.B8 = true := by kernel_rfl
def spec_l7Crew.T12 : Bool × List (List Nat × List Nat) := (true, [([], []), ([], []), ([], []), ([1, 2], [1, 2]), ([0, 3], [0, 3]), ([], []), ([], []), ([6], [6]), ([5, 7], [5, 7]), ([4, 8, 4], [4, 8]), ([9, 9, 0, 1, 2, 3, 4, 5, 6, 7, 8, 9], [1, 5, 9])])
def spec_l7Crew.B12 : List Nat := [0, 0, 0, 6, 15, 0, 0, 64, 224, 511, 1023]
theorem spec_l7Crew.tab12 : rtab .any (opsOf Try.f85 12) = spec_l7Crew.T12 := by kernel_rfl
theorem spec_l7Crew.bits12 : waitsOk spec_l7Crew.T12.2 spec_l7Crew.B12 = true := by kernel_rfl
set_option maxHeartbeats 16000000 in
set_option maxRecDepth 100000 in
theorem spec_l7Crew.calls (k : Nat) (g : Nat) (s0_0 : List Int) (s0_1 : Int) (s0_2 : Int) (a1_0 : Int) (a1_1 : Int) (A1_2 : Option Addr) (c1_2 : Nat) (l1_2 : List Int) (a2 : Int) (r1 : List (S37)) (r2 : Int) (r3 : Int) (w0 w : World) (hI : IsS113 w0 w g s0_0 s0_1 s0_2) (hB : Below w0.heap.size w0 w) (hr1_2 : Kd.C (Kd.int .i64) w A1_2 l1_2.length l1_2) (hc1_2 : l1_2.length ≤ c1_2) (hf1_2 : ∀ ad, A1_2 = some ad → 0 < l1_2.length → ad.block ≠ g) (h : spec_l7Crew.f k s0_0 s0_1 s0_2 a1_0 a1_1 l1_2 a2 = some (r1, r2, r3)) :
  Calls Try.prog 85 #[.pointer (some ⟨g, 0, none⟩), .agg #[.int .i64 a1_0, .int .i64 a1_1, .slice A1_2 l1_2.length c1_2], .int .i64 a2] w fun e w' => ∃ v0_ : Value, e = .returned (v0_) ∧ Kd.R k37 37 w' w.heap.size (fun _ => True) v0_ r1 ∧ IsS113 w0 w' g s0_0 r2 r3 ∧ Below w0.heap.size w0 w' ∧ KeepBut w w' g none := by
 have hu43 := Try.underlying43
 have hu37 := Try.underlying37
 have hu24 := Try.underlying24
 have hu26 := Try.underlying26
 unfold spec_l7Crew.f at h
 replace h := Option.bind_eq_some_iff.mp h
 obtain ⟨fr, hfr, h⟩ := h
 by_cases ha0 : -1000 ≤ a2
 case neg => rw [if_neg ha0] at h; cases h
 rw [if_pos ha0] at h
 by_cases ha1 : a2 ≤ 1000
 case neg => rw [if_neg ha1] at h; cases h
 rw [if_pos ha1] at h
 replace h := Option.bind_eq_some_iff.mp h
 obtain ⟨⟨i0, p0, h0⟩, hq0, h⟩ := h
 have HFR := aM hfr
 have HQ0 := aM hq0
 have H' := aM (show spec_l7Crew.l0 k [] fr i0 s0_0 p0 h0 a1_0 a1_1 l1_2 = some (r1, r2, r3) from h)
 have HR := aM hr1_2
 have HC := aM hc1_2
 have HF := aM hf1_2
 have HI := aM hI
 have HB := aM hB
 have HK := aM (KeepBut.refl w g none)
 have L0 := aM (below_size hB)
 clear hfr hq0 h hr1_2 hc1_2 hf1_2 hI hB
 go_enter Try.func85, Try.ntmps85
 go_wp2_with (first
  | ((with_reducible refine gate_dst (N := 4) rfl ?_); refine box_event rfl (N := 4) rfl (cs := #[.int .i64 a1_0, .int .i64 a1_1, .slice A1_2 l1_2.length c1_2]) (t := 43) ?hr ?_; (case hr => exact qz9); intro b4 hg w1 hbx hb; have BK4 := aM hbx; have GB4 := aM (Nat.le_of_eq hg.symm : w.heap.size ≤ b4); replace HK := aM (KeepBut.trans HK.out (KeepBut.of_below hb g none) (.inl rfl)); replace HB := aM (below_step HB.out hb); replace HI := aM (IsS113.below HI.out hb); clear hb hbx hg; have z40 := c3_0 BK4.out; have z41 := c3_1 BK4.out; have z42 := c3_2 BK4.out)
  | ((with_reducible refine gate_dst (N := 13) rfl ?_); refine Kd.R_lit k37 _ 37 ?hg (N := 13) ?hd (xs := ([] : List S37)) (inner := []) (ok := fun _ => True) (okp := fun _ => True) ?hr ?hp (fun _ hk => hk) trivial (Below.refl _ _) (Nat.le_refl _) (by simp) ?_; (case hd => rfl); (case hg => rfl); (case hr => exact qz9); (case hp => exact (Reps.none _ _)); intro v7 w2 ho7 hb hg_ hnew_; clear hg_ hnew_; have HO7 := aM (Kd.R_lower ho7 (keep_size HK.out)); replace BK4 := aM (blk_below BK4.out hb); replace HK := aM (KeepBut.trans HK.out (KeepBut.of_below hb g none) (.inl rfl)); replace HB := aM (below_step HB.out hb); replace HI := aM (IsS113.below HI.out hb); clear hb ho7; replace z40 := c3_0 BK4.out; replace z41 := c3_1 BK4.out; replace z42 := c3_2 BK4.out)
  | (go_at_call 108; (with_reducible refine (spec_l2Free.calls k a1_0 a1_1 _ _ l1_2 fr _ (C_keepI HR.out HK.out HF.out) HC.out HFR.out).mono ?_); rintro e w3 ⟨v8, rfl, ho8, hb⟩; have HO8 := aM (Kd.R_lower ho8 (keep_size HK.out)); clear ho8; replace HO7 := aM (Kd.R_below HO7.out hb); replace BK4 := aM (blk_below BK4.out hb); replace HK := aM (KeepBut.trans HK.out (KeepBut.of_below hb g none) (.inl rfl)); replace HB := aM (below_step HB.out hb); replace HI := aM (IsS113.below HI.out hb); clear hb; replace z40 := c3_0 BK4.out; replace z41 := c3_1 BK4.out; replace z42 := c3_2 BK4.out)
  | (go_at_call 73; (with_reducible refine (spec_l1Below.calls g s0_0 s0_1 s0_2 (a2 + 1) i0 p0 h0 w0 _ HI.out HB.out HQ0.out).mono ?_); rintro e w4 ⟨rfl, hi, hb, hk⟩; replace HO7 := aM (Kd.R_mono (Kd.R_keep (IsS113.apart HI.out HO7.out (by decide)) hk (fun _ h => h.2)) (fun _ h => h.1)); replace HO8 := aM (Kd.R_mono (Kd.R_keep (IsS113.apart HI.out HO8.out (by decide)) hk (fun _ h => h.2)) (fun _ h => h.1)); replace BK4 := aM (KeepBut.blk hk BK4.out (IsS113.ne_blk HI.out BK4.out (by decide)).symm (by simp)); replace HK := aM (KeepBut.trans HK.out hk (.inl rfl)); replace HB := aM hb; replace HI := aM hi; clear hi hb hk; replace z40 := c3_0 BK4.out; replace z41 := c3_1 BK4.out; replace z42 := c3_2 BK4.out))
 clear z40 z41 z42
 go_loopg [7, 8, 9] k (fun kq v7 v8 v9 w' => ∃ (x7 : List S37) (x8 : List Int) (x9 p_ h_ : Int), v9 = .int .i64 x9 ∧ Aside0 (spec_l7Crew.l0 kq x7 x8 x9 s0_0 p_ h_ a1_0 a1_1 l1_2 = some (r1, r2, r3)) ∧ Aside0 (kq ≤ k) ∧ Aside0 (Kd.R k37 37 w' w.heap.size (fun _ => True) v7 x7) ∧ Aside0 (Kd.R (Kd.int .i64) 3 w' w.heap.size (fun _ => True) v8 x8) ∧ Aside0 (w'.heap[b4]? = some (.cells #[.int .i64 a1_0, .int .i64 a1_1, .slice A1_2 l1_2.length c1_2] 43 (0, 0))) ∧ Aside0 (IsS113 w0 w' g s0_0 p_ h_) ∧ Aside0 (Below w0.heap.size w0 w') ∧ Aside0 (KeepBut w w' g none))
 case atStart => exact ⟨[], fr, i0, p0, h0, rfl, H', ⟨Nat.le_refl _⟩, HO7, HO8, BK4, HI, HB, HK⟩
 case round =>
 clear H' HO7 HO8 BK4 HI HB HK HQ0 HFR ha0 ha1
 obtain ⟨x7, x8, x9, p_, h_, rfl, HA, HKQ, HO7, HO8, BK4, HI, HB, HK⟩ := hrel
 obtain ⟨A7, c7, rfl⟩ := Kd.R_slice HO7.out
 obtain ⟨A8, c8, rfl⟩ := Kd.R_slice HO8.out
 cases gk with
 | zero => exact absurd HA.out (by simp [spec_l7Crew.l0])
 | succ k1 =>
 have H := HA.out
 clear HA
 simp only [spec_l7Crew.l0] at H
 by_cases c1 : 0 < x9
 case neg =>
  rw [if_neg c1] at H
  simp only [Option.some.injEq, Prod.mk.injEq] at H
  obtain ⟨rfl, rfl, rfl⟩ := H
  have d1 : decide (x9 > 0) = false := decide_eq_false c1
  have d1' : x9 ≤ 0 := by omega
  go_wp2
  go_ret
  exact ⟨_, rfl, HO7.out, HI.out, HB.out, HK.out⟩
 rw [if_pos c1] at H
 have d1 : decide (x9 > 0) = true := decide_eq_true c1
 by_cases c2 : 0 < x8.length
 case neg =>
  rw [if_neg c2] at H
  simp only [Option.some.injEq, Prod.mk.injEq] at H
  obtain ⟨rfl, rfl, rfl⟩ := H
  have d2 : decide ((x8.length : Int) > 0) = false := decide_eq_false (by omega)
  have d2' : (x8.length : Int) ≤ 0 := by omega
  go_wp2
  go_ret
  exact ⟨_, rfl, HO7.out, HI.out, HB.out, HK.out⟩
 rw [if_pos c2] at H
 have d2 : decide ((x8.length : Int) > 0) = true := decide_eq_true (by omega)
 have d2' : (0 : Int) < (x8.length : Int) := by omega
 by_cases c3 : x7.length < 20
 case neg =>
  rw [if_neg c3] at H
  simp only [Option.some.injEq, Prod.mk.injEq] at H
  obtain ⟨rfl, rfl, rfl⟩ := H
  have d3 : decide ((x7.length : Int) < 20) = false := decide_eq_false (by omega)
  have d3' : (20 : Int) ≤ (x7.length : Int) := by omega
  go_wp2
  go_ret
  exact ⟨_, rfl, HO7.out, HI.out, HB.out, HK.out⟩
 rw [if_pos c3] at H
 have d3 : decide ((x7.length : Int) < 20) = true := decide_eq_true (by omega)
 have d3' : (x7.length : Int) < 20 := by omega
 have C3 := aM d3'
 replace H := Option.bind_eq_some_iff.mp H
 obtain ⟨⟨j1, p1, h1⟩, hq1, H⟩ := H
 replace H := Option.bind_eq_some_iff.mp H
 obtain ⟨gs, hgs, H⟩ := H
 dsimp only at H
 by_cases e0 : 0 ≤ j1
 case neg => rw [if_neg e0] at H; cases H
 rw [if_pos e0] at H
 by_cases e1 : j1 < (x8.length : Int)
 case neg => rw [if_neg e1] at H; cases H
 rw [if_pos e1] at H
 by_cases e2 : x8.length ≤ 1000000
 case neg => rw [if_neg e2] at H; cases H
 rw [if_pos e2] at H
 replace H := Option.bind_eq_some_iff.mp H
 obtain ⟨⟨j2, p2, h2⟩, hq2, H⟩ := H
 dsimp only at H
 by_cases f0 : 0 ≤ j2
 case neg => rw [if_neg f0] at H; cases H
 rw [if_pos f0] at H
 by_cases f1 : j2 < (gs.length : Int)
 case neg => rw [if_neg f1] at H; cases H
 rw [if_pos f1] at H
 replace H := Option.bind_eq_some_iff.mp H
 obtain ⟨⟨o3, p3, h3⟩, hq3, H⟩ := H
 replace H := Option.bind_eq_some_iff.mp H
 obtain ⟨⟨j4, p4, h4⟩, hq4, H⟩ := H
 replace H := Option.bind_eq_some_iff.mp H
 obtain ⟨⟨o5, p5, h5⟩, hq5, H⟩ := H
 have HQ1 := aM hq1
 have HGS := aM hgs
 have HQ2 := aM hq2
 have HQ3 := aM hq3
 have HQ4 := aM hq4
 have HQ5 := aM hq5
 obtain ⟨gv, hgv⟩ : ∃ gv : Int, gv = (if o5 = true then -1 else rd gs j2) := ⟨_, rfl⟩
 dsimp only at H
 rw [← hgv] at H
 have GV := aM hgv
 clear hgv
 obtain ⟨y9, hy9⟩ : ∃ y9 : List S37, y9 = x7 ++ [⟨wrap64 ((x7.length : Int) + 1), rd x8 j1, gv, o3, j4⟩] := ⟨_, rfl⟩
 rw [← hy9] at H
 have NY := aM hy9
 clear hy9
 have H' := aM H
 have LM := aM e2
 clear hq1 hgs hq2 hq3 hq4 hq5 H c1 c2 c3 e2
 have z40 := c3_0 BK4.out; have z41 := c3_1 BK4.out; have z42 := c3_2 BK4.out
 go_upto_region 8 with (first
  | (go_at_call 73; (with_reducible refine (spec_l1Below.calls g s0_0 p_ h_ (x8.length : Int) j1 p1 h1 w0 _ HI.out HB.out HQ1.out).mono ?_); rintro e w4 ⟨rfl, hi, hb, hk⟩; replace HO7 := aM (Kd.R_mono (Kd.R_keep (IsS113.apart HI.out HO7.out (by decide)) hk (fun _ h => h.2)) (fun _ h => h.1)); replace HO8 := aM (Kd.R_mono (Kd.R_keep (IsS113.apart HI.out HO8.out (by decide)) hk (fun _ h => h.2)) (fun _ h => h.1)); replace BK4 := aM (KeepBut.blk hk BK4.out (IsS113.ne_blk HI.out BK4.out (by decide)).symm (by simp)); replace HK := aM (KeepBut.trans HK.out hk (.inl rfl)); replace HB := aM hb; replace HI := aM hi; clear hi hb hk; replace z40 := c3_0 BK4.out; replace z41 := c3_1 BK4.out; replace z42 := c3_2 BK4.out)
  | (go_at_call 108; (with_reducible refine (spec_l2Free.calls k1 a1_0 a1_1 _ _ l1_2 gs _ (C_keepI HR.out HK.out HF.out) HC.out HGS.out).mono ?_); rintro e w5 ⟨v11, rfl, ho11, hb⟩; have HO11 := aM (Kd.R_lower ho11 (keep_size HK.out)); obtain ⟨A11, c11, rfl⟩ := Kd.R_slice ho11; clear ho11; replace HO7 := aM (Kd.R_below HO7.out hb); replace HO8 := aM (Kd.R_below HO8.out hb); replace BK4 := aM (blk_below BK4.out hb); replace HK := aM (KeepBut.trans HK.out (KeepBut.of_below hb g none) (.inl rfl)); replace HB := aM (below_step HB.out hb); replace HI := aM (IsS113.below HI.out hb); clear hb; replace z40 := c3_0 BK4.out; replace z41 := c3_1 BK4.out; replace z42 := c3_2 BK4.out))
 clear z40 z41 z42 d1 d2 d3
 have e1_ := e1
 obtain ⟨ad8, e8_, z8⟩ := Kd.at_int (Kd.R_reads' HO8.out).2.2 j1 e0 e1
 cases e8_
 obtain ⟨ad11, e11_, z11⟩ := Kd.at_int (Kd.R_reads' HO11.out).2.2 j2 f0 f1
 cases e11_
 have N8 := aM (show (ad8.add j1.toNat).block ≠ g by rw [add_block]; exact far_slice (IsS113.own_ne HI.out HO8.out (by decide)) ad8 rfl (by omega))
 have N11 := aM (show (ad11.add j2.toNat).block ≠ g by rw [add_block]; exact far_slice (IsS113.own_ne HI.out HO11.out (by decide)) ad11 rfl (by omega))
 have HO7b := aM (Kd.R_mono (Kd.R_bound HO7.out) (ok' := fun k_ => k_ < w5.heap.size) (fun k_ hk => hk.2.2.1))
 have HO8b := aM (Kd.R_mono (Kd.R_bound HO8.out) (ok' := fun k_ => k_ < w5.heap.size) (fun k_ hk => hk.2.2.1))
 clear HO7 HO8 HO11 e1_
 have G5 := aM (IsS113.lt HI.out)
 have HI9 := HI
 have HB9 := HB
 have LW5 := aM (keep_size HK.out : w.heap.size ≤ w5.heap.size)
 go_cut [12] (fun v12 wc => ∃ gb : Nat, v12 = .pointer (some ⟨gb, 0, none⟩) ∧ Aside0 (wc.heap[gb]? = some (.cells #[.int .i64 (wrap64 ((x7.length : Int) + 1)), .int .i64 (rd x8 j1), .int .i64 (rd gs j2), .bool o3, .int .i64 j4] 37 (0, 0))) ∧ Aside0 (w5.heap.size ≤ gb) ∧ Aside0 (Kd.R k37 37 wc w.heap.size (fun k_ => k_ < w5.heap.size) (.slice A7 x7.length c7) x7) ∧ Aside0 (Kd.R (Kd.int .i64) 3 wc w.heap.size (fun k_ => k_ < w5.heap.size) (.slice (some ad8) x8.length c8) x8) ∧ Aside0 (wc.heap[b4]? = some (.cells #[.int .i64 a1_0, .int .i64 a1_1, .slice A1_2 l1_2.length c1_2] 43 (0, 0))) ∧ Aside0 (IsS113 w0 wc g s0_0 p4 h4) ∧ Aside0 (Below w0.heap.size w0 wc) ∧ Aside0 (KeepBut w wc g none))
 case first =>
  refine start_ (n := 22) (S := fun w' => w'.cell? (ad8.add j1.toNat) = some (.int .i64 (rd x8 j1)) ∧ w'.cell? (ad11.add j2.toNat) = some (.int .i64 (rd gs j2))) (ds := [21]) #[false, false, false, false, false, false, false, false, false, false, false, false, false, false, false, false, false, false, false, false, false, false] (by kernel_rfl) rfl rfl ⟨z8, z11⟩ (fun hHeld => ?_); refine with_tabW spec_l7Crew.tab8 spec_l7Crew.bits8 (fun HT_ HW_ => ?_)
  refine pI_ 0 (bqz 22 1) ?_
  refine jI_ 1 ?_
  refine jI_ 2 ?_
  refine jI_ 3 ?_
  refine jI_ 4 ?_
  refine jI_ 5 ?_
  refine sI2_ 6 ?_
  refine jI_ 7 ?_
  refine jI_ 8 ?_
  refine jI_ 9 ?_
  refine jI_ 10 ?_
  refine jI_ 14 ?_
  refine jI_ 16 ?_
  refine join_ (σ := Value × Nat) 1 (bqz 22 2097151) (fun s_ => [(51, .int .i64 j2), (52, .pointer (some (ad11.add j2.toNat))), (53, .int .i64 (rd gs j2)), (55, .bool o3), (57, s_.1), (58, .int .i64 j4), (59, .agg #[.int .i64 (wrap64 ((x7.length : Int) + 1)), .int .i64 (rd x8 j1), .int .i64 (rd gs j2), .bool o3, .int .i64 j4]), (12, .pointer (some ⟨s_.2, 0, none⟩))]) (fun s_ w' => (w'.cell? (ad8.add j1.toNat) = some (.int .i64 (rd x8 j1)) ∧ w'.cell? (ad11.add j2.toNat) = some (.int .i64 (rd gs j2))) ∧ IsS113 w0 w' g s0_0 p4 h4 ∧ KeepBut w5 w' g none ∧ Below w0.heap.size w0 w' ∧ Kd.R (Kd.int .i64) 3 w' w5.heap.size (fun _ => True) s_.1 [0, 0, 1, 2, 7] ∧ (w'.heap[s_.2]? = some (.cells #[.int .i64 0, .int .i64 0, .int .i64 0, .bool false, .int .i64 0] 37 (0, 0)) ∧ w5.heap.size ≤ s_.2)) ?_ (fun hJ311 => ?_)
  {
  rintro ⟨v57, gb⟩ w6 ⟨hHeld, hi_, hk_, hb_, hs_, ha_⟩
  refine norm_ (a' := ?_) ?_ ?_
  rotate_left
  {
  show putAll _ _ = _
  dsimp only [putAll]
  simp only [qzs]
  rfl
  }
  obtain ⟨A57, c57, rfl⟩ := Kd.R_slice hs_
  have HI := aM hi_
  have KR := aM hk_
  have HB := aM hb_
  have HS := aM hs_
  have BK := aM ha_.1
  have GB := aM ha_.2
  clear hi_ hk_ hb_ hs_ ha_
  have y0 := c5_0 BK.out
  have yf0 := blk_frozen BK.out 0
  have y1 := c5_1 BK.out
  have yf1 := blk_frozen BK.out 1
  have y2 := c5_2 BK.out
  have yf2 := blk_frozen BK.out 2
  have y3 := c5_3 BK.out
  have yf3 := blk_frozen BK.out 3
  have y4 := c5_4 BK.out
  have yf4 := blk_frozen BK.out 4
  refine last_ (i := 21) (N := none) (bqz 22 4194303) rfl rfl qzc (by decide) (fun K hK => ?_)
  refine sk_ ?_
  refine hK.out _ _ ?_
  clear hK K y0 yf0 y1 yf1 y2 yf2 y3 yf3 y4 yf4
  have BK' := aM (blk_put5 BK.out (.int .i64 (wrap64 ((x7.length : Int) + 1))) (.int .i64 (rd x8 j1)) (.int .i64 (rd gs j2)) (.bool o3) (.int .i64 j4))
  have HO7' := aM (R_far5 (Kd.R_keep (IsS113.apart HI9.out HO7b.out (by decide)) KR.out (fun _ h => h.2)) (b := gb) (fun k_ hk => by have := hk.1; have := GB.out; omega) (.int .i64 (wrap64 ((x7.length : Int) + 1))) (.int .i64 (rd x8 j1)) (.int .i64 (rd gs j2)) (.bool o3) (.int .i64 j4))
  have HO8' := aM (R_far5 (Kd.R_keep (IsS113.apart HI9.out HO8b.out (by decide)) KR.out (fun _ h => h.2)) (b := gb) (fun k_ hk => by have := hk.1; have := GB.out; omega) (.int .i64 (wrap64 ((x7.length : Int) + 1))) (.int .i64 (rd x8 j1)) (.int .i64 (rd gs j2)) (.bool o3) (.int .i64 j4))
  have BK4' := aM (blk_far5 (KeepBut.blk KR.out BK4.out (IsS113.ne_blk HI9.out BK4.out (by decide)).symm (by simp)) (g' := gb) (by have := blk_lt BK4.out; have := GB.out; omega) (.int .i64 (wrap64 ((x7.length : Int) + 1))) (.int .i64 (rd x8 j1)) (.int .i64 (rd gs j2)) (.bool o3) (.int .i64 j4))
  have NG : g ≠ gb := by have := G5.out; have := GB.out; omega
  have HI' := aM (IsS113.far (p := ⟨gb, 4, none⟩) (IsS113.far (p := ⟨gb, 3, none⟩) (IsS113.far (p := ⟨gb, 2, none⟩) (IsS113.far (p := ⟨gb, 1, none⟩) (IsS113.far (p := ⟨gb, 0, none⟩) HI.out NG (.int .i64 (wrap64 ((x7.length : Int) + 1)))) NG (.int .i64 (rd x8 j1))) NG (.int .i64 (rd gs j2))) NG (.bool o3)) NG (.int .i64 j4))
  have HB' := aM (below_put5 HB.out (g := gb) (Nat.le_trans (below_size HB9.out) GB.out) (.int .i64 (wrap64 ((x7.length : Int) + 1))) (.int .i64 (rd x8 j1)) (.int .i64 (rd gs j2)) (.bool o3) (.int .i64 j4))
  have HK' := aM (keep_new5 (KeepBut.trans HK.out KR.out (.inl rfl)) (b := gb) (Nat.le_trans (keep_size HK.out) GB.out) (.int .i64 (wrap64 ((x7.length : Int) + 1))) (.int .i64 (rd x8 j1)) (.int .i64 (rd gs j2)) (.bool o3) (.int .i64 j4))
  refine dN_ ?_
  go_wp2
  go_meet
  case rel => exact ⟨_, rfl, BK', GB, ⟨Kd.R_mono HO7'.out (fun _ h => h.1)⟩, ⟨Kd.R_mono HO8'.out (fun _ h => h.1)⟩, BK4', HI', HB', HK'⟩
  }
  refine join_ (σ := Value × Nat) 3 (bqz 22 1310719) (fun s_ => [(51, .int .i64 j2), (52, .pointer (some (ad11.add j2.toNat))), (53, .int .i64 (rd gs j2)), (55, .bool o3), (57, s_.1), (12, .pointer (some ⟨s_.2, 0, none⟩))]) (fun s_ w' => (w'.cell? (ad8.add j1.toNat) = some (.int .i64 (rd x8 j1)) ∧ w'.cell? (ad11.add j2.toNat) = some (.int .i64 (rd gs j2))) ∧ IsS113 w0 w' g s0_0 p3 h3 ∧ KeepBut w5 w' g none ∧ Below w0.heap.size w0 w' ∧ Kd.R (Kd.int .i64) 3 w' w5.heap.size (fun _ => True) s_.1 [0, 0, 1, 2, 7] ∧ (w'.heap[s_.2]? = some (.cells #[.int .i64 0, .int .i64 0, .int .i64 0, .bool false, .int .i64 0] 37 (0, 0)) ∧ w5.heap.size ≤ s_.2)) ?_ (fun hJ211 => ?_)
  {
  rintro ⟨v57, gb⟩ w6 ⟨hHeld, hi_, hk_, hb_, hs_, ha_⟩
  refine norm_ (a' := ?_) ?_ ?_
  rotate_left
  {
  show putAll _ _ = _
  dsimp only [putAll]
  simp only [qzs]
  rfl
  }
  obtain ⟨A57, c57, rfl⟩ := Kd.R_slice hs_
  have HI := aM hi_
  have KR := aM hk_
  have HB := aM hb_
  have HS := aM hs_
  have BK := aM ha_.1
  have GB := aM ha_.2
  clear hi_ hk_ hb_ hs_ ha_
  refine oI_ 18 58 (bqz 22 1572863) (fun K hK => ?_)
  refine goes_ Try.func81 (by kernel_rfl) rfl #[.pointer (some ⟨g, 0, none⟩), .slice A57 5 c57] (by rfl) rfl rfl qz30 ?_
  refine (spec_l1Int.calls g s0_0 p3 h3 _ _ [0, 0, 1, 2, 7] j4 p4 h4 w0 _ HI.out HB.out (Kd.R_reads' HS.out).2.2 (Kd.R_reads' HS.out).2.1 (far_slice (IsS113.own_ne HI.out HS.out (by decide))) HQ4.out).mono ?_
  rintro e w7 ⟨rfl, hi, hb, hk⟩
  refine ⟨_, rfl, ?_⟩
  replace HS := aM (Kd.R_mono (Kd.R_keep (IsS113.apart HI.out HS.out (by decide)) hk (fun _ h => h.2)) (fun _ h => h.1))
  replace BK := aM (KeepBut.blk hk BK.out (by have := G5.out; have := GB.out; omega) (by simp))
  replace KR := aM (KeepBut.trans KR.out hk (.inl rfl))
  replace HB := aM hb
  replace HI := aM hi
  clear hi hb hk
  refine hK.out _ _ ⟨keep_cell KR.out z8 N8.out, keep_cell KR.out z11 N11.out⟩ (fun hHeld => ?_)
  clear hK K
  refine nm_ 58 ?_
  refine jI_ 19 ?_
  exact norm_ (by rfl) (hJ311 (.slice A57 5 c57, gb) _ ⟨hHeld, HI.out, KR.out, HB.out, HS.out, ⟨BK.out, GB.out⟩⟩)
  }
  refine join_ (σ := Value × Nat) 2 (bqz 22 1048575) (fun s_ => [(51, .int .i64 j2), (52, .pointer (some (ad11.add j2.toNat))), (53, .int .i64 (rd gs j2)), (55, .bool o3), (57, s_.1), (58, .int .i64 j4), (59, .agg #[.int .i64 (wrap64 ((x7.length : Int) + 1)), .int .i64 (rd x8 j1), .int .i64 (rd gs j2), .bool o3, .int .i64 j4])]) (fun s_ w' => (w'.cell? (ad8.add j1.toNat) = some (.int .i64 (rd x8 j1)) ∧ w'.cell? (ad11.add j2.toNat) = some (.int .i64 (rd gs j2))) ∧ IsS113 w0 w' g s0_0 p4 h4 ∧ KeepBut w5 w' g none ∧ Below w0.heap.size w0 w' ∧ Kd.R (Kd.int .i64) 3 w' w5.heap.size (fun _ => True) s_.1 [0, 0, 1, 2, 7] ∧ True) ?_ (fun hJ310 => ?_)
  {
  rintro ⟨v57, gb⟩ w6 ⟨hHeld, hi_, hk_, hb_, hs_, ha_⟩
  refine norm_ (a' := ?_) ?_ ?_
  rotate_left
  {
  show putAll _ _ = _
  dsimp only [putAll]
  simp only [qzs]
  rfl
  }
  obtain ⟨A57, c57, rfl⟩ := Kd.R_slice hs_
  have HI := aM hi_
  have KR := aM hk_
  have HB := aM hb_
  have HS := aM hs_
  clear hi_ hk_ hb_ hs_ ha_
  refine oI_ 20 12 (bqz 22 2097151) (fun K hK => ?_)
  refine box_step (by rfl) (N := 12) rfl (cs := #[.int .i64 0, .int .i64 0, .int .i64 0, .bool false, .int .i64 0]) (t := 37) ?hr ?_; (case hr => exact qz9)
  intro gb hg w7 hbx hb
  have BK := aM hbx
  have GB := aM (by rw [hg]; exact keep_size KR.out : w5.heap.size ≤ gb)
  replace HS := aM (Kd.R_below HS.out hb)
  replace KR := aM (KeepBut.trans KR.out (KeepBut.of_below hb g none) (.inl rfl))
  replace HB := aM (below_step HB.out hb)
  replace HI := aM (IsS113.below HI.out hb)
  clear hg hbx hb
  refine hK.out _ _ ⟨keep_cell KR.out z8 N8.out, keep_cell KR.out z11 N11.out⟩ (fun hHeld => ?_)
  clear hK K
  refine nm_ 12 ?_
  exact norm_ (by rfl) (hJ311 (.slice A57 5 c57, gb) _ ⟨hHeld, HI.out, KR.out, HB.out, HS.out, ⟨BK.out, GB.out⟩⟩)
  }
  refine join_ (σ := Value × Nat) 4 (bqz 22 1277951) (fun s_ => [(51, .int .i64 j2), (52, .pointer (some (ad11.add j2.toNat))), (53, .int .i64 (rd gs j2)), (57, s_.1), (12, .pointer (some ⟨s_.2, 0, none⟩))]) (fun s_ w' => (w'.cell? (ad8.add j1.toNat) = some (.int .i64 (rd x8 j1)) ∧ w'.cell? (ad11.add j2.toNat) = some (.int .i64 (rd gs j2))) ∧ IsS113 w0 w' g s0_0 p2 h2 ∧ KeepBut w5 w' g none ∧ Below w0.heap.size w0 w' ∧ Kd.R (Kd.int .i64) 3 w' w5.heap.size (fun _ => True) s_.1 [0, 0, 1, 2, 7] ∧ (w'.heap[s_.2]? = some (.cells #[.int .i64 0, .int .i64 0, .int .i64 0, .bool false, .int .i64 0] 37 (0, 0)) ∧ w5.heap.size ≤ s_.2)) ?_ (fun hJ111 => ?_)
  {
  rintro ⟨v57, gb⟩ w6 ⟨hHeld, hi_, hk_, hb_, hs_, ha_⟩
  refine norm_ (a' := ?_) ?_ ?_
  rotate_left
  {
  show putAll _ _ = _
  dsimp only [putAll]
  simp only [qzs]
  rfl
  }
  obtain ⟨A57, c57, rfl⟩ := Kd.R_slice hs_
  have HI := aM hi_
  have KR := aM hk_
  have HB := aM hb_
  have HS := aM hs_
  have BK := aM ha_.1
  have GB := aM ha_.2
  clear hi_ hk_ hb_ hs_ ha_
  refine oI_ 15 55 (bqz 22 1310719) (fun K hK => ?_)
  refine goes_ Try.func80 (by kernel_rfl) rfl #[.pointer (some ⟨g, 0, none⟩), .int .i64 3] (by rfl) rfl rfl qz30 ?_
  refine (spec_l1Once.calls g s0_0 p2 h2 3 o3 p3 h3 w0 _ HI.out HB.out HQ3.out).mono ?_
  rintro e w7 ⟨rfl, hi, hb, hk⟩
  refine ⟨_, rfl, ?_⟩
  replace HS := aM (Kd.R_mono (Kd.R_keep (IsS113.apart HI.out HS.out (by decide)) hk (fun _ h => h.2)) (fun _ h => h.1))
  replace BK := aM (KeepBut.blk hk BK.out (by have := G5.out; have := GB.out; omega) (by simp))
  replace KR := aM (KeepBut.trans KR.out hk (.inl rfl))
  replace HB := aM hb
  replace HI := aM hi
  clear hi hb hk
  refine hK.out _ _ ⟨keep_cell KR.out z8 N8.out, keep_cell KR.out z11 N11.out⟩ (fun hHeld => ?_)
  clear hK K
  refine nm_ 55 ?_
  exact norm_ (by rfl) (hJ211 (.slice A57 5 c57, gb) _ ⟨hHeld, HI.out, KR.out, HB.out, HS.out, ⟨BK.out, GB.out⟩⟩)
  }
  refine join_ (σ := Value × Nat) 4 (bqz 22 1179647) (fun s_ => [(51, .int .i64 j2), (52, .pointer (some (ad11.add j2.toNat))), (53, .int .i64 (rd gs j2)), (55, .bool o3), (12, .pointer (some ⟨s_.2, 0, none⟩))]) (fun s_ w' => (w'.cell? (ad8.add j1.toNat) = some (.int .i64 (rd x8 j1)) ∧ w'.cell? (ad11.add j2.toNat) = some (.int .i64 (rd gs j2))) ∧ IsS113 w0 w' g s0_0 p3 h3 ∧ KeepBut w5 w' g none ∧ Below w0.heap.size w0 w' ∧ True ∧ (w'.heap[s_.2]? = some (.cells #[.int .i64 0, .int .i64 0, .int .i64 0, .bool false, .int .i64 0] 37 (0, 0)) ∧ w5.heap.size ≤ s_.2)) ?_ (fun hJ201 => ?_)
  {
  rintro ⟨v57, gb⟩ w6 ⟨hHeld, hi_, hk_, hb_, hs_, ha_⟩
  refine norm_ (a' := ?_) ?_ ?_
  rotate_left
  {
  show putAll _ _ = _
  dsimp only [putAll]
  simp only [qzs]
  rfl
  }
  have HI := aM hi_
  have KR := aM hk_
  have HB := aM hb_
  have BK := aM ha_.1
  have GB := aM ha_.2
  clear hi_ hk_ hb_ hs_ ha_
  refine oI_ 17 57 (bqz 22 1310719) (fun K hK => ?_)
  refine Kd.R_lit_step (Kd.int .i64) _ 3 (by rfl) (N := 57) rfl (xs := ([0, 0, 1, 2, 7] : List Int)) (inner := [.int .i64 0, .int .i64 0, .int .i64 1, .int .i64 2, .int .i64 7]) (ok := fun _ => True) (okp := fun _ => True) ?hr ?hp (fun _ hk => hk) trivial (Below.refl _ _) (Nat.le_refl _) (by simp) ?_; (case hr => exact qz9); (case hp => exact qz11)
  intro v57 w7 hs hb hg_ hn_
  obtain ⟨A57, c57, rfl⟩ := Kd.R_slice hs
  have HS := aM (Kd.R_lower hs (keep_size KR.out))
  replace BK := aM (blk_below BK.out hb)
  replace KR := aM (KeepBut.trans KR.out (KeepBut.of_below hb g none) (.inl rfl))
  replace HB := aM (below_step HB.out hb)
  replace HI := aM (IsS113.below HI.out hb)
  clear hs hb hg_ hn_
  refine hK.out _ _ ⟨keep_cell KR.out z8 N8.out, keep_cell KR.out z11 N11.out⟩ (fun hHeld => ?_)
  clear hK K
  refine nm_ 57 ?_
  exact norm_ (by rfl) (hJ211 (.slice A57 5 c57, gb) _ ⟨hHeld, HI.out, KR.out, HB.out, HS.out, ⟨BK.out, GB.out⟩⟩)
  }
  refine join_ (σ := Value × Nat) 4 (bqz 22 262143) (fun s_ => [(51, .int .i64 j2), (52, .pointer (some (ad11.add j2.toNat))), (53, .int .i64 (rd gs j2)), (55, .bool o3), (57, s_.1)]) (fun s_ w' => (w'.cell? (ad8.add j1.toNat) = some (.int .i64 (rd x8 j1)) ∧ w'.cell? (ad11.add j2.toNat) = some (.int .i64 (rd gs j2))) ∧ IsS113 w0 w' g s0_0 p3 h3 ∧ KeepBut w5 w' g none ∧ Below w0.heap.size w0 w' ∧ Kd.R (Kd.int .i64) 3 w' w5.heap.size (fun _ => True) s_.1 [0, 0, 1, 2, 7] ∧ True) ?_ (fun hJ210 => ?_)
  {
  rintro ⟨v57, gb⟩ w6 ⟨hHeld, hi_, hk_, hb_, hs_, ha_⟩
  refine norm_ (a' := ?_) ?_ ?_
  rotate_left
  {
  show putAll _ _ = _
  dsimp only [putAll]
  simp only [qzs]
  rfl
  }
  obtain ⟨A57, c57, rfl⟩ := Kd.R_slice hs_
  have HI := aM hi_
  have KR := aM hk_
  have HB := aM hb_
  have HS := aM hs_
  clear hi_ hk_ hb_ hs_ ha_
  refine two_ (i := 18) (j := 20) (Ni := some 58) (Nj := some 12) (bqz 22 524287) (bqz 22 1310719) rfl rfl rfl rfl (two_of HT_.out (by kernel_rfl)) (by decide) (by decide) (fun K hK => ?_) (fun K hK => ?_)
  {
  refine goes_ Try.func81 (by kernel_rfl) rfl #[.pointer (some ⟨g, 0, none⟩), .slice A57 5 c57] (by rfl) rfl rfl qz30 ?_
  refine (spec_l1Int.calls g s0_0 p3 h3 _ _ [0, 0, 1, 2, 7] j4 p4 h4 w0 _ HI.out HB.out (Kd.R_reads' HS.out).2.2 (Kd.R_reads' HS.out).2.1 (far_slice (IsS113.own_ne HI.out HS.out (by decide))) HQ4.out).mono ?_
  rintro e w7 ⟨rfl, hi, hb, hk⟩
  refine ⟨_, rfl, ?_⟩
  replace HS := aM (Kd.R_mono (Kd.R_keep (IsS113.apart HI.out HS.out (by decide)) hk (fun _ h => h.2)) (fun _ h => h.1))
  replace KR := aM (KeepBut.trans KR.out hk (.inl rfl))
  replace HB := aM hb
  replace HI := aM hi
  clear hi hb hk
  refine hK.out _ _ ⟨keep_cell KR.out z8 N8.out, keep_cell KR.out z11 N11.out⟩ (fun hHeld => ?_)
  clear hK K
  refine nm_ 58 ?_
  refine pI_ 19 (bqz 22 1048575) ?_
  exact norm_ (by rfl) (hJ310 (.slice A57 5 c57, 0) _ ⟨hHeld, HI.out, KR.out, HB.out, HS.out, trivial⟩)
  }
  {
  refine box_step (by rfl) (N := 12) rfl (cs := #[.int .i64 0, .int .i64 0, .int .i64 0, .bool false, .int .i64 0]) (t := 37) ?hr ?_; (case hr => exact qz9)
  intro gb hg w7 hbx hb
  have BK := aM hbx
  have GB := aM (by rw [hg]; exact keep_size KR.out : w5.heap.size ≤ gb)
  replace HS := aM (Kd.R_below HS.out hb)
  replace KR := aM (KeepBut.trans KR.out (KeepBut.of_below hb g none) (.inl rfl))
  replace HB := aM (below_step HB.out hb)
  replace HI := aM (IsS113.below HI.out hb)
  clear hg hbx hb
  refine hK.out _ _ ⟨keep_cell KR.out z8 N8.out, keep_cell KR.out z11 N11.out⟩ (fun hHeld => ?_)
  clear hK K
  refine nm_ 12 ?_
  exact norm_ (by rfl) (hJ211 (.slice A57 5 c57, gb) _ ⟨hHeld, HI.out, KR.out, HB.out, HS.out, ⟨BK.out, GB.out⟩⟩)
  }
  }
  refine join_ (σ := Value × Nat) 7 (bqz 22 1263615) (fun s_ => [(57, s_.1), (12, .pointer (some ⟨s_.2, 0, none⟩))]) (fun s_ w' => (w'.cell? (ad8.add j1.toNat) = some (.int .i64 (rd x8 j1)) ∧ w'.cell? (ad11.add j2.toNat) = some (.int .i64 (rd gs j2))) ∧ IsS113 w0 w' g s0_0 p1 h1 ∧ KeepBut w5 w' g none ∧ Below w0.heap.size w0 w' ∧ Kd.R (Kd.int .i64) 3 w' w5.heap.size (fun _ => True) s_.1 [0, 0, 1, 2, 7] ∧ (w'.heap[s_.2]? = some (.cells #[.int .i64 0, .int .i64 0, .int .i64 0, .bool false, .int .i64 0] 37 (0, 0)) ∧ w5.heap.size ≤ s_.2)) ?_ (fun hJ011 => ?_)
  {
  rintro ⟨v57, gb⟩ w6 ⟨hHeld, hi_, hk_, hb_, hs_, ha_⟩
  refine norm_ (a' := ?_) ?_ ?_
  rotate_left
  {
  show putAll _ _ = _
  dsimp only [putAll]
  simp only [qzs]
  rfl
  }
  obtain ⟨A57, c57, rfl⟩ := Kd.R_slice hs_
  have HI := aM hi_
  have KR := aM hk_
  have HB := aM hb_
  have HS := aM hs_
  have BK := aM ha_.1
  have GB := aM ha_.2
  clear hi_ hk_ hb_ hs_ ha_
  refine oI_ 11 51 (bqz 22 1265663) (fun K hK => ?_)
  refine goes_ Try.func73 (by kernel_rfl) rfl #[.pointer (some ⟨g, 0, none⟩), .int .i64 (gs.length : Int)] (by rfl) rfl rfl qz30 ?_
  refine (spec_l1Below.calls g s0_0 p1 h1 (gs.length : Int) j2 p2 h2 w0 _ HI.out HB.out HQ2.out).mono ?_
  rintro e w7 ⟨rfl, hi, hb, hk⟩
  refine ⟨_, rfl, ?_⟩
  replace HS := aM (Kd.R_mono (Kd.R_keep (IsS113.apart HI.out HS.out (by decide)) hk (fun _ h => h.2)) (fun _ h => h.1))
  replace BK := aM (KeepBut.blk hk BK.out (by have := G5.out; have := GB.out; omega) (by simp))
  replace KR := aM (KeepBut.trans KR.out hk (.inl rfl))
  replace HB := aM hb
  replace HI := aM hi
  clear hi hb hk
  refine hK.out _ _ ⟨keep_cell KR.out z8 N8.out, keep_cell KR.out z11 N11.out⟩ (fun hHeld => ?_)
  clear hK K
  refine nm_ 51 ?_
  refine jI_ 12 ?_
  refine sI2_ 13 ?_
  exact norm_ (by rfl) (hJ111 (.slice A57 5 c57, gb) _ ⟨hHeld, HI.out, KR.out, HB.out, HS.out, ⟨BK.out, GB.out⟩⟩)
  }
  refine join_ (σ := Value × Nat) 5 (bqz 22 1146879) (fun s_ => [(51, .int .i64 j2), (52, .pointer (some (ad11.add j2.toNat))), (53, .int .i64 (rd gs j2)), (12, .pointer (some ⟨s_.2, 0, none⟩))]) (fun s_ w' => (w'.cell? (ad8.add j1.toNat) = some (.int .i64 (rd x8 j1)) ∧ w'.cell? (ad11.add j2.toNat) = some (.int .i64 (rd gs j2))) ∧ IsS113 w0 w' g s0_0 p2 h2 ∧ KeepBut w5 w' g none ∧ Below w0.heap.size w0 w' ∧ True ∧ (w'.heap[s_.2]? = some (.cells #[.int .i64 0, .int .i64 0, .int .i64 0, .bool false, .int .i64 0] 37 (0, 0)) ∧ w5.heap.size ≤ s_.2)) ?_ (fun hJ101 => ?_)
  {
  rintro ⟨v57, gb⟩ w6 ⟨hHeld, hi_, hk_, hb_, hs_, ha_⟩
  refine norm_ (a' := ?_) ?_ ?_
  rotate_left
  {
  show putAll _ _ = _
  dsimp only [putAll]
  simp only [qzs]
  rfl
  }
  have HI := aM hi_
  have KR := aM hk_
  have HB := aM hb_
  have BK := aM ha_.1
  have GB := aM ha_.2
  clear hi_ hk_ hb_ hs_ ha_
  refine two_ (i := 15) (j := 17) (Ni := some 55) (Nj := some 57) (bqz 22 1179647) (bqz 22 1277951) rfl rfl rfl rfl (two_of HT_.out (by kernel_rfl)) (by decide) (by decide) (fun K hK => ?_) (fun K hK => ?_)
  {
  refine goes_ Try.func80 (by kernel_rfl) rfl #[.pointer (some ⟨g, 0, none⟩), .int .i64 3] (by rfl) rfl rfl qz30 ?_
  refine (spec_l1Once.calls g s0_0 p2 h2 3 o3 p3 h3 w0 _ HI.out HB.out HQ3.out).mono ?_
  rintro e w7 ⟨rfl, hi, hb, hk⟩
  refine ⟨_, rfl, ?_⟩
  replace BK := aM (KeepBut.blk hk BK.out (by have := G5.out; have := GB.out; omega) (by simp))
  replace KR := aM (KeepBut.trans KR.out hk (.inl rfl))
  replace HB := aM hb
  replace HI := aM hi
  clear hi hb hk
  refine hK.out _ _ ⟨keep_cell KR.out z8 N8.out, keep_cell KR.out z11 N11.out⟩ (fun hHeld => ?_)
  clear hK K
  refine nm_ 55 ?_
  exact norm_ (by rfl) (hJ201 (.nilFunc, gb) _ ⟨hHeld, HI.out, KR.out, HB.out, trivial, ⟨BK.out, GB.out⟩⟩)
  }
  {
  refine Kd.R_lit_step (Kd.int .i64) _ 3 (by rfl) (N := 57) rfl (xs := ([0, 0, 1, 2, 7] : List Int)) (inner := [.int .i64 0, .int .i64 0, .int .i64 1, .int .i64 2, .int .i64 7]) (ok := fun _ => True) (okp := fun _ => True) ?hr ?hp (fun _ hk => hk) trivial (Below.refl _ _) (Nat.le_refl _) (by simp) ?_; (case hr => exact qz9); (case hp => exact qz11)
  intro v57 w7 hs hb hg_ hn_
  obtain ⟨A57, c57, rfl⟩ := Kd.R_slice hs
  have HS := aM (Kd.R_lower hs (keep_size KR.out))
  replace BK := aM (blk_below BK.out hb)
  replace KR := aM (KeepBut.trans KR.out (KeepBut.of_below hb g none) (.inl rfl))
  replace HB := aM (below_step HB.out hb)
  replace HI := aM (IsS113.below HI.out hb)
  clear hs hb hg_ hn_
  refine hK.out _ _ ⟨keep_cell KR.out z8 N8.out, keep_cell KR.out z11 N11.out⟩ (fun hHeld => ?_)
  clear hK K
  refine nm_ 57 ?_
  exact norm_ (by rfl) (hJ111 (.slice A57 5 c57, gb) _ ⟨hHeld, HI.out, KR.out, HB.out, HS.out, ⟨BK.out, GB.out⟩⟩)
  }
  }
  refine join_ (σ := Value × Nat) 5 (bqz 22 229375) (fun s_ => [(51, .int .i64 j2), (52, .pointer (some (ad11.add j2.toNat))), (53, .int .i64 (rd gs j2)), (57, s_.1)]) (fun s_ w' => (w'.cell? (ad8.add j1.toNat) = some (.int .i64 (rd x8 j1)) ∧ w'.cell? (ad11.add j2.toNat) = some (.int .i64 (rd gs j2))) ∧ IsS113 w0 w' g s0_0 p2 h2 ∧ KeepBut w5 w' g none ∧ Below w0.heap.size w0 w' ∧ Kd.R (Kd.int .i64) 3 w' w5.heap.size (fun _ => True) s_.1 [0, 0, 1, 2, 7] ∧ True) ?_ (fun hJ110 => ?_)
  {
  rintro ⟨v57, gb⟩ w6 ⟨hHeld, hi_, hk_, hb_, hs_, ha_⟩
  refine norm_ (a' := ?_) ?_ ?_
  rotate_left
  {
  show putAll _ _ = _
  dsimp only [putAll]
  simp only [qzs]
  rfl
  }
  obtain ⟨A57, c57, rfl⟩ := Kd.R_slice hs_
  have HI := aM hi_
  have KR := aM hk_
  have HB := aM hb_
  have HS := aM hs_
  clear hi_ hk_ hb_ hs_ ha_
  refine two_ (i := 15) (j := 20) (Ni := some 55) (Nj := some 12) (bqz 22 262143) (bqz 22 1277951) rfl rfl rfl rfl (two_of HT_.out (by kernel_rfl)) (by decide) (by decide) (fun K hK => ?_) (fun K hK => ?_)
  {
  refine goes_ Try.func80 (by kernel_rfl) rfl #[.pointer (some ⟨g, 0, none⟩), .int .i64 3] (by rfl) rfl rfl qz30 ?_
  refine (spec_l1Once.calls g s0_0 p2 h2 3 o3 p3 h3 w0 _ HI.out HB.out HQ3.out).mono ?_
  rintro e w7 ⟨rfl, hi, hb, hk⟩
  refine ⟨_, rfl, ?_⟩
  replace HS := aM (Kd.R_mono (Kd.R_keep (IsS113.apart HI.out HS.out (by decide)) hk (fun _ h => h.2)) (fun _ h => h.1))
  replace KR := aM (KeepBut.trans KR.out hk (.inl rfl))
  replace HB := aM hb
  replace HI := aM hi
  clear hi hb hk
  refine hK.out _ _ ⟨keep_cell KR.out z8 N8.out, keep_cell KR.out z11 N11.out⟩ (fun hHeld => ?_)
  clear hK K
  refine nm_ 55 ?_
  exact norm_ (by rfl) (hJ210 (.slice A57 5 c57, 0) _ ⟨hHeld, HI.out, KR.out, HB.out, HS.out, trivial⟩)
  }
  {
  refine box_step (by rfl) (N := 12) rfl (cs := #[.int .i64 0, .int .i64 0, .int .i64 0, .bool false, .int .i64 0]) (t := 37) ?hr ?_; (case hr => exact qz9)
  intro gb hg w7 hbx hb
  have BK := aM hbx
  have GB := aM (by rw [hg]; exact keep_size KR.out : w5.heap.size ≤ gb)
  replace HS := aM (Kd.R_below HS.out hb)
  replace KR := aM (KeepBut.trans KR.out (KeepBut.of_below hb g none) (.inl rfl))
  replace HB := aM (below_step HB.out hb)
  replace HI := aM (IsS113.below HI.out hb)
  clear hg hbx hb
  refine hK.out _ _ ⟨keep_cell KR.out z8 N8.out, keep_cell KR.out z11 N11.out⟩ (fun hHeld => ?_)
  clear hK K
  refine nm_ 12 ?_
  exact norm_ (by rfl) (hJ111 (.slice A57 5 c57, gb) _ ⟨hHeld, HI.out, KR.out, HB.out, HS.out, ⟨BK.out, GB.out⟩⟩)
  }
  }
  refine join_ (σ := Value × Nat) 5 (bqz 22 131071) (fun s_ => [(51, .int .i64 j2), (52, .pointer (some (ad11.add j2.toNat))), (53, .int .i64 (rd gs j2)), (55, .bool o3)]) (fun s_ w' => (w'.cell? (ad8.add j1.toNat) = some (.int .i64 (rd x8 j1)) ∧ w'.cell? (ad11.add j2.toNat) = some (.int .i64 (rd gs j2))) ∧ IsS113 w0 w' g s0_0 p3 h3 ∧ KeepBut w5 w' g none ∧ Below w0.heap.size w0 w' ∧ True ∧ True) ?_ (fun hJ200 => ?_)
  {
  rintro ⟨v57, gb⟩ w6 ⟨hHeld, hi_, hk_, hb_, hs_, ha_⟩
  refine norm_ (a' := ?_) ?_ ?_
  rotate_left
  {
  show putAll _ _ = _
  dsimp only [putAll]
  simp only [qzs]
  rfl
  }
  have HI := aM hi_
  have KR := aM hk_
  have HB := aM hb_
  clear hi_ hk_ hb_ hs_ ha_
  refine two_ (i := 17) (j := 20) (Ni := some 57) (Nj := some 12) (bqz 22 262143) (bqz 22 1179647) rfl rfl rfl rfl (two_of HT_.out (by kernel_rfl)) (by decide) (by decide) (fun K hK => ?_) (fun K hK => ?_)
  {
  refine Kd.R_lit_step (Kd.int .i64) _ 3 (by rfl) (N := 57) rfl (xs := ([0, 0, 1, 2, 7] : List Int)) (inner := [.int .i64 0, .int .i64 0, .int .i64 1, .int .i64 2, .int .i64 7]) (ok := fun _ => True) (okp := fun _ => True) ?hr ?hp (fun _ hk => hk) trivial (Below.refl _ _) (Nat.le_refl _) (by simp) ?_; (case hr => exact qz9); (case hp => exact qz11)
  intro v57 w7 hs hb hg_ hn_
  obtain ⟨A57, c57, rfl⟩ := Kd.R_slice hs
  have HS := aM (Kd.R_lower hs (keep_size KR.out))
  replace KR := aM (KeepBut.trans KR.out (KeepBut.of_below hb g none) (.inl rfl))
  replace HB := aM (below_step HB.out hb)
  replace HI := aM (IsS113.below HI.out hb)
  clear hs hb hg_ hn_
  refine hK.out _ _ ⟨keep_cell KR.out z8 N8.out, keep_cell KR.out z11 N11.out⟩ (fun hHeld => ?_)
  clear hK K
  refine nm_ 57 ?_
  exact norm_ (by rfl) (hJ210 (.slice A57 5 c57, 0) _ ⟨hHeld, HI.out, KR.out, HB.out, HS.out, trivial⟩)
  }
  {
  refine box_step (by rfl) (N := 12) rfl (cs := #[.int .i64 0, .int .i64 0, .int .i64 0, .bool false, .int .i64 0]) (t := 37) ?hr ?_; (case hr => exact qz9)
  intro gb hg w7 hbx hb
  have BK := aM hbx
  have GB := aM (by rw [hg]; exact keep_size KR.out : w5.heap.size ≤ gb)
  replace KR := aM (KeepBut.trans KR.out (KeepBut.of_below hb g none) (.inl rfl))
  replace HB := aM (below_step HB.out hb)
  replace HI := aM (IsS113.below HI.out hb)
  clear hg hbx hb
  refine hK.out _ _ ⟨keep_cell KR.out z8 N8.out, keep_cell KR.out z11 N11.out⟩ (fun hHeld => ?_)
  clear hK K
  refine nm_ 12 ?_
  exact norm_ (by rfl) (hJ201 (.nilFunc, gb) _ ⟨hHeld, HI.out, KR.out, HB.out, trivial, ⟨BK.out, GB.out⟩⟩)
  }
  }
  refine join_ (σ := Value × Nat) 8 (bqz 22 1132543) (fun s_ => [(12, .pointer (some ⟨s_.2, 0, none⟩))]) (fun s_ w' => (w'.cell? (ad8.add j1.toNat) = some (.int .i64 (rd x8 j1)) ∧ w'.cell? (ad11.add j2.toNat) = some (.int .i64 (rd gs j2))) ∧ IsS113 w0 w' g s0_0 p1 h1 ∧ KeepBut w5 w' g none ∧ Below w0.heap.size w0 w' ∧ True ∧ (w'.heap[s_.2]? = some (.cells #[.int .i64 0, .int .i64 0, .int .i64 0, .bool false, .int .i64 0] 37 (0, 0)) ∧ w5.heap.size ≤ s_.2)) ?_ (fun hJ001 => ?_)
  {
  rintro ⟨v57, gb⟩ w6 ⟨hHeld, hi_, hk_, hb_, hs_, ha_⟩
  refine norm_ (a' := ?_) ?_ ?_
  rotate_left
  {
  show putAll _ _ = _
  dsimp only [putAll]
  simp only [qzs]
  rfl
  }
  have HI := aM hi_
  have KR := aM hk_
  have HB := aM hb_
  have BK := aM ha_.1
  have GB := aM ha_.2
  clear hi_ hk_ hb_ hs_ ha_
  refine two_ (i := 11) (j := 17) (Ni := some 51) (Nj := some 57) (bqz 22 1134591) (bqz 22 1263615) rfl rfl rfl rfl (two_of HT_.out (by kernel_rfl)) (by decide) (by decide) (fun K hK => ?_) (fun K hK => ?_)
  {
  refine goes_ Try.func73 (by kernel_rfl) rfl #[.pointer (some ⟨g, 0, none⟩), .int .i64 (gs.length : Int)] (by rfl) rfl rfl qz30 ?_
  refine (spec_l1Below.calls g s0_0 p1 h1 (gs.length : Int) j2 p2 h2 w0 _ HI.out HB.out HQ2.out).mono ?_
  rintro e w7 ⟨rfl, hi, hb, hk⟩
  refine ⟨_, rfl, ?_⟩
  replace BK := aM (KeepBut.blk hk BK.out (by have := G5.out; have := GB.out; omega) (by simp))
  replace KR := aM (KeepBut.trans KR.out hk (.inl rfl))
  replace HB := aM hb
  replace HI := aM hi
  clear hi hb hk
  refine hK.out _ _ ⟨keep_cell KR.out z8 N8.out, keep_cell KR.out z11 N11.out⟩ (fun hHeld => ?_)
  clear hK K
  refine nm_ 51 ?_
  refine pI_ 12 (bqz 22 1138687) ?_
  refine sI2_ 13 ?_
  exact norm_ (by rfl) (hJ101 (.nilFunc, gb) _ ⟨hHeld, HI.out, KR.out, HB.out, trivial, ⟨BK.out, GB.out⟩⟩)
  }
  {
  refine Kd.R_lit_step (Kd.int .i64) _ 3 (by rfl) (N := 57) rfl (xs := ([0, 0, 1, 2, 7] : List Int)) (inner := [.int .i64 0, .int .i64 0, .int .i64 1, .int .i64 2, .int .i64 7]) (ok := fun _ => True) (okp := fun _ => True) ?hr ?hp (fun _ hk => hk) trivial (Below.refl _ _) (Nat.le_refl _) (by simp) ?_; (case hr => exact qz9); (case hp => exact qz11)
  intro v57 w7 hs hb hg_ hn_
  obtain ⟨A57, c57, rfl⟩ := Kd.R_slice hs
  have HS := aM (Kd.R_lower hs (keep_size KR.out))
  replace BK := aM (blk_below BK.out hb)
  replace KR := aM (KeepBut.trans KR.out (KeepBut.of_below hb g none) (.inl rfl))
  replace HB := aM (below_step HB.out hb)
  replace HI := aM (IsS113.below HI.out hb)
  clear hs hb hg_ hn_
  refine hK.out _ _ ⟨keep_cell KR.out z8 N8.out, keep_cell KR.out z11 N11.out⟩ (fun hHeld => ?_)
  clear hK K
  refine nm_ 57 ?_
  exact norm_ (by rfl) (hJ011 (.slice A57 5 c57, gb) _ ⟨hHeld, HI.out, KR.out, HB.out, HS.out, ⟨BK.out, GB.out⟩⟩)
  }
  }
  refine join_ (σ := Value × Nat) 8 (bqz 22 215039) (fun s_ => [(57, s_.1)]) (fun s_ w' => (w'.cell? (ad8.add j1.toNat) = some (.int .i64 (rd x8 j1)) ∧ w'.cell? (ad11.add j2.toNat) = some (.int .i64 (rd gs j2))) ∧ IsS113 w0 w' g s0_0 p1 h1 ∧ KeepBut w5 w' g none ∧ Below w0.heap.size w0 w' ∧ Kd.R (Kd.int .i64) 3 w' w5.heap.size (fun _ => True) s_.1 [0, 0, 1, 2, 7] ∧ True) ?_ (fun hJ010 => ?_)
  {
  rintro ⟨v57, gb⟩ w6 ⟨hHeld, hi_, hk_, hb_, hs_, ha_⟩
  refine norm_ (a' := ?_) ?_ ?_
  rotate_left
  {
  show putAll _ _ = _
  dsimp only [putAll]
  simp only [qzs]
  rfl
  }
  obtain ⟨A57, c57, rfl⟩ := Kd.R_slice hs_
  have HI := aM hi_
  have KR := aM hk_
  have HB := aM hb_
  have HS := aM hs_
  clear hi_ hk_ hb_ hs_ ha_
  refine two_ (i := 11) (j := 20) (Ni := some 51) (Nj := some 12) (bqz 22 217087) (bqz 22 1263615) rfl rfl rfl rfl (two_of HT_.out (by kernel_rfl)) (by decide) (by decide) (fun K hK => ?_) (fun K hK => ?_)
  {
  refine goes_ Try.func73 (by kernel_rfl) rfl #[.pointer (some ⟨g, 0, none⟩), .int .i64 (gs.length : Int)] (by rfl) rfl rfl qz30 ?_
  refine (spec_l1Below.calls g s0_0 p1 h1 (gs.length : Int) j2 p2 h2 w0 _ HI.out HB.out HQ2.out).mono ?_
  rintro e w7 ⟨rfl, hi, hb, hk⟩
  refine ⟨_, rfl, ?_⟩
  replace HS := aM (Kd.R_mono (Kd.R_keep (IsS113.apart HI.out HS.out (by decide)) hk (fun _ h => h.2)) (fun _ h => h.1))
  replace KR := aM (KeepBut.trans KR.out hk (.inl rfl))
  replace HB := aM hb
  replace HI := aM hi
  clear hi hb hk
  refine hK.out _ _ ⟨keep_cell KR.out z8 N8.out, keep_cell KR.out z11 N11.out⟩ (fun hHeld => ?_)
  clear hK K
  refine nm_ 51 ?_
  refine pI_ 12 (bqz 22 221183) ?_
  refine sI2_ 13 ?_
  exact norm_ (by rfl) (hJ110 (.slice A57 5 c57, 0) _ ⟨hHeld, HI.out, KR.out, HB.out, HS.out, trivial⟩)
  }
  {
  refine box_step (by rfl) (N := 12) rfl (cs := #[.int .i64 0, .int .i64 0, .int .i64 0, .bool false, .int .i64 0]) (t := 37) ?hr ?_; (case hr => exact qz9)
  intro gb hg w7 hbx hb
  have BK := aM hbx
  have GB := aM (by rw [hg]; exact keep_size KR.out : w5.heap.size ≤ gb)
  replace HS := aM (Kd.R_below HS.out hb)
  replace KR := aM (KeepBut.trans KR.out (KeepBut.of_below hb g none) (.inl rfl))
  replace HB := aM (below_step HB.out hb)
  replace HI := aM (IsS113.below HI.out hb)
  clear hg hbx hb
  refine hK.out _ _ ⟨keep_cell KR.out z8 N8.out, keep_cell KR.out z11 N11.out⟩ (fun hHeld => ?_)
  clear hK K
  refine nm_ 12 ?_
  exact norm_ (by rfl) (hJ011 (.slice A57 5 c57, gb) _ ⟨hHeld, HI.out, KR.out, HB.out, HS.out, ⟨BK.out, GB.out⟩⟩)
  }
  }
  refine join_ (σ := Value × Nat) 6 (bqz 22 98303) (fun s_ => [(51, .int .i64 j2), (52, .pointer (some (ad11.add j2.toNat))), (53, .int .i64 (rd gs j2))]) (fun s_ w' => (w'.cell? (ad8.add j1.toNat) = some (.int .i64 (rd x8 j1)) ∧ w'.cell? (ad11.add j2.toNat) = some (.int .i64 (rd gs j2))) ∧ IsS113 w0 w' g s0_0 p2 h2 ∧ KeepBut w5 w' g none ∧ Below w0.heap.size w0 w' ∧ True ∧ True) ?_ (fun hJ100 => ?_)
  {
  rintro ⟨v57, gb⟩ w6 ⟨hHeld, hi_, hk_, hb_, hs_, ha_⟩
  refine norm_ (a' := ?_) ?_ ?_
  rotate_left
  {
  show putAll _ _ = _
  dsimp only [putAll]
  simp only [qzs]
  rfl
  }
  have HI := aM hi_
  have KR := aM hk_
  have HB := aM hb_
  clear hi_ hk_ hb_ hs_ ha_
  refine three_ (i := 15) (j := 17) (k := 20) (Ni := some 55) (Nj := some 57) (Nk := some 12) (bqz 22 131071) (bqz 22 229375) (bqz 22 1146879) rfl rfl rfl rfl rfl rfl (three_of HT_.out (by kernel_rfl)) (by decide) (by decide) (by decide) (fun K hK => ?_) (fun K hK => ?_) (fun K hK => ?_)
  {
  refine goes_ Try.func80 (by kernel_rfl) rfl #[.pointer (some ⟨g, 0, none⟩), .int .i64 3] (by rfl) rfl rfl qz30 ?_
  refine (spec_l1Once.calls g s0_0 p2 h2 3 o3 p3 h3 w0 _ HI.out HB.out HQ3.out).mono ?_
  rintro e w7 ⟨rfl, hi, hb, hk⟩
  refine ⟨_, rfl, ?_⟩
  replace KR := aM (KeepBut.trans KR.out hk (.inl rfl))
  replace HB := aM hb
  replace HI := aM hi
  clear hi hb hk
  refine hK.out _ _ ⟨keep_cell KR.out z8 N8.out, keep_cell KR.out z11 N11.out⟩ (fun hHeld => ?_)
  clear hK K
  refine nm_ 55 ?_
  exact norm_ (by rfl) (hJ200 (.nilFunc, 0) _ ⟨hHeld, HI.out, KR.out, HB.out, trivial, trivial⟩)
  }
  {
  refine Kd.R_lit_step (Kd.int .i64) _ 3 (by rfl) (N := 57) rfl (xs := ([0, 0, 1, 2, 7] : List Int)) (inner := [.int .i64 0, .int .i64 0, .int .i64 1, .int .i64 2, .int .i64 7]) (ok := fun _ => True) (okp := fun _ => True) ?hr ?hp (fun _ hk => hk) trivial (Below.refl _ _) (Nat.le_refl _) (by simp) ?_; (case hr => exact qz9); (case hp => exact qz11)
  intro v57 w7 hs hb hg_ hn_
  obtain ⟨A57, c57, rfl⟩ := Kd.R_slice hs
  have HS := aM (Kd.R_lower hs (keep_size KR.out))
  replace KR := aM (KeepBut.trans KR.out (KeepBut.of_below hb g none) (.inl rfl))
  replace HB := aM (below_step HB.out hb)
  replace HI := aM (IsS113.below HI.out hb)
  clear hs hb hg_ hn_
  refine hK.out _ _ ⟨keep_cell KR.out z8 N8.out, keep_cell KR.out z11 N11.out⟩ (fun hHeld => ?_)
  clear hK K
  refine nm_ 57 ?_
  exact norm_ (by rfl) (hJ110 (.slice A57 5 c57, 0) _ ⟨hHeld, HI.out, KR.out, HB.out, HS.out, trivial⟩)
  }
  {
  refine box_step (by rfl) (N := 12) rfl (cs := #[.int .i64 0, .int .i64 0, .int .i64 0, .bool false, .int .i64 0]) (t := 37) ?hr ?_; (case hr => exact qz9)
  intro gb hg w7 hbx hb
  have BK := aM hbx
  have GB := aM (by rw [hg]; exact keep_size KR.out : w5.heap.size ≤ gb)
  replace KR := aM (KeepBut.trans KR.out (KeepBut.of_below hb g none) (.inl rfl))
  replace HB := aM (below_step HB.out hb)
  replace HI := aM (IsS113.below HI.out hb)
  clear hg hbx hb
  refine hK.out _ _ ⟨keep_cell KR.out z8 N8.out, keep_cell KR.out z11 N11.out⟩ (fun hHeld => ?_)
  clear hK K
  refine nm_ 12 ?_
  exact norm_ (by rfl) (hJ101 (.nilFunc, gb) _ ⟨hHeld, HI.out, KR.out, HB.out, trivial, ⟨BK.out, GB.out⟩⟩)
  }
  }
  have KR := aM (keep_drew (KeepBut.refl w5 g none))
  replace HI := aM (IsS113.drew HI.out)
  replace HB := aM (below_drew1 HB.out)
  refine three_ (i := 11) (j := 17) (k := 20) (Ni := some 51) (Nj := some 57) (Nk := some 12) (bqz 22 86015) (bqz 22 215039) (bqz 22 1132543) rfl rfl rfl rfl rfl rfl (three_of HT_.out (by kernel_rfl)) (by decide) (by decide) (by decide) (fun K hK => ?_) (fun K hK => ?_) (fun K hK => ?_)
  {
  refine goes_ Try.func73 (by kernel_rfl) rfl #[.pointer (some ⟨g, 0, none⟩), .int .i64 (gs.length : Int)] (by rfl) rfl rfl qz30 ?_
  refine (spec_l1Below.calls g s0_0 p1 h1 (gs.length : Int) j2 p2 h2 w0 _ HI.out HB.out HQ2.out).mono ?_
  rintro e w7 ⟨rfl, hi, hb, hk⟩
  refine ⟨_, rfl, ?_⟩
  replace KR := aM (KeepBut.trans KR.out hk (.inl rfl))
  replace HB := aM hb
  replace HI := aM hi
  clear hi hb hk
  refine hK.out _ _ ⟨keep_cell KR.out z8 N8.out, keep_cell KR.out z11 N11.out⟩ (fun hHeld => ?_)
  clear hK K
  refine nm_ 51 ?_
  refine pI_ 12 (bqz 22 90111) ?_
  refine sI2_ 13 ?_
  exact norm_ (by rfl) (hJ100 (.nilFunc, 0) _ ⟨hHeld, HI.out, KR.out, HB.out, trivial, trivial⟩)
  }
  {
  refine Kd.R_lit_step (Kd.int .i64) _ 3 (by rfl) (N := 57) rfl (xs := ([0, 0, 1, 2, 7] : List Int)) (inner := [.int .i64 0, .int .i64 0, .int .i64 1, .int .i64 2, .int .i64 7]) (ok := fun _ => True) (okp := fun _ => True) ?hr ?hp (fun _ hk => hk) trivial (Below.refl _ _) (Nat.le_refl _) (by simp) ?_; (case hr => exact qz9); (case hp => exact qz11)
  intro v57 w7 hs hb hg_ hn_
  obtain ⟨A57, c57, rfl⟩ := Kd.R_slice hs
  have HS := aM (Kd.R_lower hs (keep_size KR.out))
  replace KR := aM (KeepBut.trans KR.out (KeepBut.of_below hb g none) (.inl rfl))
  replace HB := aM (below_step HB.out hb)
  replace HI := aM (IsS113.below HI.out hb)
  clear hs hb hg_ hn_
  refine hK.out _ _ ⟨keep_cell KR.out z8 N8.out, keep_cell KR.out z11 N11.out⟩ (fun hHeld => ?_)
  clear hK K
  refine nm_ 57 ?_
  exact norm_ (by rfl) (hJ010 (.slice A57 5 c57, 0) _ ⟨hHeld, HI.out, KR.out, HB.out, HS.out, trivial⟩)
  }
  {
  refine box_step (by rfl) (N := 12) rfl (cs := #[.int .i64 0, .int .i64 0, .int .i64 0, .bool false, .int .i64 0]) (t := 37) ?hr ?_; (case hr => exact qz9)
  intro gb hg w7 hbx hb
  have BK := aM hbx
  have GB := aM (by rw [hg]; exact keep_size KR.out : w5.heap.size ≤ gb)
  replace KR := aM (KeepBut.trans KR.out (KeepBut.of_below hb g none) (.inl rfl))
  replace HB := aM (below_step HB.out hb)
  replace HI := aM (IsS113.below HI.out hb)
  clear hg hbx hb
  refine hK.out _ _ ⟨keep_cell KR.out z8 N8.out, keep_cell KR.out z11 N11.out⟩ (fun hHeld => ?_)
  clear hK K
  refine nm_ 12 ?_
  exact norm_ (by rfl) (hJ001 (.nilFunc, gb) _ ⟨hHeld, HI.out, KR.out, HB.out, trivial, ⟨BK.out, GB.out⟩⟩)
  }
 case rest =>
 obtain ⟨gb, rfl, BK, GB, HO7, HO8, BK4, HI, HB, HK⟩ := hcut
 clear HO7b HO8b HI9 HB9 z8 z11 N8 N11 d2' d3'
 go_upto_if 61 with (go_at_call 80; (with_reducible refine (spec_l1Once.calls g s0_0 p4 h4 5 o5 p5 h5 w0 _ HI.out HB.out HQ5.out).mono ?_); rintro e w7 ⟨rfl, hi, hb, hk⟩; replace HO7 := aM (Kd.R_mono (Kd.R_keep (IsS113.apart HI.out HO7.out (by decide)) hk (fun _ h => h.2)) (fun _ h => h.1)); replace HO8 := aM (Kd.R_mono (Kd.R_keep (IsS113.apart HI.out HO8.out (by decide)) hk (fun _ h => h.2)) (fun _ h => h.1)); replace BK4 := aM (KeepBut.blk hk BK4.out (IsS113.ne_blk HI.out BK4.out (by decide)).symm (by simp)); replace BK := aM (KeepBut.blk hk BK.out (by have := G5.out; have := GB.out; omega) (by simp)); replace HK := aM (KeepBut.trans HK.out hk (.inl rfl)); replace HB := aM hb; replace HI := aM hi; clear hi hb hk)
 go_cut [62] (fun v62 wd => Aside0 (wd.heap[gb]? = some (.cells #[.int .i64 (wrap64 ((x7.length : Int) + 1)), .int .i64 (rd x8 j1), .int .i64 gv, .bool o3, .int .i64 j4] 37 (0, 0))) ∧ Aside0 (Kd.R k37 37 wd w.heap.size (fun k_ => k_ < w5.heap.size) (.slice A7 x7.length c7) x7) ∧ Aside0 (Kd.R (Kd.int .i64) 3 wd w.heap.size (fun k_ => k_ < w5.heap.size) (.slice (some ad8) x8.length c8) x8) ∧ Aside0 (wd.heap[b4]? = some (.cells #[.int .i64 a1_0, .int .i64 a1_1, .slice A1_2 l1_2.length c1_2] 43 (0, 0))) ∧ Aside0 (IsS113 w0 wd g s0_0 p5 h5) ∧ Aside0 (Below w0.heap.size w0 wd) ∧ Aside0 (KeepBut w wd g none))
 case first =>
  cases o5 with
  | true =>
   have e_ : gv = -1 := GV.out
   have y2 := c5_2 BK.out
   have yf2 := blk_frozen BK.out 2
   go_wp2
   go_meet
   case rel =>
   have NG : g ≠ gb := by have := G5.out; have := GB.out; omega
   refine ⟨⟨by rw [e_]; exact blk_put BK.out 2 _ rfl⟩, ⟨Kd.R_far (p := ⟨gb, 2, none⟩) HO7.out (fun k_ hk => by have := GB.out; show k_ ≠ gb; omega) _⟩, ⟨Kd.R_far (p := ⟨gb, 2, none⟩) HO8.out (fun k_ hk => by have := GB.out; show k_ ≠ gb; omega) _⟩, ⟨blk_far (p := ⟨gb, 2, none⟩) BK4.out (blk_ne BK4.out BK.out (by decide)) _⟩, ⟨IsS113.far (p := ⟨gb, 2, none⟩) HI.out NG _⟩, ⟨below_set HB.out (Nat.le_trans (Nat.le_trans L0.out LW5.out) GB.out)⟩, ⟨keep_new HK.out (Nat.le_trans LW5.out GB.out) 2 _⟩⟩
  | false =>
   have e_ : gv = rd gs j2 := GV.out
   rw [← e_] at BK
   go_wp2
   go_meet
   case rel => exact ⟨BK, HO7, HO8, BK4, HI, HB, HK⟩
 case rest =>
 obtain ⟨BK, HO7, HO8, BK4, HI, HB, HK⟩ := hcut
 have y0 := c5_0 BK.out
 have y1 := c5_1 BK.out
 have y2 := c5_2 BK.out
 have y3 := c5_3 BK.out
 have y4 := c5_4 BK.out
 have L7 := aM (show (x7.length + 1) * 40 ≤ 140737488355328 by have := C3.out; omega)
 go_upto_region 12 with ((with_reducible refine gate_builtin (b := .append) (xs := #[.tmp 63, .tmp 65]) rfl ?_); at_builtin; refine Kd.R_append k37 w.heap.size rfl (.tmp 63) (.tmp 65) 26 37 (.agg #[(.int .i64 0), (.int .i64 0), (.int .i64 0), (.bool false), (.int .i64 0)]) 40 rfl Try.underlying26 info37 rfl (by decide) (by omega) (.slice A7 x7.length c7) x7 (⟨wrap64 ((x7.length : Int) + 1), rd x8 j1, gv, o3, j4⟩ : S37) [.int .i64 (wrap64 ((x7.length : Int) + 1)), .int .i64 (rd x8 j1), .int .i64 gv, .bool o3, .int .i64 j4] (fun _ => True) (fun _ => False) rfl ?aX ?aP (fun _ hk => hk.elim) ?aF ?aO (Below.refl _ _) ?aS ?aL ?_; (case aX => first | rfl | (go_simp; done)); (case aP => exact k37_mkM _ _ _ (⟨wrap64 ((x7.length : Int) + 1), rd x8 j1, gv, o3, j4⟩ : S37)); (case aF => exact qz21); (case aO => exact Kd.R_mono HO7.out (fun _ _ => trivial)); (case aS => exact keep_size HK.out); (case aL => exact L7.out); intro v9 w9 ho hb hg hat; rw [← NY.out] at ho; replace HO8 := aM (Kd.R_over' HO8.out (Kd.R_typed HO7.out) (by decide) hg); replace BK4 := aM (blk_grown BK4.out hg (Kd.R_ne HO7.out BK4.out (by decide))); replace HI := aM (IsS113.grown HI.out hg (IsS113.own_ne HI.out HO7.out (by decide))); replace HK := aM (KeepBut.trans HK.out (KeepBut.of_grown hg g) (Kd.R_base2 HO7.out)); replace HB := aM (below_weaken HB.out L0.out hb); replace HO7 := aM ho; clear ho hb hg hat y0 y1 y2 y3 y4)
 obtain ⟨A9, c9, rfl⟩ := Kd.R_slice HO7.out
 obtain ⟨ti, hti, htz⟩ := Option.map_eq_some_iff.1 info3
 simp only [Prod.mk.injEq] at htz
 have ew : 0 ≤ wrap64 (j1 + 1) ∧ wrap64 (j1 + 1) ≤ (x8.length : Int) := by have := LM.out; unfold wrap64; omega
 have hR8 := Kd.R_reads' HO8.out
 have hcut1 := cut_to (P := Try.prog) 24 3 .i64 Try.underlying24 hti (some ad8) x8.length c8 j1 e0 (by omega) hR8.2.1
 have hcut2 := cut_from (P := Try.prog) 24 3 .i64 Try.underlying24 hti 1 htz.2.1 (some ad8) x8.length c8 (wrap64 (j1 + 1)) ew.1 ew.2
 obtain ⟨AB, hAB⟩ : ∃ AB : Option Addr, AB = (if c8 = (wrap64 (j1 + 1)).toNat then some ad8 else (some ad8).map (·.add ((wrap64 (j1 + 1)).toNat * 1))) := ⟨_, rfl⟩
 rw [← hAB] at hcut2
 have NAB := aM hAB
 clear hAB
 have HO8b := aM (Kd.R_mono (Kd.R_bound HO8.out) (ok' := fun k_ => k_ < w9.heap.size) (fun k_ hk => hk.2.2.1))
 have HO7b := aM (Kd.R_mono (Kd.R_bound HO7.out) (ok' := fun k_ => k_ < w9.heap.size) (fun k_ hk => hk.2.2.1))
 have EW := aM ew
 have E0 := aM (And.intro e0 e1)
 have HC8 := aM hR8.2.1
 clear hR8 HO7 HO8 ew htz hti
 refine start_ (n := 11) (S := fun w' => True) (ds := [11]) #[false, false, false, false, false, false, false, false, false, false, false] (by kernel_rfl) rfl rfl trivial (fun hHeld => ?_); refine with_tabW spec_l7Crew.tab12 spec_l7Crew.bits12 (fun HT_ HW_ => ?_)
 have HO7 := aM (Kd.R_drew HO7b.out)
 have HO8 := aM (Kd.R_drew HO8b.out)
 replace BK4 := aM (blk_drew BK4.out)
 replace HI := aM (IsS113.drew HI.out)
 replace HB := aM (below_drew1 HB.out)
 replace HK := aM (keep_drew HK.out)
 clear HO7b HO8b
 refine pI_ 1 (bqz 11 2) ?_
 refine jI_ 2 ?_
 refine jI_ 3 ?_
 refine jI_ 5 ?_
 refine jI_ 6 ?_
 refine jI_ 7 ?_
 refine jI_ 8 ?_
 refine oI_ 0 67 (bqz 11 495) (fun K hK => ?_)
 refine Kd.R_lit_step (Kd.int .i64) _ 3 (by rfl) (N := 67) rfl (xs := ([] : List Int)) (inner := []) (ok := fun _ => True) (okp := fun _ => True) ?hr ?hp (fun _ hk => hk) trivial (Below.refl _ _) (Nat.le_refl _) (by simp) ?_; (case hr => exact qz9); (case hp => exact (Reps.none _ _))
 intro v67 wa ho hb hg_ hn_
 have HL := aM (show Kd.R (Kd.int .i64) 3 wa w9.heap.size (fun _ => True) v67 [] from ho)
 replace HO7 := aM (Kd.R_below HO7.out hb)
 replace HO8 := aM (Kd.R_below HO8.out hb)
 replace BK4 := aM (blk_below BK4.out hb)
 replace HI := aM (IsS113.below HI.out hb)
 have LW9 : Aside0 (w9.heap.size ≤ wa.heap.size) := ⟨by have h_ := hb.size; exact h_⟩
 have LWK := aM (keep_size HK.out : w.heap.size ≤ w9.heap.size)
 replace HK := aM (KeepBut.trans HK.out (KeepBut.of_below hb g none) (.inl rfl))
 replace HB := aM (below_step HB.out hb)
 clear ho hb hg_ hn_
 refine hK.out _ _ trivial (fun hHeld => ?_)
 clear hK K
 refine nm_ 67 ?_
 have el : (x8.take j1.toNat).length = j1.toNat := by have := E0.out; rw [List.length_take]; omega
 have hCA := Kd.C_take (Kd.R_reads' HO8.out).2.2 (m := j1.toNat) (by have := E0.out; omega)
 rw [el] at hCA
 have EL := aM el; clear el
 refine oI_ 4 71 (bqz 11 511) (fun K hK => ?_)
 refine Kd.R_append_rows_step (Kd.int .i64) w.heap.size (by rfl) (.tmp 67) (.tmp 70) 24 3 (.int .i64 0) 8 rfl Try.underlying24 info3 rfl (by decide) (by omega) v67 ([] : List Int) (x8.take j1.toNat) (some ad8) j1.toNat c8 (fun _ => True) (fun _ => False) (by rfl) (by rfl) (Kd.R_lower HL.out LWK.out) hCA (fun _ _ h => h) (fun _ h => h.elim) (fun _ _ => trivial) (Below.refl _ _) (keep_size HK.out) (by have := LM.out; simp only [List.length_nil, List.nil_append, List.length_take]; omega) ?_
 intro v71 wb ho hb hg hat
 replace HO7 := aM (Kd.R_grown HO7.out hg (fun k hk e => by have := Kd.R_base HL.out k e.symm; omega))
 replace HO8 := aM (Kd.R_grown HO8.out hg (fun k hk e => by have := Kd.R_base HL.out k e.symm; omega))
 replace BK4 := aM (blk_grown BK4.out hg (Kd.R_ne HL.out BK4.out (by decide)))
 replace HI := aM (IsS113.grown HI.out hg (IsS113.own_ne HI.out HL.out (by decide)))
 replace HK := aM (KeepBut.trans HK.out (KeepBut.of_grown hg g) (Kd.R_base2 (Kd.R_lower HL.out LWK.out)))
 replace HB := aM (below_weaken HB.out L0.out hb)
 have HM := aM (show Kd.R (Kd.int .i64) 3 wb w9.heap.size (fun _ => True) v71 ([] ++ x8.take j1.toNat) from R_raise HL.out hg hat LW9.out ho)
 clear ho hb hg hat hCA HL
 refine hK.out _ _ trivial (fun hHeld => ?_)
 clear hK K
 refine nm_ 71 ?_
 have el2 : (x8.drop (wrap64 (j1 + 1)).toNat).length = x8.length - (wrap64 (j1 + 1)).toNat := List.length_drop
 have hCB := Kd.C_drop (Kd.R_reads' HO8.out).2.2 (m := (wrap64 (j1 + 1)).toNat) (by have := EW.out; omega) HC8.out
 rw [el2] at hCB
 clear el2
 rw [show (if c8 = (wrap64 (j1 + 1)).toNat then some ad8 else (some ad8).map (·.add ((wrap64 (j1 + 1)).toNat * (Kd.int .i64).sz))) = AB from NAB.out.symm] at hCB
 refine oI_ 9 76 (bqz 11 1023) (fun K hK => ?_)
 refine Kd.R_append_rows_step (Kd.int .i64) w.heap.size (by rfl) (.tmp 71) (.tmp 75) 24 3 (.int .i64 0) 8 rfl Try.underlying24 info3 rfl (by decide) (by omega) v71 ([] ++ x8.take j1.toNat) (x8.drop (wrap64 (j1 + 1)).toNat) AB (x8.length - (wrap64 (j1 + 1)).toNat) (c8 - (wrap64 (j1 + 1)).toNat) (fun _ => True) (fun _ => False) (by rfl) (by rfl) (Kd.R_lower HM.out LWK.out) hCB (fun _ _ h => h) (fun _ h => h.elim) (fun _ _ => trivial) (Below.refl _ _) (keep_size HK.out) (by have := LM.out; simp only [List.length_nil, List.nil_append, List.length_take]; omega) ?_
 intro v76 wd ho hb hg hat
 replace HO7 := aM (Kd.R_grown HO7.out hg (fun k hk e => by have := Kd.R_base HM.out k e.symm; omega))
 replace HO8 := aM (Kd.R_grown HO8.out hg (fun k hk e => by have := Kd.R_base HM.out k e.symm; omega))
 replace BK4 := aM (blk_grown BK4.out hg (Kd.R_ne HM.out BK4.out (by decide)))
 replace HI := aM (IsS113.grown HI.out hg (IsS113.own_ne HI.out HM.out (by decide)))
 replace HK := aM (KeepBut.trans HK.out (KeepBut.of_grown hg g) (Kd.R_base2 (Kd.R_lower HM.out LWK.out)))
 replace HB := aM (below_weaken HB.out L0.out hb)
 have HN := aM ho
 clear ho hb hg hat hCB HM
 refine hK.out _ _ trivial (fun hHeld => ?_)
 clear hK K
 refine nm_ 76 ?_
 refine jI_ 10 ?_
 refine dN_ ?_
 clear hcut1 hcut2 hHeld
 go_wp2
 go_roundg k1
 case measure => have := HKQ.out; omega
 case rel => exact ⟨_, _, wrap64 (x9 - 1), p5, h5, rfl, H', ⟨by have := HKQ.out; omega⟩, ⟨Kd.R_mono HO7.out (fun _ _ => trivial)⟩, HN, BK4, HI, HB, HK⟩

end Go.Proofs.Ytankmdbbgepmbaa.PFnClashes
