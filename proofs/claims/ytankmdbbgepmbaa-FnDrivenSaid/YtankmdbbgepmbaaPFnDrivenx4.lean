-- Made by a program of this session out of the translation. Lean checks it.
import Derived.Test.YtankmdbbgepmbaaPFnDrivenx3
namespace Go.Proofs.Ytankmdbbgepmbaa.PFnDriven
open Go.RowKit Go.Proofs.YtankmdbbgepmbaaW.PrintWords Go.Proofs.YtankmdbbgepmbaaW.PrintLast Go.Proofs.YtankmdbbgepmbaaW.PrintMore
attribute [local go_sem] max2_int min2_int max_two min_two max_three min_three max_four min_four   -- for this text's walks alone
set_option linter.unusedVariables false
set_option linter.unusedSimpArgs false

/-! ### spec_l1Floor: function 84 -/
def spec_l1Floor.l0 : Nat → Int → List Int → Int → Int → Int → Int → List Int → Option (Int × Int × List Int × Int × Int)
 | 0, _, _, _, _, _, _, _ => none
 | k + 1, x6, x1000, x1001, x1002, x177000, x177001, x177002 => if x6 < (wrap64 (x177000 * x177001)) then ((spec_l1Int.f x1000 x1001 x1002 (([1, 1, 1, 1, 1, 1, 0, 2, 3, 4] : List Int))).bind fun bt180 => (if x177002.length < 17592186044416 then (spec_l1Floor.l0 k (wrap64 (x6 + 1)) x1000 bt180.2.1 bt180.2.2 x177000 x177001 (x177002 ++ [bt180.1])) else (none))) else (some (x177000, x177001, x177002, x1001, x1002))
def spec_l1Floor.f (k : Nat) (s0_0 : List Int) (s0_1 : Int) (s0_2 : Int) : Option (Int × Int × List Int × Int × Int) := (spec_l1Once.f s0_0 s0_1 s0_2 3).bind fun bt154 => (if bt154.1 = true then ((spec_l1Str.f s0_0 bt154.2.1 bt154.2.2 (([(⟨#[99, 46, 46, 46, 46, 46, 10, 46, 112, 112, 46, 112, 46, 10, 46, 112, 112, 46, 112, 46, 10, 46, 46, 46, 46, 46, 115, 10]⟩ : ByteArray), (⟨#[99, 46, 46, 10, 46, 46, 46, 10, 46, 46, 115, 10]⟩ : ByteArray), (⟨#[46, 46, 46, 46, 46, 10, 46, 112, 35, 112, 46, 10, 46, 46, 115, 46, 46, 10, 46, 112, 35, 112, 46, 10, 99, 46, 46, 46, 99, 10]⟩ : ByteArray), (⟨#[46, 46, 46, 35, 46, 46, 46, 10, 46, 46, 46, 46, 46, 46, 46, 10, 46, 46, 46, 35, 46, 46, 46, 10]⟩ : ByteArray), (⟨#[99, 46, 46, 46, 46, 46, 46, 46, 10, 46, 112, 46, 112, 46, 112, 46, 46, 10, 46, 46, 46, 46, 46, 46, 46, 115, 10, 46, 112, 46, 112, 46, 112, 46, 46, 10, 99, 46, 46, 46, 46, 46, 46, 115, 10]⟩ : ByteArray), (⟨#[46, 46, 10, 46, 46, 10]⟩ : ByteArray), (⟨#[99, 46, 35, 46, 115, 10, 46, 46, 35, 46, 46, 10]⟩ : ByteArray)] : List ByteArray))).bind fun bt160 => ((spec_ParseFloor.f k bt160.1).bind fun bt163 => (some (bt163.1, bt163.2.1, bt163.2.2.1, bt160.2.1, bt160.2.2)))) else ((spec_l1Below.f s0_0 bt154.2.1 bt154.2.2 7).bind fun bt170 => ((spec_l1Below.f s0_0 bt170.2.1 bt170.2.2 6).bind fun bt173 => (spec_l1Floor.l0 k 0 s0_0 bt173.2.1 bt173.2.2 (wrap64 (1 + bt170.1)) (wrap64 (1 + bt173.1)) ([] : List Int)))))
theorem spec_l1Floor.mono_l : ∀ k, (∀ y0 y1 y2 y3 y4 y5 y6, LeO (spec_l1Floor.l0 k y0 y1 y2 y3 y4 y5 y6) (spec_l1Floor.l0 (k + 1) y0 y1 y2 y3 y4 y5 y6))
 | 0 => fun _ _ _ _ _ _ _ r h => by simp [spec_l1Floor.l0] at h
 | k + 1 => by
  have ih0 := spec_l1Floor.mono_l k
  {
  intro y0 y1 y2 y3 y4 y5 y6
  unfold spec_l1Floor.l0
  have j0 := @spec_ParseFloor.mono
  exact qL
  }
theorem spec_l1Floor.mono : ∀ a0 a1 a2 k, LeO (spec_l1Floor.f k a0 a1 a2) (spec_l1Floor.f (k + 1) a0 a1 a2) := by
 intro a0 a1 a2 k
 have ih0 := spec_l1Floor.mono_l k
 unfold spec_l1Floor.f
 have j0 := @spec_ParseFloor.mono
 exact qL
def spec_l1Floor.T8 : Bool × List (List Nat × List Nat) := (true, [([], []), ([0], [0]), ([], []), ([], []), ([2, 3], [2, 3]), ([4], [4]), ([1, 5, 4], [1, 5]), ([0, 1, 2, 3, 4, 5, 6], []), ([7, 6, 6, 0, 1, 2, 3, 4, 5, 6], [6, 7])])
def spec_l1Floor.B8 : List Nat := [0, 1, 0, 0, 12, 28, 63, 127, 255]
theorem spec_l1Floor.tab8 : rtab .any (opsOf Try.f84 8) = spec_l1Floor.T8 := by kernel_rfl
theorem spec_l1Floor.bits8 : waitsOk spec_l1Floor.T8.2 spec_l1Floor.B8 = true := by kernel_rfl
set_option maxHeartbeats 8000000 in
set_option maxRecDepth 100000 in
theorem spec_l1Floor.calls (k : Nat) (g : Nat) (s0_0 : List Int) (s0_1 : Int) (s0_2 : Int) (r1 : Int) (r2 : Int) (r3 : List Int) (r4 : Int) (r5 : Int) (w0 w : World) (hI : IsS113 w0 w g s0_0 s0_1 s0_2) (hB : Below w0.heap.size w0 w) (h : spec_l1Floor.f k s0_0 s0_1 s0_2 = some (r1, r2, r3, r4, r5)) :
  Calls Try.prog 84 #[.pointer (some ⟨g, 0, none⟩)] w fun e w' => ∃ v2_ : Value, e = .returned (.agg #[.int .i64 r1, .int .i64 r2, v2_]) ∧ Kd.R (Kd.int .i64) 3 w' w.heap.size (fun _ => True) v2_ r3 ∧ IsS113 w0 w' g s0_0 r4 r5 ∧ Below w0.heap.size w0 w' ∧ KeepBut w w' g none := by
 have hu43 := Try.underlying43
 have HI0 := aM hI
 have HK := aM (KeepBut.refl w g none)
 have HL := aM hB.size
 clear hI
 have HW0 := aM hB.size
 have HB := aM hB
 clear hB
 unfold spec_l1Floor.f at h
 have H := h
 clear h
 replace H := Option.bind_eq_some_iff.mp H
 obtain ⟨⟨t154, t155, t156⟩, A20, H⟩ := H
 try dsimp only at H
 have A2 := aM A20
 clear A20
 replace H := iB_ H
 rcases H with ⟨rfl, H⟩ | ⟨rfl, H⟩
 {
 obtain ⟨y157, hy157⟩ : ∃ y_ : List ByteArray, y_ = (([(⟨#[99, 46, 46, 46, 46, 46, 10, 46, 112, 112, 46, 112, 46, 10, 46, 112, 112, 46, 112, 46, 10, 46, 46, 46, 46, 46, 115, 10]⟩ : ByteArray), (⟨#[99, 46, 46, 10, 46, 46, 46, 10, 46, 46, 115, 10]⟩ : ByteArray), (⟨#[46, 46, 46, 46, 46, 10, 46, 112, 35, 112, 46, 10, 46, 46, 115, 46, 46, 10, 46, 112, 35, 112, 46, 10, 99, 46, 46, 46, 99, 10]⟩ : ByteArray), (⟨#[46, 46, 46, 35, 46, 46, 46, 10, 46, 46, 46, 46, 46, 46, 46, 10, 46, 46, 46, 35, 46, 46, 46, 10]⟩ : ByteArray), (⟨#[99, 46, 46, 46, 46, 46, 46, 46, 10, 46, 112, 46, 112, 46, 112, 46, 46, 10, 46, 46, 46, 46, 46, 46, 46, 115, 10, 46, 112, 46, 112, 46, 112, 46, 46, 10, 99, 46, 46, 46, 46, 46, 46, 115, 10]⟩ : ByteArray), (⟨#[46, 46, 10, 46, 46, 10]⟩ : ByteArray), (⟨#[99, 46, 35, 46, 115, 10, 46, 46, 35, 46, 46, 10]⟩ : ByteArray)] : List ByteArray)) := ⟨_, rfl⟩
 replace H : ((spec_l1Str.f s0_0 t155 t156 y157).bind fun bt160 => ((spec_ParseFloor.f k bt160.1).bind fun bt163 => (some (bt163.1, bt163.2.1, bt163.2.2.1, bt160.2.1, bt160.2.2)))) = some (r1, r2, r3, r4, r5) := by first | (rw [hy157]; exact H) | exact H
 have Ny157 := aM hy157
 clear hy157
 replace H := Option.bind_eq_some_iff.mp H
 obtain ⟨⟨t160, t161, t162⟩, A40, H⟩ := H
 try dsimp only at H
 have A4 := aM A40
 clear A40
 replace H := Option.bind_eq_some_iff.mp H
 obtain ⟨⟨t163, t164, t165, t168⟩, A50, H⟩ := H
 try dsimp only at H
 have A5 := aM A50
 clear A50
 simp only [Option.some.injEq, Prod.mk.injEq] at H
 obtain ⟨rfl, rfl, rfl, rfl, rfl⟩ := H
 go_enter Try.func84, Try.ntmps84
 go_wp2_with (first | ((with_reducible refine gate_dst (N := 2) rfl ?_); refine bx_ 2 #[.int .i64 0, .int .i64 0, .slice none 0 0] 43 ?_; intro gb153 hg w6 hbox hb; replace HB := bS_ hb; have BK153 := aM (hbox); have GW153 := aM (kz_ w g hg qz2); have GE153 := aM ((Nat.le_trans HW0.out (by rw [hg]; exact (keep_size (w := w) (g := g) (row := none) qz2) : w.heap.size ≤ gb153) : w0.heap.size ≤ gb153)); replace HK := aM (KeepBut.trans qz2 (KeepBut.of_below hb g none) (.inl rfl)); have NB0_153 := aM ((by rw [hg]; exact Nat.ne_of_lt (IsS113.lt (show IsS113 w0 _ g s0_0 s0_1 s0_2 from qz4)) : g ≠ gb153)); have NB153_0 := aM ((by rw [hg]; exact Nat.ne_of_gt (IsS113.lt (show IsS113 w0 _ g s0_0 s0_1 s0_2 from qz4)) : gb153 ≠ g)); replace HI0 := aM (IsS113.below qz4 hb); clear hb hbox hg) | ((with_reducible refine gate_callee (f := 80) rfl ?_); refine goesL_ (some 8) rfl rfl Try.func80 (by kernel_rfl) rfl #[.pointer (some ⟨g, 0, none⟩), .int .i64 3] rfl qz3 ?_; (with_reducible refine (spec_l1Once.calls g s0_0 s0_1 s0_2 3 true t155 t156 w0 _ ?_ ?_ A2.out).mono ?_); exact qz4; exact qz1; rintro e w7 ⟨rfl, hi, hb, hk⟩; refine ⟨_, rfl, ?_⟩; replace BK153 := aM (KeepBut.blk hk (bk_ BK153.out) NB153_0.out (by simp)); replace HK := aM (KeepBut.trans qz2 hk (.inl rfl)); replace HB := aM (hb); replace HI0 := aM (hi); (try clear hb hk hi)) | ((with_reducible refine gate_dst (N := 11) rfl ?_); refine Kd.R_lit Kd.string _ 9 ?hg (N := 11) ?hd (xs := ([(⟨#[99, 46, 46, 46, 46, 46, 10, 46, 112, 112, 46, 112, 46, 10, 46, 112, 112, 46, 112, 46, 10, 46, 46, 46, 46, 46, 115, 10]⟩ : ByteArray), (⟨#[99, 46, 46, 10, 46, 46, 46, 10, 46, 46, 115, 10]⟩ : ByteArray), (⟨#[46, 46, 46, 46, 46, 10, 46, 112, 35, 112, 46, 10, 46, 46, 115, 46, 46, 10, 46, 112, 35, 112, 46, 10, 99, 46, 46, 46, 99, 10]⟩ : ByteArray), (⟨#[46, 46, 46, 35, 46, 46, 46, 10, 46, 46, 46, 46, 46, 46, 46, 10, 46, 46, 46, 35, 46, 46, 46, 10]⟩ : ByteArray), (⟨#[99, 46, 46, 46, 46, 46, 46, 46, 10, 46, 112, 46, 112, 46, 112, 46, 46, 10, 46, 46, 46, 46, 46, 46, 46, 115, 10, 46, 112, 46, 112, 46, 112, 46, 46, 10, 99, 46, 46, 46, 46, 46, 46, 115, 10]⟩ : ByteArray), (⟨#[46, 46, 10, 46, 46, 10]⟩ : ByteArray), (⟨#[99, 46, 35, 46, 115, 10, 46, 46, 35, 46, 46, 10]⟩ : ByteArray)] : List ByteArray)) (inner := [.string (⟨#[99, 46, 46, 46, 46, 46, 10, 46, 112, 112, 46, 112, 46, 10, 46, 112, 112, 46, 112, 46, 10, 46, 46, 46, 46, 46, 115, 10]⟩ : ByteArray), .string (⟨#[99, 46, 46, 10, 46, 46, 46, 10, 46, 46, 115, 10]⟩ : ByteArray), .string (⟨#[46, 46, 46, 46, 46, 10, 46, 112, 35, 112, 46, 10, 46, 46, 115, 46, 46, 10, 46, 112, 35, 112, 46, 10, 99, 46, 46, 46, 99, 10]⟩ : ByteArray), .string (⟨#[46, 46, 46, 35, 46, 46, 46, 10, 46, 46, 46, 46, 46, 46, 46, 10, 46, 46, 46, 35, 46, 46, 46, 10]⟩ : ByteArray), .string (⟨#[99, 46, 46, 46, 46, 46, 46, 46, 10, 46, 112, 46, 112, 46, 112, 46, 46, 10, 46, 46, 46, 46, 46, 46, 46, 115, 10, 46, 112, 46, 112, 46, 112, 46, 46, 10, 99, 46, 46, 46, 46, 46, 46, 115, 10]⟩ : ByteArray), .string (⟨#[46, 46, 10, 46, 46, 10]⟩ : ByteArray), .string (⟨#[99, 46, 35, 46, 115, 10, 46, 46, 35, 46, 46, 10]⟩ : ByteArray)]) (ok := fun _ => True) (okp := fun _ => True) ?hr ?hp (fun _ hk => hk) trivial (Below.refl _ _) (Nat.le_refl _) (by simp) ?_; (case hd => rfl); (case hg => rfl); (case hr => exact qz7); (case hp => exact (Reps.one (show Kd.M Kd.string _ _ _ (⟨#[99, 46, 46, 46, 46, 46, 10, 46, 112, 112, 46, 112, 46, 10, 46, 112, 112, 46, 112, 46, 10, 46, 46, 46, 46, 46, 115, 10]⟩ : ByteArray) [.string (⟨#[99, 46, 46, 46, 46, 46, 10, 46, 112, 112, 46, 112, 46, 10, 46, 112, 112, 46, 112, 46, 10, 46, 46, 46, 46, 46, 115, 10]⟩ : ByteArray)] from rfl) (Reps.one (show Kd.M Kd.string _ _ _ (⟨#[99, 46, 46, 10, 46, 46, 46, 10, 46, 46, 115, 10]⟩ : ByteArray) [.string (⟨#[99, 46, 46, 10, 46, 46, 46, 10, 46, 46, 115, 10]⟩ : ByteArray)] from rfl) (Reps.one (show Kd.M Kd.string _ _ _ (⟨#[46, 46, 46, 46, 46, 10, 46, 112, 35, 112, 46, 10, 46, 46, 115, 46, 46, 10, 46, 112, 35, 112, 46, 10, 99, 46, 46, 46, 99, 10]⟩ : ByteArray) [.string (⟨#[46, 46, 46, 46, 46, 10, 46, 112, 35, 112, 46, 10, 46, 46, 115, 46, 46, 10, 46, 112, 35, 112, 46, 10, 99, 46, 46, 46, 99, 10]⟩ : ByteArray)] from rfl) (Reps.one (show Kd.M Kd.string _ _ _ (⟨#[46, 46, 46, 35, 46, 46, 46, 10, 46, 46, 46, 46, 46, 46, 46, 10, 46, 46, 46, 35, 46, 46, 46, 10]⟩ : ByteArray) [.string (⟨#[46, 46, 46, 35, 46, 46, 46, 10, 46, 46, 46, 46, 46, 46, 46, 10, 46, 46, 46, 35, 46, 46, 46, 10]⟩ : ByteArray)] from rfl) (Reps.one (show Kd.M Kd.string _ _ _ (⟨#[99, 46, 46, 46, 46, 46, 46, 46, 10, 46, 112, 46, 112, 46, 112, 46, 46, 10, 46, 46, 46, 46, 46, 46, 46, 115, 10, 46, 112, 46, 112, 46, 112, 46, 46, 10, 99, 46, 46, 46, 46, 46, 46, 115, 10]⟩ : ByteArray) [.string (⟨#[99, 46, 46, 46, 46, 46, 46, 46, 10, 46, 112, 46, 112, 46, 112, 46, 46, 10, 46, 46, 46, 46, 46, 46, 46, 115, 10, 46, 112, 46, 112, 46, 112, 46, 46, 10, 99, 46, 46, 46, 46, 46, 46, 115, 10]⟩ : ByteArray)] from rfl) (Reps.one (show Kd.M Kd.string _ _ _ (⟨#[46, 46, 10, 46, 46, 10]⟩ : ByteArray) [.string (⟨#[46, 46, 10, 46, 46, 10]⟩ : ByteArray)] from rfl) (Reps.one (show Kd.M Kd.string _ _ _ (⟨#[99, 46, 35, 46, 115, 10, 46, 46, 35, 46, 46, 10]⟩ : ByteArray) [.string (⟨#[99, 46, 35, 46, 115, 10, 46, 46, 35, 46, 46, 10]⟩ : ByteArray)] from rfl) (Reps.none _ _))))))))); intro v158 w8 ho9 hb hg_ hnew_; clear hg_ hnew_; (first | rw [← Ny157.out] at ho9 | (simp only [Int.reduceToNat] at ho9; rw [← Ny157.out] at ho9)); have HO159 := aM (Kd.R_lower ho9 (keep_size (w := w) (g := g) (row := none) qz2)); replace BK153 := bB_ BK153 hb; replace HK := aM (KeepBut.trans qz2 (KeepBut.of_below hb g none) (.inl rfl)); replace HB := bS_ hb; replace HI0 := aM (IsS113.below qz4 hb); clear hb ho9; obtain ⟨Ao10, co10, eo10⟩ := Kd.R_slice HO159.out; subst eo10) | ((with_reducible refine gate_callee (f := 107) rfl ?_); refine goesL_ (some 12) rfl rfl Try.func107 (by kernel_rfl) rfl #[.pointer (some ⟨g, 0, none⟩), .slice Ao10 y157.length co10] rfl qz3 ?_; (with_reducible refine (spec_l1Str.calls g s0_0 t155 t156 _ _ y157 t160 t161 t162 w0 _ ?side1 ?side2 ?side3 ?side4 ?side5 A4.out).mono ?_); (case side1 => exact qz4); (case side2 => exact qz1); (case side3 => repeat (first | exact (Kd.R_reads' HO159.out).2.2 | (with_reducible refine Kd.C_alloc ?_ _) | (with_reducible refine Kd.C_drewN ?_ _) | (with_reducible refine Kd.C_drew ?_))); (case side4 => exact (Kd.R_reads' HO159.out).2.1); (case side5 => exact far_slice (IsS113.own_ne HI0.out HO159.out (by decide))); rintro e w11 ⟨rfl, hi, hb, hk⟩; refine ⟨_, rfl, ?_⟩; replace BK153 := aM (KeepBut.blk hk (bk_ BK153.out) NB153_0.out (by simp)); replace HO159 := aM (Kd.R_mono (Kd.R_keep (IsS113.apart (show IsS113 w0 _ g s0_0 t155 t156 from qz4) (rr_ HO159.out) (by decide)) hk (fun _ h => h.2)) (fun _ h => h.1)); replace HK := aM (KeepBut.trans qz2 hk (.inl rfl)); replace HB := aM (hb); replace HI0 := aM (hi); (try clear hb hk hi)) | ((with_reducible refine gate_callee (f := 106) rfl ?_); refine goesL_ (some 13) rfl rfl Try.func106 (by kernel_rfl) rfl #[.string t160] rfl qz3 ?_; (with_reducible refine (spec_ParseFloor.calls k t160 t163 t164 t165 t168 _ A5.out).mono ?_); rintro e w12 ⟨v166, rfl, ho0, hb⟩; refine ⟨_, rfl, ?_⟩; replace HO159 := aM (Kd.R_below (rr_ HO159.out) hb); have HO167 := aM (Kd.R_lower ho0 (keep_size (w := w) (g := g) (row := none) qz2)); replace BK153 := bB_ BK153 hb; replace HK := aM (KeepBut.trans qz2 (KeepBut.of_below hb g none) (.inl rfl)); replace HB := bS_ hb; replace HI0 := aM (IsS113.below qz4 hb); (try clear hb ho0)) | ((with_reducible refine gate_dst (N := 3) rfl ?_); refine bx_ 3 #[.int .i64 0, .int .i64 0, .slice none 0 0] 43 ?_; intro gb169 hg w13 hbox hb; replace HO159 := aM (Kd.R_below (rr_ HO159.out) hb); replace HO167 := aM (Kd.R_below (rr_ HO167.out) hb); replace HB := bS_ hb; have BK169 := aM (hbox); have GW169 := aM (kz_ w g hg qz2); have GE169 := aM ((Nat.le_trans HW0.out (by rw [hg]; exact (keep_size (w := w) (g := g) (row := none) qz2) : w.heap.size ≤ gb169) : w0.heap.size ≤ gb169)); replace HK := aM (KeepBut.trans qz2 (KeepBut.of_below hb g none) (.inl rfl)); obtain ⟨NB153_169, NB169_153⟩ := nb_ hg (bk_ BK153.out); replace BK153 := bB_ BK153 hb; have NB0_169 := aM ((by rw [hg]; exact Nat.ne_of_lt (IsS113.lt (show IsS113 w0 _ g s0_0 t161 t162 from qz4)) : g ≠ gb169)); have NB169_0 := aM ((by rw [hg]; exact Nat.ne_of_gt (IsS113.lt (show IsS113 w0 _ g s0_0 t161 t162 from qz4)) : gb169 ≠ g)); replace HI0 := aM (IsS113.below qz4 hb); clear hb hbox hg; have hnb14 := NB169_153.out; have hnc14 := NB153_169.out; have hnb15 := NB169_0.out; have hnc15 := NB0_169.out; obtain ⟨hcz16_0, hcz16_1, hcz16_2, hfz16_0, hfz16_1, hfz16_2⟩ := b6_ BK169.out; obtain ⟨Ao17, co17, eo17⟩ := Kd.R_slice HO167.out; subst eo17; have hnb18 := NB153_0.out; have hnc18 := NB0_153.out; obtain ⟨hcz19_0, hcz19_1, hcz19_2, hfz19_0, hfz19_1, hfz19_2⟩ := b6_ BK153.out))
 refine bodyPost_ret (results_cell_row rfl _ _ gb153 43 #[.int .i64 t163, .int .i64 t164, .slice Ao17 t165.length co17] (0, 0) _ rfl (by (with_reducible repeat (first | refine blk_drewN ?_ _ | refine blk_drew ?_ | refine blk_alloc ?_ _)); refine blk_put (cs := #[.int .i64 t163, .int .i64 t164, .slice none 0 0]) ?_ 2 _ rfl; (with_reducible repeat (first | refine blk_drewN ?_ _ | refine blk_drew ?_ | refine blk_alloc ?_ _)); refine blk_put (cs := #[.int .i64 t163, .int .i64 0, .slice none 0 0]) ?_ 1 _ rfl; (with_reducible repeat (first | refine blk_drewN ?_ _ | refine blk_drew ?_ | refine blk_alloc ?_ _)); refine blk_put (cs := #[.int .i64 0, .int .i64 0, .slice none 0 0]) ?_ 0 _ rfl; (with_reducible repeat (first | refine blk_drewN ?_ _ | refine blk_drew ?_ | refine blk_alloc ?_ _)); exact bk2_ BK153.out) Try.underlying43 rfl (by kernel_rfl)) rfl ?_
 exact ⟨_, qzw, by (with_reducible repeat (first | apply Kd.R_alloc | apply Kd.R_drewN | apply Kd.R_drew)); exact Kd.R_mono (Kd.R_far (p := ⟨gb153, 2, none⟩) (Kd.R_far (p := ⟨gb153, 1, none⟩) (Kd.R_far (p := ⟨gb153, 0, none⟩) (Kd.R_far (p := ⟨gb169, 2, none⟩) (Kd.R_far (p := ⟨gb169, 1, none⟩) (Kd.R_far (p := ⟨gb169, 0, none⟩) (Kd.R_types (Kd.R_types HO167.out BK169.out (by decide)) BK153.out (by decide)) (fun _ hk => hk.1.2) (.int .i64 t163)) (fun _ hk => hk.1.2) (.int .i64 t164)) (fun _ hk => hk.1.2) (.slice Ao17 t165.length co17)) (fun _ hk => hk.2) (.int .i64 t163)) (fun _ hk => hk.2) (.int .i64 t164)) (fun _ hk => hk.2) (.slice Ao17 t165.length co17)) (fun _ hk => trivial), qz4, qz1, qz2⟩
 }
 {
 replace H := Option.bind_eq_some_iff.mp H
 obtain ⟨⟨t170, t171, t172⟩, A200, H⟩ := H
 try dsimp only at H
 have A20 := aM A200
 clear A200
 replace H := Option.bind_eq_some_iff.mp H
 obtain ⟨⟨t173, t174, t175⟩, A210, H⟩ := H
 try dsimp only at H
 have A21 := aM A210
 clear A210
 have H' := aM H
 clear H
 go_enter Try.func84, Try.ntmps84
 go_wp2_with (first | ((with_reducible refine gate_dst (N := 2) rfl ?_); refine bx_ 2 #[.int .i64 0, .int .i64 0, .slice none 0 0] 43 ?_; intro gb153 hg w22 hbox hb; replace HB := bS_ hb; have BK153 := aM (hbox); have GW153 := aM (kz_ w g hg qz2); have GE153 := aM ((Nat.le_trans HW0.out (by rw [hg]; exact (keep_size (w := w) (g := g) (row := none) qz2) : w.heap.size ≤ gb153) : w0.heap.size ≤ gb153)); replace HK := aM (KeepBut.trans qz2 (KeepBut.of_below hb g none) (.inl rfl)); have NB0_153 := aM ((by rw [hg]; exact Nat.ne_of_lt (IsS113.lt (show IsS113 w0 _ g s0_0 s0_1 s0_2 from qz4)) : g ≠ gb153)); have NB153_0 := aM ((by rw [hg]; exact Nat.ne_of_gt (IsS113.lt (show IsS113 w0 _ g s0_0 s0_1 s0_2 from qz4)) : gb153 ≠ g)); replace HI0 := aM (IsS113.below qz4 hb); clear hb hbox hg) | ((with_reducible refine gate_callee (f := 80) rfl ?_); refine goesL_ (some 8) rfl rfl Try.func80 (by kernel_rfl) rfl #[.pointer (some ⟨g, 0, none⟩), .int .i64 3] rfl qz3 ?_; (with_reducible refine (spec_l1Once.calls g s0_0 s0_1 s0_2 3 false t155 t156 w0 _ ?_ ?_ A2.out).mono ?_); exact qz4; exact qz1; rintro e w23 ⟨rfl, hi, hb, hk⟩; refine ⟨_, rfl, ?_⟩; replace BK153 := aM (KeepBut.blk hk (bk_ BK153.out) NB153_0.out (by simp)); replace HK := aM (KeepBut.trans qz2 hk (.inl rfl)); replace HB := aM (hb); replace HI0 := aM (hi); (try clear hb hk hi)) | ((with_reducible refine gate_callee (f := 73) rfl ?_); refine goesL_ (some 18) rfl rfl Try.func73 (by kernel_rfl) rfl #[.pointer (some ⟨g, 0, none⟩), .int .i64 7] rfl qz3 ?_; (with_reducible refine (spec_l1Below.calls g s0_0 t155 t156 7 t170 t171 t172 w0 _ ?_ ?_ A20.out).mono ?_); exact qz4; exact qz1; rintro e w24 ⟨rfl, hi, hb, hk⟩; refine ⟨_, rfl, ?_⟩; replace BK153 := aM (KeepBut.blk hk (bk_ BK153.out) NB153_0.out (by simp)); replace HK := aM (KeepBut.trans qz2 hk (.inl rfl)); replace HB := aM (hb); replace HI0 := aM (hi); (try clear hb hk hi)) | ((with_reducible refine gate_callee (f := 73) rfl ?_); refine goesL_ (some 21) rfl rfl Try.func73 (by kernel_rfl) rfl #[.pointer (some ⟨g, 0, none⟩), .int .i64 6] rfl qz3 ?_; (with_reducible refine (spec_l1Below.calls g s0_0 t171 t172 6 t173 t174 t175 w0 _ ?_ ?_ A21.out).mono ?_); exact qz4; exact qz1; rintro e w25 ⟨rfl, hi, hb, hk⟩; refine ⟨_, rfl, ?_⟩; replace BK153 := aM (KeepBut.blk hk (bk_ BK153.out) NB153_0.out (by simp)); replace HK := aM (KeepBut.trans qz2 hk (.inl rfl)); replace HB := aM (hb); replace HI0 := aM (hi); (try clear hb hk hi)) | ((with_reducible refine gate_dst (N := 5) rfl ?_); refine bx_ 5 #[.int .i64 0, .int .i64 0, .slice none 0 0] 43 ?_; intro gb176 hg w26 hbox hb; replace HB := bS_ hb; have BK176 := aM (hbox); have GW176 := aM (kz_ w g hg qz2); have GE176 := aM ((Nat.le_trans HW0.out (by rw [hg]; exact (keep_size (w := w) (g := g) (row := none) qz2) : w.heap.size ≤ gb176) : w0.heap.size ≤ gb176)); replace HK := aM (KeepBut.trans qz2 (KeepBut.of_below hb g none) (.inl rfl)); obtain ⟨NB153_176, NB176_153⟩ := nb_ hg (bk_ BK153.out); replace BK153 := bB_ BK153 hb; have NB0_176 := aM ((by rw [hg]; exact Nat.ne_of_lt (IsS113.lt (show IsS113 w0 _ g s0_0 t174 t175 from qz4)) : g ≠ gb176)); have NB176_0 := aM ((by rw [hg]; exact Nat.ne_of_gt (IsS113.lt (show IsS113 w0 _ g s0_0 t174 t175 from qz4)) : gb176 ≠ g)); replace HI0 := aM (IsS113.below qz4 hb); clear hb hbox hg; have hnb27 := NB176_153.out; have hnc27 := NB153_176.out; have hnb28 := NB176_0.out; have hnc28 := NB0_176.out; obtain ⟨hcz29_0, hcz29_1, hcz29_2, hfz29_0, hfz29_1, hfz29_2⟩ := b6_ BK176.out))
 go_loopg [6] k (fun kq v6 w' => ∃ (x6_1 : Int) (x1001_1 : Int) (x1002_1 : Int) (x177002_1 : List Int) (u177002 : Value), v6 = .int .i64 x6_1 ∧ Aside0 (spec_l1Floor.l0 kq x6_1 s0_0 x1001_1 x1002_1 (wrap64 (1 + t170)) (wrap64 (1 + t173)) x177002_1 = some (r1, r2, r3, r4, r5)) ∧ Aside0 (kq ≤ k) ∧ Aside0 (Kd.R (Kd.int .i64) 3 w' w.heap.size (fun _ => True) u177002 x177002_1) ∧ Aside0 (w'.heap[gb153]? = some (.cells #[.int .i64 0, .int .i64 0, (.slice none 0 0)] 43 (0, 0))) ∧ Aside0 (w'.heap[gb176]? = some (.cells #[.int .i64 (wrap64 (1 + t170)), .int .i64 (wrap64 (1 + t173)), u177002] 43 (0, 0))) ∧ Aside0 (IsS113 w0 w' g s0_0 x1001_1 x1002_1) ∧ Aside0 (KeepBut w w' g none) ∧ Aside0 (Below w0.heap.size w0 w'))
 case atStart => exact ⟨(0), (t174), (t175), (([] : List Int)), (.slice none 0 0), qz5, H', ⟨Nat.le_refl _⟩, ⟨by first | exact Kd.R_nil _ _ _ _ _ | exact Kd.N_nil _ _ _ _ _ | exact Kd.V_nil _ _ _ _ _ | exact Kd.Q_nil _ _ _ _ _ | exact Kd.S_nil _ _ _ _ _⟩, ⟨by (with_reducible repeat (first | refine blk_drewN ?_ _ | refine blk_drew ?_ | refine blk_alloc ?_ _)); refine blk_far ?_ NB153_176.out _; (with_reducible repeat (first | refine blk_drewN ?_ _ | refine blk_drew ?_ | refine blk_alloc ?_ _)); refine blk_far ?_ NB153_176.out _; (with_reducible repeat (first | refine blk_drewN ?_ _ | refine blk_drew ?_ | refine blk_alloc ?_ _)); refine blk_far ?_ NB153_176.out _; exact bk_ BK153.out⟩, ⟨by (with_reducible repeat (first | refine blk_drewN ?_ _ | refine blk_drew ?_ | refine blk_alloc ?_ _)); refine blk_put (cs := #[.int .i64 (wrap64 (1 + t170)), .int .i64 (wrap64 (1 + t173)), .slice none 0 0]) ?_ 2 _ rfl; (with_reducible repeat (first | refine blk_drewN ?_ _ | refine blk_drew ?_ | refine blk_alloc ?_ _)); refine blk_put (cs := #[.int .i64 (wrap64 (1 + t170)), .int .i64 0, .slice none 0 0]) ?_ 1 _ rfl; (with_reducible repeat (first | refine blk_drewN ?_ _ | refine blk_drew ?_ | refine blk_alloc ?_ _)); refine blk_put (cs := #[.int .i64 0, .int .i64 0, .slice none 0 0]) ?_ 0 _ rfl; exact bk_ BK176.out⟩, ⟨qz4⟩, ⟨qz2⟩, ⟨qz1⟩⟩
 case round =>
 clear H'
 try clear c3
 try clear hcz29_0 hcz29_1 hcz29_2 hfz29_0 hfz29_1 hfz29_2
 obtain ⟨x6_1, x1001_1, x1002_1, x177002_1, u177002, rfl, HA, HK1, HO_177002, BK153, BK176, HI0, HK, HB⟩ := hrel
 cases gk with
 | zero => exact absurd HA.out (by simp [spec_l1Floor.l0])
 | succ k1 =>
 have H := HA.out
 clear HA
 simp only [spec_l1Floor.l0] at H
 replace H := iE_ H
 rcases H with ⟨c30b0, H⟩ | ⟨c30b0, H⟩
 {
 obtain ⟨y177, hy177⟩ : ∃ y_ : List Int, y_ = (([1, 1, 1, 1, 1, 1, 0, 2, 3, 4] : List Int)) := ⟨_, rfl⟩
 replace H : ((spec_l1Int.f s0_0 x1001_1 x1002_1 y177).bind fun bt180 => (if x177002_1.length < 17592186044416 then (spec_l1Floor.l0 k1 (wrap64 (x6_1 + 1)) s0_0 bt180.2.1 bt180.2.2 (wrap64 (1 + t170)) (wrap64 (1 + t173)) (x177002_1 ++ [bt180.1])) else (none))) = some (r1, r2, r3, r4, r5) := by first | (rw [hy177]; exact H) | exact H
 have Ny177 := aM hy177
 clear hy177
 replace H := Option.bind_eq_some_iff.mp H
 obtain ⟨⟨t180, t181, t182⟩, A310, H⟩ := H
 try dsimp only at H
 have A31 := aM A310
 clear A310
 replace H := iN_ H
 obtain ⟨c32, H⟩ := H
 have LMc32 := aM c32
 clear c32
 obtain ⟨y183, hy183⟩ : ∃ y_ : List Int, y_ = (x177002_1 ++ [t180]) := ⟨_, rfl⟩
 replace H : (spec_l1Floor.l0 k1 (wrap64 (x6_1 + 1)) s0_0 t181 t182 (wrap64 (1 + t170)) (wrap64 (1 + t173)) y183) = some (r1, r2, r3, r4, r5) := by first | (rw [hy183]; exact H) | exact H
 have Ny183 := aM hy183
 clear hy183
 have H' := aM H
 clear H
 have hnb33 := NB176_153.out
 have hnc33 := NB153_176.out
 have hnb34 := NB176_0.out
 have hnc34 := NB0_176.out
 obtain ⟨hcz35_0, hcz35_1, hcz35_2, hfz35_0, hfz35_1, hfz35_2⟩ := b6_ BK176.out
 try go_wp2
 replace HO_177002 := aM (Kd.R_drew HO_177002.out)
 replace BK153 := aM (blk_drew BK153.out)
 replace BK176 := aM (blk_drew BK176.out)
 replace HI0 := aM (IsS113.drew HI0.out)
 replace HK := aM (keep_drew HK.out)
 replace HB := aM (below_drew1 HB.out)
 refine start_ (n := 9) (S := fun w' => w'.cell? ⟨gb176, 0, none⟩ = some (.int .i64 (wrap64 (1 + t170))) ∧ w'.cell? ⟨gb176, 1, none⟩ = some (.int .i64 (wrap64 (1 + t173))) ∧ w'.cell? ⟨gb176, 2, none⟩ = some (u177002)) (ds := [8]) #[false, false, false, false, false, false, false, false, false] (by kernel_rfl) rfl rfl ⟨(blk_cell BK176.out 0).trans rfl, (blk_cell BK176.out 1).trans rfl, (blk_cell BK176.out 2).trans rfl⟩ (fun hHeld => ?_); refine with_tabW spec_l1Floor.tab8 spec_l1Floor.bits8 (fun HT_ HW_ => ?_)
 generalize wr.drew = w36 at HO_177002 BK153 BK176 HI0 HK HB hHeld ⊢
 refine pI_ 0 33 (bqz 9 1) ?_
 refine jI_ 2 35 ?_
 refine sI3_ 1 34 ?_
 refine oI_ 3 36 (bqz 9 15) (fun K hK => ?_)
 refine Kd.R_lit_step (Kd.int .i64) _ 3 ?hg (N := 36) ?hd (xs := ([1, 1, 1, 1, 1, 1, 0, 2, 3, 4] : List Int)) (inner := [.int .i64 1, .int .i64 1, .int .i64 1, .int .i64 1, .int .i64 1, .int .i64 1, .int .i64 0, .int .i64 2, .int .i64 3, .int .i64 4]) (ok := fun _ => True) (okp := fun _ => True) ?hr ?hp (fun _ hk => hk) trivial (Below.refl _ _) (Nat.le_refl _) (by simp) ?_; (case hd => rfl); (case hg => rfl); (case hr => exact qz7); (case hp => exact (Reps.one (show Kd.M (Kd.int .i64) _ _ _ 1 [.int .i64 1] from rfl) (Reps.one (show Kd.M (Kd.int .i64) _ _ _ 1 [.int .i64 1] from rfl) (Reps.one (show Kd.M (Kd.int .i64) _ _ _ 1 [.int .i64 1] from rfl) (Reps.one (show Kd.M (Kd.int .i64) _ _ _ 1 [.int .i64 1] from rfl) (Reps.one (show Kd.M (Kd.int .i64) _ _ _ 1 [.int .i64 1] from rfl) (Reps.one (show Kd.M (Kd.int .i64) _ _ _ 1 [.int .i64 1] from rfl) (Reps.one (show Kd.M (Kd.int .i64) _ _ _ 0 [.int .i64 0] from rfl) (Reps.one (show Kd.M (Kd.int .i64) _ _ _ 2 [.int .i64 2] from rfl) (Reps.one (show Kd.M (Kd.int .i64) _ _ _ 3 [.int .i64 3] from rfl) (Reps.one (show Kd.M (Kd.int .i64) _ _ _ 4 [.int .i64 4] from rfl) (Reps.none _ _))))))))))))
 intro v178 w37 ho38 hb hg_ hnew_
 clear hg_ hnew_
 (first | rw [← Ny177.out] at ho38 | (simp only [Int.reduceToNat] at ho38; rw [← Ny177.out] at ho38))
 have HO179 := aM (Kd.R_lower (Kd.R_new' ho38 (Kd.R_lt (rr_ HO_177002.out))) (keep_size (w := w) (g := g) (row := none) qz2))
 replace HO_177002 := aM (Kd.R_elder' (rr_ HO_177002.out) (Kd.R_base ho38) hb)
 replace BK153 := bB_ BK153 hb
 replace BK176 := bB_ BK176 hb
 replace HK := aM (KeepBut.trans qz2 (KeepBut.of_below hb g none) (.inl rfl))
 replace HB := bS_ hb
 replace HI0 := aM (IsS113.below qz4 hb)
 clear hb ho38
 obtain ⟨Ao39, co39, eo39⟩ := Kd.R_slice HO179.out
 (first | subst eo39 | (injection eo39 with f1_ f2_ f3_; have f4_ := f1_.symm; have f5_ := f3_.symm; clear f1_ f2_ f3_; subst f4_; subst f5_))
 refine hK.out _ _ ⟨(blk_cell BK176.out 0).trans rfl, (blk_cell BK176.out 1).trans rfl, (blk_cell BK176.out 2).trans rfl⟩ (fun hHeld => ?_)
 clear hK K
 refine nm_ 36 ?_
 refine oI_ 4 37 (bqz 9 31) (fun K hK => ?_)
 refine goes_ Try.func81 (by kernel_rfl) rfl #[.pointer (some ⟨g, 0, none⟩), .slice Ao39 y177.length co39] (by rfl) rfl rfl qz3 ?_
 with_reducible refine (spec_l1Int.calls g s0_0 x1001_1 x1002_1 _ _ y177 t180 t181 t182 w0 _ ?side1 ?side2 ?side3 ?side4 ?side5 A31.out).mono ?_
 (case side1 => exact qz4)
 (case side2 => exact qz1)
 (case side3 => repeat (first | exact (Kd.R_reads' HO179.out).2.2 | (with_reducible refine Kd.C_alloc ?_ _) | (with_reducible refine Kd.C_drewN ?_ _) | (with_reducible refine Kd.C_drew ?_)))
 (case side4 => exact (Kd.R_reads' HO179.out).2.1)
 (case side5 => exact far_slice (IsS113.own_ne HI0.out HO179.out (by decide)))
 rintro e w40 ⟨rfl, hi, hb, hk⟩
 refine ⟨_, rfl, ?_⟩
 replace HO_177002 := aM (Kd.R_mono (Kd.R_keep (IsS113.apart (show IsS113 w0 _ g s0_0 x1001_1 x1002_1 from qz4) (rr_ HO_177002.out) (by decide)) hk (fun _ h => h.2)) (fun _ h => h.1))
 replace BK153 := aM (KeepBut.blk hk (bk_ BK153.out) NB153_0.out (by simp))
 replace BK176 := aM (KeepBut.blk hk (bk_ BK176.out) NB176_0.out (by simp))
 replace HO179 := aM (Kd.R_mono (Kd.R_keep (IsS113.apart (show IsS113 w0 _ g s0_0 x1001_1 x1002_1 from qz4) (rr_ HO179.out) (by decide)) hk (fun _ h => h.2)) (fun _ h => h.1))
 replace HK := aM (KeepBut.trans qz2 hk (.inl rfl))
 replace HB := aM (hb)
 replace HI0 := aM (hi)
 (try clear hb)
 (try clear hb2)
 (try clear hk)
 (try clear hi)
 refine hK.out _ _ ⟨(blk_cell BK176.out 0).trans rfl, (blk_cell BK176.out 1).trans rfl, (blk_cell BK176.out 2).trans rfl⟩ (fun hHeld => ?_)
 clear hK K
 refine nm_ 37 ?_
 refine oI_ 5 38 (bqz 9 63) (fun K hK => ?_)
 refine value_ (w1 := ?_) (v := ?_) (by rfl) rfl ?_ ?_
 rotate_left 2
 {
 go_simp
 constructor
 {
 rfl
 }
 {
 rfl
 }
 }
 refine hK.out _ _ ⟨(blk_cell (blk_alloc BK176.out _) 0).trans rfl, (blk_cell (blk_alloc BK176.out _) 1).trans rfl, (blk_cell (blk_alloc BK176.out _) 2).trans rfl⟩ (fun hHeld => ?_)
 clear hK K
 refine nm_ 38 ?_
 refine oI_ 6 39 (bqz 9 127) (fun K hK => ?_)
 refine Kd.R_append_step (Kd.int .i64) w.heap.size (by rfl) (.tmp 34) (.tmp 38) 24 3 (.int .i64 0) 8 rfl Try.underlying24 info3 rfl (by decide) (by omega) u177002 x177002_1 t180 [.int .i64 t180] (fun k_ => some k_ ≠ (.slice Ao39 y177.length co39 : Value).ownBlock) (fun _ => False) rfl rfl ?aP (fun _ hk => hk.elim) ?aF ?aO (Below.refl _ _) ?aS ?aL ?_
 (case aP => exact rfl)
 (case aF => exact (fun k_ hk => Kd.fresh' (Kd.R_lt (rr_ HO179.out)) k_ hk))
 (case aO => exact (by (with_reducible repeat (first | apply Kd.R_alloc | apply Kd.R_drewN | apply Kd.R_drew)); exact Kd.R_mono HO_177002.out (fun _ hk => hk.2)))
 (case aS => exact (keep_size (w := w) (g := g) (row := none) qz2))
 (case aL => have := LMc32.out; omega)
 intro v184 w41 ho hb hg hat
 rw [← Ny183.out] at ho
 replace BK153 := aM (blk_grown (bk_ BK153.out) hg (Kd.R_ne HO_177002.out BK153.out (by decide)))
 replace BK176 := aM (blk_grown (bk_ BK176.out) hg (Kd.R_ne HO_177002.out BK176.out (by decide)))
 replace HO179 := aM (Kd.R_after (ok := (fun _ => True)) (rr_ HO179.out) hg hat)
 replace HB := aM (below_weaken qz1 HL.out hb)
 replace HI0 := aM (IsS113.grown qz4 hg (IsS113.own_ne HI0.out HO_177002.out (by decide)))
 replace HK := aM (KeepBut.trans qz2 (KeepBut.of_grown hg g) (Kd.R_base2 HO_177002.out))
 have HO185 := aM (ho)
 clear HO_177002 ho hb hg hat
 obtain ⟨Ao42, co42, eo42⟩ := Kd.R_slice HO185.out
 (first | subst eo42 | (injection eo42 with f1_ f2_ f3_; have f4_ := f1_.symm; have f5_ := f3_.symm; clear f1_ f2_ f3_; subst f4_; subst f5_))
 refine hK.out _ _ ⟨(blk_cell BK176.out 0).trans rfl, (blk_cell BK176.out 1).trans rfl, (blk_cell BK176.out 2).trans rfl⟩ (fun hHeld => ?_)
 clear hK K
 refine nm_ 39 ?_
 refine pI_ 7 40 (bqz 9 255) ?_
 refine last_ (i := 8) (N := none) (bqz 9 511) rfl rfl qzc (by decide) (fun K hK => ?_)
 have hs43 : w41.cell? ⟨gb176, 2, none⟩ = some (u177002) := (blk_cell BK176.out 2).trans rfl
 have hfs43 := blk_frozen BK176.out 2
 have hns43_0 := NB153_176.out
 have hms43_0 := NB176_153.out
 refine sk_ ?_
 refine hK.out _ _ ?_
 clear hK K
 refine done_ (done_of HT_.out (by kernel_rfl)) ?_
 try go_wp2
 go_roundg k1
 case measure => have := HK1.out; omega
 case rel => exact ⟨(wrap64 (x6_1 + 1)), (t181), (t182), (y183), (.slice Ao42 y183.length co42), qz5, H', ⟨by have := HK1.out; omega⟩, ⟨by (with_reducible repeat (first | apply Kd.R_alloc | apply Kd.R_drewN | apply Kd.R_drew)); exact Kd.R_mono (Kd.R_far (p := ⟨gb176, 2, none⟩) (Kd.R_types HO185.out BK176.out (by decide)) (fun _ hk => hk.2) (.slice Ao42 y183.length co42)) (fun _ hk => trivial)⟩, ⟨by (with_reducible repeat (first | refine blk_drewN ?_ _ | refine blk_drew ?_ | refine blk_alloc ?_ _)); refine blk_far ?_ NB153_176.out _; exact bk_ BK153.out⟩, ⟨by (with_reducible repeat (first | refine blk_drewN ?_ _ | refine blk_drew ?_ | refine blk_alloc ?_ _)); refine blk_put (cs := #[.int .i64 (wrap64 (1 + t170)), .int .i64 (wrap64 (1 + t173)), u177002]) ?_ 2 _ rfl; exact bk_ BK176.out⟩, ⟨qz4⟩, ⟨qz2⟩, ⟨qz1⟩⟩
 }
 {
 simp only [Option.some.injEq, Prod.mk.injEq] at H
 obtain ⟨rfl, rfl, rfl, rfl, rfl⟩ := H
 have hnb44 := NB176_153.out
 have hnc44 := NB153_176.out
 have hnb45 := NB176_0.out
 have hnc45 := NB0_176.out
 obtain ⟨hcz46_0, hcz46_1, hcz46_2, hfz46_0, hfz46_1, hfz46_2⟩ := b6_ BK176.out
 have hnb47 := NB153_0.out
 have hnc47 := NB0_153.out
 obtain ⟨hcz48_0, hcz48_1, hcz48_2, hfz48_0, hfz48_1, hfz48_2⟩ := b6_ BK153.out
 obtain ⟨Ao49, co49, eo49⟩ := Kd.R_slice HO_177002.out
 subst eo49
 go_wp2
 refine bodyPost_ret (results_cell_row rfl _ _ gb153 43 #[.int .i64 (wrap64 (1 + t170)), .int .i64 (wrap64 (1 + t173)), .slice Ao49 x177002_1.length co49] (0, 0) _ rfl (by (with_reducible repeat (first | refine blk_drewN ?_ _ | refine blk_drew ?_ | refine blk_alloc ?_ _)); refine blk_put (cs := #[.int .i64 (wrap64 (1 + t170)), .int .i64 (wrap64 (1 + t173)), .slice none 0 0]) ?_ 2 _ rfl; (with_reducible repeat (first | refine blk_drewN ?_ _ | refine blk_drew ?_ | refine blk_alloc ?_ _)); refine blk_put (cs := #[.int .i64 (wrap64 (1 + t170)), .int .i64 0, .slice none 0 0]) ?_ 1 _ rfl; (with_reducible repeat (first | refine blk_drewN ?_ _ | refine blk_drew ?_ | refine blk_alloc ?_ _)); refine blk_put (cs := #[.int .i64 0, .int .i64 0, .slice none 0 0]) ?_ 0 _ rfl; exact bk_ BK153.out) Try.underlying43 rfl (by kernel_rfl)) rfl ?_
 exact ⟨_, qzw, by (with_reducible repeat (first | apply Kd.R_alloc | apply Kd.R_drewN | apply Kd.R_drew)); exact Kd.R_mono (Kd.R_far (p := ⟨gb153, 2, none⟩) (Kd.R_far (p := ⟨gb153, 1, none⟩) (Kd.R_far (p := ⟨gb153, 0, none⟩) (Kd.R_types HO_177002.out BK153.out (by decide)) (fun _ hk => hk.2) (.int .i64 (wrap64 (1 + t170)))) (fun _ hk => hk.2) (.int .i64 (wrap64 (1 + t173)))) (fun _ hk => hk.2) (.slice Ao49 x177002_1.length co49)) (fun _ hk => trivial), qz4, qz1, qz2⟩
 }
 }
/-! ### spec_l2Free: function 108 -/
def spec_l2Free.l0 : Nat → List Int → Int → Int → Int → List Int → Option (List Int)
 | 0, _, _, _, _, _ => none
 | k + 1, x3, x4, x187000, x187001, x187002 => if x4 < (x187002.length : Int) then (if 0 ≤ x4 then (if (rd x187002 x4) = 0 then (spec_l2Free.l0 k x3 (wrap64 (x4 + 1)) x187000 x187001 x187002) else (if x3.length < 17592186044416 then (spec_l2Free.l0 k (x3 ++ [x4]) (wrap64 (x4 + 1)) x187000 x187001 x187002) else (none))) else (none)) else (some x3)
def spec_l2Free.f (k : Nat) (a0_0 : Int) (a0_1 : Int) (l0_2 : List Int) : Option (List Int) := spec_l2Free.l0 k (([] : List Int)) 0 a0_0 a0_1 l0_2
theorem spec_l2Free.mono_l : ∀ k, (∀ y0 y1 y2 y3 y4, LeO (spec_l2Free.l0 k y0 y1 y2 y3 y4) (spec_l2Free.l0 (k + 1) y0 y1 y2 y3 y4))
 | 0 => fun _ _ _ _ _ r h => by simp [spec_l2Free.l0] at h
 | k + 1 => by
  have ih0 := spec_l2Free.mono_l k
  {
  intro y0 y1 y2 y3 y4
  unfold spec_l2Free.l0
  exact qL
  }
theorem spec_l2Free.mono : ∀ a0 a1 a2 k, LeO (spec_l2Free.f k a0 a1 a2) (spec_l2Free.f (k + 1) a0 a1 a2) := by
 intro a0 a1 a2 k
 have ih0 := spec_l2Free.mono_l k
 unfold spec_l2Free.f
 exact qL
set_option maxHeartbeats 8000000 in
set_option maxRecDepth 100000 in
theorem spec_l2Free.calls (k : Nat) (a0_0 : Int) (a0_1 : Int) (A0_2 : Option Addr) (c0_2 : Nat) (l0_2 : List Int) (r : List Int) (w : World) (hr0_2 : Kd.C (Kd.int .i64) w A0_2 l0_2.length l0_2) (hc0_2 : l0_2.length ≤ c0_2) (h : spec_l2Free.f k a0_0 a0_1 l0_2 = some r) :
  Calls Try.prog 108 #[.agg #[.int .i64 a0_0, .int .i64 a0_1, .slice A0_2 l0_2.length c0_2]] w fun e w' => ∃ v0_ : Value, e = .returned (v0_) ∧ Kd.R (Kd.int .i64) 3 w' w.heap.size (fun _ => True) v0_ r ∧ Below w.heap.size w w' := by
 have hu43 := Try.underlying43
 have HR0_2 := aM hr0_2
 have HC0_2 := aM hc0_2
 clear hr0_2 hc0_2
 have HB := aM (Below.refl w.heap.size w)
 unfold spec_l2Free.f at h
 have H := h
 clear h
 obtain ⟨y187, hy187⟩ : ∃ y_ : List Int, y_ = (([] : List Int)) := ⟨_, rfl⟩
 replace H : (spec_l2Free.l0 k y187 0 a0_0 a0_1 l0_2) = some r := by first | (rw [hy187]; exact H) | exact H
 have Ny187 := aM hy187
 clear hy187
 have H' := aM H
 clear H
 go_enter Try.func108, Try.ntmps108
 go_wp2_with (first | ((with_reducible refine gate_dst (N := 1) rfl ?_); refine bx_ 1 #[.int .i64 a0_0, .int .i64 a0_1, .slice A0_2 l0_2.length c0_2] 43 ?_; intro gb186 hg w2 hbox hb; have BK186 := aM (hbox); have GW186 := aM (bz_ w hg qz1); have GE186 := GW186; replace HB := bS_ hb; clear hb hbox hg) | ((with_reducible refine gate_dst (N := 5) rfl ?_); refine Kd.R_lit (Kd.int .i64) _ 3 ?hg (N := 5) ?hd (xs := ([] : List Int)) (inner := []) (ok := fun _ => True) (okp := fun _ => True) ?hr ?hp (fun _ hk => hk) trivial (Below.refl _ _) (Nat.le_refl _) (by simp) ?_; (case hd => rfl); (case hg => rfl); (case hr => exact qz7); (case hp => exact (Reps.none _ _)); intro v188 w3 ho4 hb hg_ hnew_; clear hg_ hnew_; (first | rw [← Ny187.out] at ho4 | (simp only [Int.reduceToNat] at ho4; rw [← Ny187.out] at ho4)); have HO189 := aM (Kd.R_lower ho4 (below_size qz1)); replace BK186 := bB_ BK186 hb; replace HB := bS_ hb; clear hb ho4))
 go_loopg [3, 4] k (fun kq v3 v4 w' => ∃ (x3_1 : List Int) (x4_1 : Int), v4 = .int .i64 x4_1 ∧ Aside0 (spec_l2Free.l0 kq x3_1 x4_1 a0_0 a0_1 l0_2 = some r) ∧ Aside0 (kq ≤ k) ∧ Aside0 (Kd.R (Kd.int .i64) 3 w' w.heap.size (fun _ => True) v3 x3_1) ∧ Aside0 (w'.heap[gb186]? = some (.cells #[.int .i64 a0_0, .int .i64 a0_1, (.slice A0_2 l0_2.length c0_2)] 43 (0, 0))) ∧ Aside0 (Below w.heap.size w w'))
 case atStart => exact ⟨(y187), (0), qz5, H', ⟨Nat.le_refl _⟩, ⟨rr_ HO189.out⟩, ⟨bk_ BK186.out⟩, ⟨qz1⟩⟩
 case round =>
 clear H'
 obtain ⟨x3_1, x4_1, rfl, HA, HK1, HO_3, BK186, HB⟩ := hrel
 cases gk with
 | zero => exact absurd HA.out (by simp [spec_l2Free.l0])
 | succ k1 =>
 have H := HA.out
 clear HA
 simp only [spec_l2Free.l0] at H
 replace H := iE_ H
 rcases H with ⟨c5b0, H⟩ | ⟨c5b0, H⟩
 {
 replace H := iD_ H
 obtain ⟨c6b0, H⟩ := H
 replace H := iQ_ H
 rcases H with ⟨c7b0, c7b1, H⟩ | ⟨c7, c7b0, c7b1, H⟩
 {
 have H' := aM H
 clear H
 obtain ⟨hcz8_0, hcz8_1, hcz8_2, hfz8_0, hfz8_1, hfz8_2⟩ := b6_ BK186.out
 have p190 : (0 ≤ (x4_1 : Int)) = True := et_
 have q190 : (x4_1 < (l0_2.length : Int)) = True := et_
 obtain ⟨ad190, e190, hx190_0⟩ := Kd.at_int HR0_2.out x4_1 dt_ dt_
 cases e190
 replace hx190_0 := cB_ hx190_0
 go_wp2
 go_roundg k1
 case measure => have := HK1.out; omega
 case rel => exact ⟨(x3_1), (wrap64 (x4_1 + 1)), qz5, H', ⟨by have := HK1.out; omega⟩, ⟨rm_ HO_3.out⟩, ⟨bk_ BK186.out⟩, ⟨qz1⟩⟩
 }
 {
 replace H := iN_ H
 obtain ⟨c9, H⟩ := H
 have LMc9 := aM c9
 clear c9
 obtain ⟨y191, hy191⟩ : ∃ y_ : List Int, y_ = (x3_1 ++ [x4_1]) := ⟨_, rfl⟩
 replace H : (spec_l2Free.l0 k1 y191 (wrap64 (x4_1 + 1)) a0_0 a0_1 l0_2) = some r := by first | (rw [hy191]; exact H) | exact H
 have Ny191 := aM hy191
 clear hy191
 have H' := aM H
 clear H
 obtain ⟨hcz10_0, hcz10_1, hcz10_2, hfz10_0, hfz10_1, hfz10_2⟩ := b6_ BK186.out
 have p190 : (0 ≤ (x4_1 : Int)) = True := et_
 have q190 : (x4_1 < (l0_2.length : Int)) = True := et_
 obtain ⟨ad190, e190, hx190_0⟩ := Kd.at_int HR0_2.out x4_1 dt_ dt_
 cases e190
 replace hx190_0 := cB_ hx190_0
 go_wp2_with (first | ((with_reducible refine gate_builtin (b := .append) (xs := #[.tmp 19, .tmp 21]) rfl ?_); at_builtin; refine Kd.R_append (Kd.int .i64) (w0 := w) w.heap.size rfl (.tmp 19) (.tmp 21) 24 3 (.int .i64 0) 8 rfl Try.underlying24 info3 rfl (by decide) (by omega) u3 x3_1 x4_1 [.int .i64 x4_1] (fun _ => True) (fun _ => False) rfl rfl ?aP (fun _ hk => hk.elim) ?aF ?aO ?aB ?aS ?aL ?_; (case aP => exact rfl); (case aB => exact qz1); (case aF => exact qz18); (case aO => exact (rr_ HO_3.out)); (case aS => exact (below_size qz1)); (case aL => have := LMc9.out; omega); intro v192 w11 ho hb hg hat; rw [← Ny191.out] at ho; replace BK186 := aM (blk_grown (bk_ BK186.out) hg (Kd.R_ne HO_3.out BK186.out (by decide))); replace HB := aM (hb); have HO193 := aM (ho); clear HO_3; clear ho hb hg hat))
 go_roundg k1
 case measure => have := HK1.out; omega
 case rel => exact ⟨(y191), (wrap64 (x4_1 + 1)), qz5, H', ⟨by have := HK1.out; omega⟩, ⟨rm_ HO193.out⟩, ⟨bk_ BK186.out⟩, ⟨qz1⟩⟩
 }
 }
 {
 obtain rfl := Option.some.inj H
 obtain ⟨hcz12_0, hcz12_1, hcz12_2, hfz12_0, hfz12_1, hfz12_2⟩ := b6_ BK186.out
 go_wp2
 go_ret
 exact ⟨_, qzw, by (with_reducible repeat (first | apply Kd.R_alloc | apply Kd.R_drewN | apply Kd.R_drew)); exact HO_3.out, qz1⟩
 }
end Go.Proofs.Ytankmdbbgepmbaa.PFnDriven
