-- Made by a program of this session out of the translation. Lean checks it.
import Derived.Test.YtbebfhlejnidkaaPFnMatchedx3
namespace Go.Proofs.Ytbebfhlejnidkaa.PFnMatched
open Go.RowKit Go.Proofs.YtbebfhlejnidkaaW.PrintWords Go.Proofs.YtbebfhlejnidkaaW.PrintLast Go.Proofs.YtbebfhlejnidkaaW.PrintMore
attribute [local go_sem] max2_int min2_int max_two min_two max_three min_three max_four min_four   -- for this text's walks alone
set_option linter.unusedVariables false
set_option linter.unusedSimpArgs false

/-! ### spec_l1Below: function 68 -/
def spec_l1Below.f (s0_0 : List Int) (s0_1 : Int) (s0_2 : Int) (a1 : Int) : Option (Int × Int × Int) := if a1 ≤ 0 then (some (0, s0_1, s0_2)) else (if a1 ≤ 256 then ((spec_l1Byte.f s0_0 s0_1 s0_2).bind fun bt165 => (if a1 = 0 then (none) else (some (Int.tmod bt165.1 a1, bt165.2.1, bt165.2.2)))) else ((spec_l1Byte.f s0_0 s0_1 s0_2).bind fun bt168 => ((spec_l1Byte.f s0_0 bt168.2.1 bt168.2.2).bind fun bt171 => ((spec_l1Byte.f s0_0 bt171.2.1 bt171.2.2).bind fun bt174 => (if a1 = 0 then (none) else (some (Int.tmod (wrap64 ((wrap64 ((wrap64 (bt168.1 * 65536)) + (wrap64 (bt171.1 * 256)))) + bt174.1)) a1, bt174.2.1, bt174.2.2)))))))
set_option maxHeartbeats 8000000 in
set_option maxRecDepth 100000 in
theorem spec_l1Below.calls (g : Nat) (s0_0 : List Int) (s0_1 : Int) (s0_2 : Int) (a1 : Int) (r1 : Int) (r2 : Int) (r3 : Int) (w0 w : World) (hI : IsS77 w0 w g s0_0 s0_1 s0_2) (hB : Below w0.heap.size w0 w) (h : spec_l1Below.f s0_0 s0_1 s0_2 a1 = some (r1, r2, r3)) :
  Calls Try.prog 68 #[.pointer (some ⟨g, 0, none⟩), .int .i64 a1] w fun e w' => e = .returned (.int .i64 r1) ∧ IsS77 w0 w' g s0_0 r2 r3 ∧ Below w0.heap.size w0 w' ∧ KeepBut w w' g none := by
 have HI0 := aM hI
 have HK := aM (KeepBut.refl w g none)
 have HL := aM hB.size
 clear hI
 have HW0 := aM hB.size
 have HB := aM hB
 clear hB
 unfold spec_l1Below.f at h
 have H := h
 clear h
 replace H := iE_ H
 rcases H with ⟨c3b0, H⟩ | ⟨c3b0, H⟩
 {
 simp only [Option.some.injEq, Prod.mk.injEq] at H
 obtain ⟨rfl, rfl, rfl⟩ := H
 go_enter Try.func68, Try.ntmps68
 go_wp2
 go_ret
 exact ⟨qzw, qz5, qz1, qz2⟩
 }
 {
 replace H := iE_ H
 rcases H with ⟨c4b0, H⟩ | ⟨c4b0, H⟩
 {
 replace H := Option.bind_eq_some_iff.mp H
 obtain ⟨⟨t165, t166, t167⟩, A50, H⟩ := H
 try dsimp only at H
 have A5 := aM A50
 clear A50
 by_cases c6 : a1 = 0
 {
 exact ap_ c6 H
 }
 {
 rw [if_neg c6] at H
 have c6b0 := beq_eq_false_iff_ne.mpr c6
 have c6b1 := bne_iff_ne.mpr c6
 simp only [Option.some.injEq, Prod.mk.injEq] at H
 obtain ⟨rfl, rfl, rfl⟩ := H
 go_enter Try.func68, Try.ntmps68
 go_wp2_with (first | ((with_reducible refine gate_callee (f := 77) rfl ?_); refine goesL_ (some 13) rfl rfl Try.func77 (by kernel_rfl) rfl #[.pointer (some ⟨g, 0, none⟩)] rfl qz4 ?_; (with_reducible refine (spec_l1Byte.calls g s0_0 s0_1 s0_2 t165 t166 t167 w0 _ ?_ ?_ A5.out).mono ?_); exact qz5; exact qz1; rintro e w7 ⟨rfl, hi, hb, hk⟩; refine ⟨_, rfl, ?_⟩; replace HK := aM (KeepBut.trans qz2 hk (.inl rfl)); replace HB := aM (hb); replace HI0 := aM (hi); (try clear hb hk hi)))
 go_ret
 exact ⟨qzw, qz5, qz1, qz2⟩
 }
 }
 {
 replace H := Option.bind_eq_some_iff.mp H
 obtain ⟨⟨t168, t169, t170⟩, A80, H⟩ := H
 try dsimp only at H
 have A8 := aM A80
 clear A80
 replace H := Option.bind_eq_some_iff.mp H
 obtain ⟨⟨t171, t172, t173⟩, A90, H⟩ := H
 try dsimp only at H
 have A9 := aM A90
 clear A90
 replace H := Option.bind_eq_some_iff.mp H
 obtain ⟨⟨t174, t175, t176⟩, A100, H⟩ := H
 try dsimp only at H
 have A10 := aM A100
 clear A100
 by_cases c11 : a1 = 0
 {
 exact ap_ c11 H
 }
 {
 rw [if_neg c11] at H
 have c11b0 := beq_eq_false_iff_ne.mpr c11
 have c11b1 := bne_iff_ne.mpr c11
 simp only [Option.some.injEq, Prod.mk.injEq] at H
 obtain ⟨rfl, rfl, rfl⟩ := H
 go_enter Try.func68, Try.ntmps68
 go_wp2_with (first | ((with_reducible refine gate_callee (f := 77) rfl ?_); refine goesL_ (some 17) rfl rfl Try.func77 (by kernel_rfl) rfl #[.pointer (some ⟨g, 0, none⟩)] rfl qz4 ?_; (with_reducible refine (spec_l1Byte.calls g s0_0 s0_1 s0_2 t168 t169 t170 w0 _ ?_ ?_ A8.out).mono ?_); exact qz5; exact qz1; rintro e w12 ⟨rfl, hi, hb, hk⟩; refine ⟨_, rfl, ?_⟩; replace HK := aM (KeepBut.trans qz2 hk (.inl rfl)); replace HB := aM (hb); replace HI0 := aM (hi); (try clear hb hk hi)) | ((with_reducible refine gate_callee (f := 77) rfl ?_); refine goesL_ (some 19) rfl rfl Try.func77 (by kernel_rfl) rfl #[.pointer (some ⟨g, 0, none⟩)] rfl qz4 ?_; (with_reducible refine (spec_l1Byte.calls g s0_0 t169 t170 t171 t172 t173 w0 _ ?_ ?_ A9.out).mono ?_); exact qz5; exact qz1; rintro e w13 ⟨rfl, hi, hb, hk⟩; refine ⟨_, rfl, ?_⟩; replace HK := aM (KeepBut.trans qz2 hk (.inl rfl)); replace HB := aM (hb); replace HI0 := aM (hi); (try clear hb hk hi)) | ((with_reducible refine gate_callee (f := 77) rfl ?_); refine goesL_ (some 21) rfl rfl Try.func77 (by kernel_rfl) rfl #[.pointer (some ⟨g, 0, none⟩)] rfl qz4 ?_; (with_reducible refine (spec_l1Byte.calls g s0_0 t172 t173 t174 t175 t176 w0 _ ?_ ?_ A10.out).mono ?_); exact qz5; exact qz1; rintro e w14 ⟨rfl, hi, hb, hk⟩; refine ⟨_, rfl, ?_⟩; replace HK := aM (KeepBut.trans qz2 hk (.inl rfl)); replace HB := aM (hb); replace HI0 := aM (hi); (try clear hb hk hi)))
 go_ret
 exact ⟨qzw, qz5, qz1, qz2⟩
 }
 }
 }
/-! ### spec_l1Int: function 48 -/
def spec_l1Int.f (s0_0 : List Int) (s0_1 : Int) (s0_2 : Int) (l1 : List Int) : Option (Int × Int × Int) := (spec_l1Below.f s0_0 s0_1 s0_2 (l1.length : Int)).bind fun bt177 => (if 0 ≤ bt177.1 then (if bt177.1 < (l1.length : Int) then (some (rd l1 bt177.1, bt177.2.1, bt177.2.2)) else (none)) else (none))
set_option maxHeartbeats 8000000 in
set_option maxRecDepth 100000 in
theorem spec_l1Int.calls (g : Nat) (s0_0 : List Int) (s0_1 : Int) (s0_2 : Int) (A1 : Option Addr) (c1 : Nat) (l1 : List Int) (r1 : Int) (r2 : Int) (r3 : Int) (w0 w : World) (hI : IsS77 w0 w g s0_0 s0_1 s0_2) (hB : Below w0.heap.size w0 w) (hr1 : Kd.C (Kd.int .i64) w A1 l1.length l1) (hc1 : l1.length ≤ c1) (hf1 : ∀ ad, A1 = some ad → 0 < l1.length → ad.block ≠ g) (h : spec_l1Int.f s0_0 s0_1 s0_2 l1 = some (r1, r2, r3)) :
  Calls Try.prog 48 #[.pointer (some ⟨g, 0, none⟩), .slice A1 l1.length c1] w fun e w' => e = .returned (.int .i64 r1) ∧ IsS77 w0 w' g s0_0 r2 r3 ∧ Below w0.heap.size w0 w' ∧ KeepBut w w' g none := by
 have HR1 := aM hr1
 have HC1 := aM hc1
 clear hr1 hc1
 have HI0 := aM hI
 have HK := aM (KeepBut.refl w g none)
 have HL := aM hB.size
 clear hI
 have HW0 := aM hB.size
 have HB := aM hB
 clear hB
 unfold spec_l1Int.f at h
 have H := h
 clear h
 replace H := Option.bind_eq_some_iff.mp H
 obtain ⟨⟨t177, t178, t179⟩, A30, H⟩ := H
 try dsimp only at H
 have A3 := aM A30
 clear A30
 replace H := iD_ H
 obtain ⟨c4b0, H⟩ := H
 replace H := iD_ H
 obtain ⟨c5b0, H⟩ := H
 simp only [Option.some.injEq, Prod.mk.injEq] at H
 obtain ⟨rfl, rfl, rfl⟩ := H
 go_enter Try.func48, Try.ntmps48
 go_wp2_with (first | ((with_reducible refine gate_callee (f := 68) rfl ?_); refine goesL_ (some 9) rfl rfl Try.func68 (by kernel_rfl) rfl #[.pointer (some ⟨g, 0, none⟩), .int .i64 (l1.length : Int)] rfl qz4 ?_; (with_reducible refine (spec_l1Below.calls g s0_0 s0_1 s0_2 (l1.length : Int) t177 t178 t179 w0 _ ?_ ?_ A3.out).mono ?_); exact qz5; exact qz1; rintro e w6 ⟨rfl, hi, hb, hk⟩; refine ⟨_, rfl, ?_⟩; replace HK := aM (KeepBut.trans qz2 hk (.inl rfl)); replace HB := aM (hb); replace HI0 := aM (hi); (try clear hb hk hi); have p180 : 0 ≤ (t177 : Int) := dt_; have q180 : t177 < (l1.length : Int) := dt_; obtain ⟨ad180, e180, hx180_0⟩ := Kd.at_int HR1.out t177 p180 q180; cases e180; replace hx180_0 := keep_cell HK.out hx180_0 (by first | (rw [add_block]; exact hf1 _ rfl (by omega)) | exact hf1 _ rfl (by omega) | exact hf1 ad180 rfl (by omega)); replace p180 := eq_true p180; replace q180 := eq_true q180))
 go_ret
 exact ⟨qzw, qz5, qz1, qz2⟩
/-! ### spec_l4Draw: function 40 -/
mutual
def spec_l4Draw.l0 : Nat → Int → Int → List (List Int) → Int → List Int → Int → Int → Option ((List (List Int)) × Int × Int)
 | 0, _, _, _, _, _, _, _ => none
 | k + 1, x5, x6, x7, x8, x1000, x1001, x1002 => if x8 < x5 then (spec_l4Draw.l1 k x5 x6 x7 x8 (([] : List Int)) 0 x1000 x1001 x1002) else (some (x7, x1001, x1002))
def spec_l4Draw.l1 : Nat → Int → Int → List (List Int) → Int → List Int → Int → List Int → Int → Int → Option ((List (List Int)) × Int × Int)
 | 0, _, _, _, _, _, _, _, _, _ => none
 | k + 1, x5, x6, x7, x8, x9, x10, x1000, x1001, x1002 => if x10 < x6 then ((spec_l1Below.f x1000 x1001 x1002 20).bind fun bt193 => ((spec_l1Int.f x1000 bt193.2.1 bt193.2.2 (([0, 1, 2, 3, 5, 9, bt193.1, 100000] : List Int))).bind fun bt199 => (if x9.length < 17592186044416 then (spec_l4Draw.l1 k x5 x6 x7 x8 (x9 ++ [bt199.1]) (wrap64 (x10 + 1)) x1000 bt199.2.1 bt199.2.2) else (none)))) else (if x7.length < 5864062014805 then (spec_l4Draw.l0 k x5 x6 (x7 ++ [x9]) (wrap64 (x8 + 1)) x1000 x1001 x1002) else (none))
end
def spec_l4Draw.f (k : Nat) (s0_0 : List Int) (s0_1 : Int) (s0_2 : Int) (a1 : Int) : Option ((List (List Int)) × Int × Int) := (spec_l1Below.f s0_0 s0_1 s0_2 a1).bind fun bt181 => ((spec_l1Below.f s0_0 bt181.2.1 bt181.2.2 3).bind fun bt184 => (spec_l4Draw.l0 k bt181.1 (wrap64 (bt181.1 + bt184.1)) (([] : List (List Int))) 0 s0_0 bt184.2.1 bt184.2.2))
theorem spec_l4Draw.mono_l : ∀ k, (∀ y0 y1 y2 y3 y4 y5 y6, LeO (spec_l4Draw.l0 k y0 y1 y2 y3 y4 y5 y6) (spec_l4Draw.l0 (k + 1) y0 y1 y2 y3 y4 y5 y6)) ∧ (∀ y0 y1 y2 y3 y4 y5 y6 y7 y8, LeO (spec_l4Draw.l1 k y0 y1 y2 y3 y4 y5 y6 y7 y8) (spec_l4Draw.l1 (k + 1) y0 y1 y2 y3 y4 y5 y6 y7 y8))
 | 0 => ⟨fun _ _ _ _ _ _ _ r h => by simp [spec_l4Draw.l0] at h, fun _ _ _ _ _ _ _ _ _ r h => by simp [spec_l4Draw.l1] at h⟩
 | k + 1 => by
  obtain ⟨ih0, ih1⟩ := spec_l4Draw.mono_l k
  refine ⟨?_, ?_⟩
  {
  intro y0 y1 y2 y3 y4 y5 y6
  unfold spec_l4Draw.l0
  exact qL
  }
  {
  intro y0 y1 y2 y3 y4 y5 y6 y7 y8
  unfold spec_l4Draw.l1
  exact qL
  }
theorem spec_l4Draw.mono : ∀ a0 a1 a2 a3 k, LeO (spec_l4Draw.f k a0 a1 a2 a3) (spec_l4Draw.f (k + 1) a0 a1 a2 a3) := by
 intro a0 a1 a2 a3 k
 obtain ⟨ih0, ih1⟩ := spec_l4Draw.mono_l k
 unfold spec_l4Draw.f
 exact qL
set_option maxHeartbeats 8000000 in
set_option maxRecDepth 100000 in
theorem spec_l4Draw.calls (k : Nat) (g : Nat) (s0_0 : List Int) (s0_1 : Int) (s0_2 : Int) (a1 : Int) (r1 : List (List Int)) (r2 : Int) (r3 : Int) (w0 w : World) (hI : IsS77 w0 w g s0_0 s0_1 s0_2) (hB : Below w0.heap.size w0 w) (h : spec_l4Draw.f k s0_0 s0_1 s0_2 a1 = some (r1, r2, r3)) :
  Calls Try.prog 40 #[.pointer (some ⟨g, 0, none⟩), .int .i64 a1] w fun e w' => ∃ v0_ : Value, e = .returned (v0_) ∧ Kd.S (Kd.slice 3 (Kd.int .i64)) 24 w' w.heap.size (fun _ => True) v0_ r1 ∧ IsS77 w0 w' g s0_0 r2 r3 ∧ Below w0.heap.size w0 w' ∧ KeepBut w w' g none := by
 have HI0 := aM hI
 have HK := aM (KeepBut.refl w g none)
 have HL := aM hB.size
 clear hI
 have HW0 := aM hB.size
 have HB := aM hB
 clear hB
 unfold spec_l4Draw.f at h
 have H := h
 clear h
 replace H := Option.bind_eq_some_iff.mp H
 obtain ⟨⟨t181, t182, t183⟩, A30, H⟩ := H
 try dsimp only at H
 have A3 := aM A30
 clear A30
 replace H := Option.bind_eq_some_iff.mp H
 obtain ⟨⟨t184, t185, t186⟩, A40, H⟩ := H
 try dsimp only at H
 have A4 := aM A40
 clear A40
 obtain ⟨y187, hy187⟩ : ∃ y_ : List (List Int), y_ = (([] : List (List Int))) := ⟨_, rfl⟩
 replace H : (spec_l4Draw.l0 k t181 (wrap64 (t181 + t184)) y187 0 s0_0 t185 t186) = some (r1, r2, r3) := by first | (rw [hy187]; exact H) | exact H
 have Ny187 := aM hy187
 clear hy187
 have H' := aM H
 clear H
 go_enter Try.func40, Try.ntmps40
 go_wp2_with (first | ((with_reducible refine gate_callee (f := 68) rfl ?_); refine goesL_ (some 13) rfl rfl Try.func68 (by kernel_rfl) rfl #[.pointer (some ⟨g, 0, none⟩), .int .i64 a1] rfl qz4 ?_; (with_reducible refine (spec_l1Below.calls g s0_0 s0_1 s0_2 a1 t181 t182 t183 w0 _ ?_ ?_ A3.out).mono ?_); exact qz5; exact qz1; rintro e w5 ⟨rfl, hi, hb, hk⟩; refine ⟨_, rfl, ?_⟩; replace HK := aM (KeepBut.trans qz2 hk (.inl rfl)); replace HB := aM (hb); replace HI0 := aM (hi); (try clear hb hk hi)) | ((with_reducible refine gate_callee (f := 68) rfl ?_); refine goesL_ (some 16) rfl rfl Try.func68 (by kernel_rfl) rfl #[.pointer (some ⟨g, 0, none⟩), .int .i64 3] rfl qz4 ?_; (with_reducible refine (spec_l1Below.calls g s0_0 t182 t183 3 t184 t185 t186 w0 _ ?_ ?_ A4.out).mono ?_); exact qz5; exact qz1; rintro e w6 ⟨rfl, hi, hb, hk⟩; refine ⟨_, rfl, ?_⟩; replace HK := aM (KeepBut.trans qz2 hk (.inl rfl)); replace HB := aM (hb); replace HI0 := aM (hi); (try clear hb hk hi)) | ((with_reducible refine gate_dst (N := 18) rfl ?_); refine Kd.S_lit (Kd.slice 3 (Kd.int .i64)) _ 24 ?hg (N := 18) ?hd (xs := ([] : List (List Int))) (inner := []) (ok := fun _ => True) (okp := fun _ => True) ?hr ?hp (fun _ hk => hk) trivial (Below.refl _ _) (Nat.le_refl _) (by simp) ?_; (case hd => rfl); (case hg => rfl); (case hr => exact qz10); (case hp => exact (Reps.none _ _)); intro v188 w7 ho8 hb hg_ hnew_; clear hg_ hnew_; (first | rw [← Ny187.out] at ho8 | (simp only [Int.reduceToNat] at ho8; rw [← Ny187.out] at ho8)); have HO189 := aM (Kd.S_lower ho8 (keep_size (w := w) (g := g) (row := none) qz2)); replace HK := aM (KeepBut.trans qz2 (KeepBut.of_below hb g none) (.inl rfl)); replace HB := bS_ hb; replace HI0 := aM (IsS77.below qz5 hb); clear hb ho8))
 go_loopg [7, 8] k (fun kq v7 v8 w' => ∃ (x7_1 : List (List Int)) (x8_1 : Int) (x1001_1 : Int) (x1002_1 : Int), v8 = .int .i64 x8_1 ∧ Aside0 (spec_l4Draw.l0 kq t181 (wrap64 (t181 + t184)) x7_1 x8_1 s0_0 x1001_1 x1002_1 = some (r1, r2, r3)) ∧ Aside0 (kq ≤ k) ∧ Aside0 (Kd.S (Kd.slice 3 (Kd.int .i64)) 24 w' w.heap.size (fun _ => True) v7 x7_1) ∧ Aside0 (IsS77 w0 w' g s0_0 x1001_1 x1002_1) ∧ Aside0 (KeepBut w w' g none) ∧ Aside0 (Below w0.heap.size w0 w'))
 case atStart => exact ⟨(y187), (0), (t185), (t186), qz3, H', ⟨Nat.le_refl _⟩, ⟨rs_ HO189.out⟩, ⟨qz5⟩, ⟨qz2⟩, ⟨qz1⟩⟩
 case round =>
 clear H'
 obtain ⟨x7_1, x8_1, x1001_1, x1002_1, rfl, HA, HK1, HO_7, HI0, HK, HB⟩ := hrel
 cases gk with
 | zero => exact absurd HA.out (by simp [spec_l4Draw.l0])
 | succ k1 =>
 have H := HA.out
 clear HA
 simp only [spec_l4Draw.l0] at H
 replace H := iE_ H
 rcases H with ⟨c9b0, H⟩ | ⟨c9b0, H⟩
 {
 obtain ⟨y190, hy190⟩ : ∃ y_ : List Int, y_ = (([] : List Int)) := ⟨_, rfl⟩
 replace H : (spec_l4Draw.l1 k1 t181 (wrap64 (t181 + t184)) x7_1 x8_1 y190 0 s0_0 x1001_1 x1002_1) = some (r1, r2, r3) := by first | (rw [hy190]; exact H) | exact H
 have Ny190 := aM hy190
 clear hy190
 have H' := aM H
 clear H
 go_wp2_with (first | ((with_reducible refine gate_dst (N := 24) rfl ?_); refine Kd.R_lit (Kd.int .i64) _ 3 ?hg (N := 24) ?hd (xs := ([] : List Int)) (inner := []) (ok := fun _ => True) (okp := fun _ => True) ?hr ?hp (fun _ hk => hk) trivial (Below.refl _ _) (Nat.le_refl _) (by simp) ?_; (case hd => rfl); (case hg => rfl); (case hr => exact qz10); (case hp => exact (Reps.none _ _)); intro v191 w10 ho11 hb hg_ hnew_; clear hg_ hnew_; (first | rw [← Ny190.out] at ho11 | (simp only [Int.reduceToNat] at ho11; rw [← Ny190.out] at ho11)); replace HO_7 := aM (Kd.S_elder' (rs_ HO_7.out) (Kd.R_base ho11) hb); have HO192 := aM (Kd.R_lower ho11 (keep_size (w := w) (g := g) (row := none) qz2)); replace HK := aM (KeepBut.trans qz2 (KeepBut.of_below hb g none) (.inl rfl)); replace HB := bS_ hb; replace HI0 := aM (IsS77.below qz5 hb); clear hb ho11))
 go_loopg [9, 10] k1 (fun kq v9 v10 w' => ∃ (x9_2 : List Int) (x10_2 : Int) (x1001_2 : Int) (x1002_2 : Int), v10 = .int .i64 x10_2 ∧ Aside0 (spec_l4Draw.l1 kq t181 (wrap64 (t181 + t184)) x7_1 x8_1 x9_2 x10_2 s0_0 x1001_2 x1002_2 = some (r1, r2, r3)) ∧ Aside0 (kq ≤ k1) ∧ Aside0 (Kd.S (Kd.slice 3 (Kd.int .i64)) 24 w' w.heap.size (fun k_ => some k_ ≠ (v9 : Value).ownBlock) u7 x7_1) ∧ Aside0 (Kd.R (Kd.int .i64) 3 w' w.heap.size (fun _ => True) v9 x9_2) ∧ Aside0 (IsS77 w0 w' g s0_0 x1001_2 x1002_2) ∧ Aside0 (KeepBut w w' g none) ∧ Aside0 (Below w0.heap.size w0 w'))
 case atStart => exact ⟨(y190), (0), (x1001_1), (x1002_1), qz3, H', ⟨Nat.le_refl _⟩, ⟨by (with_reducible repeat (first | apply Kd.S_alloc | apply Kd.S_drewN | apply Kd.S_drew)); exact Kd.S_mono HO_7.out (fun _ hk => hk.2)⟩, ⟨rr_ HO192.out⟩, ⟨qz5⟩, ⟨qz2⟩, ⟨qz1⟩⟩
 case round =>
 clear H'
 try clear c9
 try clear c9b0
 obtain ⟨x9_2, x10_2, x1001_2, x1002_2, rfl, HA, HK2, HO_7, HO_9, HI0, HK, HB⟩ := hrel
 cases gk with
 | zero => exact absurd HA.out (by simp [spec_l4Draw.l1])
 | succ k2 =>
 have H := HA.out
 clear HA
 simp only [spec_l4Draw.l1] at H
 replace H := iE_ H
 rcases H with ⟨c12b0, H⟩ | ⟨c12b0, H⟩
 {
 replace H := Option.bind_eq_some_iff.mp H
 obtain ⟨⟨t193, t194, t195⟩, A130, H⟩ := H
 try dsimp only at H
 have A13 := aM A130
 clear A130
 obtain ⟨y196, hy196⟩ : ∃ y_ : List Int, y_ = (([0, 1, 2, 3, 5, 9, t193, 100000] : List Int)) := ⟨_, rfl⟩
 replace H : ((spec_l1Int.f s0_0 t194 t195 y196).bind fun bt199 => (if x9_2.length < 17592186044416 then (spec_l4Draw.l1 k2 t181 (wrap64 (t181 + t184)) x7_1 x8_1 (x9_2 ++ [bt199.1]) (wrap64 (x10_2 + 1)) s0_0 bt199.2.1 bt199.2.2) else (none))) = some (r1, r2, r3) := by first | (rw [hy196]; exact H) | exact H
 have Ny196 := aM hy196
 clear hy196
 replace H := Option.bind_eq_some_iff.mp H
 obtain ⟨⟨t199, t200, t201⟩, A140, H⟩ := H
 try dsimp only at H
 have A14 := aM A140
 clear A140
 replace H := iN_ H
 obtain ⟨c15, H⟩ := H
 have LMc15 := aM c15
 clear c15
 obtain ⟨y202, hy202⟩ : ∃ y_ : List Int, y_ = (x9_2 ++ [t199]) := ⟨_, rfl⟩
 replace H : (spec_l4Draw.l1 k2 t181 (wrap64 (t181 + t184)) x7_1 x8_1 y202 (wrap64 (x10_2 + 1)) s0_0 t200 t201) = some (r1, r2, r3) := by first | (rw [hy202]; exact H) | exact H
 have Ny202 := aM hy202
 clear hy202
 have H' := aM H
 clear H
 go_wp2_with (first | ((with_reducible refine gate_callee (f := 68) rfl ?_); refine goesL_ (some 33) rfl rfl Try.func68 (by kernel_rfl) rfl #[.pointer (some ⟨g, 0, none⟩), .int .i64 20] rfl qz4 ?_; (with_reducible refine (spec_l1Below.calls g s0_0 x1001_2 x1002_2 20 t193 t194 t195 w0 _ ?_ ?_ A13.out).mono ?_); exact qz5; exact qz1; rintro e w16 ⟨rfl, hi, hb, hk⟩; refine ⟨_, rfl, ?_⟩; replace HO_7 := aM (Kd.S_mono (Kd.S_keep (IsS77.apartS (show IsS77 w0 _ g s0_0 x1001_2 x1002_2 from qz5) (rs_ HO_7.out) (by decide)) hk (fun _ h => h.2)) (fun _ h => h.1)); replace HO_9 := aM (Kd.R_mono (Kd.R_keep (IsS77.apart (show IsS77 w0 _ g s0_0 x1001_2 x1002_2 from qz5) (rr_ HO_9.out) (by decide)) hk (fun _ h => h.2)) (fun _ h => h.1)); replace HK := aM (KeepBut.trans qz2 hk (.inl rfl)); replace HB := aM (hb); replace HI0 := aM (hi); (try clear hb hk hi)) | ((with_reducible refine gate_dst (N := 34) rfl ?_); refine Kd.R_lit (Kd.int .i64) _ 3 ?hg (N := 34) ?hd (xs := ([0, 1, 2, 3, 5, 9, t193, 100000] : List Int)) (inner := [.int .i64 0, .int .i64 1, .int .i64 2, .int .i64 3, .int .i64 5, .int .i64 9, .int .i64 t193, .int .i64 100000]) (ok := fun _ => True) (okp := fun _ => True) ?hr ?hp (fun _ hk => hk) trivial (Below.refl _ _) (Nat.le_refl _) (by simp) ?_; (case hd => rfl); (case hg => rfl); (case hr => exact qz10); (case hp => exact (Reps.one (show Kd.M (Kd.int .i64) _ _ _ 0 [.int .i64 0] from rfl) (Reps.one (show Kd.M (Kd.int .i64) _ _ _ 1 [.int .i64 1] from rfl) (Reps.one (show Kd.M (Kd.int .i64) _ _ _ 2 [.int .i64 2] from rfl) (Reps.one (show Kd.M (Kd.int .i64) _ _ _ 3 [.int .i64 3] from rfl) (Reps.one (show Kd.M (Kd.int .i64) _ _ _ 5 [.int .i64 5] from rfl) (Reps.one (show Kd.M (Kd.int .i64) _ _ _ 9 [.int .i64 9] from rfl) (Reps.one (show Kd.M (Kd.int .i64) _ _ _ t193 [.int .i64 t193] from rfl) (Reps.one (show Kd.M (Kd.int .i64) _ _ _ 100000 [.int .i64 100000] from rfl) (Reps.none _ _)))))))))); intro v197 w17 ho18 hb hg_ hnew_; clear hg_ hnew_; (first | rw [← Ny196.out] at ho18 | (simp only [Int.reduceToNat] at ho18; rw [← Ny196.out] at ho18)); replace HO_7 := aM (Kd.S_elder' (rs_ HO_7.out) (Kd.R_base ho18) hb); have HO198 := aM (Kd.R_lower (Kd.R_new' ho18 (Kd.R_lt (rr_ HO_9.out))) (keep_size (w := w) (g := g) (row := none) qz2)); replace HO_9 := aM (Kd.R_elder' (rr_ HO_9.out) (Kd.R_base ho18) hb); replace HK := aM (KeepBut.trans qz2 (KeepBut.of_below hb g none) (.inl rfl)); replace HB := bS_ hb; replace HI0 := aM (IsS77.below qz5 hb); clear hb ho18; obtain ⟨Ao19, co19, eo19⟩ := Kd.R_slice HO198.out; subst eo19) | ((with_reducible refine gate_callee (f := 48) rfl ?_); refine goesL_ (some 35) rfl rfl Try.func48 (by kernel_rfl) rfl #[.pointer (some ⟨g, 0, none⟩), .slice Ao19 y196.length co19] rfl qz4 ?_; (with_reducible refine (spec_l1Int.calls g s0_0 t194 t195 _ _ y196 t199 t200 t201 w0 _ ?side1 ?side2 ?side3 ?side4 ?side5 A14.out).mono ?_); (case side1 => exact qz5); (case side2 => exact qz1); (case side3 => repeat (first | exact (Kd.R_reads' HO198.out).2.2 | (with_reducible refine Kd.C_alloc ?_ _) | (with_reducible refine Kd.C_drewN ?_ _) | (with_reducible refine Kd.C_drew ?_))); (case side4 => exact (Kd.R_reads' HO198.out).2.1); (case side5 => exact far_slice (IsS77.own_ne HI0.out HO198.out (by decide))); rintro e w20 ⟨rfl, hi, hb, hk⟩; refine ⟨_, rfl, ?_⟩; replace HO_7 := aM (Kd.S_mono (Kd.S_keep (IsS77.apartS (show IsS77 w0 _ g s0_0 t194 t195 from qz5) (rs_ HO_7.out) (by decide)) hk (fun _ h => h.2)) (fun _ h => h.1)); replace HO_9 := aM (Kd.R_mono (Kd.R_keep (IsS77.apart (show IsS77 w0 _ g s0_0 t194 t195 from qz5) (rr_ HO_9.out) (by decide)) hk (fun _ h => h.2)) (fun _ h => h.1)); replace HO198 := aM (Kd.R_mono (Kd.R_keep (IsS77.apart (show IsS77 w0 _ g s0_0 t194 t195 from qz5) (rr_ HO198.out) (by decide)) hk (fun _ h => h.2)) (fun _ h => h.1)); replace HK := aM (KeepBut.trans qz2 hk (.inl rfl)); replace HB := aM (hb); replace HI0 := aM (hi); (try clear hb hk hi)) | ((with_reducible refine gate_builtin (b := .append) (xs := #[.tmp 30, .tmp 36]) rfl ?_); at_builtin; refine Kd.R_append (Kd.int .i64) w.heap.size rfl (.tmp 30) (.tmp 36) 24 3 (.int .i64 0) 8 rfl Try.underlying24 info3 rfl (by decide) (by omega) u9 x9_2 t199 [.int .i64 t199] (fun k_ => some k_ ≠ (.slice Ao19 y196.length co19 : Value).ownBlock) (fun _ => False) rfl rfl ?aP (fun _ hk => hk.elim) ?aF ?aO (Below.refl _ _) ?aS ?aL ?_; (case aP => exact rfl); (case aF => exact (fun k_ hk => Kd.fresh' (Kd.R_lt (rr_ HO198.out)) k_ hk)); (case aO => exact (by (with_reducible repeat (first | apply Kd.R_alloc | apply Kd.R_drewN | apply Kd.R_drew)); exact Kd.R_mono HO_9.out (fun _ hk => hk.2))); (case aS => exact (keep_size (w := w) (g := g) (row := none) qz2)); (case aL => have := LMc15.out; omega); intro v203 w21 ho hb hg hat; rw [← Ny202.out] at ho; replace HO_7 := aM (Kd.S_after (ok := (fun k_ => some k_ ≠ (.slice Ao19 y196.length co19 : Value).ownBlock)) (by (with_reducible repeat (first | apply Kd.S_alloc | apply Kd.S_drewN | apply Kd.S_drew)); exact Kd.S_mono HO_7.out (fun _ hk => ⟨hk.2, hk.1⟩)) hg hat); replace HO198 := aM (Kd.R_after (ok := (fun _ => True)) (rr_ HO198.out) hg hat); replace HB := aM (below_weaken qz1 HL.out hb); replace HI0 := aM (IsS77.grown qz5 hg (IsS77.own_ne HI0.out HO_9.out (by decide))); replace HK := aM (KeepBut.trans qz2 (KeepBut.of_grown hg g) (Kd.R_base2 HO_9.out)); have HO204 := aM (ho); clear HO_9; clear ho hb hg hat))
 go_roundg k2
 case measure => have := HK1.out; have := HK2.out; omega
 case rel => exact ⟨(y202), (wrap64 (x10_2 + 1)), (t200), (t201), qz3, H', ⟨by have := HK1.out; have := HK2.out; omega⟩, ⟨by (with_reducible repeat (first | apply Kd.S_alloc | apply Kd.S_drewN | apply Kd.S_drew)); exact Kd.S_mono HO_7.out (fun _ hk => hk.2)⟩, ⟨by (with_reducible repeat (first | apply Kd.R_alloc | apply Kd.R_drewN | apply Kd.R_drew)); exact Kd.R_mono HO204.out (fun _ hk => trivial)⟩, ⟨qz5⟩, ⟨qz2⟩, ⟨qz1⟩⟩
 }
 {
 replace H := iN_ H
 obtain ⟨c22, H⟩ := H
 have LMc22 := aM c22
 clear c22
 obtain ⟨y205, hy205⟩ : ∃ y_ : List (List Int), y_ = (x7_1 ++ [x9_2]) := ⟨_, rfl⟩
 replace H : (spec_l4Draw.l0 k2 t181 (wrap64 (t181 + t184)) y205 (wrap64 (x8_1 + 1)) s0_0 x1001_2 x1002_2) = some (r1, r2, r3) := by first | (rw [hy205]; exact H) | exact H
 have Ny205 := aM hy205
 clear hy205
 have H' := aM H
 clear H
 obtain ⟨Ao24, co24, eo24⟩ := Kd.R_slice HO_9.out
 subst eo24
 go_wp2_with (first | ((with_reducible refine gate_builtin (b := .append) (xs := #[.tmp 38, .tmp 40]) rfl ?_); at_builtin; refine Kd.S_append (Kd.slice 3 (Kd.int .i64)) w.heap.size rfl (.tmp 38) (.tmp 40) 22 24 (.slice none 0 0) 24 rfl Try.underlying22 info24 rfl (by decide) (by omega) u7 x7_1 x9_2 [.slice Ao24 x9_2.length co24] (fun _ => True) (fun k_ => some k_ = (.slice Ao24 x9_2.length co24 : Value).ownBlock) rfl rfl ?aP (fun k_ hk_ => ((Kd.R_mono (ok' := fun k_ => ((fun _ => True)) k_ ∧ some k_ ≠ (u7 : Value).ownBlock) (Kd.R_apart' (HO_9.out) (Kd.S_typed HO_7.out) (by decide)) (fun k_ hk => ⟨trivial, hk.2⟩))).1 k_ hk_.symm) ?aF ?aO (Below.refl _ _) ?aS ?aL ?_; (case aP => exact Kd.M_row (Kd.R_mono (Kd.R_tight rfl (Kd.R_mono (ok' := fun k_ => ((fun _ => True)) k_ ∧ some k_ ≠ (u7 : Value).ownBlock) (Kd.R_apart' (HO_9.out) (Kd.S_typed HO_7.out) (by decide)) (fun k_ hk => ⟨trivial, hk.2⟩))) (fun _ h_ => h_))); (case aF => exact (fun _ _ => trivial)); (case aO => exact (by (with_reducible repeat (first | apply Kd.S_alloc | apply Kd.S_drewN | apply Kd.S_drew)); exact Kd.S_mono HO_7.out (fun k_ hk => ⟨trivial, fun e_ => hk e_⟩))); (case aS => exact (keep_size (w := w) (g := g) (row := none) qz2)); (case aL => have := LMc22.out; omega); intro v206 w23 ho hb hg hat; rw [← Ny205.out] at ho; replace HB := aM (below_weaken qz1 HL.out hb); replace HI0 := aM (IsS77.grown qz5 hg (IsS77.own_neS HI0.out HO_7.out (by decide))); replace HK := aM (KeepBut.trans qz2 (KeepBut.of_grown hg g) (Kd.S_base2 HO_7.out)); have HO207 := aM (ho); clear HO_7 HO_9; clear ho hb hg hat))
 go_roundg k2
 case measure => have := HK1.out; have := HK2.out; omega
 case rel => exact ⟨(y205), (wrap64 (x8_1 + 1)), (x1001_2), (x1002_2), qz3, H', ⟨by have := HK1.out; have := HK2.out; omega⟩, ⟨rm_ HO207.out⟩, ⟨qz5⟩, ⟨qz2⟩, ⟨qz1⟩⟩
 }
 }
 {
 simp only [Option.some.injEq, Prod.mk.injEq] at H
 obtain ⟨rfl, rfl, rfl⟩ := H
 go_wp2
 go_ret
 exact ⟨_, qzw, by (with_reducible repeat (first | apply Kd.S_alloc | apply Kd.S_drewN | apply Kd.S_drew)); exact HO_7.out, qz5, qz1, qz2⟩
 }
end Go.Proofs.Ytbebfhlejnidkaa.PFnMatched
