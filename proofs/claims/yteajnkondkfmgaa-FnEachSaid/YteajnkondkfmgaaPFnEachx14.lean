-- Made by a program of this session out of the translation. Lean checks it.
import Derived.Test.YteajnkondkfmgaaPFnEachx7
namespace Go.Proofs.Yteajnkondkfmgaa.PFnEach
open Go.RowKit Go.Proofs.YteajnkondkfmgaaW.PrintWords Go.Proofs.YteajnkondkfmgaaW.PrintLast Go.Proofs.YteajnkondkfmgaaW.PrintMore
attribute [local go_sem] max2_int min2_int max_two min_two max_three min_three max_four min_four   -- for this text's walks alone
set_option linter.unusedVariables false
set_option linter.unusedSimpArgs false

/-! ### spec_l1Byte: function 109 -/
def spec_l1Byte.f (s0_0 : List Int) (s0_1 : Int) (s0_2 : Int) : Option (Int × Int × Int) := if s0_1 < (s0_0.length : Int) then (if 0 ≤ s0_1 then (some (Go.bits .and .i64 (wrap64 ((Go.bits .and .i64 (Go.bits .xor .i64 ((wrap64 ((wrap64 (s0_2 * 6364136223846793005)) + 1442695040888963407)) / 8589934592) ((wrap64 ((wrap64 (s0_2 * 6364136223846793005)) + 1442695040888963407)) / 140737488355328)) 255) + (wrap64 (rd s0_0 s0_1)))) 255, wrap64 (s0_1 + 1), wrap64 ((wrap64 (s0_2 * 6364136223846793005)) + 1442695040888963407))) else (none)) else (some (Go.bits .and .i64 (Go.bits .xor .i64 ((wrap64 ((wrap64 (s0_2 * 6364136223846793005)) + 1442695040888963407)) / 8589934592) ((wrap64 ((wrap64 (s0_2 * 6364136223846793005)) + 1442695040888963407)) / 140737488355328)) 255, s0_1, wrap64 ((wrap64 (s0_2 * 6364136223846793005)) + 1442695040888963407)))
set_option maxHeartbeats 8000000 in
set_option maxRecDepth 100000 in
theorem spec_l1Byte.calls (g : Nat) (s0_0 : List Int) (s0_1 : Int) (s0_2 : Int) (r1 : Int) (r2 : Int) (r3 : Int) (w0 w : World) (hI : IsS122 w0 w g s0_0 s0_1 s0_2) (hB : Below w0.heap.size w0 w) (h : spec_l1Byte.f s0_0 s0_1 s0_2 = some (r1, r2, r3)) :
  Calls Try.prog 109 #[.pointer (some ⟨g, 0, none⟩)] w fun e w' => e = .returned (.int .i64 r1) ∧ IsS122 w0 w' g s0_0 r2 r3 ∧ Below w0.heap.size w0 w' ∧ KeepBut w w' g none := by
 have HI0 := aM hI
 have HK := aM (KeepBut.refl w g none)
 have HL := aM hB.size
 clear hI
 have HW0 := aM hB.size
 have HB := aM hB
 clear hB
 have H : (if s0_1 < (s0_0.length : Int) then (if 0 ≤ s0_1 then (some (Go.bits .and .i64 (wrap64 ((Go.bits .and .i64 (Go.bits .xor .i64 ((wrap64 ((wrap64 (s0_2 * 6364136223846793005)) + 1442695040888963407)) / 8589934592) ((wrap64 ((wrap64 (s0_2 * 6364136223846793005)) + 1442695040888963407)) / 140737488355328)) 255) + (wrap64 (rd s0_0 s0_1)))) 255, wrap64 (s0_1 + 1), wrap64 ((wrap64 (s0_2 * 6364136223846793005)) + 1442695040888963407))) else (none)) else (some (Go.bits .and .i64 (Go.bits .xor .i64 ((wrap64 ((wrap64 (s0_2 * 6364136223846793005)) + 1442695040888963407)) / 8589934592) ((wrap64 ((wrap64 (s0_2 * 6364136223846793005)) + 1442695040888963407)) / 140737488355328)) 255, s0_1, wrap64 ((wrap64 (s0_2 * 6364136223846793005)) + 1442695040888963407)))) = some (r1, r2, r3) := h
 clear h
 by_cases c2 : s0_1 < (s0_0.length : Int)
 {
 rw [if_pos c2] at H
 have c2b0 := decide_eq_true c2
 clear c2
 by_cases c3 : 0 ≤ s0_1
 {
 rw [if_pos c3] at H
 have c3b0 := decide_eq_true c3
 clear c3
 simp only [Option.some.injEq, Prod.mk.injEq] at H
 obtain ⟨rfl, rfl, rfl⟩ := H
 obtain ⟨ASz4_0, cSz4_0, HGz4, hgz4, HSz4_0⟩ := HI0.out
 have hcz4_0 := cellS122_0 HGz4
 have hcz4_1 := cellS122_1 HGz4
 have hcz4_2 := cellS122_2 HGz4
 have hfz4_1 := blk_frozen HGz4 1
 have hfz4_2 := blk_frozen HGz4 2
 clear HGz4 hgz4
 have p252 : 0 ≤ (s0_1 : Int) := dt_
 have q252 : s0_1 < (s0_0.length : Int) := dt_
 obtain ⟨ad252, e252, hx252_0⟩ := Kd.at_int HSz4_0 s0_1 p252 q252
 cases e252
 have hn252_0 : ad252.block ≠ g := Nat.ne_of_lt (Nat.lt_of_lt_of_le (by have := World.block_lt_of_cell? _ _ hx252_0; first | rwa [add_block] at this | exact this) (IsS122.ge HI0.out))
 replace hx252_0 := cB_ hx252_0
 replace hx252_0 := (cell_far (p := ⟨g, 2, none⟩) (by first | (rw [add_block]; exact hn252_0) | (show (Addr.add _ _).block ≠ _; rw [add_block]; exact hn252_0) | exact hn252_0) (.int .i64 (wrap64 ((wrap64 (s0_2 * 6364136223846793005)) + 1442695040888963407)))).trans hx252_0
 (try have hy252_0 := fun (n_ : Nat) => (show (((w.drewN n_).setCell ⟨g, 2, none⟩ (.int .i64 (wrap64 ((wrap64 (s0_2 * 6364136223846793005)) + 1442695040888963407))))).cell? _ = some _ from hx252_0))
 clear hn252_0
 replace p252 := eq_true p252
 replace q252 := eq_true q252
 go_enter Try.func109, Try.ntmps109
 go_wp2
 repeat (go_quiet (fail); try go_wp2)
 go_ret
 exact ⟨qzw, qz3, qz1, qz2⟩
 }
 {
 exact an_ c3 H
 }
 }
 {
 rw [if_neg c2] at H
 have c2b0 := decide_eq_false c2
 clear c2
 simp only [Option.some.injEq, Prod.mk.injEq] at H
 obtain ⟨rfl, rfl, rfl⟩ := H
 obtain ⟨ASz5_0, cSz5_0, HGz5, hgz5, HSz5_0⟩ := HI0.out
 have hcz5_0 := cellS122_0 HGz5
 have hcz5_1 := cellS122_1 HGz5
 have hcz5_2 := cellS122_2 HGz5
 have hfz5_1 := blk_frozen HGz5 1
 have hfz5_2 := blk_frozen HGz5 2
 clear HGz5 hgz5
 go_enter Try.func109, Try.ntmps109
 go_wp2
 repeat (go_quiet (fail); try go_wp2)
 go_ret
 exact ⟨qzw, qz3, qz1, qz2⟩

 }
/-! ### spec_l1Below: function 105 -/
def spec_l1Below.f (s0_0 : List Int) (s0_1 : Int) (s0_2 : Int) (a1 : Int) : Option (Int × Int × Int) := if a1 ≤ 0 then (some (0, s0_1, s0_2)) else (if a1 ≤ 256 then ((spec_l1Byte.f s0_0 s0_1 s0_2).bind fun bt253 => (if a1 = 0 then (none) else (some (Int.tmod bt253.1 a1, bt253.2.1, bt253.2.2)))) else ((spec_l1Byte.f s0_0 s0_1 s0_2).bind fun bt256 => ((spec_l1Byte.f s0_0 bt256.2.1 bt256.2.2).bind fun bt259 => ((spec_l1Byte.f s0_0 bt259.2.1 bt259.2.2).bind fun bt262 => (if a1 = 0 then (none) else (some (Int.tmod (wrap64 ((wrap64 ((wrap64 (bt256.1 * 65536)) + (wrap64 (bt259.1 * 256)))) + bt262.1)) a1, bt262.2.1, bt262.2.2)))))))
set_option maxHeartbeats 8000000 in
set_option maxRecDepth 100000 in
theorem spec_l1Below.calls (g : Nat) (s0_0 : List Int) (s0_1 : Int) (s0_2 : Int) (a1 : Int) (r1 : Int) (r2 : Int) (r3 : Int) (w0 w : World) (hI : IsS122 w0 w g s0_0 s0_1 s0_2) (hB : Below w0.heap.size w0 w) (h : spec_l1Below.f s0_0 s0_1 s0_2 a1 = some (r1, r2, r3)) :
  Calls Try.prog 105 #[.pointer (some ⟨g, 0, none⟩), .int .i64 a1] w fun e w' => e = .returned (.int .i64 r1) ∧ IsS122 w0 w' g s0_0 r2 r3 ∧ Below w0.heap.size w0 w' ∧ KeepBut w w' g none := by
 have HI0 := aM hI
 have HK := aM (KeepBut.refl w g none)
 have HL := aM hB.size
 clear hI
 have HW0 := aM hB.size
 have HB := aM hB
 clear hB
 have H : (if a1 ≤ 0 then (some (0, s0_1, s0_2)) else (if a1 ≤ 256 then ((spec_l1Byte.f s0_0 s0_1 s0_2).bind fun bt253 => (if a1 = 0 then (none) else (some (Int.tmod bt253.1 a1, bt253.2.1, bt253.2.2)))) else ((spec_l1Byte.f s0_0 s0_1 s0_2).bind fun bt256 => ((spec_l1Byte.f s0_0 bt256.2.1 bt256.2.2).bind fun bt259 => ((spec_l1Byte.f s0_0 bt259.2.1 bt259.2.2).bind fun bt262 => (if a1 = 0 then (none) else (some (Int.tmod (wrap64 ((wrap64 ((wrap64 (bt256.1 * 65536)) + (wrap64 (bt259.1 * 256)))) + bt262.1)) a1, bt262.2.1, bt262.2.2)))))))) = some (r1, r2, r3) := h
 clear h
 by_cases c3 : a1 ≤ 0
 {
 rw [if_pos c3] at H
 have c3b0 := decide_eq_true c3
 clear c3
 simp only [Option.some.injEq, Prod.mk.injEq] at H
 obtain ⟨rfl, rfl, rfl⟩ := H
 go_enter Try.func105, Try.ntmps105
 go_wp2
 go_ret
 exact ⟨qzw, qz3, qz1, qz2⟩
 }
 {
 rw [if_neg c3] at H
 have c3b0 := decide_eq_false c3
 clear c3
 by_cases c4 : a1 ≤ 256
 {
 rw [if_pos c4] at H
 have c4b0 := decide_eq_true c4
 clear c4
 replace H := Option.bind_eq_some_iff.mp H
 obtain ⟨⟨t253, t254, t255⟩, A50, H⟩ := H
 replace H : (if a1 = 0 then (none) else (some (Int.tmod t253 a1, t254, t255))) = some (r1, r2, r3) := H
 have A5 := aM A50
 clear A50
 by_cases c6 : a1 = 0
 {
 exact ap_ c6 H
 }
 {
 rw [if_neg c6] at H
 have c6b0 := beq_eq_false_iff_ne.mpr c6
 have c6b1 := bne_iff_ne.mpr c6
 simp only [Option.some.injEq, Prod.mk.injEq] at H
 obtain ⟨rfl, rfl, rfl⟩ := H
 go_enter Try.func105, Try.ntmps105
 go_wp2_with (first | ((with_reducible refine gate_callee (f := 109) rfl ?_); refine goesL_ (some 13) rfl rfl Try.func109 (by kernel_rfl) rfl #[.pointer (some ⟨g, 0, none⟩)] rfl qz4 ?_; (with_reducible refine (spec_l1Byte.calls g s0_0 s0_1 s0_2 t253 t254 t255 w0 _ ?side1 ?side2 A5.out).mono ?_); (case side1 => exact qz3); (case side2 => exact qz1); rintro e w7 ⟨rfl, hi, hb, hk⟩; refine ⟨_, rfl, ?_⟩; replace HK := aM (KeepBut.trans qz2 hk (.inl rfl)); replace HB := aM (hb); replace HI0 := aM (hi); (try clear hb hk hi)))
 go_ret
 exact ⟨qzw, qz3, qz1, qz2⟩
 }
 }
 {
 rw [if_neg c4] at H
 have c4b0 := decide_eq_false c4
 clear c4
 replace H := Option.bind_eq_some_iff.mp H
 obtain ⟨⟨t256, t257, t258⟩, A80, H⟩ := H
 replace H : ((spec_l1Byte.f s0_0 t257 t258).bind fun bt259 => ((spec_l1Byte.f s0_0 bt259.2.1 bt259.2.2).bind fun bt262 => (if a1 = 0 then (none) else (some (Int.tmod (wrap64 ((wrap64 ((wrap64 (t256 * 65536)) + (wrap64 (bt259.1 * 256)))) + bt262.1)) a1, bt262.2.1, bt262.2.2))))) = some (r1, r2, r3) := H
 have A8 := aM A80
 clear A80
 replace H := Option.bind_eq_some_iff.mp H
 obtain ⟨⟨t259, t260, t261⟩, A90, H⟩ := H
 replace H : ((spec_l1Byte.f s0_0 t260 t261).bind fun bt262 => (if a1 = 0 then (none) else (some (Int.tmod (wrap64 ((wrap64 ((wrap64 (t256 * 65536)) + (wrap64 (t259 * 256)))) + bt262.1)) a1, bt262.2.1, bt262.2.2)))) = some (r1, r2, r3) := H
 have A9 := aM A90
 clear A90
 replace H := Option.bind_eq_some_iff.mp H
 obtain ⟨⟨t262, t263, t264⟩, A100, H⟩ := H
 replace H : (if a1 = 0 then (none) else (some (Int.tmod (wrap64 ((wrap64 ((wrap64 (t256 * 65536)) + (wrap64 (t259 * 256)))) + t262)) a1, t263, t264))) = some (r1, r2, r3) := H
 have A10 := aM A100
 clear A100
 by_cases c11 : a1 = 0
 {
 exact ap_ c11 H
 }
 {
 rw [if_neg c11] at H
 have c11b0 := beq_eq_false_iff_ne.mpr c11
 have c11b1 := bne_iff_ne.mpr c11
 simp only [Option.some.injEq, Prod.mk.injEq] at H
 obtain ⟨rfl, rfl, rfl⟩ := H
 go_enter Try.func105, Try.ntmps105
 go_wp2_with (first | ((with_reducible refine gate_callee (f := 109) rfl ?_); refine goesL_ (some 17) rfl rfl Try.func109 (by kernel_rfl) rfl #[.pointer (some ⟨g, 0, none⟩)] rfl qz4 ?_; (with_reducible refine (spec_l1Byte.calls g s0_0 s0_1 s0_2 t256 t257 t258 w0 _ ?side1 ?side2 A8.out).mono ?_); (case side1 => exact qz3); (case side2 => exact qz1); rintro e w12 ⟨rfl, hi, hb, hk⟩; refine ⟨_, rfl, ?_⟩; replace HK := aM (KeepBut.trans qz2 hk (.inl rfl)); replace HB := aM (hb); replace HI0 := aM (hi); (try clear hb hk hi)) | ((with_reducible refine gate_callee (f := 109) rfl ?_); refine goesL_ (some 19) rfl rfl Try.func109 (by kernel_rfl) rfl #[.pointer (some ⟨g, 0, none⟩)] rfl qz4 ?_; (with_reducible refine (spec_l1Byte.calls g s0_0 t257 t258 t259 t260 t261 w0 _ ?side1 ?side2 A9.out).mono ?_); (case side1 => exact qz3); (case side2 => exact qz1); rintro e w13 ⟨rfl, hi, hb, hk⟩; refine ⟨_, rfl, ?_⟩; replace HK := aM (KeepBut.trans qz2 hk (.inl rfl)); replace HB := aM (hb); replace HI0 := aM (hi); (try clear hb hk hi)) | ((with_reducible refine gate_callee (f := 109) rfl ?_); refine goesL_ (some 21) rfl rfl Try.func109 (by kernel_rfl) rfl #[.pointer (some ⟨g, 0, none⟩)] rfl qz4 ?_; (with_reducible refine (spec_l1Byte.calls g s0_0 t260 t261 t262 t263 t264 w0 _ ?side1 ?side2 A10.out).mono ?_); (case side1 => exact qz3); (case side2 => exact qz1); rintro e w14 ⟨rfl, hi, hb, hk⟩; refine ⟨_, rfl, ?_⟩; replace HK := aM (KeepBut.trans qz2 hk (.inl rfl)); replace HB := aM (hb); replace HI0 := aM (hi); (try clear hb hk hi)))
 go_ret
 exact ⟨qzw, qz3, qz1, qz2⟩

 }
 }
 }
/-! ### spec_l1Int: function 92 -/
def spec_l1Int.f (s0_0 : List Int) (s0_1 : Int) (s0_2 : Int) (l1 : List Int) : Option (Int × Int × Int) := (spec_l1Below.f s0_0 s0_1 s0_2 (l1.length : Int)).bind fun bt265 => (if 0 ≤ bt265.1 then (if bt265.1 < (l1.length : Int) then (some (rd l1 bt265.1, bt265.2.1, bt265.2.2)) else (none)) else (none))
set_option maxHeartbeats 8000000 in
set_option maxRecDepth 100000 in
theorem spec_l1Int.calls (g : Nat) (s0_0 : List Int) (s0_1 : Int) (s0_2 : Int) (A1 : Option Addr) (c1 : Nat) (l1 : List Int) (r1 : Int) (r2 : Int) (r3 : Int) (w0 w : World) (hI : IsS122 w0 w g s0_0 s0_1 s0_2) (hB : Below w0.heap.size w0 w) (hr1 : Kd.C (Kd.int .i64) w A1 l1.length l1) (hc1 : l1.length ≤ c1) (hf1 : ∀ ad, A1 = some ad → 0 < l1.length → ad.block ≠ g) (h : spec_l1Int.f s0_0 s0_1 s0_2 l1 = some (r1, r2, r3)) :
  Calls Try.prog 92 #[.pointer (some ⟨g, 0, none⟩), .slice A1 l1.length c1] w fun e w' => e = .returned (.int .i64 r1) ∧ IsS122 w0 w' g s0_0 r2 r3 ∧ Below w0.heap.size w0 w' ∧ KeepBut w w' g none := by
 have HR1 := aM hr1
 have HC1 := aM hc1
 clear hr1 hc1
 have HI0 := aM hI
 have HK := aM (KeepBut.refl w g none)
 have HL := aM hB.size
 clear hI
 have HW0 := aM hB.size
 have HB := aM hB
 clear hB
 have H : ((spec_l1Below.f s0_0 s0_1 s0_2 (l1.length : Int)).bind fun bt265 => (if 0 ≤ bt265.1 then (if bt265.1 < (l1.length : Int) then (some (rd l1 bt265.1, bt265.2.1, bt265.2.2)) else (none)) else (none))) = some (r1, r2, r3) := h
 clear h
 replace H := Option.bind_eq_some_iff.mp H
 obtain ⟨⟨t265, t266, t267⟩, A30, H⟩ := H
 replace H : (if 0 ≤ t265 then (if t265 < (l1.length : Int) then (some (rd l1 t265, t266, t267)) else (none)) else (none)) = some (r1, r2, r3) := H
 have A3 := aM A30
 clear A30
 by_cases c4 : 0 ≤ t265
 {
 rw [if_pos c4] at H
 have c4b0 := decide_eq_true c4
 clear c4
 by_cases c5 : t265 < (l1.length : Int)
 {
 rw [if_pos c5] at H
 have c5b0 := decide_eq_true c5
 clear c5
 simp only [Option.some.injEq, Prod.mk.injEq] at H
 obtain ⟨rfl, rfl, rfl⟩ := H
 go_enter Try.func92, Try.ntmps92
 go_wp2_with (first | ((with_reducible refine gate_callee (f := 105) rfl ?_); refine goesL_ (some 9) rfl rfl Try.func105 (by kernel_rfl) rfl #[.pointer (some ⟨g, 0, none⟩), .int .i64 (l1.length : Int)] rfl qz4 ?_; (with_reducible refine (spec_l1Below.calls g s0_0 s0_1 s0_2 (l1.length : Int) t265 t266 t267 w0 _ ?side1 ?side2 A3.out).mono ?_); (case side1 => exact qz3); (case side2 => exact qz1); rintro e w6 ⟨rfl, hi, hb, hk⟩; refine ⟨_, rfl, ?_⟩; replace HK := aM (KeepBut.trans qz2 hk (.inl rfl)); replace HB := aM (hb); replace HI0 := aM (hi); (try clear hb hk hi); have p268 : 0 ≤ (t265 : Int) := dt_; have q268 : t265 < (l1.length : Int) := dt_; obtain ⟨ad268, e268, hx268_0⟩ := Kd.at_int HR1.out t265 p268 q268; cases e268; replace hx268_0 := keep_cell HK.out hx268_0 (by first | (rw [add_block]; exact hf1 _ rfl (by omega)) | exact hf1 _ rfl (by omega) | exact hf1 ad268 rfl (by omega)); replace p268 := eq_true p268; replace q268 := eq_true q268))
 go_ret
 exact ⟨qzw, qz3, qz1, qz2⟩
 }
 {
 exact an_ c5 H
 }
 }
 {
 exact an_ c4 H

 }
/-! ### spec_l1Once: function 102 -/
def spec_l1Once.f (s0_0 : List Int) (s0_1 : Int) (s0_2 : Int) (a1 : Int) : Option (Bool × Int × Int) := (spec_l1Below.f s0_0 s0_1 s0_2 a1).bind fun bt269 => (some ((bt269.1 == 0), bt269.2.1, bt269.2.2))
set_option maxHeartbeats 8000000 in
set_option maxRecDepth 100000 in
theorem spec_l1Once.calls (g : Nat) (s0_0 : List Int) (s0_1 : Int) (s0_2 : Int) (a1 : Int) (r1 : Bool) (r2 : Int) (r3 : Int) (w0 w : World) (hI : IsS122 w0 w g s0_0 s0_1 s0_2) (hB : Below w0.heap.size w0 w) (h : spec_l1Once.f s0_0 s0_1 s0_2 a1 = some (r1, r2, r3)) :
  Calls Try.prog 102 #[.pointer (some ⟨g, 0, none⟩), .int .i64 a1] w fun e w' => e = .returned (.bool r1) ∧ IsS122 w0 w' g s0_0 r2 r3 ∧ Below w0.heap.size w0 w' ∧ KeepBut w w' g none := by
 have HI0 := aM hI
 have HK := aM (KeepBut.refl w g none)
 have HL := aM hB.size
 clear hI
 have HW0 := aM hB.size
 have HB := aM hB
 clear hB
 have H : ((spec_l1Below.f s0_0 s0_1 s0_2 a1).bind fun bt269 => (some ((bt269.1 == 0), bt269.2.1, bt269.2.2))) = some (r1, r2, r3) := h
 clear h
 replace H := Option.bind_eq_some_iff.mp H
 obtain ⟨⟨t269, t270, t271⟩, A30, H⟩ := H
 replace H : (some ((t269 == 0), t270, t271)) = some (r1, r2, r3) := H
 have A3 := aM A30
 clear A30
 simp only [Option.some.injEq, Prod.mk.injEq] at H
 obtain ⟨rfl, rfl, rfl⟩ := H
 go_enter Try.func102, Try.ntmps102
 go_wp2_with (first | ((with_reducible refine gate_callee (f := 105) rfl ?_); refine goesL_ (some 7) rfl rfl Try.func105 (by kernel_rfl) rfl #[.pointer (some ⟨g, 0, none⟩), .int .i64 a1] rfl qz4 ?_; (with_reducible refine (spec_l1Below.calls g s0_0 s0_1 s0_2 a1 t269 t270 t271 w0 _ ?side1 ?side2 A3.out).mono ?_); (case side1 => exact qz3); (case side2 => exact qz1); rintro e w4 ⟨rfl, hi, hb, hk⟩; refine ⟨_, rfl, ?_⟩; replace HK := aM (KeepBut.trans qz2 hk (.inl rfl)); replace HB := aM (hb); replace HI0 := aM (hi); (try clear hb hk hi)))
 go_ret
 exact ⟨qzw, qz3, qz1, qz2⟩

/-! ### spec_l5Draw: function 101 -/
mutual
def spec_l5Draw.l0 : Nat → Int → List Int → Int → Int → List (S79) → Option ((List (S79)) × Int × Int)
 | 0, _, _, _, _, _ => none
 | k + 1, x4, x1000, x1001, x1002, x274000 => if x4 < 6 then ((spec_l1Once.f x1000 x1001 x1002 4).bind fun bt274 => (if bt274.1 = true then (spec_l5Draw.l0 k (wrap64 (x4 + 1)) x1000 bt274.2.1 bt274.2.2 x274000) else (spec_l5Draw.l1 k x4 1 x1000 bt274.2.1 bt274.2.2 x274000 (wrap64 (x4 * 10)) (wrap64 (20 - x4)) ([] : List (S72))))) else (some (x274000, x1001, x1002))
def spec_l5Draw.l1 : Nat → Int → Int → List Int → Int → Int → List (S79) → Int → Int → List (S72) → Option ((List (S79)) × Int × Int)
 | 0, _, _, _, _, _, _, _, _, _ => none
 | k + 1, x4, x6, x1000, x1001, x1002, x274000, x278000, x278001, x278002 => if x6 < 6 then ((spec_l1Int.f x1000 x1001 x1002 (([0, 0, 1, 3, 5, 12] : List Int))).bind fun bt284 => (if bt284.1 > 0 then ((spec_l1Below.f x1000 bt284.2.1 bt284.2.2 (wrap64 (bt284.1 + 1))).bind fun bt287 => ((spec_l1Int.f x1000 bt287.2.1 bt287.2.2 (([0, 0, 0, bt287.1] : List Int))).bind fun bt293 => (if x278002.length < 5864062014805 then (spec_l5Draw.l1 k x4 (wrap64 (x6 + 1)) x1000 bt293.2.1 bt293.2.2 x274000 x278000 x278001 (x278002 ++ [(⟨x6, bt284.1, bt293.1⟩ : S72)])) else (none)))) else (spec_l5Draw.l1 k x4 (wrap64 (x6 + 1)) x1000 bt284.2.1 bt284.2.2 x274000 x278000 x278001 x278002))) else (if x274000.length < 3518437208883 then (spec_l5Draw.l0 k (wrap64 (x4 + 1)) x1000 x1001 x1002 (x274000 ++ [(⟨x278000, x278001, x278002⟩ : S79)])) else (none))
end
def spec_l5Draw.f (k : Nat) (s0_0 : List Int) (s0_1 : Int) (s0_2 : Int) : Option ((List (S79)) × Int × Int) := spec_l5Draw.l0 k 1 s0_0 s0_1 s0_2 ([] : List (S79))
theorem spec_l5Draw.mono_l : ∀ k, (∀ y0 y1 y2 y3 y4, LeO (spec_l5Draw.l0 k y0 y1 y2 y3 y4) (spec_l5Draw.l0 (k + 1) y0 y1 y2 y3 y4)) ∧ (∀ y0 y1 y2 y3 y4 y5 y6 y7 y8, LeO (spec_l5Draw.l1 k y0 y1 y2 y3 y4 y5 y6 y7 y8) (spec_l5Draw.l1 (k + 1) y0 y1 y2 y3 y4 y5 y6 y7 y8))
 | 0 => ⟨fun _ _ _ _ _ r h => by simp [spec_l5Draw.l0] at h, fun _ _ _ _ _ _ _ _ _ r h => by simp [spec_l5Draw.l1] at h⟩
 | k + 1 => by
  obtain ⟨ih0, ih1⟩ := spec_l5Draw.mono_l k
  refine ⟨?_, ?_⟩
  {
  intro y0 y1 y2 y3 y4
  unfold spec_l5Draw.l0
  exact qL
  }
  {
  intro y0 y1 y2 y3 y4 y5 y6 y7 y8
  unfold spec_l5Draw.l1
  exact qL
  }
theorem spec_l5Draw.mono : ∀ a0 a1 a2 k, LeO (spec_l5Draw.f k a0 a1 a2) (spec_l5Draw.f (k + 1) a0 a1 a2) := by
 intro a0 a1 a2 k
 obtain ⟨ih0, ih1⟩ := spec_l5Draw.mono_l k
 unfold spec_l5Draw.f
 exact qL
def spec_l5Draw.T12 : Bool × List (List Nat × List Nat) := (true, [([], []), ([0], [0]), ([], []), ([], []), ([], []), ([], []), ([], []), ([6], [6]), ([5, 7], [5, 7]), ([8], [8]), ([4, 9, 8], [4, 9]), ([2, 3, 10], [2, 3, 10]), ([11], [11]), ([1, 12, 10], [1, 12]), ([0, 1, 2, 3, 4, 5, 6, 7, 8, 9, 10, 11, 12, 13], []), ([14, 13, 13, 0, 1, 2, 3, 4, 5, 6, 7, 8, 9, 10, 11, 12, 13], [13, 14])])
def spec_l5Draw.B12 : List Nat := [0, 1, 0, 0, 0, 0, 0, 64, 224, 480, 1008, 2044, 4092, 8191, 16383, 32767]
theorem spec_l5Draw.tab12 : rtab .any (opsOf Try.f101 12) = spec_l5Draw.T12 := by kernel_rfl
theorem spec_l5Draw.bits12 : waitsOk spec_l5Draw.T12.2 spec_l5Draw.B12 = true := by kernel_rfl
set_option maxHeartbeats 8000000 in
set_option maxRecDepth 100000 in
theorem spec_l5Draw.calls (k : Nat) (g : Nat) (s0_0 : List Int) (s0_1 : Int) (s0_2 : Int) (r1 : List (S79)) (r2 : Int) (r3 : Int) (w0 w : World) (hI : IsS122 w0 w g s0_0 s0_1 s0_2) (hB : Below w0.heap.size w0 w) (h : spec_l5Draw.f k s0_0 s0_1 s0_2 = some (r1, r2, r3)) :
  Calls Try.prog 101 #[.pointer (some ⟨g, 0, none⟩)] w fun e w' => ∃ v0_ : Value, e = .returned (.agg #[v0_]) ∧ Kd.S k79 79 w' w.heap.size (fun _ => True) v0_ r1 ∧ IsS122 w0 w' g s0_0 r2 r3 ∧ Below w0.heap.size w0 w' ∧ KeepBut w w' g none := by
 have hu26 := Try.underlying26
 have hu79 := Try.underlying79
 have hu72 := Try.underlying72
 have HI0 := aM hI
 have HK := aM (KeepBut.refl w g none)
 have HL := aM hB.size
 clear hI
 have HW0 := aM hB.size
 have HB := aM hB
 clear hB
 have H : (spec_l5Draw.l0 k 1 s0_0 s0_1 s0_2 ([] : List (S79))) = some (r1, r2, r3) := h
 clear h
 have H' := aM H
 clear H
 go_enter Try.func101, Try.ntmps101
 go_wp2_with (first | ((with_reducible refine gate_dst (N := 2) rfl ?_); refine bx_ 2 #[.slice none 0 0] 26 ?_; intro gb272 hg w2 hbox hb; replace HB := bS_ hb; have BK272 := aM (hbox); have GW272 := aM (kz_ w g hg qz2); have GE272 := aM ((Nat.le_trans HW0.out (by rw [hg]; exact (keep_size (w := w) (g := g) (row := none) qz2) : w.heap.size ≤ gb272) : w0.heap.size ≤ gb272)); replace HK := aM (KeepBut.trans qz2 (KeepBut.of_below hb g none) (.inl rfl)); have NB0_272 := aM ((by rw [hg]; exact Nat.ne_of_lt (IsS122.lt (show IsS122 w0 _ g s0_0 s0_1 s0_2 from qz3)) : g ≠ gb272)); have NB272_0 := aM ((by rw [hg]; exact Nat.ne_of_gt (IsS122.lt (show IsS122 w0 _ g s0_0 s0_1 s0_2 from qz3)) : gb272 ≠ g)); replace HI0 := aM (IsS122.below qz3 hb); clear hb hbox hg) | ((with_reducible refine gate_dst (N := 3) rfl ?_); refine bx_ 3 #[.slice none 0 0] 26 ?_; intro gb273 hg w3 hbox hb; replace HB := bS_ hb; have BK273 := aM (hbox); have GW273 := aM (kz_ w g hg qz2); have GE273 := aM ((Nat.le_trans HW0.out (by rw [hg]; exact (keep_size (w := w) (g := g) (row := none) qz2) : w.heap.size ≤ gb273) : w0.heap.size ≤ gb273)); replace HK := aM (KeepBut.trans qz2 (KeepBut.of_below hb g none) (.inl rfl)); obtain ⟨NB272_273, NB273_272⟩ := nb_ hg (bk_ BK272.out); replace BK272 := bB_ BK272 hb; have NB0_273 := aM ((by rw [hg]; exact Nat.ne_of_lt (IsS122.lt (show IsS122 w0 _ g s0_0 s0_1 s0_2 from qz3)) : g ≠ gb273)); have NB273_0 := aM ((by rw [hg]; exact Nat.ne_of_gt (IsS122.lt (show IsS122 w0 _ g s0_0 s0_1 s0_2 from qz3)) : gb273 ≠ g)); replace HI0 := aM (IsS122.below qz3 hb); clear hb hbox hg; have hnb4 := NB273_272.out; have hnc4 := NB272_273.out; have hnb5 := NB273_0.out; have hnc5 := NB0_273.out; obtain ⟨hcz6_0, hfz6_0⟩ := bf_ BK273.out))
 go_loopg [4] k (fun kq v4 w' => ∃ (x4_1 : Int) (x1001_1 : Int) (x1002_1 : Int) (x274000_1 : List (S79)) (u274000 : Value), v4 = .int .i64 x4_1 ∧ Aside0 (spec_l5Draw.l0 kq x4_1 s0_0 x1001_1 x1002_1 x274000_1 = some (r1, r2, r3)) ∧ Aside0 (kq ≤ k) ∧ Aside0 (Kd.S k79 79 w' w.heap.size (fun _ => True) u274000 x274000_1) ∧ Aside0 (w'.heap[gb272]? = some (.cells #[(.slice none 0 0)] 26 (0, 0))) ∧ Aside0 (w'.heap[gb273]? = some (.cells #[u274000] 26 (0, 0))) ∧ Aside0 (IsS122 w0 w' g s0_0 x1001_1 x1002_1) ∧ Aside0 (KeepBut w w' g none) ∧ Aside0 (Below w0.heap.size w0 w'))
 case atStart => exact ⟨(1), (s0_1), (s0_2), (([] : List (S79))), (.slice none 0 0), qz5, H', ⟨Nat.le_refl _⟩, ⟨by first | exact Kd.S_nil _ _ _ _ _ | exact Kd.N_nil _ _ _ _ _ | exact Kd.V_nil _ _ _ _ _ | exact Kd.Q_nil _ _ _ _ _ | exact Kd.R_nil _ _ _ _ _⟩, ⟨by (with_reducible repeat (first | refine blk_drewN ?_ _ | refine blk_drew ?_ | refine blk_alloc ?_ _)); refine blk_far ?_ NB272_273.out _; exact bk_ BK272.out⟩, ⟨by (with_reducible repeat (first | refine blk_drewN ?_ _ | refine blk_drew ?_ | refine blk_alloc ?_ _)); refine blk_put (cs := #[.slice none 0 0]) ?_ 0 _ rfl; exact bk_ BK273.out⟩, ⟨qz3⟩, ⟨qz2⟩, ⟨qz1⟩⟩
 case round =>
  clear H'
  try clear c1
  try clear p2
  try clear c4
  try clear c5
  try clear hcz6_0 hfz6_0
  obtain ⟨x4_1, x1001_1, x1002_1, x274000_1, u274000, rfl, HA, HK1, HO_274000, BK272, BK273, HI0, HK, HB⟩ := hrel
  cases gk with
  | zero => exact absurd HA.out (by simp [spec_l5Draw.l0])
  | succ k1 =>
   have H := HA.out
   clear HA
   simp only [spec_l5Draw.l0] at H
   by_cases c7 : x4_1 < 6
   {
   rw [if_pos c7] at H
   have c7b0 := decide_eq_true c7
   clear c7
   replace H := Option.bind_eq_some_iff.mp H
   obtain ⟨⟨t274, t275, t276⟩, A80, H⟩ := H
   replace H : (if t274 = true then (spec_l5Draw.l0 k1 (wrap64 (x4_1 + 1)) s0_0 t275 t276 x274000_1) else (spec_l5Draw.l1 k1 x4_1 1 s0_0 t275 t276 x274000_1 (wrap64 (x4_1 * 10)) (wrap64 (20 - x4_1)) ([] : List (S72)))) = some (r1, r2, r3) := H
   have A8 := aM A80
   clear A80
   by_cases c9 : t274 = true
   {
   subst c9
   rw [if_pos rfl] at H
   have H' := aM H
   clear H
   go_wp2_with (first | ((with_reducible refine gate_callee (f := 102) rfl ?_); refine goesL_ (some 14) rfl rfl Try.func102 (by kernel_rfl) rfl #[.pointer (some ⟨g, 0, none⟩), .int .i64 4] rfl qz4 ?_; (with_reducible refine (spec_l1Once.calls g s0_0 x1001_1 x1002_1 4 true t275 t276 w0 _ ?side1 ?side2 A8.out).mono ?_); (case side1 => exact qz3); (case side2 => exact qz1); rintro e w10 ⟨rfl, hi, hb, hk⟩; refine ⟨_, rfl, ?_⟩; replace HO_274000 := aM (Kd.S_mono (Kd.S_keep (IsS122.apartS (show IsS122 w0 _ g s0_0 x1001_1 x1002_1 from qz3) (rs_ HO_274000.out) (by decide)) hk (fun _ h => h.2)) (fun _ h => h.1)); replace BK272 := aM (KeepBut.blk hk (bk_ BK272.out) NB272_0.out (by simp)); replace BK273 := aM (KeepBut.blk hk (bk_ BK273.out) NB273_0.out (by simp)); replace HK := aM (KeepBut.trans qz2 hk (.inl rfl)); replace HB := aM (hb); replace HI0 := aM (hi); (try clear hb hk hi)))
   go_roundg k1
   case measure => have := HK1.out; omega
   case rel => exact ⟨(wrap64 (x4_1 + 1)), (t275), (t276), (x274000_1), (u274000), qz5, H', ⟨by have := HK1.out; omega⟩, ⟨rm_ HO_274000.out⟩, ⟨bk_ BK272.out⟩, ⟨bk_ BK273.out⟩, ⟨qz3⟩, ⟨qz2⟩, ⟨qz1⟩⟩
   }
   {
   replace c9 := Bool.eq_false_iff.mpr c9
   subst c9
   rw [if_neg (show ¬ (false = true) by decide)] at H
   have H' := aM H
   clear H
   go_wp2_with (first | ((with_reducible refine gate_callee (f := 102) rfl ?_); refine goesL_ (some 14) rfl rfl Try.func102 (by kernel_rfl) rfl #[.pointer (some ⟨g, 0, none⟩), .int .i64 4] rfl qz4 ?_; (with_reducible refine (spec_l1Once.calls g s0_0 x1001_1 x1002_1 4 false t275 t276 w0 _ ?side1 ?side2 A8.out).mono ?_); (case side1 => exact qz3); (case side2 => exact qz1); rintro e w11 ⟨rfl, hi, hb, hk⟩; refine ⟨_, rfl, ?_⟩; replace HO_274000 := aM (Kd.S_mono (Kd.S_keep (IsS122.apartS (show IsS122 w0 _ g s0_0 x1001_1 x1002_1 from qz3) (rs_ HO_274000.out) (by decide)) hk (fun _ h => h.2)) (fun _ h => h.1)); replace BK272 := aM (KeepBut.blk hk (bk_ BK272.out) NB272_0.out (by simp)); replace BK273 := aM (KeepBut.blk hk (bk_ BK273.out) NB273_0.out (by simp)); replace HK := aM (KeepBut.trans qz2 hk (.inl rfl)); replace HB := aM (hb); replace HI0 := aM (hi); (try clear hb hk hi)) | ((with_reducible refine gate_dst (N := 5) rfl ?_); refine bx_ 5 #[.int .i64 0, .int .i64 0, .slice none 0 0] 79 ?_; intro gb277 hg w12 hbox hb; replace HO_274000 := aM (Kd.S_below (Kd.S_elderB (rs_ HO_274000.out) gb277 (Nat.le_of_eq hg.symm)) hb); replace HB := bS_ hb; have BK277 := aM (hbox); have GW277 := aM (kz_ w g hg qz2); have GE277 := aM ((Nat.le_trans HW0.out (by rw [hg]; exact (keep_size (w := w) (g := g) (row := none) qz2) : w.heap.size ≤ gb277) : w0.heap.size ≤ gb277)); replace HK := aM (KeepBut.trans qz2 (KeepBut.of_below hb g none) (.inl rfl)); obtain ⟨NB272_277, NB277_272⟩ := nb_ hg (bk_ BK272.out); replace BK272 := bB_ BK272 hb; obtain ⟨NB273_277, NB277_273⟩ := nb_ hg (bk_ BK273.out); replace BK273 := bB_ BK273 hb; have NB0_277 := aM ((by rw [hg]; exact Nat.ne_of_lt (IsS122.lt (show IsS122 w0 _ g s0_0 t275 t276 from qz3)) : g ≠ gb277)); have NB277_0 := aM ((by rw [hg]; exact Nat.ne_of_gt (IsS122.lt (show IsS122 w0 _ g s0_0 t275 t276 from qz3)) : gb277 ≠ g)); replace HI0 := aM (IsS122.below qz3 hb); clear hb hbox hg; have hnb13 := NB277_272.out; have hnc13 := NB272_277.out; have hnb14 := NB277_273.out; have hnc14 := NB273_277.out; have hnb15 := NB277_0.out; have hnc15 := NB0_277.out; obtain ⟨hcz16_0, hcz16_1, hcz16_2, hfz16_0, hfz16_1, hfz16_2⟩ := b6_ BK277.out))
   go_loopg [6] k1 (fun kq v6 w' => ∃ (x6_2 : Int) (x1001_2 : Int) (x1002_2 : Int) (x278002_2 : List (S72)) (u278002 : Value), v6 = .int .i64 x6_2 ∧ Aside0 (spec_l5Draw.l1 kq x4_1 x6_2 s0_0 x1001_2 x1002_2 x274000_1 (wrap64 (x4_1 * 10)) (wrap64 (20 - x4_1)) x278002_2 = some (r1, r2, r3)) ∧ Aside0 (kq ≤ k1) ∧ Aside0 (Kd.S k79 79 w' w.heap.size (fun k_ => some k_ ≠ (u278002 : Value).ownBlock ∧ k_ ≠ gb277) u274000 x274000_1) ∧ Aside0 (Kd.R k72 72 w' w.heap.size (fun _ => True) u278002 x278002_2) ∧ Aside0 (w'.heap[gb272]? = some (.cells #[(.slice none 0 0)] 26 (0, 0))) ∧ Aside0 (w'.heap[gb273]? = some (.cells #[u274000] 26 (0, 0))) ∧ Aside0 (w'.heap[gb277]? = some (.cells #[.int .i64 (wrap64 (x4_1 * 10)), .int .i64 (wrap64 (20 - x4_1)), u278002] 79 (0, 0))) ∧ Aside0 (IsS122 w0 w' g s0_0 x1001_2 x1002_2) ∧ Aside0 (KeepBut w w' g none) ∧ Aside0 (Below w0.heap.size w0 w'))
   case atStart => exact ⟨(1), (t275), (t276), (([] : List (S72))), (.slice none 0 0), qz5, H', ⟨Nat.le_refl _⟩, ⟨by (with_reducible repeat (first | apply Kd.S_alloc | apply Kd.S_drewN | apply Kd.S_drew)); exact Kd.S_mono (Kd.S_far (p := ⟨gb277, 2, none⟩) (Kd.S_far (p := ⟨gb277, 1, none⟩) (Kd.S_far (p := ⟨gb277, 0, none⟩) (Kd.S_mono HO_274000.out (fun k_ hk => (⟨hk, hk.2⟩ : _ ∧ k_ ≠ gb277))) (fun _ hk => hk.2) (.int .i64 (wrap64 (x4_1 * 10)))) (fun _ hk => hk.2) (.int .i64 (wrap64 (20 - x4_1)))) (fun _ hk => hk.2) (.slice none 0 0)) (fun _ hk => ⟨(by simp [Value.ownBlock]), hk.1.2⟩)⟩, ⟨by first | exact Kd.R_nil _ _ _ _ _ | exact Kd.N_nil _ _ _ _ _ | exact Kd.V_nil _ _ _ _ _ | exact Kd.Q_nil _ _ _ _ _ | exact Kd.S_nil _ _ _ _ _⟩, ⟨by (with_reducible repeat (first | refine blk_drewN ?_ _ | refine blk_drew ?_ | refine blk_alloc ?_ _)); refine blk_far ?_ NB272_277.out _; (with_reducible repeat (first | refine blk_drewN ?_ _ | refine blk_drew ?_ | refine blk_alloc ?_ _)); refine blk_far ?_ NB272_277.out _; (with_reducible repeat (first | refine blk_drewN ?_ _ | refine blk_drew ?_ | refine blk_alloc ?_ _)); refine blk_far ?_ NB272_277.out _; exact bk_ BK272.out⟩, ⟨by (with_reducible repeat (first | refine blk_drewN ?_ _ | refine blk_drew ?_ | refine blk_alloc ?_ _)); refine blk_far ?_ NB273_277.out _; (with_reducible repeat (first | refine blk_drewN ?_ _ | refine blk_drew ?_ | refine blk_alloc ?_ _)); refine blk_far ?_ NB273_277.out _; (with_reducible repeat (first | refine blk_drewN ?_ _ | refine blk_drew ?_ | refine blk_alloc ?_ _)); refine blk_far ?_ NB273_277.out _; exact bk_ BK273.out⟩, ⟨by (with_reducible repeat (first | refine blk_drewN ?_ _ | refine blk_drew ?_ | refine blk_alloc ?_ _)); refine blk_put (cs := #[.int .i64 (wrap64 (x4_1 * 10)), .int .i64 (wrap64 (20 - x4_1)), .slice none 0 0]) ?_ 2 _ rfl; (with_reducible repeat (first | refine blk_drewN ?_ _ | refine blk_drew ?_ | refine blk_alloc ?_ _)); refine blk_put (cs := #[.int .i64 (wrap64 (x4_1 * 10)), .int .i64 0, .slice none 0 0]) ?_ 1 _ rfl; (with_reducible repeat (first | refine blk_drewN ?_ _ | refine blk_drew ?_ | refine blk_alloc ?_ _)); refine blk_put (cs := #[.int .i64 0, .int .i64 0, .slice none 0 0]) ?_ 0 _ rfl; exact bk_ BK277.out⟩, ⟨qz3⟩, ⟨qz2⟩, ⟨qz1⟩⟩
   case round =>
    clear H'
    try clear c1
    try clear p2
    try clear c4
    try clear c5
    try clear p6
    try clear c7
    try clear c7b0
    try clear c9
    try clear c10
    try clear c13
    try clear c14
    try clear c15
    try clear hcz16_0 hcz16_1 hcz16_2 hfz16_0 hfz16_1 hfz16_2
    try clear hcz6_0 hfz6_0
    obtain ⟨x6_2, x1001_2, x1002_2, x278002_2, u278002, rfl, HA, HK2, HO_274000, HO_278002, BK272, BK273, BK277, HI0, HK, HB⟩ := hrel
    cases gk with
    | zero => exact absurd HA.out (by simp [spec_l5Draw.l1])
    | succ k2 =>
     have H := HA.out
     clear HA
     simp only [spec_l5Draw.l1] at H
     by_cases c17 : x6_2 < 6
     {
     rw [if_pos c17] at H
     have c17b0 := decide_eq_true c17
     clear c17
     obtain ⟨y281, hy281⟩ : ∃ y_ : List Int, y_ = (([0, 0, 1, 3, 5, 12] : List Int)) := ⟨_, rfl⟩
     replace H : ((spec_l1Int.f s0_0 x1001_2 x1002_2 y281).bind fun bt284 => (if bt284.1 > 0 then ((spec_l1Below.f s0_0 bt284.2.1 bt284.2.2 (wrap64 (bt284.1 + 1))).bind fun bt287 => ((spec_l1Int.f s0_0 bt287.2.1 bt287.2.2 (([0, 0, 0, bt287.1] : List Int))).bind fun bt293 => (if x278002_2.length < 5864062014805 then (spec_l5Draw.l1 k2 x4_1 (wrap64 (x6_2 + 1)) s0_0 bt293.2.1 bt293.2.2 x274000_1 (wrap64 (x4_1 * 10)) (wrap64 (20 - x4_1)) (x278002_2 ++ [(⟨x6_2, bt284.1, bt293.1⟩ : S72)])) else (none)))) else (spec_l5Draw.l1 k2 x4_1 (wrap64 (x6_2 + 1)) s0_0 bt284.2.1 bt284.2.2 x274000_1 (wrap64 (x4_1 * 10)) (wrap64 (20 - x4_1)) x278002_2))) = some (r1, r2, r3) := by first | (rw [hy281]; with_reducible exact H) | (have H2_ := (Option.bind_some _ _).symm.trans H; rw [hy281]; with_reducible exact H2_) | (have H2_ := (Option.bind_some _ _).symm.trans H; with_reducible exact H2_) | with_reducible exact H | (rw [hy281]; exact H) | exact H
     have Ny281 := aM hy281
     clear hy281
     replace H := Option.bind_eq_some_iff.mp H
     obtain ⟨⟨t284, t285, t286⟩, A180, H⟩ := H
     replace H : (if t284 > 0 then ((spec_l1Below.f s0_0 t285 t286 (wrap64 (t284 + 1))).bind fun bt287 => ((spec_l1Int.f s0_0 bt287.2.1 bt287.2.2 (([0, 0, 0, bt287.1] : List Int))).bind fun bt293 => (if x278002_2.length < 5864062014805 then (spec_l5Draw.l1 k2 x4_1 (wrap64 (x6_2 + 1)) s0_0 bt293.2.1 bt293.2.2 x274000_1 (wrap64 (x4_1 * 10)) (wrap64 (20 - x4_1)) (x278002_2 ++ [(⟨x6_2, t284, bt293.1⟩ : S72)])) else (none)))) else (spec_l5Draw.l1 k2 x4_1 (wrap64 (x6_2 + 1)) s0_0 t285 t286 x274000_1 (wrap64 (x4_1 * 10)) (wrap64 (20 - x4_1)) x278002_2)) = some (r1, r2, r3) := H
     have A18 := aM A180
     clear A180
     by_cases c19 : t284 > 0
     {
     rw [if_pos c19] at H
     have c19b0 := decide_eq_true c19
     clear c19
     replace H := Option.bind_eq_some_iff.mp H
     obtain ⟨⟨t287, t288, t289⟩, A200, H⟩ := H
     replace H : ((spec_l1Int.f s0_0 t288 t289 (([0, 0, 0, t287] : List Int))).bind fun bt293 => (if x278002_2.length < 5864062014805 then (spec_l5Draw.l1 k2 x4_1 (wrap64 (x6_2 + 1)) s0_0 bt293.2.1 bt293.2.2 x274000_1 (wrap64 (x4_1 * 10)) (wrap64 (20 - x4_1)) (x278002_2 ++ [(⟨x6_2, t284, bt293.1⟩ : S72)])) else (none))) = some (r1, r2, r3) := H
     have A20 := aM A200
     clear A200
     obtain ⟨y290, hy290⟩ : ∃ y_ : List Int, y_ = (([0, 0, 0, t287] : List Int)) := ⟨_, rfl⟩
     replace H : ((spec_l1Int.f s0_0 t288 t289 y290).bind fun bt293 => (if x278002_2.length < 5864062014805 then (spec_l5Draw.l1 k2 x4_1 (wrap64 (x6_2 + 1)) s0_0 bt293.2.1 bt293.2.2 x274000_1 (wrap64 (x4_1 * 10)) (wrap64 (20 - x4_1)) (x278002_2 ++ [(⟨x6_2, t284, bt293.1⟩ : S72)])) else (none))) = some (r1, r2, r3) := by first | (rw [hy290]; with_reducible exact H) | (have H2_ := (Option.bind_some _ _).symm.trans H; rw [hy290]; with_reducible exact H2_) | (have H2_ := (Option.bind_some _ _).symm.trans H; with_reducible exact H2_) | with_reducible exact H | (rw [hy290]; exact H) | exact H
     have Ny290 := aM hy290
     clear hy290
     replace H := Option.bind_eq_some_iff.mp H
     obtain ⟨⟨t293, t294, t295⟩, A210, H⟩ := H
     replace H : (if x278002_2.length < 5864062014805 then (spec_l5Draw.l1 k2 x4_1 (wrap64 (x6_2 + 1)) s0_0 t294 t295 x274000_1 (wrap64 (x4_1 * 10)) (wrap64 (20 - x4_1)) (x278002_2 ++ [(⟨x6_2, t284, t293⟩ : S72)])) else (none)) = some (r1, r2, r3) := H
     have A21 := aM A210
     clear A210
     by_cases c22 : x278002_2.length < 5864062014805
     {
     rw [if_pos c22] at H
     have LMc22 := aM c22
     clear c22
     obtain ⟨y296, hy296⟩ : ∃ y_ : List (S72), y_ = (x278002_2 ++ [(⟨x6_2, t284, t293⟩ : S72)]) := ⟨_, rfl⟩
     replace H : (spec_l5Draw.l1 k2 x4_1 (wrap64 (x6_2 + 1)) s0_0 t294 t295 x274000_1 (wrap64 (x4_1 * 10)) (wrap64 (20 - x4_1)) y296) = some (r1, r2, r3) := by first | (rw [hy296]; with_reducible exact H) | (have H2_ := (Option.bind_some _ _).symm.trans H; rw [hy296]; with_reducible exact H2_) | (have H2_ := (Option.bind_some _ _).symm.trans H; with_reducible exact H2_) | with_reducible exact H | (rw [hy296]; exact H) | exact H
     have Ny296 := aM hy296
     clear hy296
     have H' := aM H
     clear H
     try go_wp2_with (first | ((with_reducible refine gate_dst (N := 25) rfl ?_); refine Kd.R_lit (Kd.int .i64) _ 3 ?hg (N := 25) ?hd (xs := ([0, 0, 1, 3, 5, 12] : List Int)) (inner := [.int .i64 0, .int .i64 0, .int .i64 1, .int .i64 3, .int .i64 5, .int .i64 12]) (ok := fun _ => True) (okp := fun _ => True) ?hr ?hp (fun _ hk => hk) trivial (Below.refl _ _) (Nat.le_refl _) (by simp) ?_; (case hd => rfl); (case hg => rfl); (case hr => exact qz23); (case hp => exact qz32); intro v282 w23 ho24 hb hg_ hnew_; clear hg_ hnew_; (first | rw [← Ny281.out] at ho24 | (simp only [Int.reduceToNat] at ho24; rw [← Ny281.out] at ho24)); replace HO_274000 := aM (Kd.S_below (rs_ HO_274000.out) hb); replace HO_278002 := aM (Kd.R_below (rr_ HO_278002.out) hb); have HO283 := aM (Kd.R_lower ho24 (keep_size (w := w) (g := g) (row := none) qz2)); replace BK272 := bB_ BK272 hb; replace BK273 := bB_ BK273 hb; replace BK277 := bB_ BK277 hb; replace HK := aM (KeepBut.trans qz2 (KeepBut.of_below hb g none) (.inl rfl)); replace HB := bS_ hb; replace HI0 := aM (IsS122.below qz3 hb); clear hb ho24; obtain ⟨Ao25, co25, eo25⟩ := Kd.R_slice HO283.out; subst eo25) | ((with_reducible refine gate_callee (f := 92) rfl ?_); refine goesL_ (some 26) rfl rfl Try.func92 (by kernel_rfl) rfl #[.pointer (some ⟨g, 0, none⟩), .slice Ao25 y281.length co25] rfl qz4 ?_; (with_reducible refine (spec_l1Int.calls g s0_0 x1001_2 x1002_2 _ _ y281 t284 t285 t286 w0 _ ?side1 ?side2 ?side3 ?side4 ?side5 A18.out).mono ?_); (case side1 => exact qz3); (case side2 => exact qz1); (case side3 => repeat (first | exact (Kd.R_reads' HO283.out).2.2 | (with_reducible refine Kd.C_alloc ?_ _) | (with_reducible refine Kd.C_drewN ?_ _) | (with_reducible refine Kd.C_drew ?_))); (case side4 => exact (Kd.R_reads' HO283.out).2.1); (case side5 => exact far_slice (IsS122.own_ne HI0.out HO283.out (by decide))); rintro e w26 ⟨rfl, hi, hb, hk⟩; refine ⟨_, rfl, ?_⟩; replace HO_274000 := aM (Kd.S_mono (Kd.S_keep (IsS122.apartS (show IsS122 w0 _ g s0_0 x1001_2 x1002_2 from qz3) (rs_ HO_274000.out) (by decide)) hk (fun _ h => h.2)) (fun _ h => h.1)); replace HO_278002 := aM (Kd.R_mono (Kd.R_keep (IsS122.apart (show IsS122 w0 _ g s0_0 x1001_2 x1002_2 from qz3) (rr_ HO_278002.out) (by decide)) hk (fun _ h => h.2)) (fun _ h => h.1)); replace BK272 := aM (KeepBut.blk hk (bk_ BK272.out) NB272_0.out (by simp)); replace BK273 := aM (KeepBut.blk hk (bk_ BK273.out) NB273_0.out (by simp)); replace BK277 := aM (KeepBut.blk hk (bk_ BK277.out) NB277_0.out (by simp)); replace HO283 := aM (Kd.R_mono (Kd.R_keep (IsS122.apart (show IsS122 w0 _ g s0_0 x1001_2 x1002_2 from qz3) (rr_ HO283.out) (by decide)) hk (fun _ h => h.2)) (fun _ h => h.1)); replace HK := aM (KeepBut.trans qz2 hk (.inl rfl)); replace HB := aM (hb); replace HI0 := aM (hi); (try clear hb hk hi)))
     replace HO_274000 := aM (Kd.S_drew HO_274000.out)
     replace HO_278002 := aM (Kd.R_drew HO_278002.out)
     replace HO283 := aM (Kd.R_drew HO283.out)
     replace BK272 := aM (blk_drew BK272.out)
     replace BK273 := aM (blk_drew BK273.out)
     replace BK277 := aM (blk_drew BK277.out)
     replace HI0 := aM (IsS122.drew HI0.out)
     replace HK := aM (keep_drew HK.out)
     replace HB := aM (below_drew1 HB.out)
     refine start_ (n := 16) (S := fun w' => w'.cell? ⟨gb277, 0, none⟩ = some (.int .i64 (wrap64 (x4_1 * 10))) ∧ w'.cell? ⟨gb277, 1, none⟩ = some (.int .i64 (wrap64 (20 - x4_1))) ∧ w'.cell? ⟨gb277, 2, none⟩ = some (u278002)) (ds := [15]) #[false, false, false, false, false, false, false, false, false, false, false, false, false, false, false, false] (by kernel_rfl) rfl rfl ⟨(blk_cell BK277.out 0).trans rfl, (blk_cell BK277.out 1).trans rfl, (blk_cell BK277.out 2).trans rfl⟩ (fun hHeld => ?_); refine with_tabW spec_l5Draw.tab12 spec_l5Draw.bits12 (fun HT_ HW_ => ?_)
     generalize w26.drew = w27 at HO_274000 HO_278002 HO283 BK272 BK273 BK277 HI0 HK HB hHeld ⊢
     refine pI_ 0 29 (bqz 16 1) ?_
     refine jI_ 2 31 ?_
     refine jI_ 3 32 ?_
     refine jI_ 4 33 ?_
     refine jI_ 5 34 ?_
     refine jI_ 6 35 ?_
     refine jI_ 7 36 ?_
     refine sI3_ 1 30 ?_
     refine one_ (i := 8) (N := some 37) (bqz 16 511) rfl rfl qzc (by decide) (fun K hK => ?_)
     refine goes_ Try.func105 (by kernel_rfl) rfl #[.pointer (some ⟨g, 0, none⟩), .int .i64 (wrap64 (t284 + 1))] (by rfl) rfl rfl qz4 ?_
     with_reducible refine (spec_l1Below.calls g s0_0 t285 t286 (wrap64 (t284 + 1)) t287 t288 t289 w0 _ ?side1 ?side2 A20.out).mono ?_
     (case side1 => exact qz3)
     (case side2 => exact qz1)
     rintro e w28 ⟨rfl, hi, hb, hk⟩
     refine ⟨_, rfl, ?_⟩
     replace HO_274000 := aM (Kd.S_mono (Kd.S_keep (IsS122.apartS (show IsS122 w0 _ g s0_0 t285 t286 from qz3) (rs_ HO_274000.out) (by decide)) hk (fun _ h => h.2)) (fun _ h => h.1))
     replace HO_278002 := aM (Kd.R_mono (Kd.R_keep (IsS122.apart (show IsS122 w0 _ g s0_0 t285 t286 from qz3) (rr_ HO_278002.out) (by decide)) hk (fun _ h => h.2)) (fun _ h => h.1))
     replace BK272 := aM (KeepBut.blk hk (bk_ BK272.out) NB272_0.out (by simp))
     replace BK273 := aM (KeepBut.blk hk (bk_ BK273.out) NB273_0.out (by simp))
     replace BK277 := aM (KeepBut.blk hk (bk_ BK277.out) NB277_0.out (by simp))
     replace HO283 := aM (Kd.R_mono (Kd.R_keep (IsS122.apart (show IsS122 w0 _ g s0_0 t285 t286 from qz3) (rr_ HO283.out) (by decide)) hk (fun _ h => h.2)) (fun _ h => h.1))
     replace HK := aM (KeepBut.trans qz2 hk (.inl rfl))
     replace HB := aM (hb)
     replace HI0 := aM (hi)
     (try clear hb)
     (try clear hb2)
     (try clear hk)
     (try clear hi)
     refine hK.out _ _ ⟨(blk_cell BK277.out 0).trans rfl, (blk_cell BK277.out 1).trans rfl, (blk_cell BK277.out 2).trans rfl⟩ (fun hHeld => ?_)
     clear hK K
     refine nm_ 37 ?_
     refine one_ (i := 9) (N := some 38) (bqz 16 1023) rfl rfl qzc (by decide) (fun K hK => ?_)
     refine Kd.R_lit_step (Kd.int .i64) _ 3 ?hg (N := 38) ?hd (xs := ([0, 0, 0, t287] : List Int)) (inner := [.int .i64 0, .int .i64 0, .int .i64 0, .int .i64 t287]) (ok := fun _ => True) (okp := fun _ => True) ?hr ?hp (fun _ hk => hk) trivial (Below.refl _ _) (Nat.le_refl _) (by simp) ?_; (case hd => rfl); (case hg => rfl); (case hr => exact qz23); (case hp => exact (Reps.one (show Kd.M (Kd.int .i64) _ _ _ 0 [.int .i64 0] from rfl) (Reps.one (show Kd.M (Kd.int .i64) _ _ _ 0 [.int .i64 0] from rfl) (Reps.one (show Kd.M (Kd.int .i64) _ _ _ 0 [.int .i64 0] from rfl) (Reps.one (show Kd.M (Kd.int .i64) _ _ _ t287 [.int .i64 t287] from rfl) (Reps.none _ _))))))
     intro v291 w29 ho30 hb hg_ hnew_
     clear hg_ hnew_
     (first | rw [← Ny290.out] at ho30 | (simp only [Int.reduceToNat] at ho30; rw [← Ny290.out] at ho30))
     replace HO_274000 := aM (Kd.S_below (rs_ HO_274000.out) hb)
     replace HO_278002 := aM (Kd.R_below (rr_ HO_278002.out) hb)
     have HO292 := aM (Kd.R_lower (Kd.R_new' ho30 (Kd.R_lt (rr_ HO283.out))) (keep_size (w := w) (g := g) (row := none) qz2))
     replace HO283 := aM (Kd.R_elder' (rr_ HO283.out) (Kd.R_base ho30) hb)
     replace BK272 := bB_ BK272 hb
     replace BK273 := bB_ BK273 hb
     replace BK277 := bB_ BK277 hb
     replace HK := aM (KeepBut.trans qz2 (KeepBut.of_below hb g none) (.inl rfl))
     replace HB := bS_ hb
     replace HI0 := aM (IsS122.below qz3 hb)
     clear hb ho30
     obtain ⟨Ao31, co31, eo31⟩ := Kd.R_slice HO292.out
     (first | subst eo31 | (injection eo31 with f1_ f2_ f3_; have f4_ := f1_.symm; have f5_ := f3_.symm; clear f1_ f2_ f3_; subst f4_; subst f5_))
     refine hK.out _ _ ⟨(blk_cell BK277.out 0).trans rfl, (blk_cell BK277.out 1).trans rfl, (blk_cell BK277.out 2).trans rfl⟩ (fun hHeld => ?_)
     clear hK K
     refine nm_ 38 ?_
     refine one_ (i := 10) (N := some 39) (bqz 16 2047) rfl rfl qzc (by decide) (fun K hK => ?_)
     refine goes_ Try.func92 (by kernel_rfl) rfl #[.pointer (some ⟨g, 0, none⟩), .slice Ao31 y290.length co31] (by rfl) rfl rfl qz4 ?_
     with_reducible refine (spec_l1Int.calls g s0_0 t288 t289 _ _ y290 t293 t294 t295 w0 _ ?side1 ?side2 ?side3 ?side4 ?side5 A21.out).mono ?_
     (case side1 => exact qz3)
     (case side2 => exact qz1)
     (case side3 => repeat (first | exact (Kd.R_reads' HO292.out).2.2 | (with_reducible refine Kd.C_alloc ?_ _) | (with_reducible refine Kd.C_drewN ?_ _) | (with_reducible refine Kd.C_drew ?_)))
     (case side4 => exact (Kd.R_reads' HO292.out).2.1)
     (case side5 => exact far_slice (IsS122.own_ne HI0.out HO292.out (by decide)))
     rintro e w32 ⟨rfl, hi, hb, hk⟩
     refine ⟨_, rfl, ?_⟩
     replace HO_274000 := aM (Kd.S_mono (Kd.S_keep (IsS122.apartS (show IsS122 w0 _ g s0_0 t288 t289 from qz3) (rs_ HO_274000.out) (by decide)) hk (fun _ h => h.2)) (fun _ h => h.1))
     replace HO_278002 := aM (Kd.R_mono (Kd.R_keep (IsS122.apart (show IsS122 w0 _ g s0_0 t288 t289 from qz3) (rr_ HO_278002.out) (by decide)) hk (fun _ h => h.2)) (fun _ h => h.1))
     replace BK272 := aM (KeepBut.blk hk (bk_ BK272.out) NB272_0.out (by simp))
     replace BK273 := aM (KeepBut.blk hk (bk_ BK273.out) NB273_0.out (by simp))
     replace BK277 := aM (KeepBut.blk hk (bk_ BK277.out) NB277_0.out (by simp))
     replace HO283 := aM (Kd.R_mono (Kd.R_keep (IsS122.apart (show IsS122 w0 _ g s0_0 t288 t289 from qz3) (rr_ HO283.out) (by decide)) hk (fun _ h => h.2)) (fun _ h => h.1))
     replace HO292 := aM (Kd.R_mono (Kd.R_keep (IsS122.apart (show IsS122 w0 _ g s0_0 t288 t289 from qz3) (rr_ HO292.out) (by decide)) hk (fun _ h => h.2)) (fun _ h => h.1))
     replace HK := aM (KeepBut.trans qz2 hk (.inl rfl))
     replace HB := aM (hb)
     replace HI0 := aM (hi)
     (try clear hb)
     (try clear hb2)
     (try clear hk)
     (try clear hi)
     refine hK.out _ _ ⟨(blk_cell BK277.out 0).trans rfl, (blk_cell BK277.out 1).trans rfl, (blk_cell BK277.out 2).trans rfl⟩ (fun hHeld => ?_)
     clear hK K
     refine nm_ 39 ?_
     refine pI_ 11 40 (bqz 16 4095) ?_
     refine one_ (i := 12) (N := some 41) (bqz 16 8191) rfl rfl qzc (by decide) (fun K hK => ?_)
     refine value_ (w1 := ?_) (v := ?_) (by rfl) rfl ?_ ?_
     rotate_left 2
     {
     go_simp
     constructor
     {
     rfl
     }
     {
     rfl
     }
     }
     refine hK.out _ _ ⟨(blk_cell (blk_alloc BK277.out _) 0).trans rfl, (blk_cell (blk_alloc BK277.out _) 1).trans rfl, (blk_cell (blk_alloc BK277.out _) 2).trans rfl⟩ (fun hHeld => ?_)
     clear hK K
     refine nm_ 41 ?_
     refine one_ (i := 13) (N := some 42) (bqz 16 16383) rfl rfl qzc (by decide) (fun K hK => ?_)
     refine Kd.R_append_step k72 w.heap.size (by rfl) (.tmp 30) (.tmp 41) 77 72 (.agg #[(.int .i64 0), (.int .i64 0), (.int .i64 0)]) 24 rfl Try.underlying77 info72 rfl (by decide) (by omega) u278002 x278002_2 (⟨x6_2, t284, t293⟩ : S72) [.int .i64 x6_2, .int .i64 t284, .int .i64 t293] (fun _ => True) (fun _ => False) rfl rfl ?aP (fun _ hk => hk.elim) ?aF ?aO (Below.refl _ _) ?aS ?aL ?_
     (case aP => exact k72_mkM _ _ _ (⟨x6_2, t284, t293⟩ : S72))
     (case aF => exact (fun _ _ => trivial))
     (case aO => exact (rr_ HO_278002.out))
     (case aS => exact (keep_size (w := w) (g := g) (row := none) qz2))
     (case aL => have := LMc22.out; omega)
     intro v297 w33 ho hb hg hat
     rw [← Ny296.out] at ho
     replace HO_274000 := aM (Kd.S_after (ok := (fun k_ => k_ ≠ gb277)) (by (with_reducible repeat (first | apply Kd.S_alloc | apply Kd.S_drewN | apply Kd.S_drew)); exact Kd.S_mono HO_274000.out (fun _ hk => ⟨hk.2, hk.1⟩)) hg hat)
     replace BK272 := aM (blk_grown (bk_ BK272.out) hg (Kd.R_ne HO_278002.out BK272.out (by decide)))
     replace BK273 := aM (blk_grown (bk_ BK273.out) hg (Kd.R_ne HO_278002.out BK273.out (by decide)))
     replace BK277 := aM (blk_grown (bk_ BK277.out) hg (Kd.R_ne HO_278002.out BK277.out (by decide)))
     replace HO283 := aM (Kd.R_over' (rr_ HO283.out) (Kd.R_typed (rr_ HO_278002.out)) (by decide) hg)
     replace HO292 := aM (Kd.R_over' (rr_ HO292.out) (Kd.R_typed (rr_ HO_278002.out)) (by decide) hg)
     replace HB := aM (below_weaken qz1 HL.out hb)
     replace HI0 := aM (IsS122.grown qz3 hg (IsS122.own_ne HI0.out HO_278002.out (by decide)))
     replace HK := aM (KeepBut.trans qz2 (KeepBut.of_grown hg g) (Kd.R_base2 HO_278002.out))
     have HO298 := aM (ho)
     clear HO_278002 ho hb hg hat
     obtain ⟨Ao34, co34, eo34⟩ := Kd.R_slice HO298.out
     (first | subst eo34 | (injection eo34 with f1_ f2_ f3_; have f4_ := f1_.symm; have f5_ := f3_.symm; clear f1_ f2_ f3_; subst f4_; subst f5_))
     refine hK.out _ _ ⟨(blk_cell BK277.out 0).trans rfl, (blk_cell BK277.out 1).trans rfl, (blk_cell BK277.out 2).trans rfl⟩ (fun hHeld => ?_)
     clear hK K
     refine nm_ 42 ?_
     refine pI_ 14 43 (bqz 16 32767) ?_
     refine last_ (i := 15) (N := none) (bqz 16 65535) rfl rfl qzc (by decide) (fun K hK => ?_)
     have hs35 : w33.cell? ⟨gb277, 2, none⟩ = some (u278002) := (blk_cell BK277.out 2).trans rfl
     have hfs35 := blk_frozen BK277.out 2
     have hns35_0 := NB272_277.out
     have hns35_1 := NB273_277.out
     have hms35_0 := NB277_272.out
     have hms35_1 := NB277_273.out
     refine sk_ ?_
     refine hK.out _ _ ?_
     clear hK K
     refine done_ (done_of HT_.out (by kernel_rfl)) ?_
     try go_wp2
     go_roundg k2
     case measure => have := HK1.out; have := HK2.out; omega
     case rel => exact ⟨(wrap64 (x6_2 + 1)), (t294), (t295), (y296), (.slice Ao34 y296.length co34), qz5, H', ⟨by have := HK1.out; have := HK2.out; omega⟩, ⟨by (with_reducible repeat (first | apply Kd.S_alloc | apply Kd.S_drewN | apply Kd.S_drew)); exact Kd.S_mono (Kd.S_far (p := ⟨gb277, 2, none⟩) (Kd.S_mono HO_274000.out (fun k_ hk => (⟨hk, hk.1⟩ : _ ∧ k_ ≠ gb277))) (fun _ hk => hk.2) (.slice Ao34 y296.length co34)) (fun _ hk => ⟨hk.1.2, hk.1.1⟩)⟩, ⟨by (with_reducible repeat (first | apply Kd.R_alloc | apply Kd.R_drewN | apply Kd.R_drew)); exact Kd.R_mono (Kd.R_far (p := ⟨gb277, 2, none⟩) (Kd.R_types HO298.out BK277.out (by decide)) (fun _ hk => hk.2) (.slice Ao34 y296.length co34)) (fun _ hk => trivial)⟩, ⟨by (with_reducible repeat (first | refine blk_drewN ?_ _ | refine blk_drew ?_ | refine blk_alloc ?_ _)); refine blk_far ?_ NB272_277.out _; exact bk_ BK272.out⟩, ⟨by (with_reducible repeat (first | refine blk_drewN ?_ _ | refine blk_drew ?_ | refine blk_alloc ?_ _)); refine blk_far ?_ NB273_277.out _; exact bk_ BK273.out⟩, ⟨by (with_reducible repeat (first | refine blk_drewN ?_ _ | refine blk_drew ?_ | refine blk_alloc ?_ _)); refine blk_put (cs := #[.int .i64 (wrap64 (x4_1 * 10)), .int .i64 (wrap64 (20 - x4_1)), u278002]) ?_ 2 _ rfl; exact bk_ BK277.out⟩, ⟨qz3⟩, ⟨qz2⟩, ⟨qz1⟩⟩
     }
     {
     exact an_ c22 H
     }
     }
     {
     rw [if_neg c19] at H
     have c19b0 := decide_eq_false c19
     clear c19
     have H' := aM H
     clear H
     go_wp2_with (first | ((with_reducible refine gate_dst (N := 25) rfl ?_); refine Kd.R_lit (Kd.int .i64) _ 3 ?hg (N := 25) ?hd (xs := ([0, 0, 1, 3, 5, 12] : List Int)) (inner := [.int .i64 0, .int .i64 0, .int .i64 1, .int .i64 3, .int .i64 5, .int .i64 12]) (ok := fun _ => True) (okp := fun _ => True) ?hr ?hp (fun _ hk => hk) trivial (Below.refl _ _) (Nat.le_refl _) (by simp) ?_; (case hd => rfl); (case hg => rfl); (case hr => exact qz23); (case hp => exact qz32); intro v282 w36 ho37 hb hg_ hnew_; clear hg_ hnew_; (first | rw [← Ny281.out] at ho37 | (simp only [Int.reduceToNat] at ho37; rw [← Ny281.out] at ho37)); replace HO_274000 := aM (Kd.S_below (rs_ HO_274000.out) hb); replace HO_278002 := aM (Kd.R_below (rr_ HO_278002.out) hb); have HO283 := aM (Kd.R_lower ho37 (keep_size (w := w) (g := g) (row := none) qz2)); replace BK272 := bB_ BK272 hb; replace BK273 := bB_ BK273 hb; replace BK277 := bB_ BK277 hb; replace HK := aM (KeepBut.trans qz2 (KeepBut.of_below hb g none) (.inl rfl)); replace HB := bS_ hb; replace HI0 := aM (IsS122.below qz3 hb); clear hb ho37; obtain ⟨Ao38, co38, eo38⟩ := Kd.R_slice HO283.out; subst eo38) | ((with_reducible refine gate_callee (f := 92) rfl ?_); refine goesL_ (some 26) rfl rfl Try.func92 (by kernel_rfl) rfl #[.pointer (some ⟨g, 0, none⟩), .slice Ao38 y281.length co38] rfl qz4 ?_; (with_reducible refine (spec_l1Int.calls g s0_0 x1001_2 x1002_2 _ _ y281 t284 t285 t286 w0 _ ?side1 ?side2 ?side3 ?side4 ?side5 A18.out).mono ?_); (case side1 => exact qz3); (case side2 => exact qz1); (case side3 => repeat (first | exact (Kd.R_reads' HO283.out).2.2 | (with_reducible refine Kd.C_alloc ?_ _) | (with_reducible refine Kd.C_drewN ?_ _) | (with_reducible refine Kd.C_drew ?_))); (case side4 => exact (Kd.R_reads' HO283.out).2.1); (case side5 => exact far_slice (IsS122.own_ne HI0.out HO283.out (by decide))); rintro e w39 ⟨rfl, hi, hb, hk⟩; refine ⟨_, rfl, ?_⟩; replace HO_274000 := aM (Kd.S_mono (Kd.S_keep (IsS122.apartS (show IsS122 w0 _ g s0_0 x1001_2 x1002_2 from qz3) (rs_ HO_274000.out) (by decide)) hk (fun _ h => h.2)) (fun _ h => h.1)); replace HO_278002 := aM (Kd.R_mono (Kd.R_keep (IsS122.apart (show IsS122 w0 _ g s0_0 x1001_2 x1002_2 from qz3) (rr_ HO_278002.out) (by decide)) hk (fun _ h => h.2)) (fun _ h => h.1)); replace BK272 := aM (KeepBut.blk hk (bk_ BK272.out) NB272_0.out (by simp)); replace BK273 := aM (KeepBut.blk hk (bk_ BK273.out) NB273_0.out (by simp)); replace BK277 := aM (KeepBut.blk hk (bk_ BK277.out) NB277_0.out (by simp)); replace HO283 := aM (Kd.R_mono (Kd.R_keep (IsS122.apart (show IsS122 w0 _ g s0_0 x1001_2 x1002_2 from qz3) (rr_ HO283.out) (by decide)) hk (fun _ h => h.2)) (fun _ h => h.1)); replace HK := aM (KeepBut.trans qz2 hk (.inl rfl)); replace HB := aM (hb); replace HI0 := aM (hi); (try clear hb hk hi)))
     go_roundg k2
     case measure => have := HK1.out; have := HK2.out; omega
     case rel => exact ⟨(wrap64 (x6_2 + 1)), (t285), (t286), (x278002_2), (u278002), qz5, H', ⟨by have := HK1.out; have := HK2.out; omega⟩, ⟨rm_ HO_274000.out⟩, ⟨rm_ HO_278002.out⟩, ⟨bk_ BK272.out⟩, ⟨bk_ BK273.out⟩, ⟨bk_ BK277.out⟩, ⟨qz3⟩, ⟨qz2⟩, ⟨qz1⟩⟩
     }
     }
     {
     rw [if_neg c17] at H
     have c17b0 := decide_eq_false c17
     clear c17
     by_cases c40 : x274000_1.length < 3518437208883
     {
     rw [if_pos c40] at H
     have LMc40 := aM c40
     clear c40
     obtain ⟨y278, hy278⟩ : ∃ y_ : List (S79), y_ = (x274000_1 ++ [(⟨(wrap64 (x4_1 * 10)), (wrap64 (20 - x4_1)), x278002_2⟩ : S79)]) := ⟨_, rfl⟩
     replace H : (spec_l5Draw.l0 k2 (wrap64 (x4_1 + 1)) s0_0 x1001_2 x1002_2 y278) = some (r1, r2, r3) := by first | (rw [hy278]; with_reducible exact H) | (have H2_ := (Option.bind_some _ _).symm.trans H; rw [hy278]; with_reducible exact H2_) | (have H2_ := (Option.bind_some _ _).symm.trans H; with_reducible exact H2_) | with_reducible exact H | (rw [hy278]; exact H) | exact H
     have Ny278 := aM hy278
     clear hy278
     have H' := aM H
     clear H
     have hnb41 := NB273_272.out
     have hnc41 := NB272_273.out
     have hnb42 := NB273_277.out
     have hnc42 := NB277_273.out
     have hnb43 := NB273_0.out
     have hnc43 := NB0_273.out
     obtain ⟨hcz44_0, hfz44_0⟩ := bf_ BK273.out
     have hnb45 := NB277_272.out
     have hnc45 := NB272_277.out
     have hnb46 := NB277_0.out
     have hnc46 := NB0_277.out
     obtain ⟨hcz47_0, hcz47_1, hcz47_2, hfz47_0, hfz47_1, hfz47_2⟩ := b6_ BK277.out
     obtain ⟨Ao49, co49, eo49⟩ := Kd.R_slice HO_278002.out
     subst eo49
     go_wp2_with (first | ((with_reducible refine gate_builtin (b := .append) (xs := #[.tmp 45, .tmp 47]) rfl ?_); at_builtin; refine Kd.S_append k79 w.heap.size rfl (.tmp 45) (.tmp 47) 24 79 (.agg #[(.int .i64 0), (.int .i64 0), (.slice none 0 0)]) 40 rfl Try.underlying24 info79 rfl (by decide) (by omega) u274000 x274000_1 (⟨(wrap64 (x4_1 * 10)), (wrap64 (20 - x4_1)), x278002_2⟩ : S79) [.int .i64 (wrap64 (x4_1 * 10)), .int .i64 (wrap64 (20 - x4_1)), .slice Ao49 x278002_2.length co49] (fun k_ => k_ ≠ gb277) (fun k_ => some k_ = (.slice Ao49 x278002_2.length co49 : Value).ownBlock) rfl rfl ?aP (fun k_ hk_ => ((Kd.R_mono (ok' := fun k_ => ((fun k_ => k_ ≠ gb277)) k_ ∧ some k_ ≠ (u274000 : Value).ownBlock) (Kd.R_types (Kd.R_apart' (HO_278002.out) (Kd.S_typed HO_274000.out) (by decide)) BK277.out (by decide)) (fun k_ hk => ⟨hk.2, hk.1.2⟩))).1 k_ hk_.symm) ?aF ?aO (Below.refl _ _) ?aS ?aL ?_; (case aP => exact k79_mkM _ _ _ (⟨(wrap64 (x4_1 * 10)), (wrap64 (20 - x4_1)), x278002_2⟩ : S79) (Kd.R_mono (Kd.R_tight rfl (Kd.R_mono (ok' := fun k_ => ((fun k_ => k_ ≠ gb277)) k_ ∧ some k_ ≠ (u274000 : Value).ownBlock) (Kd.R_types (Kd.R_apart' (HO_278002.out) (Kd.S_typed HO_274000.out) (by decide)) BK277.out (by decide)) (fun k_ hk => ⟨hk.2, hk.1.2⟩))) (fun _ h_ => h_))); (case aF => exact (fun k_ hk => Kd.freshB (bk_ BK277.out) k_ hk)); (case aO => exact (by (with_reducible repeat (first | apply Kd.S_alloc | apply Kd.S_drewN | apply Kd.S_drew)); exact Kd.S_mono HO_274000.out (fun k_ hk => ⟨hk.2, fun e_ => hk.1 e_⟩))); (case aS => exact (keep_size (w := w) (g := g) (row := none) qz2)); (case aL => have := LMc40.out; omega); intro v279 w48 ho hb hg hat; rw [← Ny278.out] at ho; replace BK272 := aM (blk_grown (bk_ BK272.out) hg (Kd.S_ne HO_274000.out BK272.out (by decide))); replace BK273 := aM (blk_grown (bk_ BK273.out) hg (Kd.S_ne HO_274000.out BK273.out (by decide))); replace BK277 := aM (blk_grown (bk_ BK277.out) hg (Kd.S_away HO_274000.out (fun _ hk => hk.2))); replace HB := aM (below_weaken qz1 HL.out hb); replace HI0 := aM (IsS122.grown qz3 hg (IsS122.own_neS HI0.out HO_274000.out (by decide))); replace HK := aM (KeepBut.trans qz2 (KeepBut.of_grown hg g) (Kd.S_base2 HO_274000.out)); have HO280 := aM (ho); clear HO_274000 HO_278002; clear ho hb hg hat; obtain ⟨Ao50, co50, eo50⟩ := Kd.S_slice HO280.out; subst eo50; obtain ⟨hcz51_0, hfz51_0⟩ := bf_ BK273.out))
     go_roundg k2
     case measure => have := HK1.out; have := HK2.out; omega
     case rel => exact ⟨(wrap64 (x4_1 + 1)), (x1001_2), (x1002_2), (y278), (.slice Ao50 y278.length co50), qz5, H', ⟨by have := HK1.out; have := HK2.out; omega⟩, ⟨by (with_reducible repeat (first | apply Kd.S_alloc | apply Kd.S_drewN | apply Kd.S_drew)); exact Kd.S_mono (Kd.S_far (p := ⟨gb273, 0, none⟩) (Kd.S_types HO280.out BK273.out (by decide)) (fun _ hk => hk.2) (.slice Ao50 y278.length co50)) (fun _ hk => trivial)⟩, ⟨by (with_reducible repeat (first | refine blk_drewN ?_ _ | refine blk_drew ?_ | refine blk_alloc ?_ _)); refine blk_far ?_ NB272_273.out _; exact bk_ BK272.out⟩, ⟨by (with_reducible repeat (first | refine blk_drewN ?_ _ | refine blk_drew ?_ | refine blk_alloc ?_ _)); refine blk_put (cs := #[u274000]) ?_ 0 _ rfl; exact bk_ BK273.out⟩, ⟨qz3⟩, ⟨qz2⟩, ⟨qz1⟩⟩
     }
     {
     exact an_ c40 H
     }
     }
   }
   }
   {
   rw [if_neg c7] at H
   have c7b0 := decide_eq_false c7
   clear c7
   simp only [Option.some.injEq, Prod.mk.injEq] at H
   obtain ⟨rfl, rfl, rfl⟩ := H
   have hnb52 := NB273_272.out
   have hnc52 := NB272_273.out
   have hnb53 := NB273_0.out
   have hnc53 := NB0_273.out
   obtain ⟨hcz54_0, hfz54_0⟩ := bf_ BK273.out
   obtain ⟨Ao55, co55, eo55⟩ := Kd.S_slice HO_274000.out
   subst eo55
   have hnb56 := NB272_0.out
   have hnc56 := NB0_272.out
   obtain ⟨hcz57_0, hfz57_0⟩ := bf_ BK272.out
   go_wp2
   refine bodyPost_ret (results_cell_row rfl _ _ gb272 26 #[.slice Ao55 x274000_1.length co55] (0, 0) _ rfl (by (with_reducible repeat (first | refine blk_drewN ?_ _ | refine blk_drew ?_ | refine blk_alloc ?_ _)); refine blk_put (cs := #[.slice none 0 0]) ?_ 0 _ rfl; exact bk_ BK272.out) Try.underlying26 rfl (by kernel_rfl)) rfl ?_
   exact ⟨_, qzw, by (with_reducible repeat (first | apply Kd.S_alloc | apply Kd.S_drewN | apply Kd.S_drew)); exact Kd.S_mono (Kd.S_far (p := ⟨gb272, 0, none⟩) (Kd.S_types HO_274000.out BK272.out (by decide)) (fun _ hk => hk.2) (.slice Ao55 x274000_1.length co55)) (fun _ hk => trivial), qz3, qz1, qz2⟩

   }
end Go.Proofs.Yteajnkondkfmgaa.PFnEach
