-- Made by a program of this session out of the translation. Lean checks it.
import Derived.Test.YtbebfhlejnidkaaPFnMatchedx0
namespace Go.Proofs.Ytbebfhlejnidkaa.PFnMatched
open Go.RowKit Go.Proofs.YtbebfhlejnidkaaW.PrintWords Go.Proofs.YtbebfhlejnidkaaW.PrintLast Go.Proofs.YtbebfhlejnidkaaW.PrintMore
attribute [local go_sem] max2_int min2_int max_two min_two max_three min_three max_four min_four   -- for this text's walks alone
set_option linter.unusedVariables false
set_option linter.unusedSimpArgs false

/-! ### impl_in: function 42 -/
def impl_in.f (a0 : Int) (a1 : Int) (a2 : Int) : Option (Bool) := if a0 ≥ a1 then (some (decide (a0 ≤ a2))) else (some false)
set_option maxHeartbeats 8000000 in
set_option maxRecDepth 100000 in
theorem impl_in.calls (a0 : Int) (a1 : Int) (a2 : Int) (r : Bool) (w : World) (h : impl_in.f a0 a1 a2 = some r) :
  Calls Try.prog 42 #[.int .i64 a0, .int .i64 a1, .int .i64 a2] w fun e w' => e = .returned (.bool r) ∧ Drawn0 w w' := by
 unfold impl_in.f at h
 have H := h
 clear h
 replace H := iE_ H
 rcases H with ⟨c4b0, H⟩ | ⟨c4b0, H⟩
 {
 obtain rfl := Option.some.inj H
 go_enter Try.func42, Try.ntmps42
 go_wp2
 go_ret
 exact ⟨by first | rfl | (simp; done) | (simp [*]; done), by repeat (first | exact Drawn0.refl _ | apply Drawn0.step)⟩
 }
 {
 obtain rfl := Option.some.inj H
 go_enter Try.func42, Try.ntmps42
 go_wp2
 go_ret
 exact ⟨by first | rfl | (simp; done) | (simp [*]; done), by repeat (first | exact Drawn0.refl _ | apply Drawn0.step)⟩
 }
/-! ### impl_CostsOk: function 18 -/
mutual
def impl_CostsOk.l0 : Nat → List (List Int) → List (List Int) → Int → Int → Option (Bool)
 | 0, _, _, _, _ => none
 | k + 1, x0, x10, x11, x12 => if x12 < x11 then (if 0 ≤ x12 then (if x12 < (x10.length : Int) then (if 0 < (x0.length : Int) then (if ((rd_L1 x10 x12).length : Int) = ((rd_L1 x0 0).length : Int) then ((impl_in.f ((rd_L1 x10 x12).length : Int) (x0.length : Int) 10).bind fun t103 => (impl_CostsOk.j1 k x0 (rd_L1 x10 x12) x10 x11 x12 (!t103))) else (impl_CostsOk.j1 k x0 (rd_L1 x10 x12) x10 x11 x12 true)) else (none)) else (none)) else (none)) else (some true)
def impl_CostsOk.j1 : Nat → List (List Int) → List Int → List (List Int) → Int → Int → Bool → Option (Bool)
 | 0, _, _, _, _, _, _ => none
 | k + 1, x0, x4, x10, x11, x12, x30 => if x30 = true then (some false) else (impl_CostsOk.l1 k x0 x10 x11 x12 x4 (x4.length : Int) 0)
def impl_CostsOk.l1 : Nat → List (List Int) → List (List Int) → Int → Int → List Int → Int → Int → Option (Bool)
 | 0, _, _, _, _, _, _, _ => none
 | k + 1, x0, x10, x11, x12, x31, x32, x33 => if x33 < x32 then (if 0 ≤ x33 then (if x33 < (x31.length : Int) then ((impl_in.f (rd x31 x33) 0 100000).bind fun t105 => (if t105 = true then (impl_CostsOk.l1 k x0 x10 x11 x12 x31 x32 (wrap64 (x33 + 1))) else (some false))) else (none)) else (none)) else (impl_CostsOk.l0 k x0 x10 x11 (wrap64 (x12 + 1)))
end
def impl_CostsOk.f (k : Nat) (l0 : List (List Int)) : Option (Bool) := if (l0.length : Int) > 10 then (some false) else (impl_CostsOk.l0 k l0 l0 (l0.length : Int) 0)
theorem impl_CostsOk.mono_l : ∀ k, (∀ y0 y1 y2 y3, LeO (impl_CostsOk.l0 k y0 y1 y2 y3) (impl_CostsOk.l0 (k + 1) y0 y1 y2 y3)) ∧ (∀ y0 y1 y2 y3 y4 y5, LeO (impl_CostsOk.j1 k y0 y1 y2 y3 y4 y5) (impl_CostsOk.j1 (k + 1) y0 y1 y2 y3 y4 y5)) ∧ (∀ y0 y1 y2 y3 y4 y5 y6, LeO (impl_CostsOk.l1 k y0 y1 y2 y3 y4 y5 y6) (impl_CostsOk.l1 (k + 1) y0 y1 y2 y3 y4 y5 y6))
 | 0 => ⟨fun _ _ _ _ r h => by simp [impl_CostsOk.l0] at h, fun _ _ _ _ _ _ r h => by simp [impl_CostsOk.j1] at h, fun _ _ _ _ _ _ _ r h => by simp [impl_CostsOk.l1] at h⟩
 | k + 1 => by
  obtain ⟨ih0, ih1, ih2⟩ := impl_CostsOk.mono_l k
  refine ⟨?_, ?_, ?_⟩
  {
  intro y0 y1 y2 y3
  unfold impl_CostsOk.l0
  exact qL
  }
  {
  intro y0 y1 y2 y3 y4 y5
  unfold impl_CostsOk.j1
  exact qL
  }
  {
  intro y0 y1 y2 y3 y4 y5 y6
  unfold impl_CostsOk.l1
  exact qL
  }
theorem impl_CostsOk.mono : ∀ a0 k, LeO (impl_CostsOk.f k a0) (impl_CostsOk.f (k + 1) a0) := by
 intro a0 k
 obtain ⟨ih0, ih1, ih2⟩ := impl_CostsOk.mono_l k
 unfold impl_CostsOk.f
 exact qL
set_option maxHeartbeats 8000000 in
set_option maxRecDepth 100000 in
theorem impl_CostsOk.calls (k : Nat) (A0 : Option Addr) (c0 : Nat) (l0 : List (List Int)) (r : Bool) (w : World) (hr0 : Kd.C (Kd.slice 3 (Kd.int .i64)) w A0 l0.length l0) (hc0 : l0.length ≤ c0) (h : impl_CostsOk.f k l0 = some r) :
  Calls Try.prog 18 #[.slice A0 l0.length c0] w fun e w' => e = .returned (.bool r) ∧ Drawn0 w w' := by
 have HR0 := aM hr0
 have HC0 := aM hc0
 clear hr0 hc0
 unfold impl_CostsOk.f at h
 have H := h
 clear h
 replace H := iS_ H
 rcases H with ⟨c2, H⟩ | ⟨c2, H⟩
 {
 have c2b0 := decide_eq_true c2
 have c2b1 : decide (10 < l0.length) = true := decide_eq_true (by omega)
 clear c2
 obtain rfl := Option.some.inj H
 go_enter Try.func18, Try.ntmps18
 go_wp2
 go_ret
 exact ⟨by first | rfl | (simp; done) | (simp [*]; done), by repeat (first | exact Drawn0.refl _ | apply Drawn0.step)⟩
 }
 {
 have c2b0 := decide_eq_false c2
 have c2b1 : decide (10 < l0.length) = false := decide_eq_false (by omega)
 clear c2
 have H' := aM H
 clear H
 go_enter Try.func18, Try.ntmps18
 go_wp2
 go_loopg [12] k (fun kq v12 w' => ∃ (x12_1 : Int), v12 = .int .i64 x12_1 ∧ Aside0 (impl_CostsOk.l0 kq l0 l0 (l0.length : Int) x12_1 = some r) ∧ Aside0 (kq ≤ k) ∧ Drawn0 w w')
 case atStart => exact ⟨(0), qz3, H', ⟨Nat.le_refl _⟩, by repeat (first | exact Drawn0.refl _ | apply Drawn0.step)⟩
 case round =>
 clear H'
 try clear c2
 try clear c2b0
 try clear c2b1
 obtain ⟨x12_1, rfl, HA, HK1, ⟨m1, rfl⟩⟩ := hrel
 cases gk with
 | zero => exact absurd HA.out (by simp [impl_CostsOk.l0])
 | succ k1 =>
 have H := HA.out
 clear HA
 simp only [impl_CostsOk.l0] at H
 replace H := iE_ H
 rcases H with ⟨c3b0, H⟩ | ⟨c3b0, H⟩
 {
 replace H := iD_ H
 obtain ⟨c4b0, H⟩ := H
 replace H := iD_ H
 obtain ⟨c5b0, H⟩ := H
 have HC6 := aM H
 clear H
 have p101 : (0 ≤ (x12_1 : Int)) = True := et_
 have q101 : (x12_1 < (l0.length : Int)) = True := et_
 obtain ⟨ad101, A101_0, c101_0, e101, hx101_0, hl101_0, hi101_0⟩ := at_L1 HR0.out x12_1 dt_ dt_
 cases e101
 have HR101_0 := aM hi101_0
 have HC101_0 := aM hl101_0
 clear hi101_0 hl101_0
 go_upto_region 6 with (fail)
 go_cut [30] (fun v30 wc => ∃ (kq : Nat) (x30_5 : Bool), v30 = .bool x30_5 ∧ Aside0 (impl_CostsOk.j1 kq l0 (rd_L1 l0 x12_1) l0 (l0.length : Int) x12_1 x30_5 = some r) ∧ Aside0 (kq ≤ k1) ∧ Drawn0 w wc)
 case first =>
  have H := HC6.out
  clear HC6
  replace H := iN_ H
  obtain ⟨c7, H⟩ := H
  have c7b0 := decide_eq_true c7
  have c7b1 : decide (0 < l0.length) = true := decide_eq_true (by omega)
  clear c7
  (first | rw [c7b0] | (simp only [i64_w, i32_w]; rw [c7b0]) | rw [@decide_eq_true _ _ (of_decide_eq_true c7b0)] | rw [@decide_eq_true _ _ (of_decide_eq_true c7b1)] | skip)
  replace H := iS_ H
  rcases H with ⟨c8, H⟩ | ⟨c8, H⟩
  {
  have c8b0 := beq_iff_eq.mpr c8
  have c8b1 := bne_eq_false_iff_eq.mpr c8
  have c8b2 : ((rd_L1 l0 x12_1).length == (rd_L1 l0 0).length) = true := by first | simpa using c8 | (simp at c8 ⊢; omega)
  clear c8
  replace H := Option.bind_eq_some_iff.mp H
  obtain ⟨t103, A90, H⟩ := H
  have A9 := aM A90
  clear A90
  have H' := aM H
  clear H
  have p102 : 0 ≤ (0 : Int) := (by omega)
  have q102 : 0 < (l0.length : Int) := dt_
  obtain ⟨ad102, A102_0, c102_0, e102, hx102_0, hl102_0, hi102_0⟩ := at_L1 HR0.out 0 p102 q102
  obtain rfl : ad101 = ad102 := (by injection e102)
  have qi102 : (0 < l0.length) = True := eq_true (by omega)
  (try rw [show ((0 : Int)).toNat = 0 from rfl] at hx102_0)
  (try rw [Addr.add_zero'] at hx102_0)
  have HR102_0 := aM hi102_0
  have HC102_0 := aM hl102_0
  clear hi102_0 hl102_0
  replace p102 := eq_true p102
  replace q102 := eq_true q102
  go_wp2_with (first | (go_at_call 42; (with_reducible refine (impl_in.calls ((rd_L1 l0 x12_1).length : Int) (l0.length : Int) 10 t103 _ A9.out).mono ?_); rintro e w' ⟨rfl, ⟨nd, rfl⟩⟩))
  go_meet
  case rel => exact ⟨_, (!t103), qz3, H', ⟨by have := HK1.out; first | omega | exact Nat.le_refl _⟩, by repeat (first | exact Drawn0.refl _ | apply Drawn0.step)⟩
  }
  {
  have c8b0 := beq_eq_false_iff_ne.mpr c8
  have c8b1 := bne_iff_ne.mpr c8
  have c8b2 : ((rd_L1 l0 x12_1).length == (rd_L1 l0 0).length) = false := by first | simpa using c8 | (simp at c8 ⊢; omega)
  have H' := aM H
  clear H
  have p102 : 0 ≤ (0 : Int) := (by omega)
  have q102 : 0 < (l0.length : Int) := dt_
  obtain ⟨ad102, A102_0, c102_0, e102, hx102_0, hl102_0, hi102_0⟩ := at_L1 HR0.out 0 p102 q102
  obtain rfl : ad101 = ad102 := (by injection e102)
  have qi102 : (0 < l0.length) = True := eq_true (by omega)
  (try rw [show ((0 : Int)).toNat = 0 from rfl] at hx102_0)
  (try rw [Addr.add_zero'] at hx102_0)
  have HR102_0 := aM hi102_0
  have HC102_0 := aM hl102_0
  clear hi102_0 hl102_0
  replace p102 := eq_true p102
  replace q102 := eq_true q102
  go_wp2
  go_meet
  case rel => exact ⟨_, (true), qz3, H', ⟨by have := HK1.out; first | omega | exact Nat.le_refl _⟩, by repeat (first | exact Drawn0.refl _ | apply Drawn0.step)⟩
  }
 case rest =>
 clear HC6
 try clear qi1
 try clear c2
 try clear c2b0
 try clear c2b1
 try clear c3
 try clear c3b0
 try clear c4
 try clear c4b0
 try clear c5
 try clear c5b0
 try clear hx101_0
 try clear p101
 try clear q101
 obtain ⟨kq, x30_5, rfl, HA, HJ5, ⟨mc5, rfl⟩⟩ := hcut
 cases kq with
 | zero => exact absurd HA.out (by simp [impl_CostsOk.j1])
 | succ kj5 =>
 have H := HA.out
 clear HA
 simp only [impl_CostsOk.j1] at H
 replace H := iB_ H
 rcases H with ⟨rfl, H⟩ | ⟨rfl, H⟩
 {
 obtain rfl := Option.some.inj H
 go_wp2
 go_ret
 exact ⟨by first | rfl | (simp; done) | (simp [*]; done), by repeat (first | exact Drawn0.refl _ | apply Drawn0.step)⟩
 }
 {
 have H' := aM H
 clear H
 go_wp2
 go_loopg [33] kj5 (fun kq v33 w' => ∃ (x33_3 : Int), v33 = .int .i64 x33_3 ∧ Aside0 (impl_CostsOk.l1 kq l0 l0 (l0.length : Int) x12_1 (rd_L1 l0 x12_1) ((rd_L1 l0 x12_1).length : Int) x33_3 = some r) ∧ Aside0 (kq ≤ kj5) ∧ Drawn0 w w')
 case atStart => exact ⟨(0), qz3, H', ⟨Nat.le_refl _⟩, by repeat (first | exact Drawn0.refl _ | apply Drawn0.step)⟩
 case round =>
 clear H'
 try clear qi1
 try clear c2
 try clear c2b0
 try clear c2b1
 try clear c3
 try clear c3b0
 try clear c4
 try clear c4b0
 try clear c5
 try clear c5b0
 try clear c10
 try clear qi10
 try clear hx101_0
 try clear p101
 try clear q101
 obtain ⟨x33_3, rfl, HA, HK3, ⟨m3, rfl⟩⟩ := hrel
 cases gk with
 | zero => exact absurd HA.out (by simp [impl_CostsOk.l1])
 | succ k3 =>
 have H := HA.out
 clear HA
 simp only [impl_CostsOk.l1] at H
 replace H := iE_ H
 rcases H with ⟨c11b0, H⟩ | ⟨c11b0, H⟩
 {
 replace H := iD_ H
 obtain ⟨c12b0, H⟩ := H
 replace H := iD_ H
 obtain ⟨c13b0, H⟩ := H
 replace H := Option.bind_eq_some_iff.mp H
 obtain ⟨t105, A140, H⟩ := H
 have A14 := aM A140
 clear A140
 replace H := iB_ H
 rcases H with ⟨rfl, H⟩ | ⟨rfl, H⟩
 {
 have H' := aM H
 clear H
 have p104 : (0 ≤ (x33_3 : Int)) = True := et_
 have q104 : (x33_3 < ((rd_L1 l0 x12_1).length : Int)) = True := et_
 obtain ⟨ad104, e104, hx104_0⟩ := Kd.at_int HR101_0.out x33_3 dt_ dt_
 cases e104
 go_wp2_with (first | ((with_reducible refine gate_callee (f := 42) rfl ?_); refine goesL_ (some 38) rfl rfl Try.func42 (by kernel_rfl) rfl #[.int .i64 (rd (rd_L1 l0 x12_1) x33_3), .int .i64 0, .int .i64 100000] rfl qz4 ?_; (with_reducible refine (impl_in.calls (rd (rd_L1 l0 x12_1) x33_3) 0 100000 true _ A14.out).mono ?_); rintro e w' ⟨rfl, ⟨nd, rfl⟩⟩; refine ⟨_, rfl, ?_⟩))
 go_roundg k3
 case measure => have := HK1.out; have := HJ5.out; have := HK3.out; omega
 case rel => exact ⟨(wrap64 (x33_3 + 1)), qz3, H', ⟨by have := HK1.out; have := HJ5.out; have := HK3.out; omega⟩, by repeat (first | exact Drawn0.refl _ | apply Drawn0.step)⟩
 }
 {
 obtain rfl := Option.some.inj H
 have p104 : (0 ≤ (x33_3 : Int)) = True := et_
 have q104 : (x33_3 < ((rd_L1 l0 x12_1).length : Int)) = True := et_
 obtain ⟨ad104, e104, hx104_0⟩ := Kd.at_int HR101_0.out x33_3 dt_ dt_
 cases e104
 go_wp2_with (first | ((with_reducible refine gate_callee (f := 42) rfl ?_); refine goesL_ (some 38) rfl rfl Try.func42 (by kernel_rfl) rfl #[.int .i64 (rd (rd_L1 l0 x12_1) x33_3), .int .i64 0, .int .i64 100000] rfl qz4 ?_; (with_reducible refine (impl_in.calls (rd (rd_L1 l0 x12_1) x33_3) 0 100000 false _ A14.out).mono ?_); rintro e w' ⟨rfl, ⟨nd, rfl⟩⟩; refine ⟨_, rfl, ?_⟩))
 go_ret
 exact ⟨by first | rfl | (simp; done) | (simp [*]; done), by repeat (first | exact Drawn0.refl _ | apply Drawn0.step)⟩
 }
 }
 {
 have H' := aM H
 clear H
 go_wp2
 go_roundg k3
 case measure => have := HK1.out; have := HJ5.out; have := HK3.out; omega
 case rel => exact ⟨(wrap64 (x12_1 + 1)), qz3, H', ⟨by have := HK1.out; have := HJ5.out; have := HK3.out; omega⟩, by repeat (first | exact Drawn0.refl _ | apply Drawn0.step)⟩
 }
 }
 }
 {
 obtain rfl := Option.some.inj H
 go_wp2
 go_ret
 exact ⟨by first | rfl | (simp; done) | (simp [*]; done), by repeat (first | exact Drawn0.refl _ | apply Drawn0.step)⟩
 }
 }
end Go.Proofs.Ytbebfhlejnidkaa.PFnMatched
