-- Made by a program of this session out of the translation. Lean checks it.
import Derived.Test.YtankmdbbgepmbaaPFnStepx0
namespace Go.Proofs.Ytankmdbbgepmbaa.PFnStep
open Go.RowKit Go.Proofs.YtankmdbbgepmbaaW.PrintWords Go.Proofs.YtankmdbbgepmbaaW.PrintLast Go.Proofs.YtankmdbbgepmbaaW.PrintMore
attribute [local go_sem] max2_int min2_int max_two min_two max_three min_three max_four min_four   -- for this text's walks alone
set_option linter.unusedVariables false
set_option linter.unusedSimpArgs false

/-! ### spec_l6Among: function 77 -/
def spec_l6Among.l0 : Nat → List Int → Int → Int → Option (Bool)
 | 0, _, _, _ => none
 | k + 1, x0, x1, x5 => if x5 < (x0.length : Int) then (if 0 ≤ x5 then (if (rd x0 x5) = x1 then (some true) else (spec_l6Among.l0 k x0 x1 (wrap64 (x5 + 1)))) else (none)) else (some false)
def spec_l6Among.f (k : Nat) (l0 : List Int) (a1 : Int) : Option (Bool) := spec_l6Among.l0 k l0 a1 0
theorem spec_l6Among.mono_l : ∀ k, (∀ y0 y1 y2, LeO (spec_l6Among.l0 k y0 y1 y2) (spec_l6Among.l0 (k + 1) y0 y1 y2))
 | 0 => fun _ _ _ r h => by simp [spec_l6Among.l0] at h
 | k + 1 => by
  have ih0 := spec_l6Among.mono_l k
  {
  intro y0 y1 y2
  unfold spec_l6Among.l0
  exact qL
  }
theorem spec_l6Among.mono : ∀ a0 a1 k, LeO (spec_l6Among.f k a0 a1) (spec_l6Among.f (k + 1) a0 a1) := by
 intro a0 a1 k
 have ih0 := spec_l6Among.mono_l k
 unfold spec_l6Among.f
 exact qL
set_option maxHeartbeats 8000000 in
set_option maxRecDepth 100000 in
theorem spec_l6Among.calls (k : Nat) (A0 : Option Addr) (c0 : Nat) (l0 : List Int) (a1 : Int) (r : Bool) (w : World) (hr0 : Kd.C (Kd.int .i64) w A0 l0.length l0) (hc0 : l0.length ≤ c0) (h : spec_l6Among.f k l0 a1 = some r) :
  Calls Try.prog 77 #[.slice A0 l0.length c0, .int .i64 a1] w fun e w' => e = .returned (.bool r) ∧ Drawn0 w w' := by
 have HR0 := aM hr0
 have HC0 := aM hc0
 clear hr0 hc0
 have H : (spec_l6Among.l0 k l0 a1 0) = some r := h
 clear h
 have H' := aM H
 clear H
 go_enter Try.func77, Try.ntmps77
 go_wp2
 go_loopg [5] k (fun kq v5 w' => ∃ (x5_1 : Int), v5 = .int .i64 x5_1 ∧ Aside0 (spec_l6Among.l0 kq l0 a1 x5_1 = some r) ∧ Aside0 (kq ≤ k) ∧ Drawn0 w w')
 case atStart => exact ⟨(0), qz5, H', ⟨Nat.le_refl _⟩, by repeat (first | exact Drawn0.refl _ | apply Drawn0.step)⟩
 case round =>
 clear H'
 obtain ⟨x5_1, rfl, HA, HK1, ⟨m1, rfl⟩⟩ := hrel
 cases gk with
 | zero => exact absurd HA.out (by simp [spec_l6Among.l0])
 | succ k1 =>
 have H := HA.out
 clear HA
 simp only [spec_l6Among.l0] at H
 replace H := iE_ H
 rcases H with ⟨c3b0, H⟩ | ⟨c3b0, H⟩
 {
 replace H := iD_ H
 obtain ⟨c4b0, H⟩ := H
 replace H := iQ_ H
 rcases H with ⟨c5b0, c5b1, H⟩ | ⟨c5, c5b0, c5b1, H⟩
 {
 obtain rfl := Option.some.inj H
 have p252 : (0 ≤ (x5_1 : Int)) = True := et_
 have q252 : (x5_1 < (l0.length : Int)) = True := et_
 obtain ⟨ad252, e252, hx252_0⟩ := Kd.at_int HR0.out x5_1 dt_ dt_
 cases e252
 go_wp2
 go_ret
 exact ⟨by first | rfl | (simp; done) | (simp [*]; done), by repeat (first | exact Drawn0.refl _ | apply Drawn0.step)⟩
 }
 {
 have H' := aM H
 clear H
 have p252 : (0 ≤ (x5_1 : Int)) = True := et_
 have q252 : (x5_1 < (l0.length : Int)) = True := et_
 obtain ⟨ad252, e252, hx252_0⟩ := Kd.at_int HR0.out x5_1 dt_ dt_
 cases e252
 go_wp2
 go_roundg k1
 case measure => have := HK1.out; omega
 case rel => exact ⟨(wrap64 (x5_1 + 1)), qz5, H', ⟨by have := HK1.out; omega⟩, by repeat (first | exact Drawn0.refl _ | apply Drawn0.step)⟩
 }
 }
 {
 obtain rfl := Option.some.inj H
 go_wp2
 go_ret
 exact ⟨by first | rfl | (simp; done) | (simp [*]; done), by repeat (first | exact Drawn0.refl _ | apply Drawn0.step)⟩
 }
end Go.Proofs.Ytankmdbbgepmbaa.PFnStep
