-- Made by a program of this session out of the translation. Lean checks it.
import Derived.Test.YtankmdbbgepmbaaPFnDrivenx1
import Derived.Test.YtankmdbbgepmbaaPFnDrivenx14
namespace Go.Proofs.Ytankmdbbgepmbaa.PFnDriven
open Go.RowKit Go.Proofs.YtankmdbbgepmbaaW.PrintWords Go.Proofs.YtankmdbbgepmbaaW.PrintLast Go.Proofs.YtankmdbbgepmbaaW.PrintMore
attribute [local go_sem] max2_int min2_int max_two min_two max_three min_three max_four min_four   -- for this text's walks alone
set_option linter.unusedVariables false
set_option linter.unusedSimpArgs false

attribute [local go_sem high] eqA37
/-! ### laws_sameCrew: function 48 -/
def laws_sameCrew.l0 : Nat → List (S37) → List (S37) → Int → Option (Bool)
 | 0, _, _, _ => none
 | k + 1, x0, x1, x5 => if x5 < (x0.length : Int) then (if 0 ≤ x5 then (if x5 < (x1.length : Int) then (if (!(((rd_T37 x0 x5).f0) == ((rd_T37 x1 x5).f0)) || (!(((rd_T37 x0 x5).f1) == ((rd_T37 x1 x5).f1)) || (!(((rd_T37 x0 x5).f2) == ((rd_T37 x1 x5).f2)) || (!(((rd_T37 x0 x5).f3) == ((rd_T37 x1 x5).f3)) || (!(((rd_T37 x0 x5).f4) == ((rd_T37 x1 x5).f4))))))) = true then (some false) else (laws_sameCrew.l0 k x0 x1 (wrap64 (x5 + 1)))) else (none)) else (none)) else (some true)
def laws_sameCrew.f (k : Nat) (l0 : List (S37)) (l1 : List (S37)) : Option (Bool) := if (l0.length : Int) = (l1.length : Int) then (laws_sameCrew.l0 k l0 l1 0) else (some false)
theorem laws_sameCrew.mono_l : ∀ k, (∀ y0 y1 y2, LeO (laws_sameCrew.l0 k y0 y1 y2) (laws_sameCrew.l0 (k + 1) y0 y1 y2))
 | 0 => fun _ _ _ r h => by simp [laws_sameCrew.l0] at h
 | k + 1 => by
  have ih0 := laws_sameCrew.mono_l k
  {
  intro y0 y1 y2
  unfold laws_sameCrew.l0
  exact qL
  }
theorem laws_sameCrew.mono : ∀ a0 a1 k, LeO (laws_sameCrew.f k a0 a1) (laws_sameCrew.f (k + 1) a0 a1) := by
 intro a0 a1 k
 have ih0 := laws_sameCrew.mono_l k
 unfold laws_sameCrew.f
 exact qL
set_option maxHeartbeats 8000000 in
set_option maxRecDepth 100000 in
theorem laws_sameCrew.calls (k : Nat) (A0 : Option Addr) (c0 : Nat) (l0 : List (S37)) (A1 : Option Addr) (c1 : Nat) (l1 : List (S37)) (r : Bool) (w : World) (hr0 : Kd.C k37 w A0 l0.length l0) (hc0 : l0.length ≤ c0) (hr1 : Kd.C k37 w A1 l1.length l1) (hc1 : l1.length ≤ c1) (h : laws_sameCrew.f k l0 l1 = some r) :
  Calls Try.prog 48 #[.slice A0 l0.length c0, .slice A1 l1.length c1] w fun e w' => e = .returned (.bool r) ∧ Drawn0 w w' := by
 have hu37 := Try.underlying37
 have HR0 := aM hr0
 have HC0 := aM hc0
 clear hr0 hc0
 have HR1 := aM hr1
 have HC1 := aM hc1
 clear hr1 hc1
 unfold laws_sameCrew.f at h
 have H := h
 clear h
 replace H := iS_ H
 rcases H with ⟨c3, H⟩ | ⟨c3, H⟩
 {
 have c3b0 := beq_iff_eq.mpr c3
 have c3b1 := bne_eq_false_iff_eq.mpr c3
 have c3b2 : (l0.length == l1.length) = true := by first | simpa using c3 | (simp at c3 ⊢; omega)
 clear c3
 have H' := aM H
 clear H
 go_enter Try.func48, Try.ntmps48
 go_wp2
 repeat (go_quiet (fail); try go_wp2)
 go_loopg [5] k (fun kq v5 w' => ∃ (x5_1 : Int), v5 = .int .i64 x5_1 ∧ Aside0 (laws_sameCrew.l0 kq l0 l1 x5_1 = some r) ∧ Aside0 (kq ≤ k) ∧ Drawn0 w w')
 case atStart => exact ⟨(0), qz5, H', ⟨Nat.le_refl _⟩, by repeat (first | exact Drawn0.refl _ | apply Drawn0.step)⟩
 case round =>
 clear H'
 try clear c1
 try clear c3
 try clear c3b0
 try clear c3b1
 try clear c3b2
 obtain ⟨x5_1, rfl, HA, HK1, ⟨m1, rfl⟩⟩ := hrel
 cases gk with
 | zero => exact absurd HA.out (by simp [laws_sameCrew.l0])
 | succ k1 =>
 have H := HA.out
 clear HA
 simp only [laws_sameCrew.l0] at H
 replace H := iE_ H
 rcases H with ⟨c4b0, H⟩ | ⟨c4b0, H⟩
 {
 replace H := iD_ H
 obtain ⟨c5b0, H⟩ := H
 replace H := iD_ H
 obtain ⟨c6b0, H⟩ := H
 replace H := iS_ H
 rcases H with ⟨c7, H⟩ | ⟨c7, H⟩
 {
 have c7b0 : (!(((rd_T37 l0 x5_1).f0) == ((rd_T37 l1 x5_1).f0)) || (!(((rd_T37 l0 x5_1).f1) == ((rd_T37 l1 x5_1).f1)) || (!(((rd_T37 l0 x5_1).f2) == ((rd_T37 l1 x5_1).f2)) || (!(((rd_T37 l0 x5_1).f3) == ((rd_T37 l1 x5_1).f3)) || (!(((rd_T37 l0 x5_1).f4) == ((rd_T37 l1 x5_1).f4))))))) = true := c7
 clear c7
 obtain rfl := Option.some.inj H
 have p326 : (0 ≤ (x5_1 : Int)) = True := et_
 have q326 : (x5_1 < (l0.length : Int)) = True := et_
 obtain ⟨ad326, e326, hx326_0, hx326_1, hx326_2, hx326_3, hx326_4⟩ := at_T37 HR0.out x5_1 dt_ dt_
 cases e326
 have p327 : (0 ≤ (x5_1 : Int)) = True := et_
 have q327 : (x5_1 < (l1.length : Int)) = True := et_
 obtain ⟨ad327, e327, hx327_0, hx327_1, hx327_2, hx327_3, hx327_4⟩ := at_T37 HR1.out x5_1 dt_ dt_
 cases e327
 go_wp2
 repeat (go_quiet (fail); try go_wp2)
 go_ret
 exact ⟨by first | rfl | (simp; done) | (simp [*]; done), by repeat (first | exact Drawn0.refl _ | apply Drawn0.step)⟩
 }
 {
 have c7b0 : (!(((rd_T37 l0 x5_1).f0) == ((rd_T37 l1 x5_1).f0)) || (!(((rd_T37 l0 x5_1).f1) == ((rd_T37 l1 x5_1).f1)) || (!(((rd_T37 l0 x5_1).f2) == ((rd_T37 l1 x5_1).f2)) || (!(((rd_T37 l0 x5_1).f3) == ((rd_T37 l1 x5_1).f3)) || (!(((rd_T37 l0 x5_1).f4) == ((rd_T37 l1 x5_1).f4))))))) = false := by simpa using c7
 clear c7
 have H' := aM H
 clear H
 have p326 : (0 ≤ (x5_1 : Int)) = True := et_
 have q326 : (x5_1 < (l0.length : Int)) = True := et_
 obtain ⟨ad326, e326, hx326_0, hx326_1, hx326_2, hx326_3, hx326_4⟩ := at_T37 HR0.out x5_1 dt_ dt_
 cases e326
 have p327 : (0 ≤ (x5_1 : Int)) = True := et_
 have q327 : (x5_1 < (l1.length : Int)) = True := et_
 obtain ⟨ad327, e327, hx327_0, hx327_1, hx327_2, hx327_3, hx327_4⟩ := at_T37 HR1.out x5_1 dt_ dt_
 cases e327
 go_wp2
 repeat (go_quiet (fail); try go_wp2)
 go_roundg k1
 case measure => have := HK1.out; omega
 case rel => exact ⟨(wrap64 (x5_1 + 1)), qz5, H', ⟨by have := HK1.out; omega⟩, by repeat (first | exact Drawn0.refl _ | apply Drawn0.step)⟩
 }
 }
 {
 obtain rfl := Option.some.inj H
 go_wp2
 repeat (go_quiet (fail); try go_wp2)
 go_ret
 exact ⟨by first | rfl | (simp; done) | (simp [*]; done), by repeat (first | exact Drawn0.refl _ | apply Drawn0.step)⟩
 }
 }
 {
 have c3b0 := beq_eq_false_iff_ne.mpr c3
 have c3b1 := bne_iff_ne.mpr c3
 have c3b2 : (l0.length == l1.length) = false := by first | simpa using c3 | (simp at c3 ⊢; omega)
 obtain rfl := Option.some.inj H
 go_enter Try.func48, Try.ntmps48
 go_wp2
 repeat (go_quiet (fail); try go_wp2)
 go_ret
 exact ⟨by first | rfl | (simp; done) | (simp [*]; done), by repeat (first | exact Drawn0.refl _ | apply Drawn0.step)⟩
 }
/-! ### impl_Arrived: function 49 -/
def impl_Arrived.l0 : Nat → Int → List (S37) → Int → Int → Option (Int)
 | 0, _, _, _, _ => none
 | k + 1, x3, x6, x7, x8 => if x8 < x7 then (if 0 ≤ x8 then (if x8 < (x6.length : Int) then ((impl_rests.f ((rd_T37 x6 x8).f0) ((rd_T37 x6 x8).f1) ((rd_T37 x6 x8).f2) ((rd_T37 x6 x8).f3) ((rd_T37 x6 x8).f4)).bind fun t330 => (if t330 = true then (impl_Arrived.l0 k (wrap64 (x3 + 1)) x6 x7 (wrap64 (x8 + 1))) else (impl_Arrived.l0 k x3 x6 x7 (wrap64 (x8 + 1))))) else (none)) else (none)) else (some x3)
def impl_Arrived.f (k : Nat) (l0 : List (S37)) : Option (Int) := impl_Arrived.l0 k 0 l0 (l0.length : Int) 0
theorem impl_Arrived.mono_l : ∀ k, (∀ y0 y1 y2 y3, LeO (impl_Arrived.l0 k y0 y1 y2 y3) (impl_Arrived.l0 (k + 1) y0 y1 y2 y3))
 | 0 => fun _ _ _ _ r h => by simp [impl_Arrived.l0] at h
 | k + 1 => by
  have ih0 := impl_Arrived.mono_l k
  {
  intro y0 y1 y2 y3
  unfold impl_Arrived.l0
  exact qL
  }
theorem impl_Arrived.mono : ∀ a0 k, LeO (impl_Arrived.f k a0) (impl_Arrived.f (k + 1) a0) := by
 intro a0 k
 have ih0 := impl_Arrived.mono_l k
 unfold impl_Arrived.f
 exact qL
set_option maxHeartbeats 8000000 in
set_option maxRecDepth 100000 in
theorem impl_Arrived.calls (k : Nat) (A0 : Option Addr) (c0 : Nat) (l0 : List (S37)) (r : Int) (w : World) (hr0 : Kd.C k37 w A0 l0.length l0) (hc0 : l0.length ≤ c0) (h : impl_Arrived.f k l0 = some r) :
  Calls Try.prog 49 #[.slice A0 l0.length c0] w fun e w' => e = .returned (.int .i64 r) ∧ Below w.heap.size w w' := by
 have hu37 := Try.underlying37
 have HR0 := aM hr0
 have HC0 := aM hc0
 clear hr0 hc0
 have HB := aM (Below.refl w.heap.size w)
 unfold impl_Arrived.f at h
 have H := h
 clear h
 have H' := aM H
 clear H
 go_enter Try.func49, Try.ntmps49
 go_wp2
 go_loopg [3, 8] k (fun kq v3 v8 w' => ∃ (x3_1 : Int) (x8_1 : Int), v3 = .int .i64 x3_1 ∧ v8 = .int .i64 x8_1 ∧ Aside0 (impl_Arrived.l0 kq x3_1 l0 (l0.length : Int) x8_1 = some r) ∧ Aside0 (kq ≤ k) ∧ Aside0 (Below w.heap.size w w'))
 case atStart => exact ⟨(0), (0), qz5, qz5, H', ⟨Nat.le_refl _⟩, ⟨qz1⟩⟩
 case round =>
 clear H'
 obtain ⟨x3_1, x8_1, rfl, rfl, HA, HK1, HB⟩ := hrel
 cases gk with
 | zero => exact absurd HA.out (by simp [impl_Arrived.l0])
 | succ k1 =>
 have H := HA.out
 clear HA
 simp only [impl_Arrived.l0] at H
 replace H := iE_ H
 rcases H with ⟨c2b0, H⟩ | ⟨c2b0, H⟩
 {
 replace H := iD_ H
 obtain ⟨c3b0, H⟩ := H
 replace H := iD_ H
 obtain ⟨c4b0, H⟩ := H
 replace H := Option.bind_eq_some_iff.mp H
 obtain ⟨t330, A50, H⟩ := H
 have A5 := aM A50
 clear A50
 replace H := iB_ H
 rcases H with ⟨rfl, H⟩ | ⟨rfl, H⟩
 {
 have H' := aM H
 clear H
 have p328 : (0 ≤ (x8_1 : Int)) = True := et_
 have q328 : (x8_1 < (l0.length : Int)) = True := et_
 obtain ⟨ad328, e328, hx328_0, hx328_1, hx328_2, hx328_3, hx328_4⟩ := at_T37 HR0.out x8_1 dt_ dt_
 cases e328
 replace hx328_0 := cB_ hx328_0
 replace hx328_1 := cB_ hx328_1
 replace hx328_2 := cB_ hx328_2
 replace hx328_3 := cB_ hx328_3
 replace hx328_4 := cB_ hx328_4
 go_wp2_with (first | ((with_reducible refine gate_dst (N := 5) rfl ?_); refine bx_ 5 #[.int .i64 0, .int .i64 0, .int .i64 0, .bool false, .int .i64 0] 37 ?_; intro gb329 hg w7 hbox hb; have BK329 := aM (hbox); have GW329 := aM (bz_ w hg qz1); have GE329 := GW329; replace HB := bS_ hb; clear hb hbox hg; obtain ⟨hcz8_0, hcz8_1, hcz8_2, hcz8_3, hcz8_4, hfz8_0, hfz8_1, hfz8_2, hfz8_3, hfz8_4⟩ := b10_ BK329.out) | ((with_reducible refine gate_callee (f := 87) rfl ?_); refine goesL_ (some 13) rfl rfl Try.func87 (by kernel_rfl) rfl #[.agg #[.int .i64 ((rd_T37 l0 x8_1).f0), .int .i64 ((rd_T37 l0 x8_1).f1), .int .i64 ((rd_T37 l0 x8_1).f2), .bool ((rd_T37 l0 x8_1).f3), .int .i64 ((rd_T37 l0 x8_1).f4)]] rfl qz3 ?_; (with_reducible refine (impl_rests.calls ((rd_T37 l0 x8_1).f0) ((rd_T37 l0 x8_1).f1) ((rd_T37 l0 x8_1).f2) ((rd_T37 l0 x8_1).f3) ((rd_T37 l0 x8_1).f4) true _ A5.out).mono ?_); rintro e w9 ⟨rfl, hb⟩; refine ⟨_, rfl, ?_⟩; replace BK329 := aM (blk_below (g := gb329) (o := .cells #[.int .i64 ((rd_T37 l0 x8_1).f0), .int .i64 ((rd_T37 l0 x8_1).f1), .int .i64 ((rd_T37 l0 x8_1).f2), .bool ((rd_T37 l0 x8_1).f3), .int .i64 ((rd_T37 l0 x8_1).f4)] 37 (0, 0)) (by (with_reducible repeat (first | refine blk_drewN ?_ _ | refine blk_drew ?_ | refine blk_alloc ?_ _)); refine blk_put (cs := #[.int .i64 ((rd_T37 l0 x8_1).f0), .int .i64 ((rd_T37 l0 x8_1).f1), .int .i64 ((rd_T37 l0 x8_1).f2), .bool ((rd_T37 l0 x8_1).f3), .int .i64 0]) ?_ 4 _ rfl; (with_reducible repeat (first | refine blk_drewN ?_ _ | refine blk_drew ?_ | refine blk_alloc ?_ _)); refine blk_put (cs := #[.int .i64 ((rd_T37 l0 x8_1).f0), .int .i64 ((rd_T37 l0 x8_1).f1), .int .i64 ((rd_T37 l0 x8_1).f2), .bool false, .int .i64 0]) ?_ 3 _ rfl; (with_reducible repeat (first | refine blk_drewN ?_ _ | refine blk_drew ?_ | refine blk_alloc ?_ _)); refine blk_put (cs := #[.int .i64 ((rd_T37 l0 x8_1).f0), .int .i64 ((rd_T37 l0 x8_1).f1), .int .i64 0, .bool false, .int .i64 0]) ?_ 2 _ rfl; (with_reducible repeat (first | refine blk_drewN ?_ _ | refine blk_drew ?_ | refine blk_alloc ?_ _)); refine blk_put (cs := #[.int .i64 ((rd_T37 l0 x8_1).f0), .int .i64 0, .int .i64 0, .bool false, .int .i64 0]) ?_ 1 _ rfl; (with_reducible repeat (first | refine blk_drewN ?_ _ | refine blk_drew ?_ | refine blk_alloc ?_ _)); refine blk_put (cs := #[.int .i64 0, .int .i64 0, .int .i64 0, .bool false, .int .i64 0]) ?_ 0 _ rfl; exact bk_ BK329.out) hb); replace HB := bS_ hb; (try clear hb)))
 go_roundg k1
 case measure => have := HK1.out; omega
 case rel => exact ⟨(wrap64 (x3_1 + 1)), (wrap64 (x8_1 + 1)), qz5, qz5, H', ⟨by have := HK1.out; omega⟩, ⟨qz1⟩⟩
 }
 {
 have H' := aM H
 clear H
 have p328 : (0 ≤ (x8_1 : Int)) = True := et_
 have q328 : (x8_1 < (l0.length : Int)) = True := et_
 obtain ⟨ad328, e328, hx328_0, hx328_1, hx328_2, hx328_3, hx328_4⟩ := at_T37 HR0.out x8_1 dt_ dt_
 cases e328
 replace hx328_0 := cB_ hx328_0
 replace hx328_1 := cB_ hx328_1
 replace hx328_2 := cB_ hx328_2
 replace hx328_3 := cB_ hx328_3
 replace hx328_4 := cB_ hx328_4
 go_wp2_with (first | ((with_reducible refine gate_dst (N := 5) rfl ?_); refine bx_ 5 #[.int .i64 0, .int .i64 0, .int .i64 0, .bool false, .int .i64 0] 37 ?_; intro gb329 hg w10 hbox hb; have BK329 := aM (hbox); have GW329 := aM (bz_ w hg qz1); have GE329 := GW329; replace HB := bS_ hb; clear hb hbox hg; obtain ⟨hcz11_0, hcz11_1, hcz11_2, hcz11_3, hcz11_4, hfz11_0, hfz11_1, hfz11_2, hfz11_3, hfz11_4⟩ := b10_ BK329.out) | ((with_reducible refine gate_callee (f := 87) rfl ?_); refine goesL_ (some 13) rfl rfl Try.func87 (by kernel_rfl) rfl #[.agg #[.int .i64 ((rd_T37 l0 x8_1).f0), .int .i64 ((rd_T37 l0 x8_1).f1), .int .i64 ((rd_T37 l0 x8_1).f2), .bool ((rd_T37 l0 x8_1).f3), .int .i64 ((rd_T37 l0 x8_1).f4)]] rfl qz3 ?_; (with_reducible refine (impl_rests.calls ((rd_T37 l0 x8_1).f0) ((rd_T37 l0 x8_1).f1) ((rd_T37 l0 x8_1).f2) ((rd_T37 l0 x8_1).f3) ((rd_T37 l0 x8_1).f4) false _ A5.out).mono ?_); rintro e w12 ⟨rfl, hb⟩; refine ⟨_, rfl, ?_⟩; replace BK329 := aM (blk_below (g := gb329) (o := .cells #[.int .i64 ((rd_T37 l0 x8_1).f0), .int .i64 ((rd_T37 l0 x8_1).f1), .int .i64 ((rd_T37 l0 x8_1).f2), .bool ((rd_T37 l0 x8_1).f3), .int .i64 ((rd_T37 l0 x8_1).f4)] 37 (0, 0)) (by (with_reducible repeat (first | refine blk_drewN ?_ _ | refine blk_drew ?_ | refine blk_alloc ?_ _)); refine blk_put (cs := #[.int .i64 ((rd_T37 l0 x8_1).f0), .int .i64 ((rd_T37 l0 x8_1).f1), .int .i64 ((rd_T37 l0 x8_1).f2), .bool ((rd_T37 l0 x8_1).f3), .int .i64 0]) ?_ 4 _ rfl; (with_reducible repeat (first | refine blk_drewN ?_ _ | refine blk_drew ?_ | refine blk_alloc ?_ _)); refine blk_put (cs := #[.int .i64 ((rd_T37 l0 x8_1).f0), .int .i64 ((rd_T37 l0 x8_1).f1), .int .i64 ((rd_T37 l0 x8_1).f2), .bool false, .int .i64 0]) ?_ 3 _ rfl; (with_reducible repeat (first | refine blk_drewN ?_ _ | refine blk_drew ?_ | refine blk_alloc ?_ _)); refine blk_put (cs := #[.int .i64 ((rd_T37 l0 x8_1).f0), .int .i64 ((rd_T37 l0 x8_1).f1), .int .i64 0, .bool false, .int .i64 0]) ?_ 2 _ rfl; (with_reducible repeat (first | refine blk_drewN ?_ _ | refine blk_drew ?_ | refine blk_alloc ?_ _)); refine blk_put (cs := #[.int .i64 ((rd_T37 l0 x8_1).f0), .int .i64 0, .int .i64 0, .bool false, .int .i64 0]) ?_ 1 _ rfl; (with_reducible repeat (first | refine blk_drewN ?_ _ | refine blk_drew ?_ | refine blk_alloc ?_ _)); refine blk_put (cs := #[.int .i64 0, .int .i64 0, .int .i64 0, .bool false, .int .i64 0]) ?_ 0 _ rfl; exact bk_ BK329.out) hb); replace HB := bS_ hb; (try clear hb)))
 go_roundg k1
 case measure => have := HK1.out; omega
 case rel => exact ⟨(x3_1), (wrap64 (x8_1 + 1)), qz5, qz5, H', ⟨by have := HK1.out; omega⟩, ⟨qz1⟩⟩
 }
 }
 {
 obtain rfl := Option.some.inj H
 go_wp2
 go_ret
 exact ⟨qzw, qz1⟩
 }
end Go.Proofs.Ytankmdbbgepmbaa.PFnDriven
