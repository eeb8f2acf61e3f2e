-- Made by a program of this session out of the translation. Lean checks it.
import Derived.Test.YtankmdbbgepmbaaPFnExactClashx11
namespace Go.Proofs.Ytankmdbbgepmbaa.PFnExactClash
open Go.RowKit Go.Proofs.YtankmdbbgepmbaaW.PrintWords Go.Proofs.YtankmdbbgepmbaaW.PrintLast Go.Proofs.YtankmdbbgepmbaaW.PrintMore
attribute [local go_sem] max2_int min2_int max_two min_two max_three min_three max_four min_four   -- for this text's walks alone
set_option linter.unusedVariables false
set_option linter.unusedSimpArgs false

/-! ### impl_same: function 78 -/
def impl_same.l0 : Nat → List Int → List Int → Int → Int → Option (Bool)
 | 0, _, _, _, _ => none
 | k + 1, x0, x5, x6, x7 => if x7 < x6 then (if 0 ≤ x7 then (if x7 < (x5.length : Int) then (if x7 ≤ (x0.length : Int) then ((impl_hasInt.f k (x0.take (x7 : Int).toNat) (rd x5 x7)).bind fun t389 => (if t389 = true then (some true) else (impl_same.l0 k x0 x5 x6 (wrap64 (x7 + 1))))) else (none)) else (none)) else (none)) else (some false)
def impl_same.f (k : Nat) (l0 : List Int) : Option (Bool) := impl_same.l0 k l0 l0 (l0.length : Int) 0
theorem impl_same.mono_l : ∀ k, (∀ y0 y1 y2 y3, LeO (impl_same.l0 k y0 y1 y2 y3) (impl_same.l0 (k + 1) y0 y1 y2 y3))
 | 0 => fun _ _ _ _ r h => by simp [impl_same.l0] at h
 | k + 1 => by
  have ih0 := impl_same.mono_l k
  {
  intro y0 y1 y2 y3
  unfold impl_same.l0
  have j0 := @impl_hasInt.mono
  exact qL
  }
theorem impl_same.mono : ∀ a0 k, LeO (impl_same.f k a0) (impl_same.f (k + 1) a0) := by
 intro a0 k
 have ih0 := impl_same.mono_l k
 unfold impl_same.f
 have j0 := @impl_hasInt.mono
 exact qL
set_option maxHeartbeats 8000000 in
set_option maxRecDepth 100000 in
theorem impl_same.calls (k : Nat) (A0 : Option Addr) (c0 : Nat) (l0 : List Int) (r : Bool) (w : World) (hr0 : Kd.C (Kd.int .i64) w A0 l0.length l0) (hc0 : l0.length ≤ c0) (h : impl_same.f k l0 = some r) :
  Calls Try.prog 78 #[.slice A0 l0.length c0] w fun e w' => e = .returned (.bool r) ∧ Drawn0 w w' := by
 have HR0 := aM hr0
 have HC0 := aM hc0
 clear hr0 hc0
 have H : (impl_same.l0 k l0 l0 (l0.length : Int) 0) = some r := h
 clear h
 have H' := aM H
 clear H
 go_enter Try.func78, Try.ntmps78
 go_wp2
 go_loopg [7] k (fun kq v7 w' => ∃ (x7_1 : Int), v7 = .int .i64 x7_1 ∧ Aside0 (impl_same.l0 kq l0 l0 (l0.length : Int) x7_1 = some r) ∧ Aside0 (kq ≤ k) ∧ Drawn0 w w')
 case atStart => exact ⟨(0), qz4, H', ⟨Nat.le_refl _⟩, by repeat (first | exact Drawn0.refl _ | apply Drawn0.step)⟩
 case round =>
  clear H'
  obtain ⟨x7_1, rfl, HA, HK1, ⟨m1, rfl⟩⟩ := hrel
  cases gk with
  | zero => exact absurd HA.out (by simp [impl_same.l0])
  | succ k1 =>
   have H := HA.out
   clear HA
   simp only [impl_same.l0] at H
   by_cases c2 : x7_1 < (l0.length : Int)
   {
   rw [if_pos c2] at H
   have c2b0 := decide_eq_true c2
   clear c2
   by_cases c3 : 0 ≤ x7_1
   {
   rw [if_pos c3] at H
   have c3b0 := decide_eq_true c3
   clear c3
   by_cases c4 : x7_1 < (l0.length : Int)
   {
   rw [if_pos c4] at H
   have c4b0 := decide_eq_true c4
   clear c4
   have c5b0 := eq_true (dt_ : 0 ≤ x7_1)
   by_cases c6 : x7_1 ≤ (l0.length : Int)
   {
   rw [if_pos c6] at H
   have c6b0 := eq_true c6
   have c6b1 := decide_eq_true c6
   clear c6
   replace H := Option.bind_eq_some_iff.mp H
   obtain ⟨t389, A70, H⟩ := H
   replace H : (if t389 = true then (some true) else (impl_same.l0 k1 l0 l0 (l0.length : Int) (wrap64 (x7_1 + 1)))) = some r := H
   have A7 := aM A70
   clear A70
   by_cases c8 : t389 = true
   {
   subst c8
   rw [if_pos rfl] at H
   obtain rfl := Option.some.inj H
   simp only [Option.some.injEq, Prod.mk.injEq] at H
   obtain ⟨rfl⟩ := H
   have p387 : 0 ≤ (x7_1 : Int) := dt_
   have q387 : x7_1 < (l0.length : Int) := dt_
   obtain ⟨ad387, e387, hx387_0⟩ := Kd.at_int HR0.out x7_1 p387 q387
   cases e387
   replace p387 := eq_true p387
   replace q387 := eq_true q387
   obtain ⟨i09, hi09, _, hsz9, _⟩ := info_parts info3
   obtain ⟨hcut9, hA9, hC9⟩ := print_take_of (P := Try.prog) (Value.int .i64) 0 24 3 .i64 Try.underlying24 hi09 hsz9 (some ad387) c0 l0 x7_1 (dt_) (dt_) HC0.out
   have HR388 := aM (Kd.C_of_reads (h1 := fun _ => rfl) (hA9 _ (Kd.reads_of_C HR0.out)))
   have HC388 := aM hC9
   clear hA9 hC9 hi09 hsz9
   go_wp2_with (first | ((with_reducible refine gate_callee (f := 67) rfl ?_); refine goesL_ (some 16) rfl rfl Try.func67 (by kernel_rfl) rfl #[.slice (some ad387) (l0.take (x7_1 : Int).toNat).length c0, .int .i64 (rd l0 x7_1)] rfl (by (try simp only [List.map_toArray, List.map_cons, List.map_nil]); first | done | (rw [show (l0.take (x7_1 : Int).toNat).length = x7_1.toNat from (by rw [List.length_take]; have h_ : (x7_1 : Int) ≤ (l0.length : Int) := dt_; omega)] <;> rfl) | rfl | (simp only [List.length_drop, List.length_take]; rfl)) ?_; (with_reducible refine (impl_hasInt.calls k1 _ _ (l0.take (x7_1 : Int).toNat) (rd l0 x7_1) true _ ?side1 ?side2 A7.out).mono ?_); (case side1 => repeat (first | exact HR388.out | (with_reducible refine Kd.C_alloc ?_ _) | (with_reducible refine Kd.C_drewN ?_ _) | (with_reducible refine Kd.C_drew ?_))); (case side2 => exact HC388.out); rintro e w' ⟨rfl, ⟨nd, rfl⟩⟩; refine ⟨_, rfl, ?_⟩))
   go_ret
   exact ⟨by first | rfl | (simp; done) | (simp [*]; done), by repeat (first | exact Drawn0.refl _ | apply Drawn0.step)⟩
   }
   {
   replace c8 := Bool.eq_false_iff.mpr c8
   subst c8
   rw [if_neg (show ¬ (false = true) by decide)] at H
   have H' := aM H
   clear H
   have p387 : 0 ≤ (x7_1 : Int) := dt_
   have q387 : x7_1 < (l0.length : Int) := dt_
   obtain ⟨ad387, e387, hx387_0⟩ := Kd.at_int HR0.out x7_1 p387 q387
   cases e387
   replace p387 := eq_true p387
   replace q387 := eq_true q387
   obtain ⟨i010, hi010, _, hsz10, _⟩ := info_parts info3
   obtain ⟨hcut10, hA10, hC10⟩ := print_take_of (P := Try.prog) (Value.int .i64) 0 24 3 .i64 Try.underlying24 hi010 hsz10 (some ad387) c0 l0 x7_1 (dt_) (dt_) HC0.out
   have HR388 := aM (Kd.C_of_reads (h1 := fun _ => rfl) (hA10 _ (Kd.reads_of_C HR0.out)))
   have HC388 := aM hC10
   clear hA10 hC10 hi010 hsz10
   go_wp2_with (first | ((with_reducible refine gate_callee (f := 67) rfl ?_); refine goesL_ (some 16) rfl rfl Try.func67 (by kernel_rfl) rfl #[.slice (some ad387) (l0.take (x7_1 : Int).toNat).length c0, .int .i64 (rd l0 x7_1)] rfl (by (try simp only [List.map_toArray, List.map_cons, List.map_nil]); first | done | (rw [show (l0.take (x7_1 : Int).toNat).length = x7_1.toNat from (by rw [List.length_take]; have h_ : (x7_1 : Int) ≤ (l0.length : Int) := dt_; omega)] <;> rfl) | rfl | (simp only [List.length_drop, List.length_take]; rfl)) ?_; (with_reducible refine (impl_hasInt.calls k1 _ _ (l0.take (x7_1 : Int).toNat) (rd l0 x7_1) false _ ?side1 ?side2 A7.out).mono ?_); (case side1 => repeat (first | exact HR388.out | (with_reducible refine Kd.C_alloc ?_ _) | (with_reducible refine Kd.C_drewN ?_ _) | (with_reducible refine Kd.C_drew ?_))); (case side2 => exact HC388.out); rintro e w' ⟨rfl, ⟨nd, rfl⟩⟩; refine ⟨_, rfl, ?_⟩))
   go_roundg k1
   case measure => have := HK1.out; omega
   case rel => exact ⟨(wrap64 (x7_1 + 1)), qz4, H', ⟨by have := HK1.out; omega⟩, by repeat (first | exact Drawn0.refl _ | apply Drawn0.step)⟩
   }
   }
   {
   exact an_ c6 H
   }
   }
   {
   exact an_ c4 H
   }
   }
   {
   exact an_ c3 H
   }
   }
   {
   rw [if_neg c2] at H
   have c2b0 := decide_eq_false c2
   clear c2
   obtain rfl := Option.some.inj H
   simp only [Option.some.injEq, Prod.mk.injEq] at H
   obtain ⟨rfl⟩ := H
   go_wp2
   go_ret
   exact ⟨by first | rfl | (simp; done) | (simp [*]; done), by repeat (first | exact Drawn0.refl _ | apply Drawn0.step)⟩

   }
/-! ### impl_swaps: function 79 -/
mutual
def impl_swaps.l0 : Nat → List (S37) → List Int → List (S37) → Int → Int → Option (Bool)
 | 0, _, _, _, _, _ => none
 | k + 1, x0, x1, x9, x10, x11 => if x11 < x10 then (if 0 ≤ x11 then (if x11 < (x9.length : Int) then (if x11 ≤ (x0.length : Int) then ((some (x0.take (x11 : Int).toNat : List (S37))).bind fun y392 => (impl_swaps.l1 k x0 x1 x11 x9 x10 x11 y392 (y392.length : Int) 0 ((rd_T37 x9 x11).f0) ((rd_T37 x9 x11).f1) ((rd_T37 x9 x11).f2) ((rd_T37 x9 x11).f3) ((rd_T37 x9 x11).f4))) else (none)) else (none)) else (none)) else (some false)
def impl_swaps.l1 : Nat → List (S37) → List Int → Int → List (S37) → Int → Int → List (S37) → Int → Int → Int → Int → Int → Bool → Int → Option (Bool)
 | 0, _, _, _, _, _, _, _, _, _, _, _, _, _, _ => none
 | k + 1, x0, x1, x5, x9, x10, x11, x18, x19, x20, x392000, x392001, x392002, x392003, x392004 => if x20 < x19 then (if 0 ≤ x20 then (if x20 < (x18.length : Int) then (if 0 ≤ x5 then (if x5 < (x1.length : Int) then (if (rd x1 x5) = ((rd_T37 x18 x20).f1) then (if x20 < (x1.length : Int) then (if (rd x1 x20) = x392001 then (some true) else (impl_swaps.l1 k x0 x1 x5 x9 x10 x11 x18 x19 (wrap64 (x20 + 1)) x392000 x392001 x392002 x392003 x392004)) else (none)) else (impl_swaps.l1 k x0 x1 x5 x9 x10 x11 x18 x19 (wrap64 (x20 + 1)) x392000 x392001 x392002 x392003 x392004)) else (none)) else (none)) else (none)) else (none)) else (impl_swaps.l0 k x0 x1 x9 x10 (wrap64 (x11 + 1)))
end
def impl_swaps.f (k : Nat) (l0 : List (S37)) (l1 : List Int) : Option (Bool) := impl_swaps.l0 k l0 l1 l0 (l0.length : Int) 0
theorem impl_swaps.mono_l : ∀ k, (∀ y0 y1 y2 y3 y4, LeO (impl_swaps.l0 k y0 y1 y2 y3 y4) (impl_swaps.l0 (k + 1) y0 y1 y2 y3 y4)) ∧ (∀ y0 y1 y2 y3 y4 y5 y6 y7 y8 y9 y10 y11 y12 y13, LeO (impl_swaps.l1 k y0 y1 y2 y3 y4 y5 y6 y7 y8 y9 y10 y11 y12 y13) (impl_swaps.l1 (k + 1) y0 y1 y2 y3 y4 y5 y6 y7 y8 y9 y10 y11 y12 y13))
 | 0 => ⟨fun _ _ _ _ _ r h => by simp [impl_swaps.l0] at h, fun _ _ _ _ _ _ _ _ _ _ _ _ _ _ r h => by simp [impl_swaps.l1] at h⟩
 | k + 1 => by
  obtain ⟨ih0, ih1⟩ := impl_swaps.mono_l k
  refine ⟨?_, ?_⟩
  {
  intro y0 y1 y2 y3 y4
  unfold impl_swaps.l0
  exact qL
  }
  {
  intro y0 y1 y2 y3 y4 y5 y6 y7 y8 y9 y10 y11 y12 y13
  unfold impl_swaps.l1
  exact qL
  }
theorem impl_swaps.mono : ∀ a0 a1 k, LeO (impl_swaps.f k a0 a1) (impl_swaps.f (k + 1) a0 a1) := by
 intro a0 a1 k
 obtain ⟨ih0, ih1⟩ := impl_swaps.mono_l k
 unfold impl_swaps.f
 exact qL
set_option maxHeartbeats 8000000 in
set_option maxRecDepth 100000 in
theorem impl_swaps.calls (k : Nat) (A0 : Option Addr) (c0 : Nat) (l0 : List (S37)) (A1 : Option Addr) (c1 : Nat) (l1 : List Int) (r : Bool) (w : World) (hr0 : Kd.C k37 w A0 l0.length l0) (hc0 : l0.length ≤ c0) (hr1 : Kd.C (Kd.int .i64) w A1 l1.length l1) (hc1 : l1.length ≤ c1) (h : impl_swaps.f k l0 l1 = some r) :
  Calls Try.prog 79 #[.slice A0 l0.length c0, .slice A1 l1.length c1] w fun e w' => e = .returned (.bool r) ∧ Below w.heap.size w w' := by
 have hu37 := Try.underlying37
 have HR0 := aM hr0
 have HC0 := aM hc0
 clear hr0 hc0
 have HR1 := aM hr1
 have HC1 := aM hc1
 clear hr1 hc1
 have HB := aM (Below.refl w.heap.size w)
 have H : (impl_swaps.l0 k l0 l1 l0 (l0.length : Int) 0) = some r := h
 clear h
 have H' := aM H
 clear H
 go_enter Try.func79, Try.ntmps79
 go_wp2
 repeat (go_quiet (fail); try go_wp2)
 go_loopg [11] k (fun kq v11 w' => ∃ (x11_1 : Int), v11 = .int .i64 x11_1 ∧ Aside0 (impl_swaps.l0 kq l0 l1 l0 (l0.length : Int) x11_1 = some r) ∧ Aside0 (kq ≤ k) ∧ Aside0 (Below w.heap.size w w'))
 case atStart => exact ⟨(0), qz4, H', ⟨Nat.le_refl _⟩, ⟨qz1⟩⟩
 case round =>
  clear H'
  try clear c1
  try clear p2
  obtain ⟨x11_1, rfl, HA, HK1, HB⟩ := hrel
  cases gk with
  | zero => exact absurd HA.out (by simp [impl_swaps.l0])
  | succ k1 =>
   have H := HA.out
   clear HA
   simp only [impl_swaps.l0] at H
   by_cases c3 : x11_1 < (l0.length : Int)
   {
   rw [if_pos c3] at H
   have c3b0 := decide_eq_true c3
   clear c3
   by_cases c4 : 0 ≤ x11_1
   {
   rw [if_pos c4] at H
   have c4b0 := decide_eq_true c4
   clear c4
   by_cases c5 : x11_1 < (l0.length : Int)
   {
   rw [if_pos c5] at H
   have c5b0 := decide_eq_true c5
   clear c5
   have c6b0 := eq_true (dt_ : 0 ≤ x11_1)
   by_cases c7 : x11_1 ≤ (l0.length : Int)
   {
   rw [if_pos c7] at H
   have c7b0 := eq_true c7
   have c7b1 := decide_eq_true c7
   clear c7
   obtain ⟨y392, hy392⟩ : ∃ y_ : List (S37), y_ = (l0.take (x11_1 : Int).toNat) := ⟨_, rfl⟩
   replace H : (impl_swaps.l1 k1 l0 l1 x11_1 l0 (l0.length : Int) x11_1 y392 (y392.length : Int) 0 ((rd_T37 l0 x11_1).f0) ((rd_T37 l0 x11_1).f1) ((rd_T37 l0 x11_1).f2) ((rd_T37 l0 x11_1).f3) ((rd_T37 l0 x11_1).f4)) = some r := by first | (rw [hy392]; with_reducible exact H) | (have H2_ := (Option.bind_some _ _).symm.trans H; rw [hy392]; with_reducible exact H2_) | (have H2_ := (Option.bind_some _ _).symm.trans H; with_reducible exact H2_) | with_reducible exact H | (rw [hy392]; exact H) | exact H
   have Ny392 := aM hy392
   clear hy392
   have H' := aM H
   clear H
   have p390 : 0 ≤ (x11_1 : Int) := dt_
   have q390 : x11_1 < (l0.length : Int) := dt_
   obtain ⟨ad390, e390, hx390_0, hx390_1, hx390_2, hx390_3, hx390_4⟩ := at_T37 HR0.out x11_1 p390 q390
   cases e390
   replace hx390_0 := cB_ hx390_0
   replace hx390_1 := cB_ hx390_1
   replace hx390_2 := cB_ hx390_2
   replace hx390_3 := cB_ hx390_3
   replace hx390_4 := cB_ hx390_4
   replace p390 := eq_true p390
   replace q390 := eq_true q390
   go_wp2_with (first | ((with_reducible refine gate_dst (N := 6) rfl ?_); refine bx_ 6 #[.int .i64 0, .int .i64 0, .int .i64 0, .bool false, .int .i64 0] 37 ?_; intro gb391 hg w8 hbox hb; have BK391 := aM (hbox); have GW391 := aM (bz_ w hg qz1); have GE391 := GW391; replace HB := bS_ hb; clear hb hbox hg; have hcz9_0 := bc0_ BK391.out; have hcz9_1 := bc1_ BK391.out; have hcz9_2 := bc2_ BK391.out; have hcz9_3 := bc3_ BK391.out; have hcz9_4 := bc4_ BK391.out; have hfz9_0 := blk_frozen BK391.out 0; have hfz9_1 := blk_frozen BK391.out 1; have hfz9_2 := blk_frozen BK391.out 2; have hfz9_3 := blk_frozen BK391.out 3; have hfz9_4 := blk_frozen BK391.out 4) | ((with_reducible refine gate_store (t := 37) (p := 6) rfl ?_); (try (rw [drewN_self w8]; generalize hq_ : World.drewN w8 _ = w8; replace BK391 := aM (blk_at hq_ BK391.out); replace HB := aM (below_at hq_ HB.out); clear hq_)); refine store_event (t := 37) (p := 6) (v := ?vo_w10) (w1 := (((((w8.setCell ⟨gb391, 0, none⟩ (.int .i64 ((rd_T37 l0 x11_1).f0))).setCell ⟨gb391, 1, none⟩ (.int .i64 ((rd_T37 l0 x11_1).f1))).setCell ⟨gb391, 2, none⟩ (.int .i64 ((rd_T37 l0 x11_1).f2))).setCell ⟨gb391, 3, none⟩ (.bool ((rd_T37 l0 x11_1).f3))).setCell ⟨gb391, 4, none⟩ (.int .i64 ((rd_T37 l0 x11_1).f4)))) ?hg ?ho ?hn ?hr ?_; (case ho => rfl); (case hg => rfl); (case hn => rfl); (case hr => exact qz7); intro w10 hw; replace BK391 : Aside0 (w10.heap[gb391]? = some (.cells #[.int .i64 ((rd_T37 l0 x11_1).f0), .int .i64 ((rd_T37 l0 x11_1).f1), .int .i64 ((rd_T37 l0 x11_1).f2), .bool ((rd_T37 l0 x11_1).f3), .int .i64 ((rd_T37 l0 x11_1).f4)] 37 (0, 0))) := ⟨(by rw [hw]; exact (by (with_reducible repeat (first | refine blk_drewN ?_ _ | refine blk_drew ?_ | refine blk_alloc ?_ _)); refine blk_put (cs := #[.int .i64 ((rd_T37 l0 x11_1).f0), .int .i64 ((rd_T37 l0 x11_1).f1), .int .i64 ((rd_T37 l0 x11_1).f2), .bool ((rd_T37 l0 x11_1).f3), .int .i64 0]) ?_ 4 _ rfl; (with_reducible repeat (first | refine blk_drewN ?_ _ | refine blk_drew ?_ | refine blk_alloc ?_ _)); refine blk_put (cs := #[.int .i64 ((rd_T37 l0 x11_1).f0), .int .i64 ((rd_T37 l0 x11_1).f1), .int .i64 ((rd_T37 l0 x11_1).f2), .bool false, .int .i64 0]) ?_ 3 _ rfl; (with_reducible repeat (first | refine blk_drewN ?_ _ | refine blk_drew ?_ | refine blk_alloc ?_ _)); refine blk_put (cs := #[.int .i64 ((rd_T37 l0 x11_1).f0), .int .i64 ((rd_T37 l0 x11_1).f1), .int .i64 0, .bool false, .int .i64 0]) ?_ 2 _ rfl; (with_reducible repeat (first | refine blk_drewN ?_ _ | refine blk_drew ?_ | refine blk_alloc ?_ _)); refine blk_put (cs := #[.int .i64 ((rd_T37 l0 x11_1).f0), .int .i64 0, .int .i64 0, .bool false, .int .i64 0]) ?_ 1 _ rfl; (with_reducible repeat (first | refine blk_drewN ?_ _ | refine blk_drew ?_ | refine blk_alloc ?_ _)); refine blk_put (cs := #[.int .i64 0, .int .i64 0, .int .i64 0, .bool false, .int .i64 0]) ?_ 0 _ rfl; exact bk_ BK391.out))⟩; replace HB : Aside0 (Below w.heap.size w w10) := ⟨(by rw [hw]; exact qz1)⟩; clear hw; have q11 : (x11_1 : Int) ≤ ((l0.length : Int) : Int) := dt_; obtain ⟨i011, hi011, _, hsz11, _⟩ := info_parts info37; have hroom11 : l0.length ≤ c0 := HC0.out; have hC11 : Kd.C k37 _ (some ad390) l0.length l0 := HR0.out; have hcut11 := cut_to (P := Try.prog) 26 37 .i64 Try.underlying26 hi011 (some ad390) l0.length c0 x11_1 (dt_) q11 hroom11; have hr11 := Kd.C_take (m := (x11_1 : Int).toNat) hC11 (by omega); have hy11 : y392.length = (x11_1 : Int).toNat := (by rw [Ny392.out, List.length_take]; omega); rw [← Ny392.out] at hr11; rw [← hy11] at hcut11; have HR395 := aM hr11; have HC395 := aM (show y392.length ≤ c0 from by omega); clear hr11 hC11 hroom11 hi011 hsz11; have KY11 := aM hy11; clear hy11; replace q11 := eq_true q11))
   repeat (go_quiet (first | ((with_reducible refine gate_dst (N := 6) rfl ?_); refine bx_ 6 #[.int .i64 0, .int .i64 0, .int .i64 0, .bool false, .int .i64 0] 37 ?_; intro gb391 hg w8 hbox hb; have BK391 := aM (hbox); have GW391 := aM (bz_ w hg qz1); have GE391 := GW391; replace HB := bS_ hb; clear hb hbox hg; have hcz9_0 := bc0_ BK391.out; have hcz9_1 := bc1_ BK391.out; have hcz9_2 := bc2_ BK391.out; have hcz9_3 := bc3_ BK391.out; have hcz9_4 := bc4_ BK391.out; have hfz9_0 := blk_frozen BK391.out 0; have hfz9_1 := blk_frozen BK391.out 1; have hfz9_2 := blk_frozen BK391.out 2; have hfz9_3 := blk_frozen BK391.out 3; have hfz9_4 := blk_frozen BK391.out 4) | ((with_reducible refine gate_store (t := 37) (p := 6) rfl ?_); (try (rw [drewN_self w8]; generalize hq_ : World.drewN w8 _ = w8; replace BK391 := aM (blk_at hq_ BK391.out); replace HB := aM (below_at hq_ HB.out); clear hq_)); refine store_event (t := 37) (p := 6) (v := ?vo_w10) (w1 := (((((w8.setCell ⟨gb391, 0, none⟩ (.int .i64 ((rd_T37 l0 x11_1).f0))).setCell ⟨gb391, 1, none⟩ (.int .i64 ((rd_T37 l0 x11_1).f1))).setCell ⟨gb391, 2, none⟩ (.int .i64 ((rd_T37 l0 x11_1).f2))).setCell ⟨gb391, 3, none⟩ (.bool ((rd_T37 l0 x11_1).f3))).setCell ⟨gb391, 4, none⟩ (.int .i64 ((rd_T37 l0 x11_1).f4)))) ?hg ?ho ?hn ?hr ?_; (case ho => rfl); (case hg => rfl); (case hn => rfl); (case hr => exact qz7); intro w10 hw; replace BK391 : Aside0 (w10.heap[gb391]? = some (.cells #[.int .i64 ((rd_T37 l0 x11_1).f0), .int .i64 ((rd_T37 l0 x11_1).f1), .int .i64 ((rd_T37 l0 x11_1).f2), .bool ((rd_T37 l0 x11_1).f3), .int .i64 ((rd_T37 l0 x11_1).f4)] 37 (0, 0))) := ⟨(by rw [hw]; exact (by (with_reducible repeat (first | refine blk_drewN ?_ _ | refine blk_drew ?_ | refine blk_alloc ?_ _)); refine blk_put (cs := #[.int .i64 ((rd_T37 l0 x11_1).f0), .int .i64 ((rd_T37 l0 x11_1).f1), .int .i64 ((rd_T37 l0 x11_1).f2), .bool ((rd_T37 l0 x11_1).f3), .int .i64 0]) ?_ 4 _ rfl; (with_reducible repeat (first | refine blk_drewN ?_ _ | refine blk_drew ?_ | refine blk_alloc ?_ _)); refine blk_put (cs := #[.int .i64 ((rd_T37 l0 x11_1).f0), .int .i64 ((rd_T37 l0 x11_1).f1), .int .i64 ((rd_T37 l0 x11_1).f2), .bool false, .int .i64 0]) ?_ 3 _ rfl; (with_reducible repeat (first | refine blk_drewN ?_ _ | refine blk_drew ?_ | refine blk_alloc ?_ _)); refine blk_put (cs := #[.int .i64 ((rd_T37 l0 x11_1).f0), .int .i64 ((rd_T37 l0 x11_1).f1), .int .i64 0, .bool false, .int .i64 0]) ?_ 2 _ rfl; (with_reducible repeat (first | refine blk_drewN ?_ _ | refine blk_drew ?_ | refine blk_alloc ?_ _)); refine blk_put (cs := #[.int .i64 ((rd_T37 l0 x11_1).f0), .int .i64 0, .int .i64 0, .bool false, .int .i64 0]) ?_ 1 _ rfl; (with_reducible repeat (first | refine blk_drewN ?_ _ | refine blk_drew ?_ | refine blk_alloc ?_ _)); refine blk_put (cs := #[.int .i64 0, .int .i64 0, .int .i64 0, .bool false, .int .i64 0]) ?_ 0 _ rfl; exact bk_ BK391.out))⟩; replace HB : Aside0 (Below w.heap.size w w10) := ⟨(by rw [hw]; exact qz1)⟩; clear hw; have q11 : (x11_1 : Int) ≤ ((l0.length : Int) : Int) := dt_; obtain ⟨i011, hi011, _, hsz11, _⟩ := info_parts info37; have hroom11 : l0.length ≤ c0 := HC0.out; have hC11 : Kd.C k37 _ (some ad390) l0.length l0 := HR0.out; have hcut11 := cut_to (P := Try.prog) 26 37 .i64 Try.underlying26 hi011 (some ad390) l0.length c0 x11_1 (dt_) q11 hroom11; have hr11 := Kd.C_take (m := (x11_1 : Int).toNat) hC11 (by omega); have hy11 : y392.length = (x11_1 : Int).toNat := (by rw [Ny392.out, List.length_take]; omega); rw [← Ny392.out] at hr11; rw [← hy11] at hcut11; have HR395 := aM hr11; have HC395 := aM (show y392.length ≤ c0 from by omega); clear hr11 hC11 hroom11 hi011 hsz11; have KY11 := aM hy11; clear hy11; replace q11 := eq_true q11)); try go_wp2_with (first | ((with_reducible refine gate_dst (N := 6) rfl ?_); refine bx_ 6 #[.int .i64 0, .int .i64 0, .int .i64 0, .bool false, .int .i64 0] 37 ?_; intro gb391 hg w8 hbox hb; have BK391 := aM (hbox); have GW391 := aM (bz_ w hg qz1); have GE391 := GW391; replace HB := bS_ hb; clear hb hbox hg; have hcz9_0 := bc0_ BK391.out; have hcz9_1 := bc1_ BK391.out; have hcz9_2 := bc2_ BK391.out; have hcz9_3 := bc3_ BK391.out; have hcz9_4 := bc4_ BK391.out; have hfz9_0 := blk_frozen BK391.out 0; have hfz9_1 := blk_frozen BK391.out 1; have hfz9_2 := blk_frozen BK391.out 2; have hfz9_3 := blk_frozen BK391.out 3; have hfz9_4 := blk_frozen BK391.out 4) | ((with_reducible refine gate_store (t := 37) (p := 6) rfl ?_); (try (rw [drewN_self w8]; generalize hq_ : World.drewN w8 _ = w8; replace BK391 := aM (blk_at hq_ BK391.out); replace HB := aM (below_at hq_ HB.out); clear hq_)); refine store_event (t := 37) (p := 6) (v := ?vo_w10) (w1 := (((((w8.setCell ⟨gb391, 0, none⟩ (.int .i64 ((rd_T37 l0 x11_1).f0))).setCell ⟨gb391, 1, none⟩ (.int .i64 ((rd_T37 l0 x11_1).f1))).setCell ⟨gb391, 2, none⟩ (.int .i64 ((rd_T37 l0 x11_1).f2))).setCell ⟨gb391, 3, none⟩ (.bool ((rd_T37 l0 x11_1).f3))).setCell ⟨gb391, 4, none⟩ (.int .i64 ((rd_T37 l0 x11_1).f4)))) ?hg ?ho ?hn ?hr ?_; (case ho => rfl); (case hg => rfl); (case hn => rfl); (case hr => exact qz7); intro w10 hw; replace BK391 : Aside0 (w10.heap[gb391]? = some (.cells #[.int .i64 ((rd_T37 l0 x11_1).f0), .int .i64 ((rd_T37 l0 x11_1).f1), .int .i64 ((rd_T37 l0 x11_1).f2), .bool ((rd_T37 l0 x11_1).f3), .int .i64 ((rd_T37 l0 x11_1).f4)] 37 (0, 0))) := ⟨(by rw [hw]; exact (by (with_reducible repeat (first | refine blk_drewN ?_ _ | refine blk_drew ?_ | refine blk_alloc ?_ _)); refine blk_put (cs := #[.int .i64 ((rd_T37 l0 x11_1).f0), .int .i64 ((rd_T37 l0 x11_1).f1), .int .i64 ((rd_T37 l0 x11_1).f2), .bool ((rd_T37 l0 x11_1).f3), .int .i64 0]) ?_ 4 _ rfl; (with_reducible repeat (first | refine blk_drewN ?_ _ | refine blk_drew ?_ | refine blk_alloc ?_ _)); refine blk_put (cs := #[.int .i64 ((rd_T37 l0 x11_1).f0), .int .i64 ((rd_T37 l0 x11_1).f1), .int .i64 ((rd_T37 l0 x11_1).f2), .bool false, .int .i64 0]) ?_ 3 _ rfl; (with_reducible repeat (first | refine blk_drewN ?_ _ | refine blk_drew ?_ | refine blk_alloc ?_ _)); refine blk_put (cs := #[.int .i64 ((rd_T37 l0 x11_1).f0), .int .i64 ((rd_T37 l0 x11_1).f1), .int .i64 0, .bool false, .int .i64 0]) ?_ 2 _ rfl; (with_reducible repeat (first | refine blk_drewN ?_ _ | refine blk_drew ?_ | refine blk_alloc ?_ _)); refine blk_put (cs := #[.int .i64 ((rd_T37 l0 x11_1).f0), .int .i64 0, .int .i64 0, .bool false, .int .i64 0]) ?_ 1 _ rfl; (with_reducible repeat (first | refine blk_drewN ?_ _ | refine blk_drew ?_ | refine blk_alloc ?_ _)); refine blk_put (cs := #[.int .i64 0, .int .i64 0, .int .i64 0, .bool false, .int .i64 0]) ?_ 0 _ rfl; exact bk_ BK391.out))⟩; replace HB : Aside0 (Below w.heap.size w w10) := ⟨(by rw [hw]; exact qz1)⟩; clear hw; have q11 : (x11_1 : Int) ≤ ((l0.length : Int) : Int) := dt_; obtain ⟨i011, hi011, _, hsz11, _⟩ := info_parts info37; have hroom11 : l0.length ≤ c0 := HC0.out; have hC11 : Kd.C k37 _ (some ad390) l0.length l0 := HR0.out; have hcut11 := cut_to (P := Try.prog) 26 37 .i64 Try.underlying26 hi011 (some ad390) l0.length c0 x11_1 (dt_) q11 hroom11; have hr11 := Kd.C_take (m := (x11_1 : Int).toNat) hC11 (by omega); have hy11 : y392.length = (x11_1 : Int).toNat := (by rw [Ny392.out, List.length_take]; omega); rw [← Ny392.out] at hr11; rw [← hy11] at hcut11; have HR395 := aM hr11; have HC395 := aM (show y392.length ≤ c0 from by omega); clear hr11 hC11 hroom11 hi011 hsz11; have KY11 := aM hy11; clear hy11; replace q11 := eq_true q11)))
   go_loopg [20] k1 (fun kq v20 w' => ∃ (x20_2 : Int), v20 = .int .i64 x20_2 ∧ Aside0 (impl_swaps.l1 kq l0 l1 x11_1 l0 (l0.length : Int) x11_1 y392 (y392.length : Int) x20_2 ((rd_T37 l0 x11_1).f0) ((rd_T37 l0 x11_1).f1) ((rd_T37 l0 x11_1).f2) ((rd_T37 l0 x11_1).f3) ((rd_T37 l0 x11_1).f4) = some r) ∧ Aside0 (kq ≤ k1) ∧ Aside0 (w'.heap[gb391]? = some (.cells #[.int .i64 ((rd_T37 l0 x11_1).f0), .int .i64 ((rd_T37 l0 x11_1).f1), .int .i64 ((rd_T37 l0 x11_1).f2), .bool ((rd_T37 l0 x11_1).f3), .int .i64 ((rd_T37 l0 x11_1).f4)] 37 (0, 0))) ∧ Aside0 (Below w.heap.size w w'))
   case atStart => exact ⟨(0), qz4, H', ⟨Nat.le_refl _⟩, ⟨bk_ BK391.out⟩, ⟨qz1⟩⟩
   case round =>
    clear H'
    try clear c1
    try clear q1
    try clear p2
    try clear c3
    try clear c3b0
    try clear p3
    try clear q3
    try clear hx3
    try clear c4
    try clear c4b0
    try clear c5
    try clear c5b0
    try clear c6
    try clear c6b0
    try clear c7
    try clear c7b0
    try clear c7b1
    try clear q11
    try clear hcz9_0 hcz9_1 hcz9_2 hcz9_3 hcz9_4 hfz9_0 hfz9_1 hfz9_2 hfz9_3 hfz9_4
    try clear hx390_0
    try clear hx390_1
    try clear hx390_2
    try clear hx390_3
    try clear hx390_4
    try clear p390
    try clear q390
    obtain ⟨x20_2, rfl, HA, HK2, BK391, HB⟩ := hrel
    cases gk with
    | zero => exact absurd HA.out (by simp [impl_swaps.l1])
    | succ k2 =>
     have H := HA.out
     clear HA
     simp only [impl_swaps.l1] at H
     by_cases c12 : x20_2 < (y392.length : Int)
     {
     rw [if_pos c12] at H
     have c12b0 := decide_eq_true c12
     clear c12
     by_cases c13 : 0 ≤ x20_2
     {
     rw [if_pos c13] at H
     have c13b0 := decide_eq_true c13
     clear c13
     by_cases c14 : x20_2 < (y392.length : Int)
     {
     rw [if_pos c14] at H
     have c14b0 := decide_eq_true c14
     clear c14
     by_cases c15 : 0 ≤ x11_1
     {
     rw [if_pos c15] at H
     have c15b0 := decide_eq_true c15
     clear c15
     by_cases c16 : x11_1 < (l1.length : Int)
     {
     rw [if_pos c16] at H
     have c16b0 := decide_eq_true c16
     clear c16
     by_cases c17 : (rd l1 x11_1) = ((rd_T37 y392 x20_2).f1)
     {
     rw [if_pos c17] at H
     have c17b0 := beq_iff_eq.mpr c17
     have c17b1 := bne_eq_false_iff_eq.mpr c17
     clear c17
     by_cases c18 : x20_2 < (l1.length : Int)
     {
     rw [if_pos c18] at H
     have c18b0 := decide_eq_true c18
     clear c18
     by_cases c19 : (rd l1 x20_2) = ((rd_T37 l0 x11_1).f1)
     {
     rw [if_pos c19] at H
     have c19b0 := beq_iff_eq.mpr c19
     have c19b1 := bne_eq_false_iff_eq.mpr c19
     clear c19
     obtain rfl := Option.some.inj H
     simp only [Option.some.injEq, Prod.mk.injEq] at H
     obtain ⟨rfl⟩ := H
     have p396 : 0 ≤ (x20_2 : Int) := dt_
     have q396 : x20_2 < (y392.length : Int) := dt_
     obtain ⟨ad396, e396, hx396_0, hx396_1, hx396_2, hx396_3, hx396_4⟩ := at_T37 HR395.out x20_2 p396 q396
     obtain rfl : ad390 = ad396 := (by injection e396)
     replace hx396_0 := cB_ hx396_0
     replace hx396_1 := cB_ hx396_1
     replace hx396_2 := cB_ hx396_2
     replace hx396_3 := cB_ hx396_3
     replace hx396_4 := cB_ hx396_4
     replace p396 := eq_true p396
     replace q396 := eq_true q396
     go_wp2_with (first | ((with_reducible refine gate_dst (N := 8) rfl ?_); refine bx_ 8 #[.int .i64 0, .int .i64 0, .int .i64 0, .bool false, .int .i64 0] 37 ?_; intro gb397 hg w20 hbox hb; have BK397 := aM (hbox); have GW397 := aM (bz_ w hg qz1); have GE397 := GW397; replace HB := bS_ hb; obtain ⟨NB391_397, NB397_391⟩ := nb_ hg (bk_ BK391.out); replace BK391 := bB_ BK391 hb; clear hb hbox hg; have hnb21 := NB397_391.out; have hnc21 := NB391_397.out; have hcz22_0 := bc0_ BK397.out; have hcz22_1 := bc1_ BK397.out; have hcz22_2 := bc2_ BK397.out; have hcz22_3 := bc3_ BK397.out; have hcz22_4 := bc4_ BK397.out; have hfz22_0 := blk_frozen BK397.out 0; have hfz22_1 := blk_frozen BK397.out 1; have hfz22_2 := blk_frozen BK397.out 2; have hfz22_3 := blk_frozen BK397.out 3; have hfz22_4 := blk_frozen BK397.out 4; have p398 : 0 ≤ (x11_1 : Int) := dt_; have q398 : x11_1 < (l1.length : Int) := dt_; obtain ⟨ad398, e398, hx398_0⟩ := Kd.at_int HR1.out x11_1 p398 q398; cases e398; have hn398_0 : ad398.block ≠ gb397 := nf_ hx398_0 GW397.out; have hn398_1 : ad398.block ≠ gb397 := nf_ hx398_0 GW397.out; have hn398_2 : ad398.block ≠ gb397 := nf_ hx398_0 GW397.out; have hn398_3 : ad398.block ≠ gb397 := nf_ hx398_0 GW397.out; have hn398_4 : ad398.block ≠ gb397 := nf_ hx398_0 GW397.out; replace hx398_0 := cB_ hx398_0; replace hx398_0 := (cell_far (p := ⟨gb397, 0, none⟩) qz9 (.int .i64 ((rd_T37 y392 x20_2).f0))).trans hx398_0; replace hx398_0 := (cell_far (p := ⟨gb397, 1, none⟩) qz10 (.int .i64 ((rd_T37 y392 x20_2).f1))).trans hx398_0; replace hx398_0 := (cell_far (p := ⟨gb397, 2, none⟩) qz11 (.int .i64 ((rd_T37 y392 x20_2).f2))).trans hx398_0; replace hx398_0 := (cell_far (p := ⟨gb397, 3, none⟩) qz12 (.bool ((rd_T37 y392 x20_2).f3))).trans hx398_0; replace hx398_0 := (cell_far (p := ⟨gb397, 4, none⟩) qz13 (.int .i64 ((rd_T37 y392 x20_2).f4))).trans hx398_0; (try have hy398_0 := fun (n_ : Nat) => (show (((((((w20.drewN n_).setCell ⟨gb397, 0, none⟩ (.int .i64 ((rd_T37 y392 x20_2).f0))).setCell ⟨gb397, 1, none⟩ (.int .i64 ((rd_T37 y392 x20_2).f1))).setCell ⟨gb397, 2, none⟩ (.int .i64 ((rd_T37 y392 x20_2).f2))).setCell ⟨gb397, 3, none⟩ (.bool ((rd_T37 y392 x20_2).f3))).setCell ⟨gb397, 4, none⟩ (.int .i64 ((rd_T37 y392 x20_2).f4)))).cell? _ = some _ from hx398_0)); clear hn398_0 hn398_1 hn398_2 hn398_3 hn398_4; replace p398 := eq_true p398; replace q398 := eq_true q398; have p399 : 0 ≤ (x20_2 : Int) := dt_; have q399 : x20_2 < (l1.length : Int) := dt_; obtain ⟨ad399, e399, hx399_0⟩ := Kd.at_int HR1.out x20_2 p399 q399; obtain rfl : ad398 = ad399 := (by injection e399); have hn399_0 : ad398.block ≠ gb397 := nf_ hx399_0 GW397.out; have hn399_1 : ad398.block ≠ gb397 := nf_ hx399_0 GW397.out; have hn399_2 : ad398.block ≠ gb397 := nf_ hx399_0 GW397.out; have hn399_3 : ad398.block ≠ gb397 := nf_ hx399_0 GW397.out; have hn399_4 : ad398.block ≠ gb397 := nf_ hx399_0 GW397.out; replace hx399_0 := cB_ hx399_0; replace hx399_0 := (cell_far (p := ⟨gb397, 0, none⟩) qz14 (.int .i64 ((rd_T37 y392 x20_2).f0))).trans hx399_0; replace hx399_0 := (cell_far (p := ⟨gb397, 1, none⟩) qz15 (.int .i64 ((rd_T37 y392 x20_2).f1))).trans hx399_0; replace hx399_0 := (cell_far (p := ⟨gb397, 2, none⟩) qz16 (.int .i64 ((rd_T37 y392 x20_2).f2))).trans hx399_0; replace hx399_0 := (cell_far (p := ⟨gb397, 3, none⟩) qz17 (.bool ((rd_T37 y392 x20_2).f3))).trans hx399_0; replace hx399_0 := (cell_far (p := ⟨gb397, 4, none⟩) qz18 (.int .i64 ((rd_T37 y392 x20_2).f4))).trans hx399_0; (try have hy399_0 := fun (n_ : Nat) => (show (((((((w20.drewN n_).setCell ⟨gb397, 0, none⟩ (.int .i64 ((rd_T37 y392 x20_2).f0))).setCell ⟨gb397, 1, none⟩ (.int .i64 ((rd_T37 y392 x20_2).f1))).setCell ⟨gb397, 2, none⟩ (.int .i64 ((rd_T37 y392 x20_2).f2))).setCell ⟨gb397, 3, none⟩ (.bool ((rd_T37 y392 x20_2).f3))).setCell ⟨gb397, 4, none⟩ (.int .i64 ((rd_T37 y392 x20_2).f4)))).cell? _ = some _ from hx399_0)); clear hn399_0 hn399_1 hn399_2 hn399_3 hn399_4; replace p399 := eq_true p399; replace q399 := eq_true q399; have hcz23_0 := bc0_ BK391.out; have hcz23_1 := bc1_ BK391.out; have hcz23_2 := bc2_ BK391.out; have hcz23_3 := bc3_ BK391.out; have hcz23_4 := bc4_ BK391.out; have hfz23_0 := blk_frozen BK391.out 0; have hfz23_1 := blk_frozen BK391.out 1; have hfz23_2 := blk_frozen BK391.out 2; have hfz23_3 := blk_frozen BK391.out 3; have hfz23_4 := blk_frozen BK391.out 4))
     repeat (go_quiet (first | ((with_reducible refine gate_dst (N := 8) rfl ?_); refine bx_ 8 #[.int .i64 0, .int .i64 0, .int .i64 0, .bool false, .int .i64 0] 37 ?_; intro gb397 hg w20 hbox hb; have BK397 := aM (hbox); have GW397 := aM (bz_ w hg qz1); have GE397 := GW397; replace HB := bS_ hb; obtain ⟨NB391_397, NB397_391⟩ := nb_ hg (bk_ BK391.out); replace BK391 := bB_ BK391 hb; clear hb hbox hg; have hnb21 := NB397_391.out; have hnc21 := NB391_397.out; have hcz22_0 := bc0_ BK397.out; have hcz22_1 := bc1_ BK397.out; have hcz22_2 := bc2_ BK397.out; have hcz22_3 := bc3_ BK397.out; have hcz22_4 := bc4_ BK397.out; have hfz22_0 := blk_frozen BK397.out 0; have hfz22_1 := blk_frozen BK397.out 1; have hfz22_2 := blk_frozen BK397.out 2; have hfz22_3 := blk_frozen BK397.out 3; have hfz22_4 := blk_frozen BK397.out 4; have p398 : 0 ≤ (x11_1 : Int) := dt_; have q398 : x11_1 < (l1.length : Int) := dt_; obtain ⟨ad398, e398, hx398_0⟩ := Kd.at_int HR1.out x11_1 p398 q398; cases e398; have hn398_0 : ad398.block ≠ gb397 := nf_ hx398_0 GW397.out; have hn398_1 : ad398.block ≠ gb397 := nf_ hx398_0 GW397.out; have hn398_2 : ad398.block ≠ gb397 := nf_ hx398_0 GW397.out; have hn398_3 : ad398.block ≠ gb397 := nf_ hx398_0 GW397.out; have hn398_4 : ad398.block ≠ gb397 := nf_ hx398_0 GW397.out; replace hx398_0 := cB_ hx398_0; replace hx398_0 := (cell_far (p := ⟨gb397, 0, none⟩) qz9 (.int .i64 ((rd_T37 y392 x20_2).f0))).trans hx398_0; replace hx398_0 := (cell_far (p := ⟨gb397, 1, none⟩) qz10 (.int .i64 ((rd_T37 y392 x20_2).f1))).trans hx398_0; replace hx398_0 := (cell_far (p := ⟨gb397, 2, none⟩) qz11 (.int .i64 ((rd_T37 y392 x20_2).f2))).trans hx398_0; replace hx398_0 := (cell_far (p := ⟨gb397, 3, none⟩) qz12 (.bool ((rd_T37 y392 x20_2).f3))).trans hx398_0; replace hx398_0 := (cell_far (p := ⟨gb397, 4, none⟩) qz13 (.int .i64 ((rd_T37 y392 x20_2).f4))).trans hx398_0; (try have hy398_0 := fun (n_ : Nat) => (show (((((((w20.drewN n_).setCell ⟨gb397, 0, none⟩ (.int .i64 ((rd_T37 y392 x20_2).f0))).setCell ⟨gb397, 1, none⟩ (.int .i64 ((rd_T37 y392 x20_2).f1))).setCell ⟨gb397, 2, none⟩ (.int .i64 ((rd_T37 y392 x20_2).f2))).setCell ⟨gb397, 3, none⟩ (.bool ((rd_T37 y392 x20_2).f3))).setCell ⟨gb397, 4, none⟩ (.int .i64 ((rd_T37 y392 x20_2).f4)))).cell? _ = some _ from hx398_0)); clear hn398_0 hn398_1 hn398_2 hn398_3 hn398_4; replace p398 := eq_true p398; replace q398 := eq_true q398; have p399 : 0 ≤ (x20_2 : Int) := dt_; have q399 : x20_2 < (l1.length : Int) := dt_; obtain ⟨ad399, e399, hx399_0⟩ := Kd.at_int HR1.out x20_2 p399 q399; obtain rfl : ad398 = ad399 := (by injection e399); have hn399_0 : ad398.block ≠ gb397 := nf_ hx399_0 GW397.out; have hn399_1 : ad398.block ≠ gb397 := nf_ hx399_0 GW397.out; have hn399_2 : ad398.block ≠ gb397 := nf_ hx399_0 GW397.out; have hn399_3 : ad398.block ≠ gb397 := nf_ hx399_0 GW397.out; have hn399_4 : ad398.block ≠ gb397 := nf_ hx399_0 GW397.out; replace hx399_0 := cB_ hx399_0; replace hx399_0 := (cell_far (p := ⟨gb397, 0, none⟩) qz14 (.int .i64 ((rd_T37 y392 x20_2).f0))).trans hx399_0; replace hx399_0 := (cell_far (p := ⟨gb397, 1, none⟩) qz15 (.int .i64 ((rd_T37 y392 x20_2).f1))).trans hx399_0; replace hx399_0 := (cell_far (p := ⟨gb397, 2, none⟩) qz16 (.int .i64 ((rd_T37 y392 x20_2).f2))).trans hx399_0; replace hx399_0 := (cell_far (p := ⟨gb397, 3, none⟩) qz17 (.bool ((rd_T37 y392 x20_2).f3))).trans hx399_0; replace hx399_0 := (cell_far (p := ⟨gb397, 4, none⟩) qz18 (.int .i64 ((rd_T37 y392 x20_2).f4))).trans hx399_0; (try have hy399_0 := fun (n_ : Nat) => (show (((((((w20.drewN n_).setCell ⟨gb397, 0, none⟩ (.int .i64 ((rd_T37 y392 x20_2).f0))).setCell ⟨gb397, 1, none⟩ (.int .i64 ((rd_T37 y392 x20_2).f1))).setCell ⟨gb397, 2, none⟩ (.int .i64 ((rd_T37 y392 x20_2).f2))).setCell ⟨gb397, 3, none⟩ (.bool ((rd_T37 y392 x20_2).f3))).setCell ⟨gb397, 4, none⟩ (.int .i64 ((rd_T37 y392 x20_2).f4)))).cell? _ = some _ from hx399_0)); clear hn399_0 hn399_1 hn399_2 hn399_3 hn399_4; replace p399 := eq_true p399; replace q399 := eq_true q399; have hcz23_0 := bc0_ BK391.out; have hcz23_1 := bc1_ BK391.out; have hcz23_2 := bc2_ BK391.out; have hcz23_3 := bc3_ BK391.out; have hcz23_4 := bc4_ BK391.out; have hfz23_0 := blk_frozen BK391.out 0; have hfz23_1 := blk_frozen BK391.out 1; have hfz23_2 := blk_frozen BK391.out 2; have hfz23_3 := blk_frozen BK391.out 3; have hfz23_4 := blk_frozen BK391.out 4)); try go_wp2_with (first | ((with_reducible refine gate_dst (N := 8) rfl ?_); refine bx_ 8 #[.int .i64 0, .int .i64 0, .int .i64 0, .bool false, .int .i64 0] 37 ?_; intro gb397 hg w20 hbox hb; have BK397 := aM (hbox); have GW397 := aM (bz_ w hg qz1); have GE397 := GW397; replace HB := bS_ hb; obtain ⟨NB391_397, NB397_391⟩ := nb_ hg (bk_ BK391.out); replace BK391 := bB_ BK391 hb; clear hb hbox hg; have hnb21 := NB397_391.out; have hnc21 := NB391_397.out; have hcz22_0 := bc0_ BK397.out; have hcz22_1 := bc1_ BK397.out; have hcz22_2 := bc2_ BK397.out; have hcz22_3 := bc3_ BK397.out; have hcz22_4 := bc4_ BK397.out; have hfz22_0 := blk_frozen BK397.out 0; have hfz22_1 := blk_frozen BK397.out 1; have hfz22_2 := blk_frozen BK397.out 2; have hfz22_3 := blk_frozen BK397.out 3; have hfz22_4 := blk_frozen BK397.out 4; have p398 : 0 ≤ (x11_1 : Int) := dt_; have q398 : x11_1 < (l1.length : Int) := dt_; obtain ⟨ad398, e398, hx398_0⟩ := Kd.at_int HR1.out x11_1 p398 q398; cases e398; have hn398_0 : ad398.block ≠ gb397 := nf_ hx398_0 GW397.out; have hn398_1 : ad398.block ≠ gb397 := nf_ hx398_0 GW397.out; have hn398_2 : ad398.block ≠ gb397 := nf_ hx398_0 GW397.out; have hn398_3 : ad398.block ≠ gb397 := nf_ hx398_0 GW397.out; have hn398_4 : ad398.block ≠ gb397 := nf_ hx398_0 GW397.out; replace hx398_0 := cB_ hx398_0; replace hx398_0 := (cell_far (p := ⟨gb397, 0, none⟩) qz9 (.int .i64 ((rd_T37 y392 x20_2).f0))).trans hx398_0; replace hx398_0 := (cell_far (p := ⟨gb397, 1, none⟩) qz10 (.int .i64 ((rd_T37 y392 x20_2).f1))).trans hx398_0; replace hx398_0 := (cell_far (p := ⟨gb397, 2, none⟩) qz11 (.int .i64 ((rd_T37 y392 x20_2).f2))).trans hx398_0; replace hx398_0 := (cell_far (p := ⟨gb397, 3, none⟩) qz12 (.bool ((rd_T37 y392 x20_2).f3))).trans hx398_0; replace hx398_0 := (cell_far (p := ⟨gb397, 4, none⟩) qz13 (.int .i64 ((rd_T37 y392 x20_2).f4))).trans hx398_0; (try have hy398_0 := fun (n_ : Nat) => (show (((((((w20.drewN n_).setCell ⟨gb397, 0, none⟩ (.int .i64 ((rd_T37 y392 x20_2).f0))).setCell ⟨gb397, 1, none⟩ (.int .i64 ((rd_T37 y392 x20_2).f1))).setCell ⟨gb397, 2, none⟩ (.int .i64 ((rd_T37 y392 x20_2).f2))).setCell ⟨gb397, 3, none⟩ (.bool ((rd_T37 y392 x20_2).f3))).setCell ⟨gb397, 4, none⟩ (.int .i64 ((rd_T37 y392 x20_2).f4)))).cell? _ = some _ from hx398_0)); clear hn398_0 hn398_1 hn398_2 hn398_3 hn398_4; replace p398 := eq_true p398; replace q398 := eq_true q398; have p399 : 0 ≤ (x20_2 : Int) := dt_; have q399 : x20_2 < (l1.length : Int) := dt_; obtain ⟨ad399, e399, hx399_0⟩ := Kd.at_int HR1.out x20_2 p399 q399; obtain rfl : ad398 = ad399 := (by injection e399); have hn399_0 : ad398.block ≠ gb397 := nf_ hx399_0 GW397.out; have hn399_1 : ad398.block ≠ gb397 := nf_ hx399_0 GW397.out; have hn399_2 : ad398.block ≠ gb397 := nf_ hx399_0 GW397.out; have hn399_3 : ad398.block ≠ gb397 := nf_ hx399_0 GW397.out; have hn399_4 : ad398.block ≠ gb397 := nf_ hx399_0 GW397.out; replace hx399_0 := cB_ hx399_0; replace hx399_0 := (cell_far (p := ⟨gb397, 0, none⟩) qz14 (.int .i64 ((rd_T37 y392 x20_2).f0))).trans hx399_0; replace hx399_0 := (cell_far (p := ⟨gb397, 1, none⟩) qz15 (.int .i64 ((rd_T37 y392 x20_2).f1))).trans hx399_0; replace hx399_0 := (cell_far (p := ⟨gb397, 2, none⟩) qz16 (.int .i64 ((rd_T37 y392 x20_2).f2))).trans hx399_0; replace hx399_0 := (cell_far (p := ⟨gb397, 3, none⟩) qz17 (.bool ((rd_T37 y392 x20_2).f3))).trans hx399_0; replace hx399_0 := (cell_far (p := ⟨gb397, 4, none⟩) qz18 (.int .i64 ((rd_T37 y392 x20_2).f4))).trans hx399_0; (try have hy399_0 := fun (n_ : Nat) => (show (((((((w20.drewN n_).setCell ⟨gb397, 0, none⟩ (.int .i64 ((rd_T37 y392 x20_2).f0))).setCell ⟨gb397, 1, none⟩ (.int .i64 ((rd_T37 y392 x20_2).f1))).setCell ⟨gb397, 2, none⟩ (.int .i64 ((rd_T37 y392 x20_2).f2))).setCell ⟨gb397, 3, none⟩ (.bool ((rd_T37 y392 x20_2).f3))).setCell ⟨gb397, 4, none⟩ (.int .i64 ((rd_T37 y392 x20_2).f4)))).cell? _ = some _ from hx399_0)); clear hn399_0 hn399_1 hn399_2 hn399_3 hn399_4; replace p399 := eq_true p399; replace q399 := eq_true q399; have hcz23_0 := bc0_ BK391.out; have hcz23_1 := bc1_ BK391.out; have hcz23_2 := bc2_ BK391.out; have hcz23_3 := bc3_ BK391.out; have hcz23_4 := bc4_ BK391.out; have hfz23_0 := blk_frozen BK391.out 0; have hfz23_1 := blk_frozen BK391.out 1; have hfz23_2 := blk_frozen BK391.out 2; have hfz23_3 := blk_frozen BK391.out 3; have hfz23_4 := blk_frozen BK391.out 4)))
     go_ret
     exact ⟨qzw, qz1⟩
     }
     {
     rw [if_neg c19] at H
     have c19b0 := beq_eq_false_iff_ne.mpr c19
     have c19b1 := bne_iff_ne.mpr c19
     have H' := aM H
     clear H
     have p396 : 0 ≤ (x20_2 : Int) := dt_
     have q396 : x20_2 < (y392.length : Int) := dt_
     obtain ⟨ad396, e396, hx396_0, hx396_1, hx396_2, hx396_3, hx396_4⟩ := at_T37 HR395.out x20_2 p396 q396
     obtain rfl : ad390 = ad396 := (by injection e396)
     replace hx396_0 := cB_ hx396_0
     replace hx396_1 := cB_ hx396_1
     replace hx396_2 := cB_ hx396_2
     replace hx396_3 := cB_ hx396_3
     replace hx396_4 := cB_ hx396_4
     replace p396 := eq_true p396
     replace q396 := eq_true q396
     go_wp2_with (first | ((with_reducible refine gate_dst (N := 8) rfl ?_); refine bx_ 8 #[.int .i64 0, .int .i64 0, .int .i64 0, .bool false, .int .i64 0] 37 ?_; intro gb397 hg w24 hbox hb; have BK397 := aM (hbox); have GW397 := aM (bz_ w hg qz1); have GE397 := GW397; replace HB := bS_ hb; obtain ⟨NB391_397, NB397_391⟩ := nb_ hg (bk_ BK391.out); replace BK391 := bB_ BK391 hb; clear hb hbox hg; have hnb25 := NB397_391.out; have hnc25 := NB391_397.out; have hcz26_0 := bc0_ BK397.out; have hcz26_1 := bc1_ BK397.out; have hcz26_2 := bc2_ BK397.out; have hcz26_3 := bc3_ BK397.out; have hcz26_4 := bc4_ BK397.out; have hfz26_0 := blk_frozen BK397.out 0; have hfz26_1 := blk_frozen BK397.out 1; have hfz26_2 := blk_frozen BK397.out 2; have hfz26_3 := blk_frozen BK397.out 3; have hfz26_4 := blk_frozen BK397.out 4; have p398 : 0 ≤ (x11_1 : Int) := dt_; have q398 : x11_1 < (l1.length : Int) := dt_; obtain ⟨ad398, e398, hx398_0⟩ := Kd.at_int HR1.out x11_1 p398 q398; cases e398; have hn398_0 : ad398.block ≠ gb397 := nf_ hx398_0 GW397.out; have hn398_1 : ad398.block ≠ gb397 := nf_ hx398_0 GW397.out; have hn398_2 : ad398.block ≠ gb397 := nf_ hx398_0 GW397.out; have hn398_3 : ad398.block ≠ gb397 := nf_ hx398_0 GW397.out; have hn398_4 : ad398.block ≠ gb397 := nf_ hx398_0 GW397.out; replace hx398_0 := cB_ hx398_0; replace hx398_0 := (cell_far (p := ⟨gb397, 0, none⟩) qz9 (.int .i64 ((rd_T37 y392 x20_2).f0))).trans hx398_0; replace hx398_0 := (cell_far (p := ⟨gb397, 1, none⟩) qz10 (.int .i64 ((rd_T37 y392 x20_2).f1))).trans hx398_0; replace hx398_0 := (cell_far (p := ⟨gb397, 2, none⟩) qz11 (.int .i64 ((rd_T37 y392 x20_2).f2))).trans hx398_0; replace hx398_0 := (cell_far (p := ⟨gb397, 3, none⟩) qz12 (.bool ((rd_T37 y392 x20_2).f3))).trans hx398_0; replace hx398_0 := (cell_far (p := ⟨gb397, 4, none⟩) qz13 (.int .i64 ((rd_T37 y392 x20_2).f4))).trans hx398_0; (try have hy398_0 := fun (n_ : Nat) => (show (((((((w24.drewN n_).setCell ⟨gb397, 0, none⟩ (.int .i64 ((rd_T37 y392 x20_2).f0))).setCell ⟨gb397, 1, none⟩ (.int .i64 ((rd_T37 y392 x20_2).f1))).setCell ⟨gb397, 2, none⟩ (.int .i64 ((rd_T37 y392 x20_2).f2))).setCell ⟨gb397, 3, none⟩ (.bool ((rd_T37 y392 x20_2).f3))).setCell ⟨gb397, 4, none⟩ (.int .i64 ((rd_T37 y392 x20_2).f4)))).cell? _ = some _ from hx398_0)); clear hn398_0 hn398_1 hn398_2 hn398_3 hn398_4; replace p398 := eq_true p398; replace q398 := eq_true q398; have p399 : 0 ≤ (x20_2 : Int) := dt_; have q399 : x20_2 < (l1.length : Int) := dt_; obtain ⟨ad399, e399, hx399_0⟩ := Kd.at_int HR1.out x20_2 p399 q399; obtain rfl : ad398 = ad399 := (by injection e399); have hn399_0 : ad398.block ≠ gb397 := nf_ hx399_0 GW397.out; have hn399_1 : ad398.block ≠ gb397 := nf_ hx399_0 GW397.out; have hn399_2 : ad398.block ≠ gb397 := nf_ hx399_0 GW397.out; have hn399_3 : ad398.block ≠ gb397 := nf_ hx399_0 GW397.out; have hn399_4 : ad398.block ≠ gb397 := nf_ hx399_0 GW397.out; replace hx399_0 := cB_ hx399_0; replace hx399_0 := (cell_far (p := ⟨gb397, 0, none⟩) qz14 (.int .i64 ((rd_T37 y392 x20_2).f0))).trans hx399_0; replace hx399_0 := (cell_far (p := ⟨gb397, 1, none⟩) qz15 (.int .i64 ((rd_T37 y392 x20_2).f1))).trans hx399_0; replace hx399_0 := (cell_far (p := ⟨gb397, 2, none⟩) qz16 (.int .i64 ((rd_T37 y392 x20_2).f2))).trans hx399_0; replace hx399_0 := (cell_far (p := ⟨gb397, 3, none⟩) qz17 (.bool ((rd_T37 y392 x20_2).f3))).trans hx399_0; replace hx399_0 := (cell_far (p := ⟨gb397, 4, none⟩) qz18 (.int .i64 ((rd_T37 y392 x20_2).f4))).trans hx399_0; (try have hy399_0 := fun (n_ : Nat) => (show (((((((w24.drewN n_).setCell ⟨gb397, 0, none⟩ (.int .i64 ((rd_T37 y392 x20_2).f0))).setCell ⟨gb397, 1, none⟩ (.int .i64 ((rd_T37 y392 x20_2).f1))).setCell ⟨gb397, 2, none⟩ (.int .i64 ((rd_T37 y392 x20_2).f2))).setCell ⟨gb397, 3, none⟩ (.bool ((rd_T37 y392 x20_2).f3))).setCell ⟨gb397, 4, none⟩ (.int .i64 ((rd_T37 y392 x20_2).f4)))).cell? _ = some _ from hx399_0)); clear hn399_0 hn399_1 hn399_2 hn399_3 hn399_4; replace p399 := eq_true p399; replace q399 := eq_true q399; have hcz27_0 := bc0_ BK391.out; have hcz27_1 := bc1_ BK391.out; have hcz27_2 := bc2_ BK391.out; have hcz27_3 := bc3_ BK391.out; have hcz27_4 := bc4_ BK391.out; have hfz27_0 := blk_frozen BK391.out 0; have hfz27_1 := blk_frozen BK391.out 1; have hfz27_2 := blk_frozen BK391.out 2; have hfz27_3 := blk_frozen BK391.out 3; have hfz27_4 := blk_frozen BK391.out 4))
     repeat (go_quiet (first | ((with_reducible refine gate_dst (N := 8) rfl ?_); refine bx_ 8 #[.int .i64 0, .int .i64 0, .int .i64 0, .bool false, .int .i64 0] 37 ?_; intro gb397 hg w24 hbox hb; have BK397 := aM (hbox); have GW397 := aM (bz_ w hg qz1); have GE397 := GW397; replace HB := bS_ hb; obtain ⟨NB391_397, NB397_391⟩ := nb_ hg (bk_ BK391.out); replace BK391 := bB_ BK391 hb; clear hb hbox hg; have hnb25 := NB397_391.out; have hnc25 := NB391_397.out; have hcz26_0 := bc0_ BK397.out; have hcz26_1 := bc1_ BK397.out; have hcz26_2 := bc2_ BK397.out; have hcz26_3 := bc3_ BK397.out; have hcz26_4 := bc4_ BK397.out; have hfz26_0 := blk_frozen BK397.out 0; have hfz26_1 := blk_frozen BK397.out 1; have hfz26_2 := blk_frozen BK397.out 2; have hfz26_3 := blk_frozen BK397.out 3; have hfz26_4 := blk_frozen BK397.out 4; have p398 : 0 ≤ (x11_1 : Int) := dt_; have q398 : x11_1 < (l1.length : Int) := dt_; obtain ⟨ad398, e398, hx398_0⟩ := Kd.at_int HR1.out x11_1 p398 q398; cases e398; have hn398_0 : ad398.block ≠ gb397 := nf_ hx398_0 GW397.out; have hn398_1 : ad398.block ≠ gb397 := nf_ hx398_0 GW397.out; have hn398_2 : ad398.block ≠ gb397 := nf_ hx398_0 GW397.out; have hn398_3 : ad398.block ≠ gb397 := nf_ hx398_0 GW397.out; have hn398_4 : ad398.block ≠ gb397 := nf_ hx398_0 GW397.out; replace hx398_0 := cB_ hx398_0; replace hx398_0 := (cell_far (p := ⟨gb397, 0, none⟩) qz9 (.int .i64 ((rd_T37 y392 x20_2).f0))).trans hx398_0; replace hx398_0 := (cell_far (p := ⟨gb397, 1, none⟩) qz10 (.int .i64 ((rd_T37 y392 x20_2).f1))).trans hx398_0; replace hx398_0 := (cell_far (p := ⟨gb397, 2, none⟩) qz11 (.int .i64 ((rd_T37 y392 x20_2).f2))).trans hx398_0; replace hx398_0 := (cell_far (p := ⟨gb397, 3, none⟩) qz12 (.bool ((rd_T37 y392 x20_2).f3))).trans hx398_0; replace hx398_0 := (cell_far (p := ⟨gb397, 4, none⟩) qz13 (.int .i64 ((rd_T37 y392 x20_2).f4))).trans hx398_0; (try have hy398_0 := fun (n_ : Nat) => (show (((((((w24.drewN n_).setCell ⟨gb397, 0, none⟩ (.int .i64 ((rd_T37 y392 x20_2).f0))).setCell ⟨gb397, 1, none⟩ (.int .i64 ((rd_T37 y392 x20_2).f1))).setCell ⟨gb397, 2, none⟩ (.int .i64 ((rd_T37 y392 x20_2).f2))).setCell ⟨gb397, 3, none⟩ (.bool ((rd_T37 y392 x20_2).f3))).setCell ⟨gb397, 4, none⟩ (.int .i64 ((rd_T37 y392 x20_2).f4)))).cell? _ = some _ from hx398_0)); clear hn398_0 hn398_1 hn398_2 hn398_3 hn398_4; replace p398 := eq_true p398; replace q398 := eq_true q398; have p399 : 0 ≤ (x20_2 : Int) := dt_; have q399 : x20_2 < (l1.length : Int) := dt_; obtain ⟨ad399, e399, hx399_0⟩ := Kd.at_int HR1.out x20_2 p399 q399; obtain rfl : ad398 = ad399 := (by injection e399); have hn399_0 : ad398.block ≠ gb397 := nf_ hx399_0 GW397.out; have hn399_1 : ad398.block ≠ gb397 := nf_ hx399_0 GW397.out; have hn399_2 : ad398.block ≠ gb397 := nf_ hx399_0 GW397.out; have hn399_3 : ad398.block ≠ gb397 := nf_ hx399_0 GW397.out; have hn399_4 : ad398.block ≠ gb397 := nf_ hx399_0 GW397.out; replace hx399_0 := cB_ hx399_0; replace hx399_0 := (cell_far (p := ⟨gb397, 0, none⟩) qz14 (.int .i64 ((rd_T37 y392 x20_2).f0))).trans hx399_0; replace hx399_0 := (cell_far (p := ⟨gb397, 1, none⟩) qz15 (.int .i64 ((rd_T37 y392 x20_2).f1))).trans hx399_0; replace hx399_0 := (cell_far (p := ⟨gb397, 2, none⟩) qz16 (.int .i64 ((rd_T37 y392 x20_2).f2))).trans hx399_0; replace hx399_0 := (cell_far (p := ⟨gb397, 3, none⟩) qz17 (.bool ((rd_T37 y392 x20_2).f3))).trans hx399_0; replace hx399_0 := (cell_far (p := ⟨gb397, 4, none⟩) qz18 (.int .i64 ((rd_T37 y392 x20_2).f4))).trans hx399_0; (try have hy399_0 := fun (n_ : Nat) => (show (((((((w24.drewN n_).setCell ⟨gb397, 0, none⟩ (.int .i64 ((rd_T37 y392 x20_2).f0))).setCell ⟨gb397, 1, none⟩ (.int .i64 ((rd_T37 y392 x20_2).f1))).setCell ⟨gb397, 2, none⟩ (.int .i64 ((rd_T37 y392 x20_2).f2))).setCell ⟨gb397, 3, none⟩ (.bool ((rd_T37 y392 x20_2).f3))).setCell ⟨gb397, 4, none⟩ (.int .i64 ((rd_T37 y392 x20_2).f4)))).cell? _ = some _ from hx399_0)); clear hn399_0 hn399_1 hn399_2 hn399_3 hn399_4; replace p399 := eq_true p399; replace q399 := eq_true q399; have hcz27_0 := bc0_ BK391.out; have hcz27_1 := bc1_ BK391.out; have hcz27_2 := bc2_ BK391.out; have hcz27_3 := bc3_ BK391.out; have hcz27_4 := bc4_ BK391.out; have hfz27_0 := blk_frozen BK391.out 0; have hfz27_1 := blk_frozen BK391.out 1; have hfz27_2 := blk_frozen BK391.out 2; have hfz27_3 := blk_frozen BK391.out 3; have hfz27_4 := blk_frozen BK391.out 4)); try go_wp2_with (first | ((with_reducible refine gate_dst (N := 8) rfl ?_); refine bx_ 8 #[.int .i64 0, .int .i64 0, .int .i64 0, .bool false, .int .i64 0] 37 ?_; intro gb397 hg w24 hbox hb; have BK397 := aM (hbox); have GW397 := aM (bz_ w hg qz1); have GE397 := GW397; replace HB := bS_ hb; obtain ⟨NB391_397, NB397_391⟩ := nb_ hg (bk_ BK391.out); replace BK391 := bB_ BK391 hb; clear hb hbox hg; have hnb25 := NB397_391.out; have hnc25 := NB391_397.out; have hcz26_0 := bc0_ BK397.out; have hcz26_1 := bc1_ BK397.out; have hcz26_2 := bc2_ BK397.out; have hcz26_3 := bc3_ BK397.out; have hcz26_4 := bc4_ BK397.out; have hfz26_0 := blk_frozen BK397.out 0; have hfz26_1 := blk_frozen BK397.out 1; have hfz26_2 := blk_frozen BK397.out 2; have hfz26_3 := blk_frozen BK397.out 3; have hfz26_4 := blk_frozen BK397.out 4; have p398 : 0 ≤ (x11_1 : Int) := dt_; have q398 : x11_1 < (l1.length : Int) := dt_; obtain ⟨ad398, e398, hx398_0⟩ := Kd.at_int HR1.out x11_1 p398 q398; cases e398; have hn398_0 : ad398.block ≠ gb397 := nf_ hx398_0 GW397.out; have hn398_1 : ad398.block ≠ gb397 := nf_ hx398_0 GW397.out; have hn398_2 : ad398.block ≠ gb397 := nf_ hx398_0 GW397.out; have hn398_3 : ad398.block ≠ gb397 := nf_ hx398_0 GW397.out; have hn398_4 : ad398.block ≠ gb397 := nf_ hx398_0 GW397.out; replace hx398_0 := cB_ hx398_0; replace hx398_0 := (cell_far (p := ⟨gb397, 0, none⟩) qz9 (.int .i64 ((rd_T37 y392 x20_2).f0))).trans hx398_0; replace hx398_0 := (cell_far (p := ⟨gb397, 1, none⟩) qz10 (.int .i64 ((rd_T37 y392 x20_2).f1))).trans hx398_0; replace hx398_0 := (cell_far (p := ⟨gb397, 2, none⟩) qz11 (.int .i64 ((rd_T37 y392 x20_2).f2))).trans hx398_0; replace hx398_0 := (cell_far (p := ⟨gb397, 3, none⟩) qz12 (.bool ((rd_T37 y392 x20_2).f3))).trans hx398_0; replace hx398_0 := (cell_far (p := ⟨gb397, 4, none⟩) qz13 (.int .i64 ((rd_T37 y392 x20_2).f4))).trans hx398_0; (try have hy398_0 := fun (n_ : Nat) => (show (((((((w24.drewN n_).setCell ⟨gb397, 0, none⟩ (.int .i64 ((rd_T37 y392 x20_2).f0))).setCell ⟨gb397, 1, none⟩ (.int .i64 ((rd_T37 y392 x20_2).f1))).setCell ⟨gb397, 2, none⟩ (.int .i64 ((rd_T37 y392 x20_2).f2))).setCell ⟨gb397, 3, none⟩ (.bool ((rd_T37 y392 x20_2).f3))).setCell ⟨gb397, 4, none⟩ (.int .i64 ((rd_T37 y392 x20_2).f4)))).cell? _ = some _ from hx398_0)); clear hn398_0 hn398_1 hn398_2 hn398_3 hn398_4; replace p398 := eq_true p398; replace q398 := eq_true q398; have p399 : 0 ≤ (x20_2 : Int) := dt_; have q399 : x20_2 < (l1.length : Int) := dt_; obtain ⟨ad399, e399, hx399_0⟩ := Kd.at_int HR1.out x20_2 p399 q399; obtain rfl : ad398 = ad399 := (by injection e399); have hn399_0 : ad398.block ≠ gb397 := nf_ hx399_0 GW397.out; have hn399_1 : ad398.block ≠ gb397 := nf_ hx399_0 GW397.out; have hn399_2 : ad398.block ≠ gb397 := nf_ hx399_0 GW397.out; have hn399_3 : ad398.block ≠ gb397 := nf_ hx399_0 GW397.out; have hn399_4 : ad398.block ≠ gb397 := nf_ hx399_0 GW397.out; replace hx399_0 := cB_ hx399_0; replace hx399_0 := (cell_far (p := ⟨gb397, 0, none⟩) qz14 (.int .i64 ((rd_T37 y392 x20_2).f0))).trans hx399_0; replace hx399_0 := (cell_far (p := ⟨gb397, 1, none⟩) qz15 (.int .i64 ((rd_T37 y392 x20_2).f1))).trans hx399_0; replace hx399_0 := (cell_far (p := ⟨gb397, 2, none⟩) qz16 (.int .i64 ((rd_T37 y392 x20_2).f2))).trans hx399_0; replace hx399_0 := (cell_far (p := ⟨gb397, 3, none⟩) qz17 (.bool ((rd_T37 y392 x20_2).f3))).trans hx399_0; replace hx399_0 := (cell_far (p := ⟨gb397, 4, none⟩) qz18 (.int .i64 ((rd_T37 y392 x20_2).f4))).trans hx399_0; (try have hy399_0 := fun (n_ : Nat) => (show (((((((w24.drewN n_).setCell ⟨gb397, 0, none⟩ (.int .i64 ((rd_T37 y392 x20_2).f0))).setCell ⟨gb397, 1, none⟩ (.int .i64 ((rd_T37 y392 x20_2).f1))).setCell ⟨gb397, 2, none⟩ (.int .i64 ((rd_T37 y392 x20_2).f2))).setCell ⟨gb397, 3, none⟩ (.bool ((rd_T37 y392 x20_2).f3))).setCell ⟨gb397, 4, none⟩ (.int .i64 ((rd_T37 y392 x20_2).f4)))).cell? _ = some _ from hx399_0)); clear hn399_0 hn399_1 hn399_2 hn399_3 hn399_4; replace p399 := eq_true p399; replace q399 := eq_true q399; have hcz27_0 := bc0_ BK391.out; have hcz27_1 := bc1_ BK391.out; have hcz27_2 := bc2_ BK391.out; have hcz27_3 := bc3_ BK391.out; have hcz27_4 := bc4_ BK391.out; have hfz27_0 := blk_frozen BK391.out 0; have hfz27_1 := blk_frozen BK391.out 1; have hfz27_2 := blk_frozen BK391.out 2; have hfz27_3 := blk_frozen BK391.out 3; have hfz27_4 := blk_frozen BK391.out 4)))
     go_roundg k2
     case measure => have := HK1.out; have := HK2.out; omega
     case rel => exact ⟨(wrap64 (x20_2 + 1)), qz4, H', ⟨by have := HK1.out; have := HK2.out; omega⟩, ⟨by (with_reducible repeat (first | refine blk_drewN ?_ _ | refine blk_drew ?_ | refine blk_alloc ?_ _)); refine blk_far ?_ NB391_397.out _; (with_reducible repeat (first | refine blk_drewN ?_ _ | refine blk_drew ?_ | refine blk_alloc ?_ _)); refine blk_far ?_ NB391_397.out _; (with_reducible repeat (first | refine blk_drewN ?_ _ | refine blk_drew ?_ | refine blk_alloc ?_ _)); refine blk_far ?_ NB391_397.out _; (with_reducible repeat (first | refine blk_drewN ?_ _ | refine blk_drew ?_ | refine blk_alloc ?_ _)); refine blk_far ?_ NB391_397.out _; (with_reducible repeat (first | refine blk_drewN ?_ _ | refine blk_drew ?_ | refine blk_alloc ?_ _)); refine blk_far ?_ NB391_397.out _; exact bk_ BK391.out⟩, ⟨qz1⟩⟩
     }
     }
     {
     exact an_ c18 H
     }
     }
     {
     rw [if_neg c17] at H
     have c17b0 := beq_eq_false_iff_ne.mpr c17
     have c17b1 := bne_iff_ne.mpr c17
     have H' := aM H
     clear H
     have p396 : 0 ≤ (x20_2 : Int) := dt_
     have q396 : x20_2 < (y392.length : Int) := dt_
     obtain ⟨ad396, e396, hx396_0, hx396_1, hx396_2, hx396_3, hx396_4⟩ := at_T37 HR395.out x20_2 p396 q396
     obtain rfl : ad390 = ad396 := (by injection e396)
     replace hx396_0 := cB_ hx396_0
     replace hx396_1 := cB_ hx396_1
     replace hx396_2 := cB_ hx396_2
     replace hx396_3 := cB_ hx396_3
     replace hx396_4 := cB_ hx396_4
     replace p396 := eq_true p396
     replace q396 := eq_true q396
     go_wp2_with (first | ((with_reducible refine gate_dst (N := 8) rfl ?_); refine bx_ 8 #[.int .i64 0, .int .i64 0, .int .i64 0, .bool false, .int .i64 0] 37 ?_; intro gb397 hg w28 hbox hb; have BK397 := aM (hbox); have GW397 := aM (bz_ w hg qz1); have GE397 := GW397; replace HB := bS_ hb; obtain ⟨NB391_397, NB397_391⟩ := nb_ hg (bk_ BK391.out); replace BK391 := bB_ BK391 hb; clear hb hbox hg; have hnb29 := NB397_391.out; have hnc29 := NB391_397.out; have hcz30_0 := bc0_ BK397.out; have hcz30_1 := bc1_ BK397.out; have hcz30_2 := bc2_ BK397.out; have hcz30_3 := bc3_ BK397.out; have hcz30_4 := bc4_ BK397.out; have hfz30_0 := blk_frozen BK397.out 0; have hfz30_1 := blk_frozen BK397.out 1; have hfz30_2 := blk_frozen BK397.out 2; have hfz30_3 := blk_frozen BK397.out 3; have hfz30_4 := blk_frozen BK397.out 4; have p398 : 0 ≤ (x11_1 : Int) := dt_; have q398 : x11_1 < (l1.length : Int) := dt_; obtain ⟨ad398, e398, hx398_0⟩ := Kd.at_int HR1.out x11_1 p398 q398; cases e398; have hn398_0 : ad398.block ≠ gb397 := nf_ hx398_0 GW397.out; have hn398_1 : ad398.block ≠ gb397 := nf_ hx398_0 GW397.out; have hn398_2 : ad398.block ≠ gb397 := nf_ hx398_0 GW397.out; have hn398_3 : ad398.block ≠ gb397 := nf_ hx398_0 GW397.out; have hn398_4 : ad398.block ≠ gb397 := nf_ hx398_0 GW397.out; replace hx398_0 := cB_ hx398_0; replace hx398_0 := (cell_far (p := ⟨gb397, 0, none⟩) qz9 (.int .i64 ((rd_T37 y392 x20_2).f0))).trans hx398_0; replace hx398_0 := (cell_far (p := ⟨gb397, 1, none⟩) qz10 (.int .i64 ((rd_T37 y392 x20_2).f1))).trans hx398_0; replace hx398_0 := (cell_far (p := ⟨gb397, 2, none⟩) qz11 (.int .i64 ((rd_T37 y392 x20_2).f2))).trans hx398_0; replace hx398_0 := (cell_far (p := ⟨gb397, 3, none⟩) qz12 (.bool ((rd_T37 y392 x20_2).f3))).trans hx398_0; replace hx398_0 := (cell_far (p := ⟨gb397, 4, none⟩) qz13 (.int .i64 ((rd_T37 y392 x20_2).f4))).trans hx398_0; (try have hy398_0 := fun (n_ : Nat) => (show (((((((w28.drewN n_).setCell ⟨gb397, 0, none⟩ (.int .i64 ((rd_T37 y392 x20_2).f0))).setCell ⟨gb397, 1, none⟩ (.int .i64 ((rd_T37 y392 x20_2).f1))).setCell ⟨gb397, 2, none⟩ (.int .i64 ((rd_T37 y392 x20_2).f2))).setCell ⟨gb397, 3, none⟩ (.bool ((rd_T37 y392 x20_2).f3))).setCell ⟨gb397, 4, none⟩ (.int .i64 ((rd_T37 y392 x20_2).f4)))).cell? _ = some _ from hx398_0)); clear hn398_0 hn398_1 hn398_2 hn398_3 hn398_4; replace p398 := eq_true p398; replace q398 := eq_true q398))
     repeat (go_quiet (first | ((with_reducible refine gate_dst (N := 8) rfl ?_); refine bx_ 8 #[.int .i64 0, .int .i64 0, .int .i64 0, .bool false, .int .i64 0] 37 ?_; intro gb397 hg w28 hbox hb; have BK397 := aM (hbox); have GW397 := aM (bz_ w hg qz1); have GE397 := GW397; replace HB := bS_ hb; obtain ⟨NB391_397, NB397_391⟩ := nb_ hg (bk_ BK391.out); replace BK391 := bB_ BK391 hb; clear hb hbox hg; have hnb29 := NB397_391.out; have hnc29 := NB391_397.out; have hcz30_0 := bc0_ BK397.out; have hcz30_1 := bc1_ BK397.out; have hcz30_2 := bc2_ BK397.out; have hcz30_3 := bc3_ BK397.out; have hcz30_4 := bc4_ BK397.out; have hfz30_0 := blk_frozen BK397.out 0; have hfz30_1 := blk_frozen BK397.out 1; have hfz30_2 := blk_frozen BK397.out 2; have hfz30_3 := blk_frozen BK397.out 3; have hfz30_4 := blk_frozen BK397.out 4; have p398 : 0 ≤ (x11_1 : Int) := dt_; have q398 : x11_1 < (l1.length : Int) := dt_; obtain ⟨ad398, e398, hx398_0⟩ := Kd.at_int HR1.out x11_1 p398 q398; cases e398; have hn398_0 : ad398.block ≠ gb397 := nf_ hx398_0 GW397.out; have hn398_1 : ad398.block ≠ gb397 := nf_ hx398_0 GW397.out; have hn398_2 : ad398.block ≠ gb397 := nf_ hx398_0 GW397.out; have hn398_3 : ad398.block ≠ gb397 := nf_ hx398_0 GW397.out; have hn398_4 : ad398.block ≠ gb397 := nf_ hx398_0 GW397.out; replace hx398_0 := cB_ hx398_0; replace hx398_0 := (cell_far (p := ⟨gb397, 0, none⟩) qz9 (.int .i64 ((rd_T37 y392 x20_2).f0))).trans hx398_0; replace hx398_0 := (cell_far (p := ⟨gb397, 1, none⟩) qz10 (.int .i64 ((rd_T37 y392 x20_2).f1))).trans hx398_0; replace hx398_0 := (cell_far (p := ⟨gb397, 2, none⟩) qz11 (.int .i64 ((rd_T37 y392 x20_2).f2))).trans hx398_0; replace hx398_0 := (cell_far (p := ⟨gb397, 3, none⟩) qz12 (.bool ((rd_T37 y392 x20_2).f3))).trans hx398_0; replace hx398_0 := (cell_far (p := ⟨gb397, 4, none⟩) qz13 (.int .i64 ((rd_T37 y392 x20_2).f4))).trans hx398_0; (try have hy398_0 := fun (n_ : Nat) => (show (((((((w28.drewN n_).setCell ⟨gb397, 0, none⟩ (.int .i64 ((rd_T37 y392 x20_2).f0))).setCell ⟨gb397, 1, none⟩ (.int .i64 ((rd_T37 y392 x20_2).f1))).setCell ⟨gb397, 2, none⟩ (.int .i64 ((rd_T37 y392 x20_2).f2))).setCell ⟨gb397, 3, none⟩ (.bool ((rd_T37 y392 x20_2).f3))).setCell ⟨gb397, 4, none⟩ (.int .i64 ((rd_T37 y392 x20_2).f4)))).cell? _ = some _ from hx398_0)); clear hn398_0 hn398_1 hn398_2 hn398_3 hn398_4; replace p398 := eq_true p398; replace q398 := eq_true q398)); try go_wp2_with (first | ((with_reducible refine gate_dst (N := 8) rfl ?_); refine bx_ 8 #[.int .i64 0, .int .i64 0, .int .i64 0, .bool false, .int .i64 0] 37 ?_; intro gb397 hg w28 hbox hb; have BK397 := aM (hbox); have GW397 := aM (bz_ w hg qz1); have GE397 := GW397; replace HB := bS_ hb; obtain ⟨NB391_397, NB397_391⟩ := nb_ hg (bk_ BK391.out); replace BK391 := bB_ BK391 hb; clear hb hbox hg; have hnb29 := NB397_391.out; have hnc29 := NB391_397.out; have hcz30_0 := bc0_ BK397.out; have hcz30_1 := bc1_ BK397.out; have hcz30_2 := bc2_ BK397.out; have hcz30_3 := bc3_ BK397.out; have hcz30_4 := bc4_ BK397.out; have hfz30_0 := blk_frozen BK397.out 0; have hfz30_1 := blk_frozen BK397.out 1; have hfz30_2 := blk_frozen BK397.out 2; have hfz30_3 := blk_frozen BK397.out 3; have hfz30_4 := blk_frozen BK397.out 4; have p398 : 0 ≤ (x11_1 : Int) := dt_; have q398 : x11_1 < (l1.length : Int) := dt_; obtain ⟨ad398, e398, hx398_0⟩ := Kd.at_int HR1.out x11_1 p398 q398; cases e398; have hn398_0 : ad398.block ≠ gb397 := nf_ hx398_0 GW397.out; have hn398_1 : ad398.block ≠ gb397 := nf_ hx398_0 GW397.out; have hn398_2 : ad398.block ≠ gb397 := nf_ hx398_0 GW397.out; have hn398_3 : ad398.block ≠ gb397 := nf_ hx398_0 GW397.out; have hn398_4 : ad398.block ≠ gb397 := nf_ hx398_0 GW397.out; replace hx398_0 := cB_ hx398_0; replace hx398_0 := (cell_far (p := ⟨gb397, 0, none⟩) qz9 (.int .i64 ((rd_T37 y392 x20_2).f0))).trans hx398_0; replace hx398_0 := (cell_far (p := ⟨gb397, 1, none⟩) qz10 (.int .i64 ((rd_T37 y392 x20_2).f1))).trans hx398_0; replace hx398_0 := (cell_far (p := ⟨gb397, 2, none⟩) qz11 (.int .i64 ((rd_T37 y392 x20_2).f2))).trans hx398_0; replace hx398_0 := (cell_far (p := ⟨gb397, 3, none⟩) qz12 (.bool ((rd_T37 y392 x20_2).f3))).trans hx398_0; replace hx398_0 := (cell_far (p := ⟨gb397, 4, none⟩) qz13 (.int .i64 ((rd_T37 y392 x20_2).f4))).trans hx398_0; (try have hy398_0 := fun (n_ : Nat) => (show (((((((w28.drewN n_).setCell ⟨gb397, 0, none⟩ (.int .i64 ((rd_T37 y392 x20_2).f0))).setCell ⟨gb397, 1, none⟩ (.int .i64 ((rd_T37 y392 x20_2).f1))).setCell ⟨gb397, 2, none⟩ (.int .i64 ((rd_T37 y392 x20_2).f2))).setCell ⟨gb397, 3, none⟩ (.bool ((rd_T37 y392 x20_2).f3))).setCell ⟨gb397, 4, none⟩ (.int .i64 ((rd_T37 y392 x20_2).f4)))).cell? _ = some _ from hx398_0)); clear hn398_0 hn398_1 hn398_2 hn398_3 hn398_4; replace p398 := eq_true p398; replace q398 := eq_true q398)))
     go_roundg k2
     case measure => have := HK1.out; have := HK2.out; omega
     case rel => exact ⟨(wrap64 (x20_2 + 1)), qz4, H', ⟨by have := HK1.out; have := HK2.out; omega⟩, ⟨by (with_reducible repeat (first | refine blk_drewN ?_ _ | refine blk_drew ?_ | refine blk_alloc ?_ _)); refine blk_far ?_ NB391_397.out _; (with_reducible repeat (first | refine blk_drewN ?_ _ | refine blk_drew ?_ | refine blk_alloc ?_ _)); refine blk_far ?_ NB391_397.out _; (with_reducible repeat (first | refine blk_drewN ?_ _ | refine blk_drew ?_ | refine blk_alloc ?_ _)); refine blk_far ?_ NB391_397.out _; (with_reducible repeat (first | refine blk_drewN ?_ _ | refine blk_drew ?_ | refine blk_alloc ?_ _)); refine blk_far ?_ NB391_397.out _; (with_reducible repeat (first | refine blk_drewN ?_ _ | refine blk_drew ?_ | refine blk_alloc ?_ _)); refine blk_far ?_ NB391_397.out _; exact bk_ BK391.out⟩, ⟨qz1⟩⟩
     }
     }
     {
     exact an_ c16 H
     }
     }
     {
     exact an_ c15 H
     }
     }
     {
     exact an_ c14 H
     }
     }
     {
     exact an_ c13 H
     }
     }
     {
     rw [if_neg c12] at H
     have c12b0 := decide_eq_false c12
     clear c12
     have H' := aM H
     clear H
     go_wp2
     repeat (go_quiet (fail); try go_wp2)
     go_roundg k2
     case measure => have := HK1.out; have := HK2.out; omega
     case rel => exact ⟨(wrap64 (x11_1 + 1)), qz4, H', ⟨by have := HK1.out; have := HK2.out; omega⟩, ⟨qz1⟩⟩
     }
   }
   {
   exact an_ c7 H
   }
   }
   {
   exact an_ c5 H
   }
   }
   {
   exact an_ c4 H
   }
   }
   {
   rw [if_neg c3] at H
   have c3b0 := decide_eq_false c3
   clear c3
   obtain rfl := Option.some.inj H
   simp only [Option.some.injEq, Prod.mk.injEq] at H
   obtain ⟨rfl⟩ := H
   go_wp2
   repeat (go_quiet (fail); try go_wp2)
   go_ret
   exact ⟨qzw, qz1⟩

   }
end Go.Proofs.Ytankmdbbgepmbaa.PFnExactClash
