-- Made by a program of this session out of the translation. Lean checks it.
import Derived.Test.YtankmdbbgepmbaaPFnFirstx2
namespace Go.Proofs.Ytankmdbbgepmbaa.PFnFirst
open Go.RowKit Go.Proofs.YtankmdbbgepmbaaW.PrintWords Go.Proofs.YtankmdbbgepmbaaW.PrintLast Go.Proofs.YtankmdbbgepmbaaW.PrintMore
attribute [local go_sem] max2_int min2_int max_two min_two max_three min_three max_four min_four   -- for this text's walks alone
set_option linter.unusedVariables false
set_option linter.unusedSimpArgs false

/-! ### impl_same: function 78 -/
def impl_same.l0 : Nat → List Int → List Int → Int → Int → Option (Bool)
 | 0, _, _, _, _ => none
 | k + 1, x0, x5, x6, x7 => if x7 < x6 then (if 0 ≤ x7 then (if x7 < (x5.length : Int) then (if x7 ≤ (x0.length : Int) then ((impl_hasInt.f k (x0.take (x7 : Int).toNat) (rd x5 x7)).bind fun t187 => (if t187 = true then (some true) else (impl_same.l0 k x0 x5 x6 (wrap64 (x7 + 1))))) else (none)) else (none)) else (none)) else (some false)
def impl_same.f (k : Nat) (l0 : List Int) : Option (Bool) := impl_same.l0 k l0 l0 (l0.length : Int) 0
theorem impl_same.mono_l : ∀ k, (∀ y0 y1 y2 y3, LeO (impl_same.l0 k y0 y1 y2 y3) (impl_same.l0 (k + 1) y0 y1 y2 y3))
 | 0 => fun _ _ _ _ r h => by simp [impl_same.l0] at h
 | k + 1 => by
  have ih0 := impl_same.mono_l k
  {
  intro y0 y1 y2 y3
  unfold impl_same.l0
  have j0 := @impl_hasInt.mono
  exact qL
  }
theorem impl_same.mono : ∀ a0 k, LeO (impl_same.f k a0) (impl_same.f (k + 1) a0) := by
 intro a0 k
 have ih0 := impl_same.mono_l k
 unfold impl_same.f
 have j0 := @impl_hasInt.mono
 exact qL
set_option maxHeartbeats 8000000 in
set_option maxRecDepth 100000 in
theorem impl_same.calls (k : Nat) (A0 : Option Addr) (c0 : Nat) (l0 : List Int) (r : Bool) (w : World) (hr0 : Kd.C (Kd.int .i64) w A0 l0.length l0) (hc0 : l0.length ≤ c0) (h : impl_same.f k l0 = some r) :
  Calls Try.prog 78 #[.slice A0 l0.length c0] w fun e w' => e = .returned (.bool r) ∧ Drawn0 w w' := by
 have HR0 := aM hr0
 have HC0 := aM hc0
 clear hr0 hc0
 unfold impl_same.f at h
 have H := h
 clear h
 have H' := aM H
 clear H
 go_enter Try.func78, Try.ntmps78
 go_wp2
 go_loopg [7] k (fun kq v7 w' => ∃ (x7_1 : Int), v7 = .int .i64 x7_1 ∧ Aside0 (impl_same.l0 kq l0 l0 (l0.length : Int) x7_1 = some r) ∧ Aside0 (kq ≤ k) ∧ Drawn0 w w')
 case atStart => exact ⟨(0), qz6, H', ⟨Nat.le_refl _⟩, by repeat (first | exact Drawn0.refl _ | apply Drawn0.step)⟩
 case round =>
 clear H'
 obtain ⟨x7_1, rfl, HA, HK1, ⟨m1, rfl⟩⟩ := hrel
 cases gk with
 | zero => exact absurd HA.out (by simp [impl_same.l0])
 | succ k1 =>
 have H := HA.out
 clear HA
 simp only [impl_same.l0] at H
 replace H := iE_ H
 rcases H with ⟨c2b0, H⟩ | ⟨c2b0, H⟩
 {
 replace H := iD_ H
 obtain ⟨c3b0, H⟩ := H
 replace H := iD_ H
 obtain ⟨c4b0, H⟩ := H
 have c5b0 := eq_true (dt_ : 0 ≤ x7_1)
 replace H := iN_ H
 obtain ⟨c6, H⟩ := H
 have c6b0 := eq_true c6
 have c6b1 := decide_eq_true c6
 clear c6
 replace H := Option.bind_eq_some_iff.mp H
 obtain ⟨t187, A70, H⟩ := H
 have A7 := aM A70
 clear A70
 replace H := iB_ H
 rcases H with ⟨rfl, H⟩ | ⟨rfl, H⟩
 {
 obtain rfl := Option.some.inj H
 have p185 : (0 ≤ (x7_1 : Int)) = True := et_
 have q185 : (x7_1 < (l0.length : Int)) = True := et_
 obtain ⟨ad185, e185, hx185_0⟩ := Kd.at_int HR0.out x7_1 dt_ dt_
 cases e185
 obtain ⟨i09, hi09, _, hsz9, _⟩ := info_parts info3
 obtain ⟨hcut9, hA9, hC9⟩ := print_take_of (P := Try.prog) (Value.int .i64) 0 24 3 .i64 Try.underlying24 hi09 hsz9 (some ad185) c0 l0 x7_1 (dt_) (dt_) HC0.out
 have HR186 := aM (Kd.C_of_reads (h1 := fun _ => rfl) (hA9 _ (Kd.reads_of_C HR0.out)))
 have HC186 := aM hC9
 clear hA9 hC9 hi09 hsz9
 go_wp2_with (first | ((with_reducible refine gate_callee (f := 67) rfl ?_); refine goesL_ (some 16) rfl rfl Try.func67 (by kernel_rfl) rfl #[.slice (some ad185) (l0.take (x7_1 : Int).toNat).length c0, .int .i64 (rd l0 x7_1)] rfl (by (try simp only [List.map_toArray, List.map_cons, List.map_nil]); first | done | (rw [show (l0.take (x7_1 : Int).toNat).length = x7_1.toNat from (by rw [List.length_take]; have h_ : (x7_1 : Int) ≤ (l0.length : Int) := dt_; omega)] <;> rfl) | rfl | (simp only [List.length_drop, List.length_take]; rfl)) ?_; (with_reducible refine (impl_hasInt.calls k1 _ _ (l0.take (x7_1 : Int).toNat) (rd l0 x7_1) true _ ?side1 ?side2 A7.out).mono ?_); (case side1 => repeat (first | exact HR186.out | (with_reducible refine Kd.C_alloc ?_ _) | (with_reducible refine Kd.C_drewN ?_ _) | (with_reducible refine Kd.C_drew ?_))); (case side2 => exact HC186.out); rintro e w' ⟨rfl, ⟨nd, rfl⟩⟩; refine ⟨_, rfl, ?_⟩))
 go_ret
 exact ⟨by first | rfl | (simp; done) | (simp [*]; done), by repeat (first | exact Drawn0.refl _ | apply Drawn0.step)⟩
 }
 {
 have H' := aM H
 clear H
 have p185 : (0 ≤ (x7_1 : Int)) = True := et_
 have q185 : (x7_1 < (l0.length : Int)) = True := et_
 obtain ⟨ad185, e185, hx185_0⟩ := Kd.at_int HR0.out x7_1 dt_ dt_
 cases e185
 obtain ⟨i010, hi010, _, hsz10, _⟩ := info_parts info3
 obtain ⟨hcut10, hA10, hC10⟩ := print_take_of (P := Try.prog) (Value.int .i64) 0 24 3 .i64 Try.underlying24 hi010 hsz10 (some ad185) c0 l0 x7_1 (dt_) (dt_) HC0.out
 have HR186 := aM (Kd.C_of_reads (h1 := fun _ => rfl) (hA10 _ (Kd.reads_of_C HR0.out)))
 have HC186 := aM hC10
 clear hA10 hC10 hi010 hsz10
 go_wp2_with (first | ((with_reducible refine gate_callee (f := 67) rfl ?_); refine goesL_ (some 16) rfl rfl Try.func67 (by kernel_rfl) rfl #[.slice (some ad185) (l0.take (x7_1 : Int).toNat).length c0, .int .i64 (rd l0 x7_1)] rfl (by (try simp only [List.map_toArray, List.map_cons, List.map_nil]); first | done | (rw [show (l0.take (x7_1 : Int).toNat).length = x7_1.toNat from (by rw [List.length_take]; have h_ : (x7_1 : Int) ≤ (l0.length : Int) := dt_; omega)] <;> rfl) | rfl | (simp only [List.length_drop, List.length_take]; rfl)) ?_; (with_reducible refine (impl_hasInt.calls k1 _ _ (l0.take (x7_1 : Int).toNat) (rd l0 x7_1) false _ ?side1 ?side2 A7.out).mono ?_); (case side1 => repeat (first | exact HR186.out | (with_reducible refine Kd.C_alloc ?_ _) | (with_reducible refine Kd.C_drewN ?_ _) | (with_reducible refine Kd.C_drew ?_))); (case side2 => exact HC186.out); rintro e w' ⟨rfl, ⟨nd, rfl⟩⟩; refine ⟨_, rfl, ?_⟩))
 go_roundg k1
 case measure => have := HK1.out; omega
 case rel => exact ⟨(wrap64 (x7_1 + 1)), qz6, H', ⟨by have := HK1.out; omega⟩, by repeat (first | exact Drawn0.refl _ | apply Drawn0.step)⟩
 }
 }
 {
 obtain rfl := Option.some.inj H
 go_wp2
 go_ret
 exact ⟨by first | rfl | (simp; done) | (simp [*]; done), by repeat (first | exact Drawn0.refl _ | apply Drawn0.step)⟩
 }
/-! ### impl_swaps: function 79 -/
mutual
def impl_swaps.l0 : Nat → List (S37) → List Int → List (S37) → Int → Int → Option (Bool)
 | 0, _, _, _, _, _ => none
 | k + 1, x0, x1, x9, x10, x11 => if x11 < x10 then (if 0 ≤ x11 then (if x11 < (x9.length : Int) then (if x11 ≤ (x0.length : Int) then ((some (x0.take (x11 : Int).toNat : List (S37))).bind fun y190 => (impl_swaps.l1 k x0 x1 x11 x9 x10 x11 y190 (y190.length : Int) 0 ((rd_T37 x9 x11).f0) ((rd_T37 x9 x11).f1) ((rd_T37 x9 x11).f2) ((rd_T37 x9 x11).f3) ((rd_T37 x9 x11).f4))) else (none)) else (none)) else (none)) else (some false)
def impl_swaps.l1 : Nat → List (S37) → List Int → Int → List (S37) → Int → Int → List (S37) → Int → Int → Int → Int → Int → Bool → Int → Option (Bool)
 | 0, _, _, _, _, _, _, _, _, _, _, _, _, _, _ => none
 | k + 1, x0, x1, x5, x9, x10, x11, x18, x19, x20, x190000, x190001, x190002, x190003, x190004 => if x20 < x19 then (if 0 ≤ x20 then (if x20 < (x18.length : Int) then (if 0 ≤ x5 then (if x5 < (x1.length : Int) then (if (rd x1 x5) = ((rd_T37 x18 x20).f1) then (if x20 < (x1.length : Int) then (if (rd x1 x20) = x190001 then (some true) else (impl_swaps.l1 k x0 x1 x5 x9 x10 x11 x18 x19 (wrap64 (x20 + 1)) x190000 x190001 x190002 x190003 x190004)) else (none)) else (impl_swaps.l1 k x0 x1 x5 x9 x10 x11 x18 x19 (wrap64 (x20 + 1)) x190000 x190001 x190002 x190003 x190004)) else (none)) else (none)) else (none)) else (none)) else (impl_swaps.l0 k x0 x1 x9 x10 (wrap64 (x11 + 1)))
end
def impl_swaps.f (k : Nat) (l0 : List (S37)) (l1 : List Int) : Option (Bool) := impl_swaps.l0 k l0 l1 l0 (l0.length : Int) 0
theorem impl_swaps.mono_l : ∀ k, (∀ y0 y1 y2 y3 y4, LeO (impl_swaps.l0 k y0 y1 y2 y3 y4) (impl_swaps.l0 (k + 1) y0 y1 y2 y3 y4)) ∧ (∀ y0 y1 y2 y3 y4 y5 y6 y7 y8 y9 y10 y11 y12 y13, LeO (impl_swaps.l1 k y0 y1 y2 y3 y4 y5 y6 y7 y8 y9 y10 y11 y12 y13) (impl_swaps.l1 (k + 1) y0 y1 y2 y3 y4 y5 y6 y7 y8 y9 y10 y11 y12 y13))
 | 0 => ⟨fun _ _ _ _ _ r h => by simp [impl_swaps.l0] at h, fun _ _ _ _ _ _ _ _ _ _ _ _ _ _ r h => by simp [impl_swaps.l1] at h⟩
 | k + 1 => by
  obtain ⟨ih0, ih1⟩ := impl_swaps.mono_l k
  refine ⟨?_, ?_⟩
  {
  intro y0 y1 y2 y3 y4
  unfold impl_swaps.l0
  exact qL
  }
  {
  intro y0 y1 y2 y3 y4 y5 y6 y7 y8 y9 y10 y11 y12 y13
  unfold impl_swaps.l1
  exact qL
  }
theorem impl_swaps.mono : ∀ a0 a1 k, LeO (impl_swaps.f k a0 a1) (impl_swaps.f (k + 1) a0 a1) := by
 intro a0 a1 k
 obtain ⟨ih0, ih1⟩ := impl_swaps.mono_l k
 unfold impl_swaps.f
 exact qL
set_option maxHeartbeats 8000000 in
set_option maxRecDepth 100000 in
theorem impl_swaps.calls (k : Nat) (A0 : Option Addr) (c0 : Nat) (l0 : List (S37)) (A1 : Option Addr) (c1 : Nat) (l1 : List Int) (r : Bool) (w : World) (hr0 : Kd.C k37 w A0 l0.length l0) (hc0 : l0.length ≤ c0) (hr1 : Kd.C (Kd.int .i64) w A1 l1.length l1) (hc1 : l1.length ≤ c1) (h : impl_swaps.f k l0 l1 = some r) :
  Calls Try.prog 79 #[.slice A0 l0.length c0, .slice A1 l1.length c1] w fun e w' => e = .returned (.bool r) ∧ Below w.heap.size w w' := by
 have hu37 := Try.underlying37
 have HR0 := aM hr0
 have HC0 := aM hc0
 clear hr0 hc0
 have HR1 := aM hr1
 have HC1 := aM hc1
 clear hr1 hc1
 have HB := aM (Below.refl w.heap.size w)
 unfold impl_swaps.f at h
 have H := h
 clear h
 have H' := aM H
 clear H
 go_enter Try.func79, Try.ntmps79
 go_wp2
 repeat (go_quiet (fail); try go_wp2)
 go_loopg [11] k (fun kq v11 w' => ∃ (x11_1 : Int), v11 = .int .i64 x11_1 ∧ Aside0 (impl_swaps.l0 kq l0 l1 l0 (l0.length : Int) x11_1 = some r) ∧ Aside0 (kq ≤ k) ∧ Aside0 (Below w.heap.size w w'))
 case atStart => exact ⟨(0), qz6, H', ⟨Nat.le_refl _⟩, ⟨qz1⟩⟩
 case round =>
 clear H'
 try clear c1
 obtain ⟨x11_1, rfl, HA, HK1, HB⟩ := hrel
 cases gk with
 | zero => exact absurd HA.out (by simp [impl_swaps.l0])
 | succ k1 =>
 have H := HA.out
 clear HA
 simp only [impl_swaps.l0] at H
 replace H := iE_ H
 rcases H with ⟨c3b0, H⟩ | ⟨c3b0, H⟩
 {
 replace H := iD_ H
 obtain ⟨c4b0, H⟩ := H
 replace H := iD_ H
 obtain ⟨c5b0, H⟩ := H
 have c6b0 := eq_true (dt_ : 0 ≤ x11_1)
 replace H := iN_ H
 obtain ⟨c7, H⟩ := H
 have c7b0 := eq_true c7
 have c7b1 := decide_eq_true c7
 clear c7
 obtain ⟨y190, hy190⟩ : ∃ y_ : List (S37), y_ = (l0.take (x11_1 : Int).toNat) := ⟨_, rfl⟩
 replace H := yB_ hy190 H
 have Ny190 := aM hy190
 clear hy190
 have H' := aM H
 clear H
 have p188 : (0 ≤ (x11_1 : Int)) = True := et_
 have q188 : (x11_1 < (l0.length : Int)) = True := et_
 obtain ⟨ad188, e188, hx188_0, hx188_1, hx188_2, hx188_3, hx188_4⟩ := at_T37 HR0.out x11_1 dt_ dt_
 cases e188
 replace hx188_0 := cB_ hx188_0
 replace hx188_1 := cB_ hx188_1
 replace hx188_2 := cB_ hx188_2
 replace hx188_3 := cB_ hx188_3
 replace hx188_4 := cB_ hx188_4
 go_wp2_with (first | ((with_reducible refine gate_dst (N := 6) rfl ?_); refine bx_ 6 #[.int .i64 0, .int .i64 0, .int .i64 0, .bool false, .int .i64 0] 37 ?_; intro gb189 hg w8 hbox hb; have BK189 := aM (hbox); have GW189 := aM (bz_ w hg qz1); have GE189 := GW189; replace HB := bS_ hb; clear hb hbox hg; obtain ⟨hcz9_0, hcz9_1, hcz9_2, hcz9_3, hcz9_4, hfz9_0, hfz9_1, hfz9_2, hfz9_3, hfz9_4⟩ := b10_ BK189.out) | ((with_reducible refine gate_store (t := 37) (p := 6) rfl ?_); (try (rw [drewN_self w8]; generalize hq_ : World.drewN w8 _ = w8; replace BK189 := aM (blk_at hq_ BK189.out); replace HB := aM (below_at hq_ HB.out); clear hq_)); refine store_event (t := 37) (p := 6) (v := ?vo_w10) (w1 := (((((w8.setCell ⟨gb189, 0, none⟩ (.int .i64 ((rd_T37 l0 x11_1).f0))).setCell ⟨gb189, 1, none⟩ (.int .i64 ((rd_T37 l0 x11_1).f1))).setCell ⟨gb189, 2, none⟩ (.int .i64 ((rd_T37 l0 x11_1).f2))).setCell ⟨gb189, 3, none⟩ (.bool ((rd_T37 l0 x11_1).f3))).setCell ⟨gb189, 4, none⟩ (.int .i64 ((rd_T37 l0 x11_1).f4)))) ?hg ?ho ?hn ?hr ?_; (case ho => rfl); (case hg => rfl); (case hn => rfl); (case hr => exact qz7); intro w10 hw; replace BK189 : Aside0 (w10.heap[gb189]? = some (.cells #[.int .i64 ((rd_T37 l0 x11_1).f0), .int .i64 ((rd_T37 l0 x11_1).f1), .int .i64 ((rd_T37 l0 x11_1).f2), .bool ((rd_T37 l0 x11_1).f3), .int .i64 ((rd_T37 l0 x11_1).f4)] 37 (0, 0))) := ⟨(by rw [hw]; exact (by (with_reducible repeat (first | refine blk_drewN ?_ _ | refine blk_drew ?_ | refine blk_alloc ?_ _)); refine blk_put (cs := #[.int .i64 ((rd_T37 l0 x11_1).f0), .int .i64 ((rd_T37 l0 x11_1).f1), .int .i64 ((rd_T37 l0 x11_1).f2), .bool ((rd_T37 l0 x11_1).f3), .int .i64 0]) ?_ 4 _ rfl; (with_reducible repeat (first | refine blk_drewN ?_ _ | refine blk_drew ?_ | refine blk_alloc ?_ _)); refine blk_put (cs := #[.int .i64 ((rd_T37 l0 x11_1).f0), .int .i64 ((rd_T37 l0 x11_1).f1), .int .i64 ((rd_T37 l0 x11_1).f2), .bool false, .int .i64 0]) ?_ 3 _ rfl; (with_reducible repeat (first | refine blk_drewN ?_ _ | refine blk_drew ?_ | refine blk_alloc ?_ _)); refine blk_put (cs := #[.int .i64 ((rd_T37 l0 x11_1).f0), .int .i64 ((rd_T37 l0 x11_1).f1), .int .i64 0, .bool false, .int .i64 0]) ?_ 2 _ rfl; (with_reducible repeat (first | refine blk_drewN ?_ _ | refine blk_drew ?_ | refine blk_alloc ?_ _)); refine blk_put (cs := #[.int .i64 ((rd_T37 l0 x11_1).f0), .int .i64 0, .int .i64 0, .bool false, .int .i64 0]) ?_ 1 _ rfl; (with_reducible repeat (first | refine blk_drewN ?_ _ | refine blk_drew ?_ | refine blk_alloc ?_ _)); refine blk_put (cs := #[.int .i64 0, .int .i64 0, .int .i64 0, .bool false, .int .i64 0]) ?_ 0 _ rfl; exact bk_ BK189.out))⟩; replace HB : Aside0 (Below w.heap.size w w10) := ⟨(by rw [hw]; exact qz1)⟩; clear hw; have q11 : (x11_1 : Int) ≤ ((l0.length : Int) : Int) := dt_; obtain ⟨i011, hi011, _, hsz11, _⟩ := info_parts info37; have hroom11 : l0.length ≤ c0 := HC0.out; have hC11 : Kd.C k37 _ (some ad188) l0.length l0 := HR0.out; have hcut11 := cut_to (P := Try.prog) 26 37 .i64 Try.underlying26 hi011 (some ad188) l0.length c0 x11_1 (dt_) q11 hroom11; have hr11 := Kd.C_take (m := (x11_1 : Int).toNat) hC11 (by omega); have hy11 : y190.length = (x11_1 : Int).toNat := (by rw [Ny190.out, List.length_take]; omega); rw [← Ny190.out] at hr11; rw [← hy11] at hcut11; have HR193 := aM hr11; have HC193 := aM (show y190.length ≤ c0 from by omega); clear hr11 hC11 hroom11 hi011 hsz11; have KY11 := aM hy11; clear hy11; replace q11 := eq_true q11) | go_quiet (fail))
 go_loopg [20] k1 (fun kq v20 w' => ∃ (x20_2 : Int), v20 = .int .i64 x20_2 ∧ Aside0 (impl_swaps.l1 kq l0 l1 x11_1 l0 (l0.length : Int) x11_1 y190 (y190.length : Int) x20_2 ((rd_T37 l0 x11_1).f0) ((rd_T37 l0 x11_1).f1) ((rd_T37 l0 x11_1).f2) ((rd_T37 l0 x11_1).f3) ((rd_T37 l0 x11_1).f4) = some r) ∧ Aside0 (kq ≤ k1) ∧ Aside0 (w'.heap[gb189]? = some (.cells #[.int .i64 ((rd_T37 l0 x11_1).f0), .int .i64 ((rd_T37 l0 x11_1).f1), .int .i64 ((rd_T37 l0 x11_1).f2), .bool ((rd_T37 l0 x11_1).f3), .int .i64 ((rd_T37 l0 x11_1).f4)] 37 (0, 0))) ∧ Aside0 (Below w.heap.size w w'))
 case atStart => exact ⟨(0), qz6, H', ⟨Nat.le_refl _⟩, ⟨bk_ BK189.out⟩, ⟨qz1⟩⟩
 case round =>
 clear H'
 try clear c1
 try clear c3
 try clear c3b0
 try clear c4
 try clear c4b0
 try clear c5
 try clear c5b0
 try clear c6b0
 try clear c7
 try clear c7b0
 try clear c7b1
 try clear q11
 try clear hcz9_0 hcz9_1 hcz9_2 hcz9_3 hcz9_4 hfz9_0 hfz9_1 hfz9_2 hfz9_3 hfz9_4
 try clear hx188_0
 try clear hx188_1
 try clear hx188_2
 try clear hx188_3
 try clear hx188_4
 try clear p188
 try clear q188
 obtain ⟨x20_2, rfl, HA, HK2, BK189, HB⟩ := hrel
 cases gk with
 | zero => exact absurd HA.out (by simp [impl_swaps.l1])
 | succ k2 =>
 have H := HA.out
 clear HA
 simp only [impl_swaps.l1] at H
 replace H := iE_ H
 rcases H with ⟨c12b0, H⟩ | ⟨c12b0, H⟩
 {
 replace H := iD_ H
 obtain ⟨c13b0, H⟩ := H
 replace H := iD_ H
 obtain ⟨c14b0, H⟩ := H
 replace H := iD_ H
 obtain ⟨c15b0, H⟩ := H
 replace H := iD_ H
 obtain ⟨c16b0, H⟩ := H
 replace H := iQ_ H
 rcases H with ⟨c17b0, c17b1, H⟩ | ⟨c17, c17b0, c17b1, H⟩
 {
 replace H := iD_ H
 obtain ⟨c18b0, H⟩ := H
 replace H := iQ_ H
 rcases H with ⟨c19b0, c19b1, H⟩ | ⟨c19, c19b0, c19b1, H⟩
 {
 obtain rfl := Option.some.inj H
 have p194 : (0 ≤ (x20_2 : Int)) = True := et_
 have q194 : (x20_2 < (y190.length : Int)) = True := et_
 obtain ⟨ad194, e194, hx194_0, hx194_1, hx194_2, hx194_3, hx194_4⟩ := at_T37 HR193.out x20_2 dt_ dt_
 obtain rfl : ad188 = ad194 := (by injection e194)
 replace hx194_0 := cB_ hx194_0
 replace hx194_1 := cB_ hx194_1
 replace hx194_2 := cB_ hx194_2
 replace hx194_3 := cB_ hx194_3
 replace hx194_4 := cB_ hx194_4
 go_wp2_with (first | ((with_reducible refine gate_dst (N := 8) rfl ?_); refine bx_ 8 #[.int .i64 0, .int .i64 0, .int .i64 0, .bool false, .int .i64 0] 37 ?_; intro gb195 hg w20 hbox hb; have BK195 := aM (hbox); have GW195 := aM (bz_ w hg qz1); have GE195 := GW195; replace HB := bS_ hb; obtain ⟨NB189_195, NB195_189⟩ := nb_ hg (bk_ BK189.out); replace BK189 := bB_ BK189 hb; clear hb hbox hg; have hnb21 := NB195_189.out; have hnc21 := NB189_195.out; obtain ⟨hcz22_0, hcz22_1, hcz22_2, hcz22_3, hcz22_4, hfz22_0, hfz22_1, hfz22_2, hfz22_3, hfz22_4⟩ := b10_ BK195.out; have p196 : 0 ≤ (x11_1 : Int) := dt_; have q196 : x11_1 < (l1.length : Int) := dt_; obtain ⟨ad196, e196, hx196_0⟩ := Kd.at_int HR1.out x11_1 p196 q196; cases e196; have hn196_0 : ad196.block ≠ gb195 := nf_ hx196_0 GW195.out; have hn196_1 : ad196.block ≠ gb195 := nf_ hx196_0 GW195.out; have hn196_2 : ad196.block ≠ gb195 := nf_ hx196_0 GW195.out; have hn196_3 : ad196.block ≠ gb195 := nf_ hx196_0 GW195.out; have hn196_4 : ad196.block ≠ gb195 := nf_ hx196_0 GW195.out; replace hx196_0 := cB_ hx196_0; replace hx196_0 := (cell_far (p := ⟨gb195, 0, none⟩) qz17 (.int .i64 ((rd_T37 y190 x20_2).f0))).trans hx196_0; replace hx196_0 := (cell_far (p := ⟨gb195, 1, none⟩) qz18 (.int .i64 ((rd_T37 y190 x20_2).f1))).trans hx196_0; replace hx196_0 := (cell_far (p := ⟨gb195, 2, none⟩) qz19 (.int .i64 ((rd_T37 y190 x20_2).f2))).trans hx196_0; replace hx196_0 := (cell_far (p := ⟨gb195, 3, none⟩) qz20 (.bool ((rd_T37 y190 x20_2).f3))).trans hx196_0; replace hx196_0 := (cell_far (p := ⟨gb195, 4, none⟩) qz21 (.int .i64 ((rd_T37 y190 x20_2).f4))).trans hx196_0; (try have hy196_0 := fun (n_ : Nat) => (show (((((((w20.drewN n_).setCell ⟨gb195, 0, none⟩ (.int .i64 ((rd_T37 y190 x20_2).f0))).setCell ⟨gb195, 1, none⟩ (.int .i64 ((rd_T37 y190 x20_2).f1))).setCell ⟨gb195, 2, none⟩ (.int .i64 ((rd_T37 y190 x20_2).f2))).setCell ⟨gb195, 3, none⟩ (.bool ((rd_T37 y190 x20_2).f3))).setCell ⟨gb195, 4, none⟩ (.int .i64 ((rd_T37 y190 x20_2).f4)))).cell? _ = some _ from hx196_0)); clear hn196_0 hn196_1 hn196_2 hn196_3 hn196_4; replace p196 := eq_true p196; replace q196 := eq_true q196; have p197 : 0 ≤ (x20_2 : Int) := dt_; have q197 : x20_2 < (l1.length : Int) := dt_; obtain ⟨ad197, e197, hx197_0⟩ := Kd.at_int HR1.out x20_2 p197 q197; obtain rfl : ad196 = ad197 := (by injection e197); have hn197_0 : ad196.block ≠ gb195 := nf_ hx197_0 GW195.out; have hn197_1 : ad196.block ≠ gb195 := nf_ hx197_0 GW195.out; have hn197_2 : ad196.block ≠ gb195 := nf_ hx197_0 GW195.out; have hn197_3 : ad196.block ≠ gb195 := nf_ hx197_0 GW195.out; have hn197_4 : ad196.block ≠ gb195 := nf_ hx197_0 GW195.out; replace hx197_0 := cB_ hx197_0; replace hx197_0 := (cell_far (p := ⟨gb195, 0, none⟩) (by first | (rw [add_block]; exact hn197_0) | (show (Addr.add _ _).block ≠ _; rw [add_block]; exact hn197_0) | exact hn197_0) (.int .i64 ((rd_T37 y190 x20_2).f0))).trans hx197_0; replace hx197_0 := (cell_far (p := ⟨gb195, 1, none⟩) (by first | (rw [add_block]; exact hn197_1) | (show (Addr.add _ _).block ≠ _; rw [add_block]; exact hn197_1) | exact hn197_1) (.int .i64 ((rd_T37 y190 x20_2).f1))).trans hx197_0; replace hx197_0 := (cell_far (p := ⟨gb195, 2, none⟩) (by first | (rw [add_block]; exact hn197_2) | (show (Addr.add _ _).block ≠ _; rw [add_block]; exact hn197_2) | exact hn197_2) (.int .i64 ((rd_T37 y190 x20_2).f2))).trans hx197_0; replace hx197_0 := (cell_far (p := ⟨gb195, 3, none⟩) (by first | (rw [add_block]; exact hn197_3) | (show (Addr.add _ _).block ≠ _; rw [add_block]; exact hn197_3) | exact hn197_3) (.bool ((rd_T37 y190 x20_2).f3))).trans hx197_0; replace hx197_0 := (cell_far (p := ⟨gb195, 4, none⟩) (by first | (rw [add_block]; exact hn197_4) | (show (Addr.add _ _).block ≠ _; rw [add_block]; exact hn197_4) | exact hn197_4) (.int .i64 ((rd_T37 y190 x20_2).f4))).trans hx197_0; (try have hy197_0 := fun (n_ : Nat) => (show (((((((w20.drewN n_).setCell ⟨gb195, 0, none⟩ (.int .i64 ((rd_T37 y190 x20_2).f0))).setCell ⟨gb195, 1, none⟩ (.int .i64 ((rd_T37 y190 x20_2).f1))).setCell ⟨gb195, 2, none⟩ (.int .i64 ((rd_T37 y190 x20_2).f2))).setCell ⟨gb195, 3, none⟩ (.bool ((rd_T37 y190 x20_2).f3))).setCell ⟨gb195, 4, none⟩ (.int .i64 ((rd_T37 y190 x20_2).f4)))).cell? _ = some _ from hx197_0)); clear hn197_0 hn197_1 hn197_2 hn197_3 hn197_4; replace p197 := eq_true p197; replace q197 := eq_true q197; obtain ⟨hcz23_0, hcz23_1, hcz23_2, hcz23_3, hcz23_4, hfz23_0, hfz23_1, hfz23_2, hfz23_3, hfz23_4⟩ := b10_ BK189.out) | go_quiet (fail))
 go_ret
 exact ⟨qzw, qz1⟩
 }
 {
 have H' := aM H
 clear H
 have p194 : (0 ≤ (x20_2 : Int)) = True := et_
 have q194 : (x20_2 < (y190.length : Int)) = True := et_
 obtain ⟨ad194, e194, hx194_0, hx194_1, hx194_2, hx194_3, hx194_4⟩ := at_T37 HR193.out x20_2 dt_ dt_
 obtain rfl : ad188 = ad194 := (by injection e194)
 replace hx194_0 := cB_ hx194_0
 replace hx194_1 := cB_ hx194_1
 replace hx194_2 := cB_ hx194_2
 replace hx194_3 := cB_ hx194_3
 replace hx194_4 := cB_ hx194_4
 go_wp2_with (first | ((with_reducible refine gate_dst (N := 8) rfl ?_); refine bx_ 8 #[.int .i64 0, .int .i64 0, .int .i64 0, .bool false, .int .i64 0] 37 ?_; intro gb195 hg w24 hbox hb; have BK195 := aM (hbox); have GW195 := aM (bz_ w hg qz1); have GE195 := GW195; replace HB := bS_ hb; obtain ⟨NB189_195, NB195_189⟩ := nb_ hg (bk_ BK189.out); replace BK189 := bB_ BK189 hb; clear hb hbox hg; have hnb25 := NB195_189.out; have hnc25 := NB189_195.out; obtain ⟨hcz26_0, hcz26_1, hcz26_2, hcz26_3, hcz26_4, hfz26_0, hfz26_1, hfz26_2, hfz26_3, hfz26_4⟩ := b10_ BK195.out; have p196 : 0 ≤ (x11_1 : Int) := dt_; have q196 : x11_1 < (l1.length : Int) := dt_; obtain ⟨ad196, e196, hx196_0⟩ := Kd.at_int HR1.out x11_1 p196 q196; cases e196; have hn196_0 : ad196.block ≠ gb195 := nf_ hx196_0 GW195.out; have hn196_1 : ad196.block ≠ gb195 := nf_ hx196_0 GW195.out; have hn196_2 : ad196.block ≠ gb195 := nf_ hx196_0 GW195.out; have hn196_3 : ad196.block ≠ gb195 := nf_ hx196_0 GW195.out; have hn196_4 : ad196.block ≠ gb195 := nf_ hx196_0 GW195.out; replace hx196_0 := cB_ hx196_0; replace hx196_0 := (cell_far (p := ⟨gb195, 0, none⟩) qz17 (.int .i64 ((rd_T37 y190 x20_2).f0))).trans hx196_0; replace hx196_0 := (cell_far (p := ⟨gb195, 1, none⟩) qz18 (.int .i64 ((rd_T37 y190 x20_2).f1))).trans hx196_0; replace hx196_0 := (cell_far (p := ⟨gb195, 2, none⟩) qz19 (.int .i64 ((rd_T37 y190 x20_2).f2))).trans hx196_0; replace hx196_0 := (cell_far (p := ⟨gb195, 3, none⟩) qz20 (.bool ((rd_T37 y190 x20_2).f3))).trans hx196_0; replace hx196_0 := (cell_far (p := ⟨gb195, 4, none⟩) qz21 (.int .i64 ((rd_T37 y190 x20_2).f4))).trans hx196_0; (try have hy196_0 := fun (n_ : Nat) => (show (((((((w24.drewN n_).setCell ⟨gb195, 0, none⟩ (.int .i64 ((rd_T37 y190 x20_2).f0))).setCell ⟨gb195, 1, none⟩ (.int .i64 ((rd_T37 y190 x20_2).f1))).setCell ⟨gb195, 2, none⟩ (.int .i64 ((rd_T37 y190 x20_2).f2))).setCell ⟨gb195, 3, none⟩ (.bool ((rd_T37 y190 x20_2).f3))).setCell ⟨gb195, 4, none⟩ (.int .i64 ((rd_T37 y190 x20_2).f4)))).cell? _ = some _ from hx196_0)); clear hn196_0 hn196_1 hn196_2 hn196_3 hn196_4; replace p196 := eq_true p196; replace q196 := eq_true q196; have p197 : 0 ≤ (x20_2 : Int) := dt_; have q197 : x20_2 < (l1.length : Int) := dt_; obtain ⟨ad197, e197, hx197_0⟩ := Kd.at_int HR1.out x20_2 p197 q197; obtain rfl : ad196 = ad197 := (by injection e197); have hn197_0 : ad196.block ≠ gb195 := nf_ hx197_0 GW195.out; have hn197_1 : ad196.block ≠ gb195 := nf_ hx197_0 GW195.out; have hn197_2 : ad196.block ≠ gb195 := nf_ hx197_0 GW195.out; have hn197_3 : ad196.block ≠ gb195 := nf_ hx197_0 GW195.out; have hn197_4 : ad196.block ≠ gb195 := nf_ hx197_0 GW195.out; replace hx197_0 := cB_ hx197_0; replace hx197_0 := (cell_far (p := ⟨gb195, 0, none⟩) (by first | (rw [add_block]; exact hn197_0) | (show (Addr.add _ _).block ≠ _; rw [add_block]; exact hn197_0) | exact hn197_0) (.int .i64 ((rd_T37 y190 x20_2).f0))).trans hx197_0; replace hx197_0 := (cell_far (p := ⟨gb195, 1, none⟩) (by first | (rw [add_block]; exact hn197_1) | (show (Addr.add _ _).block ≠ _; rw [add_block]; exact hn197_1) | exact hn197_1) (.int .i64 ((rd_T37 y190 x20_2).f1))).trans hx197_0; replace hx197_0 := (cell_far (p := ⟨gb195, 2, none⟩) (by first | (rw [add_block]; exact hn197_2) | (show (Addr.add _ _).block ≠ _; rw [add_block]; exact hn197_2) | exact hn197_2) (.int .i64 ((rd_T37 y190 x20_2).f2))).trans hx197_0; replace hx197_0 := (cell_far (p := ⟨gb195, 3, none⟩) (by first | (rw [add_block]; exact hn197_3) | (show (Addr.add _ _).block ≠ _; rw [add_block]; exact hn197_3) | exact hn197_3) (.bool ((rd_T37 y190 x20_2).f3))).trans hx197_0; replace hx197_0 := (cell_far (p := ⟨gb195, 4, none⟩) (by first | (rw [add_block]; exact hn197_4) | (show (Addr.add _ _).block ≠ _; rw [add_block]; exact hn197_4) | exact hn197_4) (.int .i64 ((rd_T37 y190 x20_2).f4))).trans hx197_0; (try have hy197_0 := fun (n_ : Nat) => (show (((((((w24.drewN n_).setCell ⟨gb195, 0, none⟩ (.int .i64 ((rd_T37 y190 x20_2).f0))).setCell ⟨gb195, 1, none⟩ (.int .i64 ((rd_T37 y190 x20_2).f1))).setCell ⟨gb195, 2, none⟩ (.int .i64 ((rd_T37 y190 x20_2).f2))).setCell ⟨gb195, 3, none⟩ (.bool ((rd_T37 y190 x20_2).f3))).setCell ⟨gb195, 4, none⟩ (.int .i64 ((rd_T37 y190 x20_2).f4)))).cell? _ = some _ from hx197_0)); clear hn197_0 hn197_1 hn197_2 hn197_3 hn197_4; replace p197 := eq_true p197; replace q197 := eq_true q197; obtain ⟨hcz27_0, hcz27_1, hcz27_2, hcz27_3, hcz27_4, hfz27_0, hfz27_1, hfz27_2, hfz27_3, hfz27_4⟩ := b10_ BK189.out) | go_quiet (fail))
 go_roundg k2
 case measure => have := HK1.out; have := HK2.out; omega
 case rel => exact ⟨(wrap64 (x20_2 + 1)), qz6, H', ⟨by have := HK1.out; have := HK2.out; omega⟩, ⟨by (with_reducible repeat (first | refine blk_drewN ?_ _ | refine blk_drew ?_ | refine blk_alloc ?_ _)); refine blk_far ?_ NB189_195.out _; (with_reducible repeat (first | refine blk_drewN ?_ _ | refine blk_drew ?_ | refine blk_alloc ?_ _)); refine blk_far ?_ NB189_195.out _; (with_reducible repeat (first | refine blk_drewN ?_ _ | refine blk_drew ?_ | refine blk_alloc ?_ _)); refine blk_far ?_ NB189_195.out _; (with_reducible repeat (first | refine blk_drewN ?_ _ | refine blk_drew ?_ | refine blk_alloc ?_ _)); refine blk_far ?_ NB189_195.out _; (with_reducible repeat (first | refine blk_drewN ?_ _ | refine blk_drew ?_ | refine blk_alloc ?_ _)); refine blk_far ?_ NB189_195.out _; exact bk_ BK189.out⟩, ⟨qz1⟩⟩
 }
 }
 {
 have H' := aM H
 clear H
 have p194 : (0 ≤ (x20_2 : Int)) = True := et_
 have q194 : (x20_2 < (y190.length : Int)) = True := et_
 obtain ⟨ad194, e194, hx194_0, hx194_1, hx194_2, hx194_3, hx194_4⟩ := at_T37 HR193.out x20_2 dt_ dt_
 obtain rfl : ad188 = ad194 := (by injection e194)
 replace hx194_0 := cB_ hx194_0
 replace hx194_1 := cB_ hx194_1
 replace hx194_2 := cB_ hx194_2
 replace hx194_3 := cB_ hx194_3
 replace hx194_4 := cB_ hx194_4
 go_wp2_with (first | ((with_reducible refine gate_dst (N := 8) rfl ?_); refine bx_ 8 #[.int .i64 0, .int .i64 0, .int .i64 0, .bool false, .int .i64 0] 37 ?_; intro gb195 hg w28 hbox hb; have BK195 := aM (hbox); have GW195 := aM (bz_ w hg qz1); have GE195 := GW195; replace HB := bS_ hb; obtain ⟨NB189_195, NB195_189⟩ := nb_ hg (bk_ BK189.out); replace BK189 := bB_ BK189 hb; clear hb hbox hg; have hnb29 := NB195_189.out; have hnc29 := NB189_195.out; obtain ⟨hcz30_0, hcz30_1, hcz30_2, hcz30_3, hcz30_4, hfz30_0, hfz30_1, hfz30_2, hfz30_3, hfz30_4⟩ := b10_ BK195.out; have p196 : 0 ≤ (x11_1 : Int) := dt_; have q196 : x11_1 < (l1.length : Int) := dt_; obtain ⟨ad196, e196, hx196_0⟩ := Kd.at_int HR1.out x11_1 p196 q196; cases e196; have hn196_0 : ad196.block ≠ gb195 := nf_ hx196_0 GW195.out; have hn196_1 : ad196.block ≠ gb195 := nf_ hx196_0 GW195.out; have hn196_2 : ad196.block ≠ gb195 := nf_ hx196_0 GW195.out; have hn196_3 : ad196.block ≠ gb195 := nf_ hx196_0 GW195.out; have hn196_4 : ad196.block ≠ gb195 := nf_ hx196_0 GW195.out; replace hx196_0 := cB_ hx196_0; replace hx196_0 := (cell_far (p := ⟨gb195, 0, none⟩) qz17 (.int .i64 ((rd_T37 y190 x20_2).f0))).trans hx196_0; replace hx196_0 := (cell_far (p := ⟨gb195, 1, none⟩) qz18 (.int .i64 ((rd_T37 y190 x20_2).f1))).trans hx196_0; replace hx196_0 := (cell_far (p := ⟨gb195, 2, none⟩) qz19 (.int .i64 ((rd_T37 y190 x20_2).f2))).trans hx196_0; replace hx196_0 := (cell_far (p := ⟨gb195, 3, none⟩) qz20 (.bool ((rd_T37 y190 x20_2).f3))).trans hx196_0; replace hx196_0 := (cell_far (p := ⟨gb195, 4, none⟩) qz21 (.int .i64 ((rd_T37 y190 x20_2).f4))).trans hx196_0; (try have hy196_0 := fun (n_ : Nat) => (show (((((((w28.drewN n_).setCell ⟨gb195, 0, none⟩ (.int .i64 ((rd_T37 y190 x20_2).f0))).setCell ⟨gb195, 1, none⟩ (.int .i64 ((rd_T37 y190 x20_2).f1))).setCell ⟨gb195, 2, none⟩ (.int .i64 ((rd_T37 y190 x20_2).f2))).setCell ⟨gb195, 3, none⟩ (.bool ((rd_T37 y190 x20_2).f3))).setCell ⟨gb195, 4, none⟩ (.int .i64 ((rd_T37 y190 x20_2).f4)))).cell? _ = some _ from hx196_0)); clear hn196_0 hn196_1 hn196_2 hn196_3 hn196_4; replace p196 := eq_true p196; replace q196 := eq_true q196) | go_quiet (fail))
 go_roundg k2
 case measure => have := HK1.out; have := HK2.out; omega
 case rel => exact ⟨(wrap64 (x20_2 + 1)), qz6, H', ⟨by have := HK1.out; have := HK2.out; omega⟩, ⟨by (with_reducible repeat (first | refine blk_drewN ?_ _ | refine blk_drew ?_ | refine blk_alloc ?_ _)); refine blk_far ?_ NB189_195.out _; (with_reducible repeat (first | refine blk_drewN ?_ _ | refine blk_drew ?_ | refine blk_alloc ?_ _)); refine blk_far ?_ NB189_195.out _; (with_reducible repeat (first | refine blk_drewN ?_ _ | refine blk_drew ?_ | refine blk_alloc ?_ _)); refine blk_far ?_ NB189_195.out _; (with_reducible repeat (first | refine blk_drewN ?_ _ | refine blk_drew ?_ | refine blk_alloc ?_ _)); refine blk_far ?_ NB189_195.out _; (with_reducible repeat (first | refine blk_drewN ?_ _ | refine blk_drew ?_ | refine blk_alloc ?_ _)); refine blk_far ?_ NB189_195.out _; exact bk_ BK189.out⟩, ⟨qz1⟩⟩
 }
 }
 {
 have H' := aM H
 clear H
 go_wp2
 repeat (go_quiet (fail); try go_wp2)
 go_roundg k2
 case measure => have := HK1.out; have := HK2.out; omega
 case rel => exact ⟨(wrap64 (x11_1 + 1)), qz6, H', ⟨by have := HK1.out; have := HK2.out; omega⟩, ⟨qz1⟩⟩
 }
 }
 {
 obtain rfl := Option.some.inj H
 go_wp2
 repeat (go_quiet (fail); try go_wp2)
 go_ret
 exact ⟨qzw, qz1⟩
 }
end Go.Proofs.Ytankmdbbgepmbaa.PFnFirst
