-- Made by a program of this session out of the translation. Lean checks it.
import Derived.Test.YteajnkondkfmgaaPFnPicksx0
namespace Go.Proofs.Yteajnkondkfmgaa.PFnPicks
open Go.RowKit Go.Proofs.YteajnkondkfmgaaW.PrintWords Go.Proofs.YteajnkondkfmgaaW.PrintLast Go.Proofs.YteajnkondkfmgaaW.PrintMore
attribute [local go_sem] max2_int min2_int max_two min_two max_three min_three max_four min_four   -- for this text's walks alone
set_option linter.unusedVariables false
set_option linter.unusedSimpArgs false

/-! ### impl_hasInt: function 84 -/
def impl_hasInt.l0 : Nat → Int → List Int → Int → Int → Option (Bool)
 | 0, _, _, _, _ => none
 | k + 1, x1, x7, x8, x9 => if x9 < x8 then (if 0 ≤ x9 then (if x9 < (x7.length : Int) then (if (rd x7 x9) = x1 then (some true) else (impl_hasInt.l0 k x1 x7 x8 (wrap64 (x9 + 1)))) else (none)) else (none)) else (some false)
def impl_hasInt.f (k : Nat) (l0 : List Int) (a1 : Int) : Option (Bool) := impl_hasInt.l0 k a1 l0 (l0.length : Int) 0
theorem impl_hasInt.mono_l : ∀ k, (∀ y0 y1 y2 y3, LeO (impl_hasInt.l0 k y0 y1 y2 y3) (impl_hasInt.l0 (k + 1) y0 y1 y2 y3))
 | 0 => fun _ _ _ _ r h => by simp [impl_hasInt.l0] at h
 | k + 1 => by
  have ih0 := impl_hasInt.mono_l k
  {
  intro y0 y1 y2 y3
  unfold impl_hasInt.l0
  exact qL
  }
theorem impl_hasInt.mono : ∀ a0 a1 k, LeO (impl_hasInt.f k a0 a1) (impl_hasInt.f (k + 1) a0 a1) := by
 intro a0 a1 k
 have ih0 := impl_hasInt.mono_l k
 unfold impl_hasInt.f
 exact qL
set_option maxHeartbeats 8000000 in
set_option maxRecDepth 100000 in
theorem impl_hasInt.calls (k : Nat) (A0 : Option Addr) (c0 : Nat) (l0 : List Int) (a1 : Int) (r : Bool) (w : World) (hr0 : Kd.C (Kd.int .i64) w A0 l0.length l0) (hc0 : l0.length ≤ c0) (h : impl_hasInt.f k l0 a1 = some r) :
  Calls Try.prog 84 #[.slice A0 l0.length c0, .int .i64 a1] w fun e w' => e = .returned (.bool r) ∧ Drawn0 w w' := by
 have HR0 := aM hr0
 have HC0 := aM hc0
 clear hr0 hc0
 have H : (impl_hasInt.l0 k a1 l0 (l0.length : Int) 0) = some r := h
 clear h
 have H' := aM H
 clear H
 go_enter Try.func84, Try.ntmps84
 go_wp2
 go_loopg [9] k (fun kq v9 w' => ∃ (x9_1 : Int), v9 = .int .i64 x9_1 ∧ Aside0 (impl_hasInt.l0 kq a1 l0 (l0.length : Int) x9_1 = some r) ∧ Aside0 (kq ≤ k) ∧ Drawn0 w w')
 case atStart => exact ⟨(0), qz5, H', ⟨Nat.le_refl _⟩, by repeat (first | exact Drawn0.refl _ | apply Drawn0.step)⟩
 case round =>
  clear H'
  try clear p2
  obtain ⟨x9_1, rfl, HA, HK1, ⟨m1, rfl⟩⟩ := hrel
  cases gk with
  | zero => exact absurd HA.out (by simp [impl_hasInt.l0])
  | succ k1 =>
   have H := HA.out
   clear HA
   simp only [impl_hasInt.l0] at H
   by_cases c3 : x9_1 < (l0.length : Int)
   {
   rw [if_pos c3] at H
   have c3b0 := decide_eq_true c3
   clear c3
   by_cases c4 : 0 ≤ x9_1
   {
   rw [if_pos c4] at H
   have c4b0 := decide_eq_true c4
   clear c4
   by_cases c5 : x9_1 < (l0.length : Int)
   {
   rw [if_pos c5] at H
   have c5b0 := decide_eq_true c5
   clear c5
   by_cases c6 : (rd l0 x9_1) = a1
   {
   rw [if_pos c6] at H
   have c6b0 := beq_iff_eq.mpr c6
   have c6b1 := bne_eq_false_iff_eq.mpr c6
   clear c6
   obtain rfl := Option.some.inj H
   simp only [Option.some.injEq, Prod.mk.injEq] at H
   obtain ⟨rfl⟩ := H
   have p429 : 0 ≤ (x9_1 : Int) := dt_
   have q429 : x9_1 < (l0.length : Int) := dt_
   obtain ⟨ad429, e429, hx429_0⟩ := Kd.at_int HR0.out x9_1 p429 q429
   cases e429
   replace p429 := eq_true p429
   replace q429 := eq_true q429
   go_wp2
   go_ret
   exact ⟨by first | rfl | (simp; done) | (simp [*]; done), by repeat (first | exact Drawn0.refl _ | apply Drawn0.step)⟩
   }
   {
   rw [if_neg c6] at H
   have c6b0 := beq_eq_false_iff_ne.mpr c6
   have c6b1 := bne_iff_ne.mpr c6
   have H' := aM H
   clear H
   have p429 : 0 ≤ (x9_1 : Int) := dt_
   have q429 : x9_1 < (l0.length : Int) := dt_
   obtain ⟨ad429, e429, hx429_0⟩ := Kd.at_int HR0.out x9_1 p429 q429
   cases e429
   replace p429 := eq_true p429
   replace q429 := eq_true q429
   go_wp2
   go_roundg k1
   case measure => have := HK1.out; omega
   case rel => exact ⟨(wrap64 (x9_1 + 1)), qz5, H', ⟨by have := HK1.out; omega⟩, by repeat (first | exact Drawn0.refl _ | apply Drawn0.step)⟩
   }
   }
   {
   exact an_ c5 H
   }
   }
   {
   exact an_ c4 H
   }
   }
   {
   rw [if_neg c3] at H
   have c3b0 := decide_eq_false c3
   clear c3
   obtain rfl := Option.some.inj H
   simp only [Option.some.injEq, Prod.mk.injEq] at H
   obtain ⟨rfl⟩ := H
   go_wp2
   go_ret
   exact ⟨by first | rfl | (simp; done) | (simp [*]; done), by repeat (first | exact Drawn0.refl _ | apply Drawn0.step)⟩

   }
/-! ### impl_PodsOf: function 42 -/
def impl_PodsOf.l0 : Nat → List Int → List (S50) → Int → Int → Option (List Int)
 | 0, _, _, _, _ => none
 | k + 1, x3, x6, x7, x8 => if x8 < x7 then (if 0 ≤ x8 then (if x8 < (x6.length : Int) then ((impl_hasInt.f k x3 ((rd_T50 x6 x8).f0)).bind fun t432 => (if t432 = true then (impl_PodsOf.l0 k x3 x6 x7 (wrap64 (x8 + 1))) else (if x3.length < 17592186044416 then (impl_PodsOf.l0 k (x3 ++ [(rd_T50 x6 x8).f0]) x6 x7 (wrap64 (x8 + 1))) else (none)))) else (none)) else (none)) else (some x3)
def impl_PodsOf.f (k : Nat) (l0 : List (S50)) : Option (List Int) := impl_PodsOf.l0 k ([] : List Int) l0 (l0.length : Int) 0
theorem impl_PodsOf.mono_l : ∀ k, (∀ y0 y1 y2 y3, LeO (impl_PodsOf.l0 k y0 y1 y2 y3) (impl_PodsOf.l0 (k + 1) y0 y1 y2 y3))
 | 0 => fun _ _ _ _ r h => by simp [impl_PodsOf.l0] at h
 | k + 1 => by
  have ih0 := impl_PodsOf.mono_l k
  {
  intro y0 y1 y2 y3
  unfold impl_PodsOf.l0
  have j0 := @impl_hasInt.mono
  exact qL
  }
theorem impl_PodsOf.mono : ∀ a0 k, LeO (impl_PodsOf.f k a0) (impl_PodsOf.f (k + 1) a0) := by
 intro a0 k
 have ih0 := impl_PodsOf.mono_l k
 unfold impl_PodsOf.f
 have j0 := @impl_hasInt.mono
 exact qL
set_option maxHeartbeats 8000000 in
set_option maxRecDepth 100000 in
theorem impl_PodsOf.calls (k : Nat) (A0 : Option Addr) (c0 : Nat) (l0 : List (S50)) (r : List Int) (w : World) (hr0 : Kd.C k50 w A0 l0.length l0) (hc0 : l0.length ≤ c0) (h : impl_PodsOf.f k l0 = some r) :
  Calls Try.prog 42 #[.slice A0 l0.length c0] w fun e w' => ∃ v0_ : Value, e = .returned (v0_) ∧ Kd.R (Kd.int .i64) 3 w' w.heap.size (fun _ => True) v0_ r ∧ Below w.heap.size w w' := by
 have hu50 := Try.underlying50
 have HR0 := aM hr0
 have HC0 := aM hc0
 clear hr0 hc0
 have HB := aM (Below.refl w.heap.size w)
 have H : (impl_PodsOf.l0 k ([] : List Int) l0 (l0.length : Int) 0) = some r := h
 clear h
 have H' := aM H
 clear H
 go_enter Try.func42, Try.ntmps42
 go_wp2
 go_loopg [3, 8] k (fun kq v3 v8 w' => ∃ (x3_1 : List Int) (x8_1 : Int), v8 = .int .i64 x8_1 ∧ Aside0 (impl_PodsOf.l0 kq x3_1 l0 (l0.length : Int) x8_1 = some r) ∧ Aside0 (kq ≤ k) ∧ Aside0 (Kd.R (Kd.int .i64) 3 w' w.heap.size (fun _ => True) v3 x3_1) ∧ Aside0 (Below w.heap.size w w'))
 case atStart => exact ⟨(([] : List Int)), (0), qz5, H', ⟨Nat.le_refl _⟩, ⟨by first | exact Kd.R_nil _ _ _ _ _ | exact Kd.N_nil _ _ _ _ _ | exact Kd.V_nil _ _ _ _ _ | exact Kd.Q_nil _ _ _ _ _ | exact Kd.S_nil _ _ _ _ _⟩, ⟨qz1⟩⟩
 case round =>
  clear H'
  obtain ⟨x3_1, x8_1, rfl, HA, HK1, HO_3, HB⟩ := hrel
  cases gk with
  | zero => exact absurd HA.out (by simp [impl_PodsOf.l0])
  | succ k1 =>
   have H := HA.out
   clear HA
   simp only [impl_PodsOf.l0] at H
   by_cases c2 : x8_1 < (l0.length : Int)
   {
   rw [if_pos c2] at H
   have c2b0 := decide_eq_true c2
   clear c2
   by_cases c3 : 0 ≤ x8_1
   {
   rw [if_pos c3] at H
   have c3b0 := decide_eq_true c3
   clear c3
   by_cases c4 : x8_1 < (l0.length : Int)
   {
   rw [if_pos c4] at H
   have c4b0 := decide_eq_true c4
   clear c4
   replace H := Option.bind_eq_some_iff.mp H
   obtain ⟨t432, A50, H⟩ := H
   replace H : (if t432 = true then (impl_PodsOf.l0 k1 x3_1 l0 (l0.length : Int) (wrap64 (x8_1 + 1))) else (if x3_1.length < 17592186044416 then (impl_PodsOf.l0 k1 (x3_1 ++ [(rd_T50 l0 x8_1).f0]) l0 (l0.length : Int) (wrap64 (x8_1 + 1))) else (none))) = some r := H
   have A5 := aM A50
   clear A50
   by_cases c6 : t432 = true
   {
   subst c6
   rw [if_pos rfl] at H
   have H' := aM H
   clear H
   have p430 : 0 ≤ (x8_1 : Int) := dt_
   have q430 : x8_1 < (l0.length : Int) := dt_
   obtain ⟨ad430, e430, hx430_0, hx430_1, hx430_2⟩ := at_T50 HR0.out x8_1 p430 q430
   cases e430
   replace hx430_0 := cB_ hx430_0
   replace hx430_1 := cB_ hx430_1
   replace hx430_2 := cB_ hx430_2
   replace p430 := eq_true p430
   replace q430 := eq_true q430
   go_wp2_with (first | ((with_reducible refine gate_dst (N := 5) rfl ?_); refine bx_ 5 #[.int .i64 0, .int .i64 0, .int .i64 0] 50 ?_; intro gb431 hg w7 hbox hb; replace HO_3 := aM (Kd.R_below (rr_ HO_3.out) hb); have BK431 := aM (hbox); have GW431 := aM (bz_ w hg qz1); have GE431 := GW431; replace HB := bS_ hb; clear hb hbox hg; obtain ⟨hcz8_0, hcz8_1, hcz8_2, hfz8_0, hfz8_1, hfz8_2⟩ := b6_ BK431.out; obtain ⟨Ao9, co9, eo9⟩ := Kd.R_slice HO_3.out; subst eo9) | ((with_reducible refine gate_callee (f := 84) rfl ?_); refine goesL_ (some 15) rfl rfl Try.func84 (by kernel_rfl) rfl #[.slice Ao9 x3_1.length co9, .int .i64 ((rd_T50 l0 x8_1).f0)] rfl qz4 ?_; (with_reducible refine (impl_hasInt.calls k1 _ _ x3_1 ((rd_T50 l0 x8_1).f0) true _ ?side1 ?side2 A5.out).mono ?_); (case side1 => refine (Kd.R_reads' (e := 3) (base := w.heap.size) (ok := fun k_ => True) (n := x3_1.length) (c := co9) ?_).2.2; exact (by (with_reducible repeat (first | apply Kd.R_alloc | apply Kd.R_drewN | apply Kd.R_drew)); exact (Kd.R_mono (Kd.R_far (p := ⟨gb431, 2, none⟩) (Kd.R_far (p := ⟨gb431, 1, none⟩) (Kd.R_far (p := ⟨gb431, 0, none⟩) (Kd.R_types HO_3.out BK431.out (by decide)) (fun _ hk => hk.2) (.int .i64 ((rd_T50 l0 x8_1).f0))) (fun _ hk => hk.2) (.int .i64 ((rd_T50 l0 x8_1).f1))) (fun _ hk => hk.2) (.int .i64 ((rd_T50 l0 x8_1).f2))) (fun _ h_ => h_.1)))); (case side2 => exact (Kd.R_reads' HO_3.out).2.1); rintro e w' ⟨rfl, ⟨nd, rfl⟩⟩; refine ⟨_, rfl, ?_⟩))
   go_roundg k1
   case measure => have := HK1.out; omega
   case rel => exact ⟨(x3_1), (wrap64 (x8_1 + 1)), qz5, H', ⟨by have := HK1.out; omega⟩, ⟨by (with_reducible repeat (first | apply Kd.R_alloc | apply Kd.R_drewN | apply Kd.R_drew)); exact Kd.R_mono (Kd.R_far (p := ⟨gb431, 2, none⟩) (Kd.R_far (p := ⟨gb431, 1, none⟩) (Kd.R_far (p := ⟨gb431, 0, none⟩) (Kd.R_types HO_3.out BK431.out (by decide)) (fun _ hk => hk.2) (.int .i64 ((rd_T50 l0 x8_1).f0))) (fun _ hk => hk.2) (.int .i64 ((rd_T50 l0 x8_1).f1))) (fun _ hk => hk.2) (.int .i64 ((rd_T50 l0 x8_1).f2))) (fun _ hk => trivial)⟩, ⟨qz1⟩⟩
   }
   {
   replace c6 := Bool.eq_false_iff.mpr c6
   subst c6
   rw [if_neg (show ¬ (false = true) by decide)] at H
   by_cases c10 : x3_1.length < 17592186044416
   {
   rw [if_pos c10] at H
   have LMc10 := aM c10
   clear c10
   obtain ⟨y433, hy433⟩ : ∃ y_ : List Int, y_ = (x3_1 ++ [(rd_T50 l0 x8_1).f0]) := ⟨_, rfl⟩
   replace H : (impl_PodsOf.l0 k1 y433 l0 (l0.length : Int) (wrap64 (x8_1 + 1))) = some r := by first | (rw [hy433]; with_reducible exact H) | (have H2_ := (Option.bind_some _ _).symm.trans H; rw [hy433]; with_reducible exact H2_) | (have H2_ := (Option.bind_some _ _).symm.trans H; with_reducible exact H2_) | with_reducible exact H | (rw [hy433]; exact H) | exact H
   have Ny433 := aM hy433
   clear hy433
   have H' := aM H
   clear H
   have p430 : 0 ≤ (x8_1 : Int) := dt_
   have q430 : x8_1 < (l0.length : Int) := dt_
   obtain ⟨ad430, e430, hx430_0, hx430_1, hx430_2⟩ := at_T50 HR0.out x8_1 p430 q430
   cases e430
   replace hx430_0 := cB_ hx430_0
   replace hx430_1 := cB_ hx430_1
   replace hx430_2 := cB_ hx430_2
   replace p430 := eq_true p430
   replace q430 := eq_true q430
   go_wp2_with (first | ((with_reducible refine gate_dst (N := 5) rfl ?_); refine bx_ 5 #[.int .i64 0, .int .i64 0, .int .i64 0] 50 ?_; intro gb431 hg w11 hbox hb; replace HO_3 := aM (Kd.R_below (rr_ HO_3.out) hb); have BK431 := aM (hbox); have GW431 := aM (bz_ w hg qz1); have GE431 := GW431; replace HB := bS_ hb; clear hb hbox hg; obtain ⟨hcz12_0, hcz12_1, hcz12_2, hfz12_0, hfz12_1, hfz12_2⟩ := b6_ BK431.out; obtain ⟨Ao13, co13, eo13⟩ := Kd.R_slice HO_3.out; subst eo13) | ((with_reducible refine gate_callee (f := 84) rfl ?_); refine goesL_ (some 15) rfl rfl Try.func84 (by kernel_rfl) rfl #[.slice Ao13 x3_1.length co13, .int .i64 ((rd_T50 l0 x8_1).f0)] rfl qz4 ?_; (with_reducible refine (impl_hasInt.calls k1 _ _ x3_1 ((rd_T50 l0 x8_1).f0) false _ ?side1 ?side2 A5.out).mono ?_); (case side1 => refine (Kd.R_reads' (e := 3) (base := w.heap.size) (ok := fun k_ => True) (n := x3_1.length) (c := co13) ?_).2.2; exact (by (with_reducible repeat (first | apply Kd.R_alloc | apply Kd.R_drewN | apply Kd.R_drew)); exact (Kd.R_mono (Kd.R_far (p := ⟨gb431, 2, none⟩) (Kd.R_far (p := ⟨gb431, 1, none⟩) (Kd.R_far (p := ⟨gb431, 0, none⟩) (Kd.R_types HO_3.out BK431.out (by decide)) (fun _ hk => hk.2) (.int .i64 ((rd_T50 l0 x8_1).f0))) (fun _ hk => hk.2) (.int .i64 ((rd_T50 l0 x8_1).f1))) (fun _ hk => hk.2) (.int .i64 ((rd_T50 l0 x8_1).f2))) (fun _ h_ => h_.1)))); (case side2 => exact (Kd.R_reads' HO_3.out).2.1); rintro e w' ⟨rfl, ⟨nd, rfl⟩⟩; refine ⟨_, rfl, ?_⟩) | ((with_reducible refine gate_builtin (b := .append) (xs := #[.tmp 17, .tmp 20]) rfl ?_); at_builtin; refine Kd.R_append (Kd.int .i64) (w0 := w) w.heap.size rfl (.tmp 17) (.tmp 20) 53 3 (.int .i64 0) 8 rfl Try.underlying53 info3 rfl (by decide) (by omega) (.slice Ao13 x3_1.length co13) x3_1 ((rd_T50 l0 x8_1).f0) [.int .i64 ((rd_T50 l0 x8_1).f0)] (fun _ => True) (fun _ => False) rfl qz27 ?aP (fun _ hk => hk.elim) ?aF ?aO ?aB ?aS ?aL ?_; (case aP => exact rfl); (case aB => exact qz1); (case aF => exact (fun _ _ => trivial)); (case aO => exact (by (with_reducible repeat (first | apply Kd.R_alloc | apply Kd.R_drewN | apply Kd.R_drew)); exact Kd.R_mono (Kd.R_far (p := ⟨gb431, 2, none⟩) (Kd.R_far (p := ⟨gb431, 1, none⟩) (Kd.R_far (p := ⟨gb431, 0, none⟩) (Kd.R_types HO_3.out BK431.out (by decide)) (fun _ hk => hk.2) (.int .i64 ((rd_T50 l0 x8_1).f0))) (fun _ hk => hk.2) (.int .i64 ((rd_T50 l0 x8_1).f1))) (fun _ hk => hk.2) (.int .i64 ((rd_T50 l0 x8_1).f2))) (fun _ hk => trivial))); (case aS => exact (below_size qz1)); (case aL => have := LMc10.out; omega); intro v434 w14 ho hb hg hat; rw [← Ny433.out] at ho; replace BK431 := aM (blk_grown (g := gb431) (o := .cells #[.int .i64 ((rd_T50 l0 x8_1).f0), .int .i64 ((rd_T50 l0 x8_1).f1), .int .i64 ((rd_T50 l0 x8_1).f2)] 50 (0, 0)) (by (with_reducible repeat (first | refine blk_drewN ?_ _ | refine blk_drew ?_ | refine blk_alloc ?_ _)); refine blk_put (cs := #[.int .i64 ((rd_T50 l0 x8_1).f0), .int .i64 ((rd_T50 l0 x8_1).f1), .int .i64 0]) ?_ 2 _ rfl; (with_reducible repeat (first | refine blk_drewN ?_ _ | refine blk_drew ?_ | refine blk_alloc ?_ _)); refine blk_put (cs := #[.int .i64 ((rd_T50 l0 x8_1).f0), .int .i64 0, .int .i64 0]) ?_ 1 _ rfl; (with_reducible repeat (first | refine blk_drewN ?_ _ | refine blk_drew ?_ | refine blk_alloc ?_ _)); refine blk_put (cs := #[.int .i64 0, .int .i64 0, .int .i64 0]) ?_ 0 _ rfl; exact bk_ BK431.out) hg (Kd.R_ne HO_3.out BK431.out (by decide))); replace HB := aM (hb); have HO435 := aM (ho); clear HO_3; clear ho hb hg hat))
   go_roundg k1
   case measure => have := HK1.out; omega
   case rel => exact ⟨(y433), (wrap64 (x8_1 + 1)), qz5, H', ⟨by have := HK1.out; omega⟩, ⟨rm_ HO435.out⟩, ⟨qz1⟩⟩
   }
   {
   exact an_ c10 H
   }
   }
   }
   {
   exact an_ c4 H
   }
   }
   {
   exact an_ c3 H
   }
   }
   {
   rw [if_neg c2] at H
   have c2b0 := decide_eq_false c2
   clear c2
   obtain rfl := Option.some.inj H
   simp only [Option.some.injEq, Prod.mk.injEq] at H
   obtain ⟨rfl⟩ := H
   go_wp2
   go_ret
   exact ⟨_, qzw, by (with_reducible repeat (first | apply Kd.R_alloc | apply Kd.R_drewN | apply Kd.R_drew)); exact HO_3.out, qz1⟩

   }
end Go.Proofs.Yteajnkondkfmgaa.PFnPicks
