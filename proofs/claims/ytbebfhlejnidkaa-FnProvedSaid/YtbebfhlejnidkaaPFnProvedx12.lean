-- Made by a program of this session out of the translation. Lean checks it.
import Derived.Test.YtbebfhlejnidkaaPFnProvedx11
namespace Go.Proofs.Ytbebfhlejnidkaa.PFnProved
open Go.RowKit Go.Proofs.YtbebfhlejnidkaaW.PrintWords Go.Proofs.YtbebfhlejnidkaaW.PrintLast Go.Proofs.YtbebfhlejnidkaaW.PrintMore
attribute [local go_sem] max2_int min2_int max_two min_two max_three min_three max_four min_four   -- for this text's walks alone
set_option linter.unusedVariables false
set_option linter.unusedSimpArgs false

/-! ### spec_l1Once: function 47 -/
def spec_l1Once.f (s0_0 : List Int) (s0_1 : Int) (s0_2 : Int) (a1 : Int) : Option (Bool × Int × Int) := (spec_l1Below.f s0_0 s0_1 s0_2 a1).bind fun bt410 => (some ((bt410.1 == 0), bt410.2.1, bt410.2.2))
set_option maxHeartbeats 8000000 in
set_option maxRecDepth 100000 in
theorem spec_l1Once.calls (g : Nat) (s0_0 : List Int) (s0_1 : Int) (s0_2 : Int) (a1 : Int) (r1 : Bool) (r2 : Int) (r3 : Int) (w0 w : World) (hI : IsS77 w0 w g s0_0 s0_1 s0_2) (hB : Below w0.heap.size w0 w) (h : spec_l1Once.f s0_0 s0_1 s0_2 a1 = some (r1, r2, r3)) :
  Calls Try.prog 47 #[.pointer (some ⟨g, 0, none⟩), .int .i64 a1] w fun e w' => e = .returned (.bool r1) ∧ IsS77 w0 w' g s0_0 r2 r3 ∧ Below w0.heap.size w0 w' ∧ KeepBut w w' g none := by
 have HI0 := aM hI
 have HK := aM (KeepBut.refl w g none)
 have HL := aM hB.size
 clear hI
 have HW0 := aM hB.size
 have HB := aM hB
 clear hB
 have H : ((spec_l1Below.f s0_0 s0_1 s0_2 a1).bind fun bt410 => (some ((bt410.1 == 0), bt410.2.1, bt410.2.2))) = some (r1, r2, r3) := h
 clear h
 replace H := Option.bind_eq_some_iff.mp H
 obtain ⟨⟨t410, t411, t412⟩, A30, H⟩ := H
 replace H : (some ((t410 == 0), t411, t412)) = some (r1, r2, r3) := H
 have A3 := aM A30
 clear A30
 simp only [Option.some.injEq, Prod.mk.injEq] at H
 obtain ⟨rfl, rfl, rfl⟩ := H
 go_enter Try.func47, Try.ntmps47
 go_wp2_with (first | ((with_reducible refine gate_callee (f := 68) rfl ?_); refine goesL_ (some 7) rfl rfl Try.func68 (by kernel_rfl) rfl #[.pointer (some ⟨g, 0, none⟩), .int .i64 a1] rfl qz3 ?_; (with_reducible refine (spec_l1Below.calls g s0_0 s0_1 s0_2 a1 t410 t411 t412 w0 _ ?side1 ?side2 A3.out).mono ?_); (case side1 => exact qz4); (case side2 => exact qz1); rintro e w4 ⟨rfl, hi, hb, hk⟩; refine ⟨_, rfl, ?_⟩; replace HK := aM (KeepBut.trans qz2 hk (.inl rfl)); replace HB := aM (hb); replace HI0 := aM (hi); (try clear hb hk hi)))
 go_ret
 exact ⟨qzw, qz4, qz1, qz2⟩

/-! ### spec_l4Cols: function 46 -/
def spec_l4Cols.j0 : Nat → List (List Int) → List Int → Bool → List Int → Int → Int → Option (List Int × Int × Int)
 | 0, _, _, _, _, _, _ => none
 | k + 1, x1, x5, x19, x1000, x1001, x1002 => if x19 = true then ((spec_l1Below.f x1000 x1001 x1002 (x5.length : Int)).bind fun bt420 => (if 0 < (x1.length : Int) then ((spec_l1Below.f x1000 bt420.2.1 bt420.2.2 (wrap64 (((rd_L1 x1 0).length : Int) + 1))).bind fun bt424 => (if 0 ≤ bt420.1 then (if bt420.1 < (x5.length : Int) then (some ((x5.set (bt420.1 : Int).toNat bt424.1), bt424.2.1, bt424.2.2)) else (none)) else (none))) else (none))) else (some (x5, x1001, x1002))
def spec_l4Cols.f (k : Nat) (s0_0 : List Int) (s0_1 : Int) (s0_2 : Int) (l1 : List (List Int)) : Option (List Int × Int × Int) := (spec_Match.f k l1).bind fun bt413 => (if (bt413.1.length : Int) > 1 then ((spec_l1Once.f s0_0 s0_1 s0_2 3).bind fun bt417 => (spec_l4Cols.j0 k l1 bt413.1 bt417.1 s0_0 bt417.2.1 bt417.2.2)) else (spec_l4Cols.j0 k l1 bt413.1 false s0_0 s0_1 s0_2))
theorem spec_l4Cols.mono_l : ∀ k, (∀ y0 y1 y2 y3 y4 y5, LeO (spec_l4Cols.j0 k y0 y1 y2 y3 y4 y5) (spec_l4Cols.j0 (k + 1) y0 y1 y2 y3 y4 y5))
 | 0 => fun _ _ _ _ _ _ r h => by simp [spec_l4Cols.j0] at h
 | k + 1 => by
  have ih0 := spec_l4Cols.mono_l k
  {
  intro y0 y1 y2 y3 y4 y5
  unfold spec_l4Cols.j0
  have j0 := @spec_Match.mono
  exact qL
  }
theorem spec_l4Cols.mono : ∀ a0 a1 a2 a3 k, LeO (spec_l4Cols.f k a0 a1 a2 a3) (spec_l4Cols.f (k + 1) a0 a1 a2 a3) := by
 intro a0 a1 a2 a3 k
 have ih0 := spec_l4Cols.mono_l k
 unfold spec_l4Cols.f
 have j0 := @spec_Match.mono
 exact qL
set_option maxHeartbeats 8000000 in
set_option maxRecDepth 100000 in
theorem spec_l4Cols.calls (k : Nat) (g : Nat) (s0_0 : List Int) (s0_1 : Int) (s0_2 : Int) (P1_ : Nat → Prop) (A1 : Option Addr) (c1 : Nat) (l1 : List (List Int)) (r1 : List Int) (r2 : Int) (r3 : Int) (w0 w : World) (hI : IsS77 w0 w g s0_0 s0_1 s0_2) (hB : Below w0.heap.size w0 w) (hs1 : Kd.V (Kd.slice 3 (Kd.int .i64)) 24 w w.heap.size (fun k_ => P1_ k_ ∧ k_ ≠ g) (.slice A1 l1.length c1) l1) (h : spec_l4Cols.f k s0_0 s0_1 s0_2 l1 = some (r1, r2, r3)) :
  Calls Try.prog 46 #[.pointer (some ⟨g, 0, none⟩), .slice A1 l1.length c1] w fun e w' => ∃ v0_ : Value, e = .returned (v0_) ∧ Kd.R (Kd.int .i64) 3 w' w.heap.size (fun k_ => (w.heap.size ≤ k_)) v0_ r1 ∧ IsS77 w0 w' g s0_0 r2 r3 ∧ Below w0.heap.size w0 w' ∧ KeepBut w w' g none := by
 have HO1 := aM (show Kd.V (Kd.slice 3 (Kd.int .i64)) 24 w w.heap.size (fun k_ => (P1_ k_ ∨ w.heap.size ≤ k_) ∧ k_ ≠ g) (.slice A1 l1.length c1) l1 from Kd.V_mono hs1 (fun k_ hk => ⟨.inl hk.1, hk.2⟩))
 have HI0 := aM hI
 have HK := aM (KeepBut.refl w g none)
 have HL := aM hB.size
 clear hI
 have HW0 := aM hB.size
 have HB := aM hB
 clear hB
 have H : ((spec_Match.f k l1).bind fun bt413 => (if (bt413.1.length : Int) > 1 then ((spec_l1Once.f s0_0 s0_1 s0_2 3).bind fun bt417 => (spec_l4Cols.j0 k l1 bt413.1 bt417.1 s0_0 bt417.2.1 bt417.2.2)) else (spec_l4Cols.j0 k l1 bt413.1 false s0_0 s0_1 s0_2))) = some (r1, r2, r3) := h
 clear h
 replace H := Option.bind_eq_some_iff.mp H
 obtain ⟨⟨t413, t416⟩, A30, H⟩ := H
 replace H : (if (t413.length : Int) > 1 then ((spec_l1Once.f s0_0 s0_1 s0_2 3).bind fun bt417 => (spec_l4Cols.j0 k l1 t413 bt417.1 s0_0 bt417.2.1 bt417.2.2)) else (spec_l4Cols.j0 k l1 t413 false s0_0 s0_1 s0_2)) = some (r1, r2, r3) := H
 have A3 := aM A30
 clear A30
 have HC4 := aM H
 clear H
 go_enter Try.func46, Try.ntmps46
 go_upto_region 2 with (first | ((with_reducible refine gate_callee (f := 8) rfl ?_); refine goesL_ (some 10) rfl rfl Try.func8 (by kernel_rfl) rfl #[.slice A1 l1.length c1] rfl qz3 ?_; (with_reducible refine (spec_Match.calls k (fun k_ => ((P1_ k_ ∨ w.heap.size ≤ k_) ∧ k_ ≠ g)) _ _ l1 t413 t416 _ ?side1 A3.out).mono ?_); (case side1 => exact HO1.out); rintro e w5 ⟨v414, rfl, ho0, hb⟩; refine ⟨_, rfl, ?_⟩; replace HO1 := aM (Kd.V_elder' (by (with_reducible repeat (first | apply Kd.V_alloc | apply Kd.V_drewN | apply Kd.V_drew)); exact HO1.out) (Kd.R_base ho0) hb); have HO415 := aM (Kd.R_lower (Kd.R_newM (M := fun k_ => (w.heap.size ≤ k_)) (Kd.R_mono (ok' := fun k_ => True) ho0 (fun _ hk_ => trivial)) (keep_size (w := w) (g := g) (row := none) qz2) (fun k_ h_ => h_)) (keep_size (w := w) (g := g) (row := none) qz2)); replace HK := aM (KeepBut.trans qz2 (KeepBut.of_below hb g none) (.inl rfl)); replace HB := bS_ hb; replace HI0 := aM (IsS77.below qz4 hb); (try clear hb ho0)))
 (try simp only [Act.put, List.setIfInBounds_toArray, List.set_cons_zero, List.set_cons_succ])
 go_cut [19] (fun v19 wc => ∃ (kq : Nat) (x19_3 : Bool) (x1001_3 : Int) (x1002_3 : Int), v19 = .bool x19_3 ∧ Aside0 (spec_l4Cols.j0 kq l1 t413 x19_3 s0_0 x1001_3 x1002_3 = some (r1, r2, r3)) ∧ Aside0 (kq ≤ k) ∧ Aside0 (Kd.V (Kd.slice 3 (Kd.int .i64)) 24 wc w.heap.size (fun k_ => (P1_ k_ ∨ w.heap.size ≤ k_) ∧ some k_ ≠ (v414 : Value).ownBlock ∧ k_ ≠ g) (.slice A1 l1.length c1) l1) ∧ Aside0 (Kd.R (Kd.int .i64) 3 wc w.heap.size (fun k_ => (w.heap.size ≤ k_)) v414 t413) ∧ Aside0 (IsS77 w0 wc g s0_0 x1001_3 x1002_3) ∧ Aside0 (KeepBut w wc g none) ∧ Aside0 (Below w0.heap.size w0 wc))
 case first =>
  have H := HC4.out
  clear HC4
  by_cases c6 : (t413.length : Int) > 1
  {
  rw [if_pos c6] at H
  have c6b0 := decide_eq_true c6
  have c6b1 : decide (1 < t413.length) = true := decide_eq_true (by omega)
  clear c6
  (first | rw [c6b0] | (simp only [i64_w, i32_w]; rw [c6b0]) | rw [@decide_eq_true _ _ (of_decide_eq_true c6b0)] | rw [@decide_eq_true _ _ (of_decide_eq_true c6b1)] | skip)
  replace H := Option.bind_eq_some_iff.mp H
  obtain ⟨⟨t417, t418, t419⟩, A70, H⟩ := H
  replace H : (spec_l4Cols.j0 k l1 t413 t417 s0_0 t418 t419) = some (r1, r2, r3) := H
  have A7 := aM A70
  clear A70
  have H' := aM H
  clear H
  obtain ⟨Ao8, co8, eo8⟩ := Kd.R_slice HO415.out
  subst eo8
  go_wp2_with (first | (go_at_call 47; (with_reducible refine (spec_l1Once.calls g s0_0 s0_1 s0_2 3 t417 t418 t419 w0 _ ?side1 ?side2 A7.out).mono ?_); (case side1 => exact qz4); (case side2 => exact qz1); rintro e w9 ⟨rfl, hi, hb, hk⟩; replace HO1 := aM (Kd.V_mono (Kd.V_keep (Kd.V_mono (ok := fun k_ => ((((P1_ k_ ∨ w.heap.size ≤ k_)) ∧ k_ ≠ g) ∧ some k_ ≠ (.slice Ao8 t413.length co8 : Value).ownBlock)) (by (with_reducible repeat (first | apply Kd.V_alloc | apply Kd.V_drewN | apply Kd.V_drew)); exact HO1.out) (fun k_ hk_ => (⟨hk_, hk_.1.2⟩ : _ ∧ k_ ≠ g))) hk (fun _ h => h.2)) (fun _ h => h.1)); replace HO415 := aM (Kd.R_mono (Kd.R_keep (IsS77.apart (show IsS77 w0 _ g s0_0 s0_1 s0_2 from qz4) (rr_ HO415.out) (by decide)) hk (fun _ h => h.2)) (fun _ h => h.1)); replace HK := aM (KeepBut.trans qz2 hk (.inl rfl)); replace HB := aM (hb); replace HI0 := aM (hi); (try clear hb hk hi)))
  go_meet
  case rel => exact ⟨_, (t417), (t418), (t419), qz5, H', ⟨by first | omega | exact Nat.le_refl _⟩, ⟨by (with_reducible repeat (first | apply Kd.V_alloc | apply Kd.V_drewN | apply Kd.V_drew)); exact Kd.V_mono HO1.out (fun _ hk => ⟨hk.1.1, ⟨hk.2, hk.1.2⟩⟩)⟩, ⟨by (with_reducible repeat (first | apply Kd.R_alloc | apply Kd.R_drewN | apply Kd.R_drew)); exact Kd.R_mono HO415.out (fun _ hk => hk.1)⟩, ⟨qz4⟩, ⟨qz2⟩, ⟨qz1⟩⟩
  }
  {
  rw [if_neg c6] at H
  have c6b0 := decide_eq_false c6
  have c6b1 : decide (1 < t413.length) = false := decide_eq_false (by omega)
  clear c6
  (first | rw [c6b0] | (simp only [i64_w, i32_w]; rw [c6b0]) | rw [@decide_eq_false _ _ (of_decide_eq_false c6b0)] | rw [@decide_eq_false _ _ (of_decide_eq_false c6b1)] | skip)
  have H' := aM H
  clear H
  obtain ⟨Ao10, co10, eo10⟩ := Kd.R_slice HO415.out
  subst eo10
  go_wp2
  go_meet
  case rel => exact ⟨_, (false), (s0_1), (s0_2), qz5, H', ⟨by first | omega | exact Nat.le_refl _⟩, ⟨by (with_reducible repeat (first | apply Kd.V_alloc | apply Kd.V_drewN | apply Kd.V_drew)); exact Kd.V_mono HO1.out (fun _ hk => ⟨hk.1.1, ⟨hk.2, hk.1.2⟩⟩)⟩, ⟨by (with_reducible repeat (first | apply Kd.R_alloc | apply Kd.R_drewN | apply Kd.R_drew)); exact Kd.R_mono HO415.out (fun _ hk => hk.1)⟩, ⟨qz4⟩, ⟨qz2⟩, ⟨qz1⟩⟩
  }
 case rest =>
  clear HC4
  try clear c1
  try clear p2
  try clear c4
  try clear c6
  try clear c6b0
  try clear c6b1
  try clear c8
  obtain ⟨kq, x19_3, x1001_3, x1002_3, rfl, HA, HJ3, HO_1, HO_5, HI0, HK, HB⟩ := hcut
  cases kq with
  | zero => exact absurd HA.out (by simp [spec_l4Cols.j0])
  | succ kj3 =>
   have H := HA.out
   clear HA
   simp only [spec_l4Cols.j0] at H
   by_cases c11 : x19_3 = true
   {
   subst c11
   rw [if_pos rfl] at H
   replace H := Option.bind_eq_some_iff.mp H
   obtain ⟨⟨t420, t421, t422⟩, A120, H⟩ := H
   replace H : (if 0 < (l1.length : Int) then ((spec_l1Below.f s0_0 t421 t422 (wrap64 (((rd_L1 l1 0).length : Int) + 1))).bind fun bt424 => (if 0 ≤ t420 then (if t420 < (t413.length : Int) then (some ((t413.set (t420 : Int).toNat bt424.1), bt424.2.1, bt424.2.2)) else (none)) else (none))) else (none)) = some (r1, r2, r3) := H
   have A12 := aM A120
   clear A120
   by_cases c13 : 0 < (l1.length : Int)
   {
   rw [if_pos c13] at H
   have c13b0 := decide_eq_true c13
   have c13b1 : decide (0 < l1.length) = true := decide_eq_true (by omega)
   clear c13
   replace H := Option.bind_eq_some_iff.mp H
   obtain ⟨⟨t424, t425, t426⟩, A140, H⟩ := H
   replace H : (if 0 ≤ t420 then (if t420 < (t413.length : Int) then (some ((t413.set (t420 : Int).toNat t424), t425, t426)) else (none)) else (none)) = some (r1, r2, r3) := H
   have A14 := aM A140
   clear A140
   by_cases c15 : 0 ≤ t420
   {
   rw [if_pos c15] at H
   have c15b0 := decide_eq_true c15
   clear c15
   by_cases c16 : t420 < (t413.length : Int)
   {
   rw [if_pos c16] at H
   have c16b0 := decide_eq_true c16
   clear c16
   obtain ⟨y427, hy427⟩ : ∃ y_ : List Int, y_ = (t413.set (t420 : Int).toNat t424) := ⟨_, rfl⟩
   replace H : (some (y427, t425, t426)) = some (r1, r2, r3) := by first | (rw [hy427]; with_reducible exact H) | (have H2_ := (Option.bind_some _ _).symm.trans H; rw [hy427]; with_reducible exact H2_) | (have H2_ := (Option.bind_some _ _).symm.trans H; with_reducible exact H2_) | with_reducible exact H | (rw [hy427]; exact H) | exact H
   have Ny427 := aM hy427
   clear hy427
   simp only [Option.some.injEq, Prod.mk.injEq] at H
   obtain ⟨rfl, rfl, rfl⟩ := H
   obtain ⟨Ao18, co18, eo18⟩ := Kd.R_slice HO_5.out
   subst eo18
   go_wp2_with (first | ((with_reducible refine gate_callee (f := 68) rfl ?_); refine goesL_ (some 23) rfl rfl Try.func68 (by kernel_rfl) rfl #[.pointer (some ⟨g, 0, none⟩), .int .i64 (t413.length : Int)] rfl qz3 ?_; (with_reducible refine (spec_l1Below.calls g s0_0 x1001_3 x1002_3 (t413.length : Int) t420 t421 t422 w0 _ ?side1 ?side2 A12.out).mono ?_); (case side1 => exact qz4); (case side2 => exact qz1); rintro e w19 ⟨rfl, hi, hb, hk⟩; refine ⟨_, rfl, ?_⟩; replace HO_1 := aM (Kd.V_mono (Kd.V_keep (Kd.V_mono (ok := fun k_ => (((P1_ k_ ∨ w.heap.size ≤ k_)) ∧ (some k_ ≠ (.slice Ao18 t413.length co18 : Value).ownBlock ∧ k_ ≠ g))) (by (with_reducible repeat (first | apply Kd.V_alloc | apply Kd.V_drewN | apply Kd.V_drew)); exact HO_1.out) (fun k_ hk_ => (⟨hk_, hk_.2.2⟩ : _ ∧ k_ ≠ g))) hk (fun _ h => h.2)) (fun _ h => h.1)); replace HO_5 := aM (Kd.R_mono (Kd.R_keep (IsS77.apart (show IsS77 w0 _ g s0_0 x1001_3 x1002_3 from qz4) (rr_ HO_5.out) (by decide)) hk (fun _ h => h.2)) (fun _ h => h.1)); replace HK := aM (KeepBut.trans qz2 hk (.inl rfl)); replace HB := aM (hb); replace HI0 := aM (hi); (try clear hb hk hi); have p423 : 0 ≤ (0 : Int) := (by omega); have q423 : 0 < (l1.length : Int) := dt_; obtain ⟨ad423, A423_0, c423_0, e423, hx423_0, hl423_0, hi423_0⟩ := at_L1 (Kd.V_reads' HO_1.out).2.2 0 p423 q423; cases e423; obtain ⟨ce423, hce423, hMe423, hcc423⟩ := Kd.V_get HO_1.out [] 0 p423 (by first | exact q423 | exact dt_ | (have e_ := (Kd.V_reads' HO_1.out).1; omega)); obtain ⟨ua423_0, uc423_0, rfl, ul423_0, ge423_0⟩ := Kd.FK_slice_open hMe423; have hv423_0 := hcc423 0 _ rfl; rw [Nat.add_zero, show ((Kd.slice 3 (Kd.int .i64))).sz = 1 from rfl, Nat.mul_one] at hv423_0; replace hv423_0 := Option.some.inj (hv423_0.symm.trans hx423_0); injection hv423_0 with hva_ hvn_ hvc_; rw [hva_] at ge423_0; rw [hvc_] at ul423_0; have HL423_0 := aM (show Kd.V (Kd.int .i64) 3 _ w.heap.size _ _ (rd_L1 l1 0) from Kd.V_mk ul423_0 ge423_0); clear hva_ hvn_ hvc_ ge423_0 ul423_0; clear hcc423 hce423; have qi423 : (0 < l1.length) = True := eq_true (by omega); (try rw [show ((0 : Int)).toNat = 0 from rfl] at hx423_0); (try rw [Addr.add_zero'] at hx423_0); have HR423_0 := aM hi423_0; have HC423_0 := aM hl423_0; clear hi423_0 hl423_0; replace p423 := eq_true p423; replace q423 := eq_true q423) | ((with_reducible refine gate_callee (f := 68) rfl ?_); refine goesL_ (some 32) rfl rfl Try.func68 (by kernel_rfl) rfl #[.pointer (some ⟨g, 0, none⟩), .int .i64 (wrap64 (((rd_L1 l1 0).length : Int) + 1))] rfl qz3 ?_; (with_reducible refine (spec_l1Below.calls g s0_0 t421 t422 (wrap64 (((rd_L1 l1 0).length : Int) + 1)) t424 t425 t426 w0 _ ?side1 ?side2 A14.out).mono ?_); (case side1 => exact qz4); (case side2 => exact qz1); rintro e w20 ⟨rfl, hi, hb, hk⟩; refine ⟨_, rfl, ?_⟩; replace HO_1 := aM (Kd.V_mono (Kd.V_keep (Kd.V_mono (ok := fun k_ => (((P1_ k_ ∨ w.heap.size ≤ k_)) ∧ (some k_ ≠ (.slice Ao18 t413.length co18 : Value).ownBlock ∧ k_ ≠ g))) (by (with_reducible repeat (first | apply Kd.V_alloc | apply Kd.V_drewN | apply Kd.V_drew)); exact HO_1.out) (fun k_ hk_ => (⟨hk_, hk_.2.2⟩ : _ ∧ k_ ≠ g))) hk (fun _ h => h.2)) (fun _ h => h.1)); replace HO_5 := aM (Kd.R_mono (Kd.R_keep (IsS77.apart (show IsS77 w0 _ g s0_0 t421 t422 from qz4) (rr_ HO_5.out) (by decide)) hk (fun _ h => h.2)) (fun _ h => h.1)); replace HL423_0 := aM (Kd.V_mono (Kd.V_keep (Kd.V_mono (ok := fun k_ => (((P1_ k_ ∨ w.heap.size ≤ k_)) ∧ (some k_ ≠ (.slice Ao18 t413.length co18 : Value).ownBlock ∧ k_ ≠ g))) (by (with_reducible repeat (first | apply Kd.V_alloc | apply Kd.V_drewN | apply Kd.V_drew)); exact HL423_0.out) (fun k_ hk_ => (⟨hk_, hk_.2.2⟩ : _ ∧ k_ ≠ g))) hk (fun _ h => h.2)) (fun _ h => h.1)); replace HK := aM (KeepBut.trans qz2 hk (.inl rfl)); replace HB := aM (hb); replace HI0 := aM (hi); (try clear hb hk hi); have p17 : 0 ≤ (t420 : Int) := dt_; have q17 : (t420 : Int) < ((t413.length : Int) : Int) := dt_; obtain ⟨go17, co17, eo17, gb17, gl17, cl17, HG17⟩ := Kd.R_form HO_5.out (by omega); (first | cases eo17 | (injection eo17 with ea_ en_ ec_; (first | subst ea_ | (injection ea_ with ea_; subst ea_)); subst ec_; clear en_)); have GB17 := aM gb17; have GG17 := aM HG17; clear gb17 gl17 HG17; obtain ⟨hx17_0, hf17_0⟩ := Kd.R_celln 0 HO_5.out (t420 : Int) p17 q17; replace p17 := eq_true p17; replace q17 := eq_true q17; obtain ⟨hy21_, hz21_⟩ := Kd.R_celln 0 HO_5.out (t420 : Int) (dt_) (dt_); have HP21 := Kd.R_putg HO_5.out (t420 : Int) t424) | ((with_reducible refine gate_store (t := 3) (p := 33) rfl ?_); refine store_event (t := 3) (p := 33) (v := ?vo_w22) (w1 := (w20.setCell ⟨go17, (t420 : Int).toNat, none⟩ (.int .i64 t424))) ?hg ?ho ?hn ?hr ?_; (case ho => rfl); (case hg => rfl); (case hn => rfl); (case hr => exact qz11); intro w22 hw; have hg : w20.grownBy w22 (some go17) := (by rw [hw]; exact HP21.2); have hp_ : Kd.R (Kd.int .i64) 3 w22 w.heap.size (fun k_ => (w.heap.size ≤ k_)) (.slice (some ⟨go17, 0, none⟩) t413.length co18) y427 := (by rw [hw, Ny427.out]; exact HP21.1); clear HP21; replace HO_1 := aM (Kd.V_afterv (v := (.slice (some ⟨go17, 0, none⟩) t413.length co18)) (v1 := (.slice (some ⟨go17, 0, none⟩) t413.length co18)) (ok := (fun k_ => (P1_ k_ ∨ w.heap.size ≤ k_) ∧ k_ ≠ g)) (by (with_reducible repeat (first | apply Kd.V_alloc | apply Kd.V_drewN | apply Kd.V_drew)); exact Kd.V_mono HO_1.out (fun _ hk => ⟨⟨hk.1, hk.2.2⟩, hk.2.1⟩)) hg (.inl rfl)); replace HI0 := aM (IsS77.grown qz4 hg (IsS77.own_ne HI0.out HO_5.out (by decide))); replace HL423_0 := aM (Kd.V_afterv (v := (.slice (some ⟨go17, 0, none⟩) t413.length co18)) (v1 := (.slice (some ⟨go17, 0, none⟩) t413.length co18)) (ok := (fun k_ => (P1_ k_ ∨ w.heap.size ≤ k_) ∧ k_ ≠ g)) (by (with_reducible repeat (first | apply Kd.V_alloc | apply Kd.V_drewN | apply Kd.V_drew)); exact Kd.V_mono HL423_0.out (fun _ hk => ⟨⟨hk.1, hk.2.2⟩, hk.2.1⟩)) hg (.inl rfl)); replace HB := aM ((by rw [hw]; exact below_set (HB.out) (Nat.le_trans HL.out GB17.out) : Below w0.heap.size w0 w22)); replace HK := aM (KeepBut.trans qz2 (KeepBut.of_grown hg g) (Kd.R_base2 HO_5.out)); replace HO_5 := aM (hp_); clear hg hw hp_))
   go_ret
   exact ⟨_, qzw, by (with_reducible repeat (first | apply Kd.R_alloc | apply Kd.R_drewN | apply Kd.R_drew)); exact HO_5.out, qz4, qz1, qz2⟩
   }
   {
   exact an_ c16 H
   }
   }
   {
   exact an_ c15 H
   }
   }
   {
   exact an_ c13 H
   }
   }
   {
   replace c11 := Bool.eq_false_iff.mpr c11
   subst c11
   rw [if_neg (show ¬ (false = true) by decide)] at H
   simp only [Option.some.injEq, Prod.mk.injEq] at H
   obtain ⟨rfl, rfl, rfl⟩ := H
   go_wp2
   go_ret
   exact ⟨_, qzw, by (with_reducible repeat (first | apply Kd.R_alloc | apply Kd.R_drewN | apply Kd.R_drew)); exact HO_5.out, qz4, qz1, qz2⟩

   }
/-! ### spec_DrawProves: function 22 -/
def spec_DrawProves.f (k : Nat) (l0 : List Int) : Option ((List (List Int)) × List Int × List Int × List Int) := (spec_l1New.f k l0).bind fun bt428 => ((spec_l4DrawAny.f k bt428.1 bt428.2.1 bt428.2.2).bind fun bt432 => ((spec_CostsOk.f k bt432.1).bind fun t437 => (if t437 = true then ((spec_l4Prices.f k bt432.1).bind fun bt447 => ((spec_l4Cols.f k bt428.1 bt432.2.1 bt432.2.2 bt432.1).bind fun bt453 => (if (bt447.1.length : Int) > 0 then ((spec_l1Once.f bt428.1 bt453.2.1 bt453.2.2 4).bind fun bt458 => (if bt458.1 = true then (if 0 < (bt447.1.length : Int) then ((spec_l1Int.f bt428.1 bt458.2.1 bt458.2.2 (([1, (-1), 2000000] : List Int))).bind fun bt465 => (some (bt432.1, bt453.1, (bt447.1.set (0 : Int).toNat (wrap64 ((rd bt447.1 0) + bt465.1))), bt447.2))) else (none)) else (some (bt432.1, bt453.1, bt447.1, bt447.2)))) else (some (bt432.1, bt453.1, bt447.1, bt447.2))))) else (some (bt432.1, (([] : List Int)), (([] : List Int)), (([] : List Int)))))))
theorem spec_DrawProves.mono : ∀ a0 k, LeO (spec_DrawProves.f k a0) (spec_DrawProves.f (k + 1) a0) := by
 intro a0 k
 unfold spec_DrawProves.f
 have j0 := @spec_CostsOk.mono
 have j1 := @spec_l1New.mono
 have j2 := @spec_l4Cols.mono
 have j3 := @spec_l4DrawAny.mono
 have j4 := @spec_l4Prices.mono
 exact qL
def spec_DrawProves.T8 : Bool × List (List Nat × List Nat) := (true, [([], []), ([], []), ([1], [1]), ([2], [2]), ([], []), ([], []), ([4, 5], [4, 5]), ([3, 6], [3, 6]), ([0, 0, 1, 2, 3, 4, 5, 6, 7], [0]), ([8, 7, 6, 0, 1, 2, 3, 4, 5, 6, 7], [7, 8])])
def spec_DrawProves.B8 : List Nat := [0, 0, 2, 6, 0, 0, 48, 126, 255, 511]
theorem spec_DrawProves.tab8 : rtab .any (opsOf Try.f22 8) = spec_DrawProves.T8 := by kernel_rfl
theorem spec_DrawProves.bits8 : waitsOk spec_DrawProves.T8.2 spec_DrawProves.B8 = true := by kernel_rfl
set_option maxHeartbeats 8000000 in
set_option maxRecDepth 100000 in
theorem spec_DrawProves.calls (k : Nat) (A0 : Option Addr) (c0 : Nat) (l0 : List Int) (r1 : List (List Int)) (r2 : List Int) (r3 : List Int) (r4 : List Int) (w : World) (hr0 : Kd.C (Kd.int .u8) w A0 l0.length l0) (hc0 : l0.length ≤ c0) (h : spec_DrawProves.f k l0 = some (r1, r2, r3, r4)) :
  Calls Try.prog 22 #[.slice A0 l0.length c0] w fun e w' => ∃ v0_ v1_ v2_ v3_ : Value, e = .returned (.tuple #[v0_, v1_, v2_, v3_]) ∧ Kd.S (Kd.slice 3 (Kd.int .i64)) 24 w' w.heap.size (fun k_ => some k_ ≠ (v1_ : Value).ownBlock ∧ some k_ ≠ (v2_ : Value).ownBlock ∧ some k_ ≠ (v3_ : Value).ownBlock) v0_ r1 ∧ Kd.R (Kd.int .i64) 3 w' w.heap.size (fun k_ => some k_ ≠ (v2_ : Value).ownBlock ∧ some k_ ≠ (v3_ : Value).ownBlock) v1_ r2 ∧ Kd.Q (Kd.int .i64) 3 w' w.heap.size (fun k_ => some k_ ≠ (v1_ : Value).ownBlock ∧ some k_ ≠ (v3_ : Value).ownBlock) v2_ r3 ∧ Kd.Q (Kd.int .i64) 3 w' w.heap.size (fun k_ => some k_ ≠ (v1_ : Value).ownBlock ∧ some k_ ≠ (v2_ : Value).ownBlock) v3_ r4 ∧ Below w.heap.size w w' := by
 have HR0 := aM hr0
 have HC0 := aM hc0
 clear hr0 hc0
 have HB := aM (Below.refl w.heap.size w)
 have H : ((spec_l1New.f k l0).bind fun bt428 => ((spec_l4DrawAny.f k bt428.1 bt428.2.1 bt428.2.2).bind fun bt432 => ((spec_CostsOk.f k bt432.1).bind fun t437 => (if t437 = true then ((spec_l4Prices.f k bt432.1).bind fun bt447 => ((spec_l4Cols.f k bt428.1 bt432.2.1 bt432.2.2 bt432.1).bind fun bt453 => (if (bt447.1.length : Int) > 0 then ((spec_l1Once.f bt428.1 bt453.2.1 bt453.2.2 4).bind fun bt458 => (if bt458.1 = true then (if 0 < (bt447.1.length : Int) then ((spec_l1Int.f bt428.1 bt458.2.1 bt458.2.2 (([1, (-1), 2000000] : List Int))).bind fun bt465 => (some (bt432.1, bt453.1, (bt447.1.set (0 : Int).toNat (wrap64 ((rd bt447.1 0) + bt465.1))), bt447.2))) else (none)) else (some (bt432.1, bt453.1, bt447.1, bt447.2)))) else (some (bt432.1, bt453.1, bt447.1, bt447.2))))) else (some (bt432.1, (([] : List Int)), (([] : List Int)), (([] : List Int)))))))) = some (r1, r2, r3, r4) := h
 clear h
 replace H := Option.bind_eq_some_iff.mp H
 obtain ⟨⟨t428, t429, t430⟩, A20, H⟩ := H
 replace H : ((spec_l4DrawAny.f k t428 t429 t430).bind fun bt432 => ((spec_CostsOk.f k bt432.1).bind fun t437 => (if t437 = true then ((spec_l4Prices.f k bt432.1).bind fun bt447 => ((spec_l4Cols.f k t428 bt432.2.1 bt432.2.2 bt432.1).bind fun bt453 => (if (bt447.1.length : Int) > 0 then ((spec_l1Once.f t428 bt453.2.1 bt453.2.2 4).bind fun bt458 => (if bt458.1 = true then (if 0 < (bt447.1.length : Int) then ((spec_l1Int.f t428 bt458.2.1 bt458.2.2 (([1, (-1), 2000000] : List Int))).bind fun bt465 => (some (bt432.1, bt453.1, (bt447.1.set (0 : Int).toNat (wrap64 ((rd bt447.1 0) + bt465.1))), bt447.2))) else (none)) else (some (bt432.1, bt453.1, bt447.1, bt447.2)))) else (some (bt432.1, bt453.1, bt447.1, bt447.2))))) else (some (bt432.1, (([] : List Int)), (([] : List Int)), (([] : List Int))))))) = some (r1, r2, r3, r4) := H
 have A2 := aM A20
 clear A20
 replace H := Option.bind_eq_some_iff.mp H
 obtain ⟨⟨t432, t435, t436⟩, A30, H⟩ := H
 replace H : ((spec_CostsOk.f k t432).bind fun t437 => (if t437 = true then ((spec_l4Prices.f k t432).bind fun bt447 => ((spec_l4Cols.f k t428 t435 t436 t432).bind fun bt453 => (if (bt447.1.length : Int) > 0 then ((spec_l1Once.f t428 bt453.2.1 bt453.2.2 4).bind fun bt458 => (if bt458.1 = true then (if 0 < (bt447.1.length : Int) then ((spec_l1Int.f t428 bt458.2.1 bt458.2.2 (([1, (-1), 2000000] : List Int))).bind fun bt465 => (some (t432, bt453.1, (bt447.1.set (0 : Int).toNat (wrap64 ((rd bt447.1 0) + bt465.1))), bt447.2))) else (none)) else (some (t432, bt453.1, bt447.1, bt447.2)))) else (some (t432, bt453.1, bt447.1, bt447.2))))) else (some (t432, (([] : List Int)), (([] : List Int)), (([] : List Int)))))) = some (r1, r2, r3, r4) := H
 have A3 := aM A30
 clear A30
 replace H := Option.bind_eq_some_iff.mp H
 obtain ⟨t437, A40, H⟩ := H
 replace H : (if t437 = true then ((spec_l4Prices.f k t432).bind fun bt447 => ((spec_l4Cols.f k t428 t435 t436 t432).bind fun bt453 => (if (bt447.1.length : Int) > 0 then ((spec_l1Once.f t428 bt453.2.1 bt453.2.2 4).bind fun bt458 => (if bt458.1 = true then (if 0 < (bt447.1.length : Int) then ((spec_l1Int.f t428 bt458.2.1 bt458.2.2 (([1, (-1), 2000000] : List Int))).bind fun bt465 => (some (t432, bt453.1, (bt447.1.set (0 : Int).toNat (wrap64 ((rd bt447.1 0) + bt465.1))), bt447.2))) else (none)) else (some (t432, bt453.1, bt447.1, bt447.2)))) else (some (t432, bt453.1, bt447.1, bt447.2))))) else (some (t432, (([] : List Int)), (([] : List Int)), (([] : List Int))))) = some (r1, r2, r3, r4) := H
 have A4 := aM A40
 clear A40
 by_cases c5 : t437 = true
 {
 subst c5
 rw [if_pos rfl] at H
 replace H := Option.bind_eq_some_iff.mp H
 obtain ⟨⟨t447, t448⟩, A60, H⟩ := H
 replace H : ((spec_l4Cols.f k t428 t435 t436 t432).bind fun bt453 => (if (t447.length : Int) > 0 then ((spec_l1Once.f t428 bt453.2.1 bt453.2.2 4).bind fun bt458 => (if bt458.1 = true then (if 0 < (t447.length : Int) then ((spec_l1Int.f t428 bt458.2.1 bt458.2.2 (([1, (-1), 2000000] : List Int))).bind fun bt465 => (some (t432, bt453.1, (t447.set (0 : Int).toNat (wrap64 ((rd t447 0) + bt465.1))), t448))) else (none)) else (some (t432, bt453.1, t447, t448)))) else (some (t432, bt453.1, t447, t448)))) = some (r1, r2, r3, r4) := H
 have A6 := aM A60
 clear A60
 replace H := Option.bind_eq_some_iff.mp H
 obtain ⟨⟨t453, t456, t457⟩, A70, H⟩ := H
 replace H : (if (t447.length : Int) > 0 then ((spec_l1Once.f t428 t456 t457 4).bind fun bt458 => (if bt458.1 = true then (if 0 < (t447.length : Int) then ((spec_l1Int.f t428 bt458.2.1 bt458.2.2 (([1, (-1), 2000000] : List Int))).bind fun bt465 => (some (t432, t453, (t447.set (0 : Int).toNat (wrap64 ((rd t447 0) + bt465.1))), t448))) else (none)) else (some (t432, t453, t447, t448)))) else (some (t432, t453, t447, t448))) = some (r1, r2, r3, r4) := H
 have A7 := aM A70
 clear A70
 by_cases c8 : (t447.length : Int) > 0
 {
 rw [if_pos c8] at H
 have c8b0 := decide_eq_true c8
 have c8b1 : decide (0 < t447.length) = true := decide_eq_true (by omega)
 clear c8
 replace H := Option.bind_eq_some_iff.mp H
 obtain ⟨⟨t458, t459, t460⟩, A90, H⟩ := H
 replace H : (if t458 = true then (if 0 < (t447.length : Int) then ((spec_l1Int.f t428 t459 t460 (([1, (-1), 2000000] : List Int))).bind fun bt465 => (some (t432, t453, (t447.set (0 : Int).toNat (wrap64 ((rd t447 0) + bt465.1))), t448))) else (none)) else (some (t432, t453, t447, t448))) = some (r1, r2, r3, r4) := H
 have A9 := aM A90
 clear A90
 by_cases c10 : t458 = true
 {
 subst c10
 rw [if_pos rfl] at H
 by_cases c11 : 0 < (t447.length : Int)
 {
 rw [if_pos c11] at H
 have c11b0 := decide_eq_true c11
 have c11b1 : decide (0 < t447.length) = true := decide_eq_true (by omega)
 clear c11
 obtain ⟨y462, hy462⟩ : ∃ y_ : List Int, y_ = (([1, (-1), 2000000] : List Int)) := ⟨_, rfl⟩
 replace H : ((spec_l1Int.f t428 t459 t460 y462).bind fun bt465 => (some (t432, t453, (t447.set (0 : Int).toNat (wrap64 ((rd t447 0) + bt465.1))), t448))) = some (r1, r2, r3, r4) := by first | (rw [hy462]; with_reducible exact H) | (have H2_ := (Option.bind_some _ _).symm.trans H; rw [hy462]; with_reducible exact H2_) | (have H2_ := (Option.bind_some _ _).symm.trans H; with_reducible exact H2_) | with_reducible exact H | (rw [hy462]; exact H) | exact H
 have Ny462 := aM hy462
 clear hy462
 replace H := Option.bind_eq_some_iff.mp H
 obtain ⟨⟨t465, t466, t467⟩, A120, H⟩ := H
 replace H : (some (t432, t453, (t447.set (0 : Int).toNat (wrap64 ((rd t447 0) + t465))), t448)) = some (r1, r2, r3, r4) := H
 have A12 := aM A120
 clear A120
 obtain ⟨y468, hy468⟩ : ∃ y_ : List Int, y_ = (t447.set (0 : Int).toNat (wrap64 ((rd t447 0) + t465))) := ⟨_, rfl⟩
 replace H : (some (t432, t453, y468, t448)) = some (r1, r2, r3, r4) := by first | (rw [hy468]; with_reducible exact H) | (have H2_ := (Option.bind_some _ _).symm.trans H; rw [hy468]; with_reducible exact H2_) | (have H2_ := (Option.bind_some _ _).symm.trans H; with_reducible exact H2_) | with_reducible exact H | (rw [hy468]; exact H) | exact H
 have Ny468 := aM hy468
 clear hy468
 simp only [Option.some.injEq, Prod.mk.injEq] at H
 obtain ⟨rfl, rfl, rfl, rfl⟩ := H
 go_enter Try.func22, Try.ntmps22
 try go_wp2_with (first | ((with_reducible refine gate_callee (f := 39) rfl ?_); refine goesL_ (some 12) rfl rfl Try.func39 (by kernel_rfl) rfl #[.slice A0 l0.length c0] rfl qz3 ?_; (with_reducible refine (spec_l1New.calls k _ _ l0 t428 t429 t430 w _ ?side1 ?side2 ?side3 A2.out).mono ?_); (case side1 => exact qz1); (case side2 => exact HR0.out); (case side3 => exact HC0.out); rintro e w14 ⟨g431, rfl, hi, hb, hb2⟩; refine ⟨_, rfl, ?_⟩; replace HB := aM (hb); have HI431 := aM (hi); (try clear hb hb2 hi)) | ((with_reducible refine gate_callee (f := 45) rfl ?_); refine goesL_ (some 14) rfl rfl Try.func45 (by kernel_rfl) rfl #[.pointer (some ⟨g431, 0, none⟩)] rfl qz3 ?_; (with_reducible refine (spec_l4DrawAny.calls k g431 t428 t429 t430 t432 t435 t436 w _ ?side1 ?side2 A3.out).mono ?_); (case side1 => exact qz6); (case side2 => exact qz1); rintro e w15 ⟨v433, rfl, ho0, hi, hb, hk⟩; refine ⟨_, rfl, ?_⟩; have HO434 := aM (Kd.S_lower ho0 (below_size qz1)); replace HB := aM (hb); replace HI431 := aM (hi); (try clear hb hk hi ho0); obtain ⟨Ao16, co16, eo16⟩ := Kd.S_slice HO434.out; subst eo16) | ((with_reducible refine gate_callee (f := 25) rfl ?_); refine goesL_ (some 16) rfl rfl Try.func25 (by kernel_rfl) rfl #[.slice Ao16 t432.length co16] rfl qz3 ?_; (with_reducible refine (spec_CostsOk.calls k _ _ t432 true _ ?side1 ?side2 A4.out).mono ?_); (case side1 => exact qz15); (case side2 => exact (Kd.S_reads' HO434.out).2.1); rintro e w' ⟨rfl, ⟨nd, rfl⟩⟩; refine ⟨_, rfl, ?_⟩; (try (rw [drewN_self w15]; generalize hq_ : World.drewN w15 _ = w15; replace HO434 : Aside0 (Kd.S (Kd.slice 3 (Kd.int .i64)) 24 w15 w.heap.size (fun k_ => True) (.slice Ao16 t432.length co16) t432) := ⟨by rw [← hq_]; exact (rs_ HO434.out)⟩; replace HB : Aside0 (Below w.heap.size w w15) := ⟨by rw [← hq_]; exact qz1⟩; replace HI431 : Aside0 (IsS77 w w15 g431 t428 t435 t436) := ⟨by rw [← hq_]; exact qz6⟩; clear hq_))) | ((with_reducible refine gate_callee (f := 41) rfl ?_); refine goesL_ (some 24) rfl rfl Try.func41 (by kernel_rfl) rfl #[.slice Ao16 t432.length co16] rfl qz3 ?_; (with_reducible refine (spec_l4Prices.calls k _ _ t432 t447 t448 _ ?side1 ?side2 A6.out).mono ?_); (case side1 => exact qz15); (case side2 => exact (Kd.S_reads' HO434.out).2.1); rintro e w17 ⟨v449, v451, rfl, ho0, ho1, hb⟩; refine ⟨_, rfl, ?_⟩; replace HO434 := aM (Kd.S_mono (Kd.S_told (Kd.S_told (Kd.S_old (rs_ HO434.out) hb) (Kd.Q_base ho0)) (Kd.Q_base ho1)) (fun _ h_ => h_.1)); have HO450 := aM (Kd.Q_lower ho0 (below_size qz1)); have HO452 := aM (Kd.Q_lower ho1 (below_size qz1)); replace HB := bS_ hb; replace HI431 := aM (IsS77.below qz6 hb); (try clear hb ho0 ho1)) | ((with_reducible refine gate_callee (f := 46) rfl ?_); refine goesL_ (some 29) rfl rfl Try.func46 (by kernel_rfl) rfl #[.pointer (some ⟨g431, 0, none⟩), .slice Ao16 t432.length co16] rfl qz3 ?_; (with_reducible refine (spec_l4Cols.calls k g431 t428 t435 t436 (fun k_ => (((True ∧ some k_ ≠ (v449 : Value).ownBlock) ∧ some k_ ≠ (v451 : Value).ownBlock) ∧ k_ ≠ g431)) _ _ t432 t453 t456 t457 w _ ?side1 ?side2 ?side3 A7.out).mono ?_); (case side1 => exact qz6); (case side2 => exact qz1); (case side3 => exact qz63); rintro e w18 ⟨v454, rfl, ho0, hi, hb, hk⟩; refine ⟨_, rfl, ?_⟩; replace HO434 := aM (Kd.S_mono (Kd.S_told (Kd.S_oldK (IsS77.apartS (show IsS77 w _ g431 t428 t435 t436 from qz6) (rs_ HO434.out) (by decide)) hk) (Kd.R_base ho0)) (fun _ h_ => h_.1)); have HO455 := aM (Kd.R_lower (Kd.R_new' (Kd.R_new' (Kd.R_mono (ok' := fun k_ => True) ho0 (fun _ hk_ => trivial)) (Kd.Q_lt qz13)) (Kd.Q_lt qz14)) (below_size qz1)); replace HO450 := aM (Kd.Q_mono (Kd.Q_told (Kd.Q_oldK (IsS77.apartQ (show IsS77 w _ g431 t428 t435 t436 from qz6) qz13 (by decide)) hk) (Kd.R_base ho0)) (fun _ h_ => h_.1)); replace HO452 := aM (Kd.Q_mono (Kd.Q_told (Kd.Q_oldK (IsS77.apartQ (show IsS77 w _ g431 t428 t435 t436 from qz6) qz14 (by decide)) hk) (Kd.R_base ho0)) (fun _ h_ => h_.1)); replace HB := aM (hb); replace HI431 := aM (hi); (try clear hb hk hi ho0); obtain ⟨Ao19, co19, eo19, _⟩ := Kd.Q_slice HO450.out; subst eo19) | (go_at_call 47; (with_reducible refine (spec_l1Once.calls g431 t428 t456 t457 4 true t459 t460 w _ ?side1 ?side2 A9.out).mono ?_); (case side1 => exact qz6); (case side2 => exact qz1); rintro e w20 ⟨rfl, hi, hb, hk⟩; replace HO434 := aM (Kd.S_mono (Kd.S_keep (IsS77.apartS (show IsS77 w _ g431 t428 t456 t457 from qz6) (rs_ HO434.out) (by decide)) hk (fun _ h => h.2)) (fun _ h => h.1)); replace HO450 := aM (Kd.Q_mono (Kd.Q_keep (IsS77.apartQ (show IsS77 w _ g431 t428 t456 t457 from qz6) qz13 (by decide)) hk (fun _ h => h.2)) (fun _ h => h.1)); replace HO452 := aM (Kd.Q_mono (Kd.Q_keep (IsS77.apartQ (show IsS77 w _ g431 t428 t456 t457 from qz6) qz14 (by decide)) hk (fun _ h => h.2)) (fun _ h => h.1)); replace HO455 := aM (Kd.R_mono (Kd.R_keep (IsS77.apart (show IsS77 w _ g431 t428 t456 t457 from qz6) (rr_ HO455.out) (by decide)) hk (fun _ h => h.2)) (fun _ h => h.1)); replace HB := aM (hb); replace HI431 := aM (hi); (try clear hb hk hi)))
 replace HO434 := aM (Kd.S_drew HO434.out)
 replace HO450 := aM (Kd.Q_drew HO450.out)
 replace HO452 := aM (Kd.Q_drew HO452.out)
 replace HO455 := aM (Kd.R_drew HO455.out)
 replace HI431 := aM (IsS77.drew HI431.out)
 replace HB := aM (below_drew1 HB.out)
 have p461 : 0 ≤ (0 : Int) := (by omega)
 have q461 : 0 < (t447.length : Int) := dt_
 obtain ⟨ad461, e461, hx461_0⟩ := Kd.at_int (Kd.Q_reads' HO450.out).2.2 0 p461 q461
 cases e461
 have qi461 : (0 < t447.length) = True := eq_true (by omega)
 (try rw [show ((0 : Int)).toNat = 0 from rfl] at hx461_0)
 (try rw [Addr.add_zero'] at hx461_0)
 replace p461 := eq_true p461
 replace q461 := eq_true q461
 refine start_ (n := 10) (S := fun w' => w'.cell? ad461 = some (.int .i64 (rd t447 0))) (ds := [9]) #[false, false, false, false, false, false, false, false, false, false] (by kernel_rfl) rfl rfl (hx461_0) (fun hHeld => ?_); refine with_tabW spec_DrawProves.tab8 spec_DrawProves.bits8 (fun HT_ HW_ => ?_)
 generalize w20.drew = w21 at HO434 HO450 HO452 HO455 HI431 HB hx461_0 hHeld ⊢
 refine pI_ 0 37 (bqz 10 1) ?_
 refine jI_ 1 38 ?_
 refine jI_ 2 39 ?_
 refine jI_ 4 41 ?_
 refine take_ (i := 3) (N := some 40) (v := ?_) (a' := ?_) (bqz 10 31) rfl rfl qzb qzd (Or.inl ⟨by rfl, ?_⟩) hHeld ?_ ?_
 rotate_left
 {
 intro w' s0
 go_simp
 with_reducible rfl
 }
 rotate_left
 {
 simp only [qzs]
 rfl
 }
 refine one_ (i := 5) (N := some 42) (bqz 10 63) rfl rfl qzc (by decide) (fun K hK => ?_)
 refine Kd.R_lit_step (Kd.int .i64) _ 3 ?hg (N := 42) ?hd (xs := ([1, (-1), 2000000] : List Int)) (inner := [.int .i64 1, .int .i64 (-1), .int .i64 2000000]) (ok := fun _ => True) (okp := fun _ => True) ?hr ?hp (fun _ hk => hk) trivial (Below.refl _ _) (Nat.le_refl _) (by simp) ?_; (case hd => rfl); (case hg => rfl); (case hr => exact qz11); (case hp => exact (Reps.one (show Kd.M (Kd.int .i64) _ _ _ 1 [.int .i64 1] from rfl) (Reps.one (show Kd.M (Kd.int .i64) _ _ _ (-1) [.int .i64 (-1)] from rfl) (Reps.one (show Kd.M (Kd.int .i64) _ _ _ 2000000 [.int .i64 2000000] from rfl) (Reps.none _ _)))))
 intro v463 w22 ho23 hb hg_ hnew_
 have HS0_ := (hb.cell (World.block_lt_of_cell? _ _ (hHeld))).trans (hHeld)
 clear hg_ hnew_
 (first | rw [← Ny462.out] at ho23 | (simp only [Int.reduceToNat] at ho23; rw [← Ny462.out] at ho23))
 replace HO434 := aM (Kd.S_elder' (rs_ HO434.out) (Kd.R_base ho23) hb)
 have HO464 := aM (Kd.R_lower (Kd.R_new' (Kd.R_new' (Kd.R_new' ho23 (Kd.Q_lt qz13)) (Kd.Q_lt qz14)) (Kd.R_lt (rr_ HO455.out))) (below_size qz1))
 replace HO450 := aM (Kd.Q_elder' qz13 (Kd.R_base ho23) hb)
 replace HO452 := aM (Kd.Q_elder' qz14 (Kd.R_base ho23) hb)
 replace HO455 := aM (Kd.R_elder' (rr_ HO455.out) (Kd.R_base ho23) hb)
 replace HB := bS_ hb
 replace HI431 := aM (IsS77.below qz6 hb)
 clear hb ho23
 obtain ⟨Ao24, co24, eo24⟩ := Kd.R_slice HO464.out
 (first | subst eo24 | (injection eo24 with f1_ f2_ f3_; have f4_ := f1_.symm; have f5_ := f3_.symm; clear f1_ f2_ f3_; subst f4_; subst f5_))
 refine hK.out _ _ (HS0_) (fun hHeld => ?_)
 clear hK K
 refine nm_ 42 ?_
 refine one_ (i := 6) (N := some 43) (bqz 10 127) rfl rfl qzc (by decide) (fun K hK => ?_)
 refine goes_ Try.func48 (by kernel_rfl) rfl #[.pointer (some ⟨g431, 0, none⟩), .slice Ao24 y462.length co24] (by rfl) rfl rfl qz3 ?_
 with_reducible refine (spec_l1Int.calls g431 t428 t459 t460 _ _ y462 t465 t466 t467 w _ ?side1 ?side2 ?side3 ?side4 ?side5 A12.out).mono ?_
 (case side1 => exact qz6)
 (case side2 => exact qz1)
 (case side3 => repeat (first | exact (Kd.R_reads' HO464.out).2.2 | (with_reducible refine Kd.C_alloc ?_ _) | (with_reducible refine Kd.C_drewN ?_ _) | (with_reducible refine Kd.C_drew ?_)))
 (case side4 => exact (Kd.R_reads' HO464.out).2.1)
 (case side5 => exact far_slice (IsS77.own_ne HI431.out HO464.out (by decide)))
 rintro e w25 ⟨rfl, hi, hb, hk⟩
 have HS0_ := keep_cell hk (hHeld) (by first | (rw [add_block]; exact Kd.own_blk (IsS77.own_neQ HI431.out HO450.out (by decide))) | (show (Addr.add _ _).block ≠ _; rw [add_block]; exact Kd.own_blk (IsS77.own_neQ HI431.out HO450.out (by decide))) | exact Kd.own_blk (IsS77.own_neQ HI431.out HO450.out (by decide)))
 refine ⟨_, rfl, ?_⟩
 replace HO434 := aM (Kd.S_mono (Kd.S_keep (IsS77.apartS (show IsS77 w _ g431 t428 t459 t460 from qz6) (rs_ HO434.out) (by decide)) hk (fun _ h => h.2)) (fun _ h => h.1))
 replace HO450 := aM (Kd.Q_mono (Kd.Q_keep (IsS77.apartQ (show IsS77 w _ g431 t428 t459 t460 from qz6) qz13 (by decide)) hk (fun _ h => h.2)) (fun _ h => h.1))
 replace HO452 := aM (Kd.Q_mono (Kd.Q_keep (IsS77.apartQ (show IsS77 w _ g431 t428 t459 t460 from qz6) qz14 (by decide)) hk (fun _ h => h.2)) (fun _ h => h.1))
 replace HO455 := aM (Kd.R_mono (Kd.R_keep (IsS77.apart (show IsS77 w _ g431 t428 t459 t460 from qz6) (rr_ HO455.out) (by decide)) hk (fun _ h => h.2)) (fun _ h => h.1))
 replace HO464 := aM (Kd.R_mono (Kd.R_keep (IsS77.apart (show IsS77 w _ g431 t428 t459 t460 from qz6) (rr_ HO464.out) (by decide)) hk (fun _ h => h.2)) (fun _ h => h.1))
 replace HB := aM (hb)
 replace HI431 := aM (hi)
 (try clear hb)
 (try clear hb2)
 (try clear hk)
 (try clear hi)
 have p13 : 0 ≤ (0 : Int) := (by omega)
 have q13 : (0 : Int) < ((t447.length : Int) : Int) := dt_
 have qi13 : (0 < t447.length) = True := eq_true (by omega)
 obtain ⟨go13, oo13, co13, eo13, gb13, gl13, cl13, HG13⟩ := Kd.Q_form HO450.out (by omega)
 (first | cases eo13 | (injection eo13 with ea_ en_ ec_; (first | subst ea_ | (injection ea_ with ea_; subst ea_)); subst ec_; clear en_))
 have GB13 := aM gb13
 have GG13 := aM HG13
 clear gb13 gl13 HG13
 (first | simp only [add_at] at hx461_0 | skip)
 obtain ⟨hx13_0, hf13_0⟩ := Kd.Q_cell 0 HO450.out (0 : Int) p13 q13
 (try rw [show ((0 : Int)).toNat = 0 from rfl] at hx13_0)
 (try simp only [Nat.reduceMul, Nat.zero_mul, Nat.zero_add, Nat.reduceAdd, Nat.add_zero] at hx13_0)
 (try rw [show ((0 : Int)).toNat = 0 from rfl] at hf13_0)
 (try simp only [Nat.reduceMul, Nat.zero_mul, Nat.zero_add, Nat.reduceAdd, Nat.add_zero] at hf13_0)
 replace p13 := eq_true p13
 replace q13 := eq_true q13
 have HN431_go13 := aM (show g431 ≠ go13 from by have h_ := IsS77.own_neQ HI431.out HO450.out (by decide); intro e_; exact h_ (by rw [e_]; rfl))
 have HP26 := (Kd.Q_putg HO450.out (0 : Int) (by omega) (by have h_ : (0 : Int) < ((t447.length : Int) : Int) := dt_; first | exact h_ | (have e_ := (Kd.Q_reads' HO450.out).1; omega) | simpa using h_) (wrap64 ((rd t447 0) + t465))).1
 rw [← Ny468.out] at HP26
 have HQ26 := aM HP26
 clear HP26
 refine hK.out _ _ (HS0_) (fun hHeld => ?_)
 clear hK K
 refine nm_ 43 ?_
 refine pI_ 7 44 (bqz 10 255) ?_
 refine jI_ 8 45 ?_
 refine last_ (i := 9) (N := none) (bqz 10 1023) rfl rfl qzc (by decide) (fun K hK => ?_)
 refine sk_ ?_
 refine hK.out _ _ ?_
 clear hK K
 refine done_ (done_of HT_.out (by kernel_rfl)) ?_
 try go_wp2
 refine bodyPost_ret (results_list (rs := [.tmp 2, .tmp 3, .tmp 4, .tmp 5]) rfl (by simp) (.tmp (.tmp (.tmp (.tmp .nil))))) rfl ?_
 exact ⟨_, _, _, _, qzw, by (with_reducible repeat (first | apply Kd.S_alloc | apply Kd.S_drewN | apply Kd.S_drew)); exact Kd.S_mono (Kd.S_far (p := ⟨go13, oo13 + (0 : Int).toNat, none⟩) (Kd.S_mono HO434.out (fun k_ hk => (⟨hk, fun e_ => hk.1.1.1.2 (by rw [e_]; rfl)⟩ : _ ∧ k_ ≠ go13))) (fun _ hk => hk.2) (.int .i64 (wrap64 ((rd t447 0) + t465)))) (fun _ hk => ⟨hk.1.1.2, ⟨hk.1.1.1.1.2, hk.1.1.1.2⟩⟩), by (with_reducible repeat (first | apply Kd.R_alloc | apply Kd.R_drewN | apply Kd.R_drew)); exact Kd.R_mono (Kd.R_far (p := ⟨go13, oo13 + (0 : Int).toNat, none⟩) (Kd.R_mono HO455.out (fun k_ hk => (⟨hk, fun e_ => hk.1.1.2 (by rw [e_]; rfl)⟩ : _ ∧ k_ ≠ go13))) (fun _ hk => hk.2) (.int .i64 (wrap64 ((rd t447 0) + t465)))) (fun _ hk => ⟨hk.1.1.1.2, hk.1.1.2⟩), by (with_reducible repeat (first | apply Kd.Q_alloc | apply Kd.Q_drewN | apply Kd.Q_drew)); exact Kd.Q_mono HQ26.out (fun _ hk => ⟨hk.1.2, hk.1.1⟩), by (with_reducible repeat (first | apply Kd.Q_alloc | apply Kd.Q_drewN | apply Kd.Q_drew)); exact Kd.Q_mono (Kd.Q_far (p := ⟨go13, oo13 + (0 : Int).toNat, none⟩) (Kd.Q_mono HO452.out (fun k_ hk => (⟨hk, fun e_ => hk.1.1 (by rw [e_]; rfl)⟩ : _ ∧ k_ ≠ go13))) (fun _ hk => hk.2) (.int .i64 (wrap64 ((rd t447 0) + t465)))) (fun _ hk => ⟨hk.1.1.2, hk.1.1.1⟩), qz1⟩
 }
 {
 exact an_ c11 H
 }
 }
 {
 replace c10 := Bool.eq_false_iff.mpr c10
 subst c10
 rw [if_neg (show ¬ (false = true) by decide)] at H
 simp only [Option.some.injEq, Prod.mk.injEq] at H
 obtain ⟨rfl, rfl, rfl, rfl⟩ := H
 go_enter Try.func22, Try.ntmps22
 go_wp2_with (first | ((with_reducible refine gate_callee (f := 39) rfl ?_); refine goesL_ (some 12) rfl rfl Try.func39 (by kernel_rfl) rfl #[.slice A0 l0.length c0] rfl qz3 ?_; (with_reducible refine (spec_l1New.calls k _ _ l0 t428 t429 t430 w _ ?side1 ?side2 ?side3 A2.out).mono ?_); (case side1 => exact qz1); (case side2 => exact HR0.out); (case side3 => exact HC0.out); rintro e w27 ⟨g431, rfl, hi, hb, hb2⟩; refine ⟨_, rfl, ?_⟩; replace HB := aM (hb); have HI431 := aM (hi); (try clear hb hb2 hi)) | ((with_reducible refine gate_callee (f := 45) rfl ?_); refine goesL_ (some 14) rfl rfl Try.func45 (by kernel_rfl) rfl #[.pointer (some ⟨g431, 0, none⟩)] rfl qz3 ?_; (with_reducible refine (spec_l4DrawAny.calls k g431 t428 t429 t430 t432 t435 t436 w _ ?side1 ?side2 A3.out).mono ?_); (case side1 => exact qz6); (case side2 => exact qz1); rintro e w28 ⟨v433, rfl, ho0, hi, hb, hk⟩; refine ⟨_, rfl, ?_⟩; have HO434 := aM (Kd.S_lower ho0 (below_size qz1)); replace HB := aM (hb); replace HI431 := aM (hi); (try clear hb hk hi ho0); obtain ⟨Ao29, co29, eo29⟩ := Kd.S_slice HO434.out; subst eo29) | ((with_reducible refine gate_callee (f := 25) rfl ?_); refine goesL_ (some 16) rfl rfl Try.func25 (by kernel_rfl) rfl #[.slice Ao29 t432.length co29] rfl qz3 ?_; (with_reducible refine (spec_CostsOk.calls k _ _ t432 true _ ?side1 ?side2 A4.out).mono ?_); (case side1 => exact qz15); (case side2 => exact (Kd.S_reads' HO434.out).2.1); rintro e w' ⟨rfl, ⟨nd, rfl⟩⟩; refine ⟨_, rfl, ?_⟩) | ((with_reducible refine gate_callee (f := 41) rfl ?_); refine goesL_ (some 24) rfl rfl Try.func41 (by kernel_rfl) rfl #[.slice Ao29 t432.length co29] rfl qz3 ?_; (with_reducible refine (spec_l4Prices.calls k _ _ t432 t447 t448 _ ?side1 ?side2 A6.out).mono ?_); (case side1 => exact qz15); (case side2 => exact (Kd.S_reads' HO434.out).2.1); rintro e w30 ⟨v449, v451, rfl, ho0, ho1, hb⟩; refine ⟨_, rfl, ?_⟩; replace HO434 := aM (Kd.S_mono (Kd.S_told (Kd.S_told (Kd.S_old (rs_ HO434.out) hb) (Kd.Q_base ho0)) (Kd.Q_base ho1)) (fun _ h_ => h_.1)); have HO450 := aM (Kd.Q_lower ho0 (below_size qz1)); have HO452 := aM (Kd.Q_lower ho1 (below_size qz1)); replace HB := bS_ hb; replace HI431 := aM (IsS77.below qz6 hb); (try clear hb ho0 ho1)) | ((with_reducible refine gate_callee (f := 46) rfl ?_); refine goesL_ (some 29) rfl rfl Try.func46 (by kernel_rfl) rfl #[.pointer (some ⟨g431, 0, none⟩), .slice Ao29 t432.length co29] rfl qz3 ?_; (with_reducible refine (spec_l4Cols.calls k g431 t428 t435 t436 (fun k_ => (((True ∧ some k_ ≠ (v449 : Value).ownBlock) ∧ some k_ ≠ (v451 : Value).ownBlock) ∧ k_ ≠ g431)) _ _ t432 t453 t456 t457 w _ ?side1 ?side2 ?side3 A7.out).mono ?_); (case side1 => exact qz6); (case side2 => exact qz1); (case side3 => exact qz63); rintro e w31 ⟨v454, rfl, ho0, hi, hb, hk⟩; refine ⟨_, rfl, ?_⟩; replace HO434 := aM (Kd.S_mono (Kd.S_told (Kd.S_oldK (IsS77.apartS (show IsS77 w _ g431 t428 t435 t436 from qz6) (rs_ HO434.out) (by decide)) hk) (Kd.R_base ho0)) (fun _ h_ => h_.1)); have HO455 := aM (Kd.R_lower (Kd.R_new' (Kd.R_new' (Kd.R_mono (ok' := fun k_ => True) ho0 (fun _ hk_ => trivial)) (Kd.Q_lt qz13)) (Kd.Q_lt qz14)) (below_size qz1)); replace HO450 := aM (Kd.Q_mono (Kd.Q_told (Kd.Q_oldK (IsS77.apartQ (show IsS77 w _ g431 t428 t435 t436 from qz6) qz13 (by decide)) hk) (Kd.R_base ho0)) (fun _ h_ => h_.1)); replace HO452 := aM (Kd.Q_mono (Kd.Q_told (Kd.Q_oldK (IsS77.apartQ (show IsS77 w _ g431 t428 t435 t436 from qz6) qz14 (by decide)) hk) (Kd.R_base ho0)) (fun _ h_ => h_.1)); replace HB := aM (hb); replace HI431 := aM (hi); (try clear hb hk hi ho0); obtain ⟨Ao32, co32, eo32, _⟩ := Kd.Q_slice HO450.out; subst eo32) | (go_at_call 47; (with_reducible refine (spec_l1Once.calls g431 t428 t456 t457 4 false t459 t460 w _ ?side1 ?side2 A9.out).mono ?_); (case side1 => exact qz6); (case side2 => exact qz1); rintro e w33 ⟨rfl, hi, hb, hk⟩; replace HO434 := aM (Kd.S_mono (Kd.S_keep (IsS77.apartS (show IsS77 w _ g431 t428 t456 t457 from qz6) (rs_ HO434.out) (by decide)) hk (fun _ h => h.2)) (fun _ h => h.1)); replace HO450 := aM (Kd.Q_mono (Kd.Q_keep (IsS77.apartQ (show IsS77 w _ g431 t428 t456 t457 from qz6) qz13 (by decide)) hk (fun _ h => h.2)) (fun _ h => h.1)); replace HO452 := aM (Kd.Q_mono (Kd.Q_keep (IsS77.apartQ (show IsS77 w _ g431 t428 t456 t457 from qz6) qz14 (by decide)) hk (fun _ h => h.2)) (fun _ h => h.1)); replace HO455 := aM (Kd.R_mono (Kd.R_keep (IsS77.apart (show IsS77 w _ g431 t428 t456 t457 from qz6) (rr_ HO455.out) (by decide)) hk (fun _ h => h.2)) (fun _ h => h.1)); replace HB := aM (hb); replace HI431 := aM (hi); (try clear hb hk hi)))
 refine bodyPost_ret (results_list (rs := [.tmp 2, .tmp 3, .tmp 4, .tmp 5]) rfl (by simp) (.tmp (.tmp (.tmp (.tmp .nil))))) rfl ?_
 exact ⟨_, _, _, _, qzw, by (with_reducible repeat (first | apply Kd.S_alloc | apply Kd.S_drewN | apply Kd.S_drew)); exact Kd.S_mono HO434.out (fun _ hk => ⟨hk.2, ⟨hk.1.1.2, hk.1.2⟩⟩), by (with_reducible repeat (first | apply Kd.R_alloc | apply Kd.R_drewN | apply Kd.R_drew)); exact Kd.R_mono HO455.out (fun _ hk => ⟨hk.1.2, hk.2⟩), by (with_reducible repeat (first | apply Kd.Q_alloc | apply Kd.Q_drewN | apply Kd.Q_drew)); exact Kd.Q_mono HO450.out (fun _ hk => ⟨hk.2, hk.1⟩), by (with_reducible repeat (first | apply Kd.Q_alloc | apply Kd.Q_drewN | apply Kd.Q_drew)); exact Kd.Q_mono HO452.out (fun _ hk => ⟨hk.2, hk.1⟩), qz1⟩
 }
 }
 {
 rw [if_neg c8] at H
 have c8b0 := decide_eq_false c8
 have c8b1 : decide (0 < t447.length) = false := decide_eq_false (by omega)
 clear c8
 simp only [Option.some.injEq, Prod.mk.injEq] at H
 obtain ⟨rfl, rfl, rfl, rfl⟩ := H
 go_enter Try.func22, Try.ntmps22
 go_wp2_with (first | ((with_reducible refine gate_callee (f := 39) rfl ?_); refine goesL_ (some 12) rfl rfl Try.func39 (by kernel_rfl) rfl #[.slice A0 l0.length c0] rfl qz3 ?_; (with_reducible refine (spec_l1New.calls k _ _ l0 t428 t429 t430 w _ ?side1 ?side2 ?side3 A2.out).mono ?_); (case side1 => exact qz1); (case side2 => exact HR0.out); (case side3 => exact HC0.out); rintro e w34 ⟨g431, rfl, hi, hb, hb2⟩; refine ⟨_, rfl, ?_⟩; replace HB := aM (hb); have HI431 := aM (hi); (try clear hb hb2 hi)) | ((with_reducible refine gate_callee (f := 45) rfl ?_); refine goesL_ (some 14) rfl rfl Try.func45 (by kernel_rfl) rfl #[.pointer (some ⟨g431, 0, none⟩)] rfl qz3 ?_; (with_reducible refine (spec_l4DrawAny.calls k g431 t428 t429 t430 t432 t435 t436 w _ ?side1 ?side2 A3.out).mono ?_); (case side1 => exact qz6); (case side2 => exact qz1); rintro e w35 ⟨v433, rfl, ho0, hi, hb, hk⟩; refine ⟨_, rfl, ?_⟩; have HO434 := aM (Kd.S_lower ho0 (below_size qz1)); replace HB := aM (hb); replace HI431 := aM (hi); (try clear hb hk hi ho0); obtain ⟨Ao36, co36, eo36⟩ := Kd.S_slice HO434.out; subst eo36) | ((with_reducible refine gate_callee (f := 25) rfl ?_); refine goesL_ (some 16) rfl rfl Try.func25 (by kernel_rfl) rfl #[.slice Ao36 t432.length co36] rfl qz3 ?_; (with_reducible refine (spec_CostsOk.calls k _ _ t432 true _ ?side1 ?side2 A4.out).mono ?_); (case side1 => exact qz15); (case side2 => exact (Kd.S_reads' HO434.out).2.1); rintro e w' ⟨rfl, ⟨nd, rfl⟩⟩; refine ⟨_, rfl, ?_⟩) | ((with_reducible refine gate_callee (f := 41) rfl ?_); refine goesL_ (some 24) rfl rfl Try.func41 (by kernel_rfl) rfl #[.slice Ao36 t432.length co36] rfl qz3 ?_; (with_reducible refine (spec_l4Prices.calls k _ _ t432 t447 t448 _ ?side1 ?side2 A6.out).mono ?_); (case side1 => exact qz15); (case side2 => exact (Kd.S_reads' HO434.out).2.1); rintro e w37 ⟨v449, v451, rfl, ho0, ho1, hb⟩; refine ⟨_, rfl, ?_⟩; replace HO434 := aM (Kd.S_mono (Kd.S_told (Kd.S_told (Kd.S_old (rs_ HO434.out) hb) (Kd.Q_base ho0)) (Kd.Q_base ho1)) (fun _ h_ => h_.1)); have HO450 := aM (Kd.Q_lower ho0 (below_size qz1)); have HO452 := aM (Kd.Q_lower ho1 (below_size qz1)); replace HB := bS_ hb; replace HI431 := aM (IsS77.below qz6 hb); (try clear hb ho0 ho1)) | ((with_reducible refine gate_callee (f := 46) rfl ?_); refine goesL_ (some 29) rfl rfl Try.func46 (by kernel_rfl) rfl #[.pointer (some ⟨g431, 0, none⟩), .slice Ao36 t432.length co36] rfl qz3 ?_; (with_reducible refine (spec_l4Cols.calls k g431 t428 t435 t436 (fun k_ => (((True ∧ some k_ ≠ (v449 : Value).ownBlock) ∧ some k_ ≠ (v451 : Value).ownBlock) ∧ k_ ≠ g431)) _ _ t432 t453 t456 t457 w _ ?side1 ?side2 ?side3 A7.out).mono ?_); (case side1 => exact qz6); (case side2 => exact qz1); (case side3 => exact qz63); rintro e w38 ⟨v454, rfl, ho0, hi, hb, hk⟩; refine ⟨_, rfl, ?_⟩; replace HO434 := aM (Kd.S_mono (Kd.S_told (Kd.S_oldK (IsS77.apartS (show IsS77 w _ g431 t428 t435 t436 from qz6) (rs_ HO434.out) (by decide)) hk) (Kd.R_base ho0)) (fun _ h_ => h_.1)); have HO455 := aM (Kd.R_lower (Kd.R_new' (Kd.R_new' (Kd.R_mono (ok' := fun k_ => True) ho0 (fun _ hk_ => trivial)) (Kd.Q_lt qz13)) (Kd.Q_lt qz14)) (below_size qz1)); replace HO450 := aM (Kd.Q_mono (Kd.Q_told (Kd.Q_oldK (IsS77.apartQ (show IsS77 w _ g431 t428 t435 t436 from qz6) qz13 (by decide)) hk) (Kd.R_base ho0)) (fun _ h_ => h_.1)); replace HO452 := aM (Kd.Q_mono (Kd.Q_told (Kd.Q_oldK (IsS77.apartQ (show IsS77 w _ g431 t428 t435 t436 from qz6) qz14 (by decide)) hk) (Kd.R_base ho0)) (fun _ h_ => h_.1)); replace HB := aM (hb); replace HI431 := aM (hi); (try clear hb hk hi ho0); obtain ⟨Ao39, co39, eo39, _⟩ := Kd.Q_slice HO450.out; subst eo39))
 refine bodyPost_ret (results_list (rs := [.tmp 2, .tmp 3, .tmp 4, .tmp 5]) rfl (by simp) (.tmp (.tmp (.tmp (.tmp .nil))))) rfl ?_
 exact ⟨_, _, _, _, qzw, by (with_reducible repeat (first | apply Kd.S_alloc | apply Kd.S_drewN | apply Kd.S_drew)); exact Kd.S_mono HO434.out (fun _ hk => ⟨hk.2, ⟨hk.1.1.2, hk.1.2⟩⟩), by (with_reducible repeat (first | apply Kd.R_alloc | apply Kd.R_drewN | apply Kd.R_drew)); exact Kd.R_mono HO455.out (fun _ hk => ⟨hk.1.2, hk.2⟩), by (with_reducible repeat (first | apply Kd.Q_alloc | apply Kd.Q_drewN | apply Kd.Q_drew)); exact Kd.Q_mono HO450.out (fun _ hk => ⟨hk.2, hk.1⟩), by (with_reducible repeat (first | apply Kd.Q_alloc | apply Kd.Q_drewN | apply Kd.Q_drew)); exact Kd.Q_mono HO452.out (fun _ hk => ⟨hk.2, hk.1⟩), qz1⟩
 }
 }
 {
 replace c5 := Bool.eq_false_iff.mpr c5
 subst c5
 rw [if_neg (show ¬ (false = true) by decide)] at H
 obtain ⟨y438, hy438⟩ : ∃ y_ : List Int, y_ = (([] : List Int)) := ⟨_, rfl⟩
 replace H : (some (t432, y438, (([] : List Int)), (([] : List Int)))) = some (r1, r2, r3, r4) := by first | (rw [hy438]; with_reducible exact H) | (have H2_ := (Option.bind_some _ _).symm.trans H; rw [hy438]; with_reducible exact H2_) | (have H2_ := (Option.bind_some _ _).symm.trans H; with_reducible exact H2_) | with_reducible exact H | (rw [hy438]; exact H) | exact H
 have Ny438 := aM hy438
 clear hy438
 obtain ⟨y441, hy441⟩ : ∃ y_ : List Int, y_ = (([] : List Int)) := ⟨_, rfl⟩
 replace H : (some (t432, y438, y441, (([] : List Int)))) = some (r1, r2, r3, r4) := by first | (rw [hy441]; with_reducible exact H) | (have H2_ := (Option.bind_some _ _).symm.trans H; rw [hy441]; with_reducible exact H2_) | (have H2_ := (Option.bind_some _ _).symm.trans H; with_reducible exact H2_) | with_reducible exact H | (rw [hy441]; exact H) | exact H
 have Ny441 := aM hy441
 clear hy441
 obtain ⟨y444, hy444⟩ : ∃ y_ : List Int, y_ = (([] : List Int)) := ⟨_, rfl⟩
 replace H : (some (t432, y438, y441, y444)) = some (r1, r2, r3, r4) := by first | (rw [hy444]; with_reducible exact H) | (have H2_ := (Option.bind_some _ _).symm.trans H; rw [hy444]; with_reducible exact H2_) | (have H2_ := (Option.bind_some _ _).symm.trans H; with_reducible exact H2_) | with_reducible exact H | (rw [hy444]; exact H) | exact H
 have Ny444 := aM hy444
 clear hy444
 simp only [Option.some.injEq, Prod.mk.injEq] at H
 obtain ⟨rfl, rfl, rfl, rfl⟩ := H
 go_enter Try.func22, Try.ntmps22
 go_wp2_with (first | ((with_reducible refine gate_callee (f := 39) rfl ?_); refine goesL_ (some 12) rfl rfl Try.func39 (by kernel_rfl) rfl #[.slice A0 l0.length c0] rfl qz3 ?_; (with_reducible refine (spec_l1New.calls k _ _ l0 t428 t429 t430 w _ ?side1 ?side2 ?side3 A2.out).mono ?_); (case side1 => exact qz1); (case side2 => exact HR0.out); (case side3 => exact HC0.out); rintro e w40 ⟨g431, rfl, hi, hb, hb2⟩; refine ⟨_, rfl, ?_⟩; replace HB := aM (hb); have HI431 := aM (hi); (try clear hb hb2 hi)) | ((with_reducible refine gate_callee (f := 45) rfl ?_); refine goesL_ (some 14) rfl rfl Try.func45 (by kernel_rfl) rfl #[.pointer (some ⟨g431, 0, none⟩)] rfl qz3 ?_; (with_reducible refine (spec_l4DrawAny.calls k g431 t428 t429 t430 t432 t435 t436 w _ ?side1 ?side2 A3.out).mono ?_); (case side1 => exact qz6); (case side2 => exact qz1); rintro e w41 ⟨v433, rfl, ho0, hi, hb, hk⟩; refine ⟨_, rfl, ?_⟩; have HO434 := aM (Kd.S_lower ho0 (below_size qz1)); replace HB := aM (hb); replace HI431 := aM (hi); (try clear hb hk hi ho0); obtain ⟨Ao42, co42, eo42⟩ := Kd.S_slice HO434.out; subst eo42) | ((with_reducible refine gate_callee (f := 25) rfl ?_); refine goesL_ (some 16) rfl rfl Try.func25 (by kernel_rfl) rfl #[.slice Ao42 t432.length co42] rfl qz3 ?_; (with_reducible refine (spec_CostsOk.calls k _ _ t432 false _ ?side1 ?side2 A4.out).mono ?_); (case side1 => exact qz15); (case side2 => exact (Kd.S_reads' HO434.out).2.1); rintro e w' ⟨rfl, ⟨nd, rfl⟩⟩; refine ⟨_, rfl, ?_⟩) | ((with_reducible refine gate_dst (N := 19) rfl ?_); refine Kd.R_lit (Kd.int .i64) _ 3 ?hg (N := 19) ?hd (xs := ([] : List Int)) (inner := []) (ok := fun _ => True) (okp := fun _ => True) ?hr ?hp (fun _ hk => hk) trivial (Below.refl _ _) (Nat.le_refl _) (by simp) ?_; (case hd => rfl); (case hg => rfl); (case hr => exact qz11); (case hp => exact (Reps.none _ _)); intro v439 w43 ho44 hb hg_ hnew_; clear hg_ hnew_; (first | rw [← Ny438.out] at ho44 | (simp only [Int.reduceToNat] at ho44; rw [← Ny438.out] at ho44)); replace HO434 := aM (Kd.S_elder' (rs_ HO434.out) (Kd.R_base ho44) hb); have HO440 := aM (Kd.R_lower ho44 (below_size qz1)); replace HB := bS_ hb; replace HI431 := aM (IsS77.below qz6 hb); clear hb ho44) | ((with_reducible refine gate_dst (N := 20) rfl ?_); refine Kd.R_lit (Kd.int .i64) _ 3 ?hg (N := 20) ?hd (xs := ([] : List Int)) (inner := []) (ok := fun _ => True) (okp := fun _ => True) ?hr ?hp (fun _ hk => hk) trivial (Below.refl _ _) (Nat.le_refl _) (by simp) ?_; (case hd => rfl); (case hg => rfl); (case hr => exact qz11); (case hp => exact (Reps.none _ _)); intro v442 w45 ho46 hb hg_ hnew_; clear hg_ hnew_; (first | rw [← Ny441.out] at ho46 | (simp only [Int.reduceToNat] at ho46; rw [← Ny441.out] at ho46)); replace HO434 := aM (Kd.S_elder' (rs_ HO434.out) (Kd.R_base ho46) hb); have HO443 := aM (Kd.R_lower (Kd.R_new' ho46 (Kd.R_lt (rr_ HO440.out))) (below_size qz1)); replace HO440 := aM (Kd.R_elder' (rr_ HO440.out) (Kd.R_base ho46) hb); replace HB := bS_ hb; replace HI431 := aM (IsS77.below qz6 hb); clear hb ho46) | ((with_reducible refine gate_dst (N := 21) rfl ?_); refine Kd.R_lit (Kd.int .i64) _ 3 ?hg (N := 21) ?hd (xs := ([] : List Int)) (inner := []) (ok := fun _ => True) (okp := fun _ => True) ?hr ?hp (fun _ hk => hk) trivial (Below.refl _ _) (Nat.le_refl _) (by simp) ?_; (case hd => rfl); (case hg => rfl); (case hr => exact qz11); (case hp => exact (Reps.none _ _)); intro v445 w47 ho48 hb hg_ hnew_; clear hg_ hnew_; (first | rw [← Ny444.out] at ho48 | (simp only [Int.reduceToNat] at ho48; rw [← Ny444.out] at ho48)); replace HO434 := aM (Kd.S_elder' (rs_ HO434.out) (Kd.R_base ho48) hb); have HO446 := aM (Kd.R_lower (Kd.R_new' (Kd.R_new' ho48 (Kd.R_lt (rr_ HO440.out))) (Kd.R_lt (rr_ HO443.out))) (below_size qz1)); replace HO440 := aM (Kd.R_elder' (rr_ HO440.out) (Kd.R_base ho48) hb); replace HO443 := aM (Kd.R_elder' (rr_ HO443.out) (Kd.R_base ho48) hb); replace HB := bS_ hb; replace HI431 := aM (IsS77.below qz6 hb); clear hb ho48))
 refine bodyPost_ret (results_list (rs := [.tmp 2, .tmp 3, .tmp 4, .tmp 5]) rfl (by simp) (.tmp (.tmp (.tmp (.tmp .nil))))) rfl ?_
 exact ⟨_, _, _, _, qzw, by (with_reducible repeat (first | apply Kd.S_alloc | apply Kd.S_drewN | apply Kd.S_drew)); exact Kd.S_mono HO434.out (fun _ hk => ⟨hk.1.1.2, ⟨hk.1.2, hk.2⟩⟩), by (with_reducible repeat (first | apply Kd.R_alloc | apply Kd.R_drewN | apply Kd.R_drew)); exact Kd.R_mono HO440.out (fun _ hk => ⟨hk.1.2, hk.2⟩), Kd.Q_of_R (by (with_reducible repeat (first | apply Kd.R_alloc | apply Kd.R_drewN | apply Kd.R_drew)); exact Kd.R_mono HO443.out (fun _ hk => ⟨hk.1.2, hk.2⟩)), Kd.Q_of_R (by (with_reducible repeat (first | apply Kd.R_alloc | apply Kd.R_drewN | apply Kd.R_drew)); exact Kd.R_mono HO446.out (fun _ hk => ⟨hk.1.2, hk.2⟩)), qz1⟩

 }
end Go.Proofs.Ytbebfhlejnidkaa.PFnProved
