-- Made by a program of this session out of the translation. Lean checks it.
import Derived.Test.YteajnkondkfmgaaPFnEachx17
namespace Go.Proofs.Yteajnkondkfmgaa.PFnEach
open Go.RowKit Go.Proofs.YteajnkondkfmgaaW.PrintWords Go.Proofs.YteajnkondkfmgaaW.PrintLast Go.Proofs.YteajnkondkfmgaaW.PrintMore
attribute [local go_sem] max2_int min2_int max_two min_two max_three min_three max_four min_four   -- for this text's walks alone
set_option linter.unusedVariables false
set_option linter.unusedSimpArgs false

/-! ### spec_l5Call: function 61 -/
def spec_l5Call.j0 : Nat → Int → Int → Bool → List (S79) → Option (Int × Int × Int × Int × Int)
 | 0, _, _, _, _ => none
 | k + 1, x1, x2, x24, x433000 => if x24 = true then (some (0, 0, 0, 0, 1)) else ((spec_l5Pod.f k x433000 x1).bind fun t437 => (if t437 < 0 then (some (0, 0, 0, 0, 2)) else (if 0 ≤ t437 then (if t437 < (x433000.length : Int) then ((spec_l5Stack.f k ((rd_T79 x433000 t437).f0) ((rd_T79 x433000 t437).f1) ((rd_T79 x433000 t437).f2) x2).bind fun bt439 => (some (t437, bt439.1, bt439.2.1, bt439.2.2, 0))) else (none)) else (none))))
def spec_l5Call.f (k : Nat) (l0_0 : List (S79)) (a1 : Int) (a2 : Int) (a3 : Int) : Option (Int × Int × Int × Int × Int) := (spec_StockOk.f k l0_0).bind fun t434 => (if t434 = true then ((spec_l1In.f a2 1 50).bind fun t435 => (if t435 = true then ((spec_l1In.f a3 1 1000).bind fun t436 => (spec_l5Call.j0 k a1 a2 (!t436) l0_0)) else (spec_l5Call.j0 k a1 a2 true l0_0))) else (spec_l5Call.j0 k a1 a2 true l0_0))
theorem spec_l5Call.mono_l : ∀ k, (∀ y0 y1 y2 y3, LeO (spec_l5Call.j0 k y0 y1 y2 y3) (spec_l5Call.j0 (k + 1) y0 y1 y2 y3))
 | 0 => fun _ _ _ _ r h => by simp [spec_l5Call.j0] at h
 | k + 1 => by
  have ih0 := spec_l5Call.mono_l k
  {
  intro y0 y1 y2 y3
  unfold spec_l5Call.j0
  have j0 := @spec_StockOk.mono
  have j1 := @spec_l5Pod.mono
  have j2 := @spec_l5Stack.mono
  exact qL
  }
theorem spec_l5Call.mono : ∀ a0 a1 a2 a3 k, LeO (spec_l5Call.f k a0 a1 a2 a3) (spec_l5Call.f (k + 1) a0 a1 a2 a3) := by
 intro a0 a1 a2 a3 k
 have ih0 := spec_l5Call.mono_l k
 unfold spec_l5Call.f
 have j0 := @spec_StockOk.mono
 have j1 := @spec_l5Pod.mono
 have j2 := @spec_l5Stack.mono
 exact qL
set_option maxHeartbeats 8000000 in
set_option maxRecDepth 100000 in
theorem spec_l5Call.calls (k : Nat) (A0_0 : Option Addr) (c0_0 : Nat) (l0_0 : List (S79)) (a1 : Int) (a2 : Int) (a3 : Int) (r1 : Int) (r2 : Int) (r3 : Int) (r4 : Int) (r5 : Int) (w : World) (hr0_0 : Kd.C k79 w A0_0 l0_0.length l0_0) (hc0_0 : l0_0.length ≤ c0_0) (h : spec_l5Call.f k l0_0 a1 a2 a3 = some (r1, r2, r3, r4, r5)) :
  Calls Try.prog 61 #[.agg #[.slice A0_0 l0_0.length c0_0], .int .i64 a1, .int .i64 a2, .int .i64 a3] w fun e w' => e = .returned (.tuple #[.int .i64 r1, .agg #[.int .i64 r2, .int .i64 r3, .int .i64 r4], .int .i64 r5]) ∧ Below w.heap.size w w' := by
 have hu26 := Try.underlying26
 have hu72 := Try.underlying72
 have hu79 := Try.underlying79
 have HR0_0 := aM hr0_0
 have HC0_0 := aM hc0_0
 clear hr0_0 hc0_0
 have HB := aM (Below.refl w.heap.size w)
 have H : ((spec_StockOk.f k l0_0).bind fun t434 => (if t434 = true then ((spec_l1In.f a2 1 50).bind fun t435 => (if t435 = true then ((spec_l1In.f a3 1 1000).bind fun t436 => (spec_l5Call.j0 k a1 a2 (!t436) l0_0)) else (spec_l5Call.j0 k a1 a2 true l0_0))) else (spec_l5Call.j0 k a1 a2 true l0_0))) = some (r1, r2, r3, r4, r5) := h
 clear h
 have HC5 := aM H
 clear H
 go_enter Try.func61, Try.ntmps61
 go_upto_region 1 with (first | ((with_reducible refine gate_dst (N := 4) rfl ?_); refine bx_ 4 #[.slice A0_0 l0_0.length c0_0] 26 ?_; intro gb432 hg w6 hbox hb; have BK432 := aM (hbox); have GW432 := aM (bz_ w hg qz1); have GE432 := GW432; replace HB := bS_ hb; clear hb hbox hg) | ((with_reducible refine gate_dst (N := 9) rfl ?_); refine bx_ 9 #[.int .i64 0, .int .i64 0, .int .i64 0] 72 ?_; intro gb433 hg w7 hbox hb; have BK433 := aM (hbox); have GW433 := aM (bz_ w hg qz1); have GE433 := GW433; replace HB := bS_ hb; obtain ⟨NB432_433, NB433_432⟩ := nb_ hg (bk_ BK432.out); replace BK432 := bB_ BK432 hb; clear hb hbox hg))
 (try simp only [Act.put, List.setIfInBounds_toArray, List.set_cons_zero, List.set_cons_succ])
 go_cut [24] (fun v24 wc => ∃ (kq : Nat) (x24_4 : Bool), v24 = .bool x24_4 ∧ Aside0 (spec_l5Call.j0 kq a1 a2 x24_4 l0_0 = some (r1, r2, r3, r4, r5)) ∧ Aside0 (kq ≤ k) ∧ Aside0 (wc.heap[gb432]? = some (.cells #[(.slice A0_0 l0_0.length c0_0)] 26 (0, 0))) ∧ Aside0 (wc.heap[gb433]? = some (.cells #[.int .i64 0, .int .i64 0, .int .i64 0] 72 (0, 0))) ∧ Aside0 (Below w.heap.size w wc))
 case first =>
  have H := HC5.out
  clear HC5
  replace H := Option.bind_eq_some_iff.mp H
  obtain ⟨t434, A80, H⟩ := H
  replace H : (if t434 = true then ((spec_l1In.f a2 1 50).bind fun t435 => (if t435 = true then ((spec_l1In.f a3 1 1000).bind fun t436 => (spec_l5Call.j0 k a1 a2 (!t436) l0_0)) else (spec_l5Call.j0 k a1 a2 true l0_0))) else (spec_l5Call.j0 k a1 a2 true l0_0)) = some (r1, r2, r3, r4, r5) := H
  have A8 := aM A80
  clear A80
  by_cases c9 : t434 = true
  {
  subst c9
  rw [if_pos rfl] at H
  replace H := Option.bind_eq_some_iff.mp H
  obtain ⟨t435, A100, H⟩ := H
  replace H : (if t435 = true then ((spec_l1In.f a3 1 1000).bind fun t436 => (spec_l5Call.j0 k a1 a2 (!t436) l0_0)) else (spec_l5Call.j0 k a1 a2 true l0_0)) = some (r1, r2, r3, r4, r5) := H
  have A10 := aM A100
  clear A100
  by_cases c11 : t435 = true
  {
  subst c11
  rw [if_pos rfl] at H
  replace H := Option.bind_eq_some_iff.mp H
  obtain ⟨t436, A120, H⟩ := H
  replace H : (spec_l5Call.j0 k a1 a2 (!t436) l0_0) = some (r1, r2, r3, r4, r5) := H
  have A12 := aM A120
  clear A120
  have H' := aM H
  clear H
  have hnb13 := NB432_433.out
  have hnc13 := NB433_432.out
  obtain ⟨hcz14_0, hfz14_0⟩ := bf_ BK432.out
  go_wp2_with (first | ((with_reducible refine gate_callee (f := 37) rfl ?_); refine goesL_ (some 13) rfl rfl Try.func37 (by kernel_rfl) rfl #[.agg #[.slice A0_0 l0_0.length c0_0]] rfl qz4 ?_; (with_reducible refine (spec_StockOk.calls k _ _ l0_0 true _ ?side1 ?side2 A8.out).mono ?_); (case side1 => exact qz6); (case side2 => exact HC0_0.out); rintro e w15 ⟨rfl, hb⟩; refine ⟨_, rfl, ?_⟩; replace BK432 := bB_ BK432 hb; replace BK433 := bB_ BK433 hb; replace HB := bS_ hb; (try clear hb)) | (go_at_call 81; (with_reducible refine (spec_l1In.calls a2 1 50 true _ A10.out).mono ?_); rintro e w' ⟨rfl, ⟨nd, rfl⟩⟩) | (go_at_call 81; (with_reducible refine (spec_l1In.calls a3 1 1000 t436 _ A12.out).mono ?_); rintro e w' ⟨rfl, ⟨nd, rfl⟩⟩))
  go_meet
  case rel => exact ⟨_, (!t436), qz5, H', ⟨by first | omega | exact Nat.le_refl _⟩, ⟨bk_ BK432.out⟩, ⟨bk_ BK433.out⟩, ⟨qz1⟩⟩
  }
  {
  replace c11 := Bool.eq_false_iff.mpr c11
  subst c11
  rw [if_neg (show ¬ (false = true) by decide)] at H
  have H' := aM H
  clear H
  have hnb16 := NB432_433.out
  have hnc16 := NB433_432.out
  obtain ⟨hcz17_0, hfz17_0⟩ := bf_ BK432.out
  go_wp2_with (first | ((with_reducible refine gate_callee (f := 37) rfl ?_); refine goesL_ (some 13) rfl rfl Try.func37 (by kernel_rfl) rfl #[.agg #[.slice A0_0 l0_0.length c0_0]] rfl qz4 ?_; (with_reducible refine (spec_StockOk.calls k _ _ l0_0 true _ ?side1 ?side2 A8.out).mono ?_); (case side1 => exact qz6); (case side2 => exact HC0_0.out); rintro e w18 ⟨rfl, hb⟩; refine ⟨_, rfl, ?_⟩; replace BK432 := bB_ BK432 hb; replace BK433 := bB_ BK433 hb; replace HB := bS_ hb; (try clear hb)) | (go_at_call 81; (with_reducible refine (spec_l1In.calls a2 1 50 false _ A10.out).mono ?_); rintro e w' ⟨rfl, ⟨nd, rfl⟩⟩))
  go_meet
  case rel => exact ⟨_, (true), qz5, H', ⟨by first | omega | exact Nat.le_refl _⟩, ⟨bk_ BK432.out⟩, ⟨bk_ BK433.out⟩, ⟨qz1⟩⟩
  }
  }
  {
  replace c9 := Bool.eq_false_iff.mpr c9
  subst c9
  rw [if_neg (show ¬ (false = true) by decide)] at H
  have H' := aM H
  clear H
  have hnb19 := NB432_433.out
  have hnc19 := NB433_432.out
  obtain ⟨hcz20_0, hfz20_0⟩ := bf_ BK432.out
  go_wp2_with (first | ((with_reducible refine gate_callee (f := 37) rfl ?_); refine goesL_ (some 13) rfl rfl Try.func37 (by kernel_rfl) rfl #[.agg #[.slice A0_0 l0_0.length c0_0]] rfl qz4 ?_; (with_reducible refine (spec_StockOk.calls k _ _ l0_0 false _ ?side1 ?side2 A8.out).mono ?_); (case side1 => exact qz6); (case side2 => exact HC0_0.out); rintro e w21 ⟨rfl, hb⟩; refine ⟨_, rfl, ?_⟩; replace BK432 := bB_ BK432 hb; replace BK433 := bB_ BK433 hb; replace HB := bS_ hb; (try clear hb)))
  go_meet
  case rel => exact ⟨_, (true), qz5, H', ⟨by first | omega | exact Nat.le_refl _⟩, ⟨bk_ BK432.out⟩, ⟨bk_ BK433.out⟩, ⟨qz1⟩⟩
  }
 case rest =>
  clear HC5
  try clear c1
  try clear p2
  try clear c3
  try clear c6
  try clear c9
  try clear c11
  try clear c13
  try clear c16
  try clear c19
  try clear hcz14_0 hfz14_0
  try clear hcz17_0 hfz17_0
  try clear hcz20_0 hfz20_0
  obtain ⟨kq, x24_4, rfl, HA, HJ4, BK432, BK433, HB⟩ := hcut
  cases kq with
  | zero => exact absurd HA.out (by simp [spec_l5Call.j0])
  | succ kj4 =>
   have H := HA.out
   clear HA
   simp only [spec_l5Call.j0] at H
   by_cases c22 : x24_4 = true
   {
   subst c22
   rw [if_pos rfl] at H
   simp only [Option.some.injEq, Prod.mk.injEq] at H
   obtain ⟨rfl, rfl, rfl, rfl, rfl⟩ := H
   have hnb23 := NB433_432.out
   have hnc23 := NB432_433.out
   obtain ⟨hcz24_0, hcz24_1, hcz24_2, hfz24_0, hfz24_1, hfz24_2⟩ := b6_ BK433.out
   go_wp2
   refine bodyPost_ret (results_list (rs := [.tmp 8, .cell 9 72, .tmp 10]) rfl (by simp) (.tmp (.cell gb433 72 #[.int .i64 0, .int .i64 0, .int .i64 0] (0, 0) _ rfl (by (with_reducible repeat (first | refine blk_drewN ?_ _ | refine blk_drew ?_ | refine blk_alloc ?_ _)); refine blk_put (cs := #[.int .i64 0, .int .i64 0, .int .i64 0]) ?_ 2 _ rfl; (with_reducible repeat (first | refine blk_drewN ?_ _ | refine blk_drew ?_ | refine blk_alloc ?_ _)); refine blk_put (cs := #[.int .i64 0, .int .i64 0, .int .i64 0]) ?_ 1 _ rfl; (with_reducible repeat (first | refine blk_drewN ?_ _ | refine blk_drew ?_ | refine blk_alloc ?_ _)); refine blk_put (cs := #[.int .i64 0, .int .i64 0, .int .i64 0]) ?_ 0 _ rfl; exact bk_ BK433.out) Try.underlying72 rfl (by kernel_rfl) (.tmp .nil)))) rfl ?_
   exact ⟨qzw, qz1⟩
   }
   {
   replace c22 := Bool.eq_false_iff.mpr c22
   subst c22
   rw [if_neg (show ¬ (false = true) by decide)] at H
   replace H := Option.bind_eq_some_iff.mp H
   obtain ⟨t437, A250, H⟩ := H
   replace H : (if t437 < 0 then (some (0, 0, 0, 0, 2)) else (if 0 ≤ t437 then (if t437 < (l0_0.length : Int) then ((spec_l5Stack.f kj4 ((rd_T79 l0_0 t437).f0) ((rd_T79 l0_0 t437).f1) ((rd_T79 l0_0 t437).f2) a2).bind fun bt439 => (some (t437, bt439.1, bt439.2.1, bt439.2.2, 0))) else (none)) else (none))) = some (r1, r2, r3, r4, r5) := H
   have A25 := aM A250
   clear A250
   by_cases c26 : t437 < 0
   {
   rw [if_pos c26] at H
   have c26b0 := decide_eq_true c26
   clear c26
   simp only [Option.some.injEq, Prod.mk.injEq] at H
   obtain ⟨rfl, rfl, rfl, rfl, rfl⟩ := H
   have hnb27 := NB432_433.out
   have hnc27 := NB433_432.out
   obtain ⟨hcz28_0, hfz28_0⟩ := bf_ BK432.out
   go_wp2_with (first | ((with_reducible refine gate_callee (f := 93) rfl ?_); refine goesL_ (some 28) rfl rfl Try.func93 (by kernel_rfl) rfl #[.agg #[.slice A0_0 l0_0.length c0_0], .int .i64 a1] rfl qz4 ?_; (with_reducible refine (spec_l5Pod.calls kj4 _ _ l0_0 a1 t437 _ ?side1 ?side2 A25.out).mono ?_); (case side1 => exact qz6); (case side2 => exact HC0_0.out); rintro e w29 ⟨rfl, hb⟩; refine ⟨_, rfl, ?_⟩; replace BK432 := bB_ BK432 hb; replace BK433 := bB_ BK433 hb; replace HB := bS_ hb; (try clear hb); obtain ⟨hcz30_0, hcz30_1, hcz30_2, hfz30_0, hfz30_1, hfz30_2⟩ := b6_ BK433.out))
   refine bodyPost_ret (results_list (rs := [.tmp 8, .cell 9 72, .tmp 10]) rfl (by simp) (.tmp (.cell gb433 72 #[.int .i64 0, .int .i64 0, .int .i64 0] (0, 0) _ rfl (by (with_reducible repeat (first | refine blk_drewN ?_ _ | refine blk_drew ?_ | refine blk_alloc ?_ _)); refine blk_put (cs := #[.int .i64 0, .int .i64 0, .int .i64 0]) ?_ 2 _ rfl; (with_reducible repeat (first | refine blk_drewN ?_ _ | refine blk_drew ?_ | refine blk_alloc ?_ _)); refine blk_put (cs := #[.int .i64 0, .int .i64 0, .int .i64 0]) ?_ 1 _ rfl; (with_reducible repeat (first | refine blk_drewN ?_ _ | refine blk_drew ?_ | refine blk_alloc ?_ _)); refine blk_put (cs := #[.int .i64 0, .int .i64 0, .int .i64 0]) ?_ 0 _ rfl; exact bk_ BK433.out) Try.underlying72 rfl (by kernel_rfl) (.tmp .nil)))) rfl ?_
   exact ⟨qzw, qz1⟩
   }
   {
   rw [if_neg c26] at H
   have c26b0 := decide_eq_false c26
   clear c26
   by_cases c31 : 0 ≤ t437
   {
   rw [if_pos c31] at H
   have c31b0 := decide_eq_true c31
   clear c31
   by_cases c32 : t437 < (l0_0.length : Int)
   {
   rw [if_pos c32] at H
   have c32b0 := decide_eq_true c32
   clear c32
   replace H := Option.bind_eq_some_iff.mp H
   obtain ⟨⟨t439, t440, t441⟩, A330, H⟩ := H
   replace H : (some (t437, t439, t440, t441, 0)) = some (r1, r2, r3, r4, r5) := H
   have A33 := aM A330
   clear A330
   simp only [Option.some.injEq, Prod.mk.injEq] at H
   obtain ⟨rfl, rfl, rfl, rfl, rfl⟩ := H
   have hnb34 := NB432_433.out
   have hnc34 := NB433_432.out
   obtain ⟨hcz35_0, hfz35_0⟩ := bf_ BK432.out
   go_wp2_with (first | ((with_reducible refine gate_callee (f := 93) rfl ?_); refine goesL_ (some 28) rfl rfl Try.func93 (by kernel_rfl) rfl #[.agg #[.slice A0_0 l0_0.length c0_0], .int .i64 a1] rfl qz4 ?_; (with_reducible refine (spec_l5Pod.calls kj4 _ _ l0_0 a1 t437 _ ?side1 ?side2 A25.out).mono ?_); (case side1 => exact qz6); (case side2 => exact HC0_0.out); rintro e w36 ⟨rfl, hb⟩; refine ⟨_, rfl, ?_⟩; replace BK432 := bB_ BK432 hb; replace BK433 := bB_ BK433 hb; replace HB := bS_ hb; (try clear hb); obtain ⟨hcz37_0, hfz37_0⟩ := bf_ BK432.out; have p438 : 0 ≤ (t437 : Int) := dt_; have q438 : t437 < (l0_0.length : Int) := dt_; obtain ⟨ad438, A438_2, c438_2, e438, hx438_0, hx438_1, hx438_2, hl438_2, hi438_2⟩ := at_T79 HR0_0.out t437 p438 q438; cases e438; replace hx438_0 := cB_ hx438_0; replace hx438_1 := cB_ hx438_1; replace hx438_2 := cB_ hx438_2; have HR438_2 := aM hi438_2; have HC438_2 := aM hl438_2; clear hi438_2 hl438_2; replace p438 := eq_true p438; replace q438 := eq_true q438) | ((with_reducible refine gate_callee (f := 94) rfl ?_); refine goesL_ (some 39) rfl rfl Try.func94 (by kernel_rfl) rfl #[.agg #[.int .i64 ((rd_T79 l0_0 t437).f0), .int .i64 ((rd_T79 l0_0 t437).f1), .slice A438_2 ((rd_T79 l0_0 t437).f2).length c438_2], .int .i64 a2] rfl qz4 ?_; (with_reducible refine (spec_l5Stack.calls kj4 ((rd_T79 l0_0 t437).f0) ((rd_T79 l0_0 t437).f1) _ _ ((rd_T79 l0_0 t437).f2) a2 t439 t440 t441 _ ?side1 ?side2 A33.out).mono ?_); (case side1 => repeat (first | exact (Kd.C_below HR438_2.out HB.out) | (with_reducible refine Kd.C_alloc ?_ _) | (with_reducible refine Kd.C_drewN ?_ _) | (with_reducible refine Kd.C_drew ?_))); (case side2 => exact HC438_2.out); rintro e w38 ⟨rfl, hb⟩; refine ⟨_, rfl, ?_⟩; replace BK432 := bB_ BK432 hb; replace BK433 := bB_ BK433 hb; replace HB := bS_ hb; (try clear hb); obtain ⟨hcz39_0, hcz39_1, hcz39_2, hfz39_0, hfz39_1, hfz39_2⟩ := b6_ BK433.out))
   refine bodyPost_ret (results_list (rs := [.tmp 8, .cell 9 72, .tmp 10]) rfl (by simp) (.tmp (.cell gb433 72 #[.int .i64 t439, .int .i64 t440, .int .i64 t441] (0, 0) _ rfl (by (with_reducible repeat (first | refine blk_drewN ?_ _ | refine blk_drew ?_ | refine blk_alloc ?_ _)); refine blk_put (cs := #[.int .i64 t439, .int .i64 t440, .int .i64 0]) ?_ 2 _ rfl; (with_reducible repeat (first | refine blk_drewN ?_ _ | refine blk_drew ?_ | refine blk_alloc ?_ _)); refine blk_put (cs := #[.int .i64 t439, .int .i64 0, .int .i64 0]) ?_ 1 _ rfl; (with_reducible repeat (first | refine blk_drewN ?_ _ | refine blk_drew ?_ | refine blk_alloc ?_ _)); refine blk_put (cs := #[.int .i64 0, .int .i64 0, .int .i64 0]) ?_ 0 _ rfl; exact bk_ BK433.out) Try.underlying72 rfl (by kernel_rfl) (.tmp .nil)))) rfl ?_
   exact ⟨qzw, qz1⟩
   }
   {
   exact an_ c32 H
   }
   }
   {
   exact an_ c31 H

   }
   }
   }
/-! ### spec_l5With: function 95 -/
mutual
def spec_l5With.l0 : Nat → List (S72) → List (S72) → Bool → Int → Int → Int → Int → Option ((List (S72)))
 | 0, _, _, _, _, _, _, _ => none
 | k + 1, x0, x5, x6, x7, x443000, x443001, x443002 => if x7 < (x0.length : Int) then (if x6 = true then (spec_l5With.j1 k x0 x5 x6 x7 false x443000 x443001 x443002) else (if 0 ≤ x7 then (spec_l5With.j1 k x0 x5 x6 x7 (decide (((rd_T72 x0 x7).f0) ≥ x443000)) x443000 x443001 x443002) else (none))) else (if x6 = true then (some x5) else (if x5.length < 5864062014805 then (some (x5 ++ [(⟨x443000, x443001, x443002⟩ : S72)])) else (none)))
def spec_l5With.j1 : Nat → List (S72) → List (S72) → Bool → Int → Bool → Int → Int → Int → Option ((List (S72)))
 | 0, _, _, _, _, _, _, _, _ => none
 | k + 1, x0, x5, x6, x7, x29, x443000, x443001, x443002 => if x29 = true then (if x5.length < 5864062014805 then ((some (x5 ++ [(⟨x443000, x443001, x443002⟩ : S72)] : List (S72))).bind fun y450 => (if 0 ≤ x7 then (if x7 < (x0.length : Int) then (if ((rd_T72 x0 x7).f0) = x443000 then (spec_l5With.l0 k x0 y450 true (wrap64 (x7 + 1)) x443000 x443001 x443002) else (if y450.length < 5864062014805 then (spec_l5With.l0 k x0 (y450 ++ [(⟨(rd_T72 x0 x7).f0, (rd_T72 x0 x7).f1, (rd_T72 x0 x7).f2⟩ : S72)]) true (wrap64 (x7 + 1)) x443000 x443001 x443002) else (none))) else (none)) else (none))) else (none)) else (if 0 ≤ x7 then (if x7 < (x0.length : Int) then (if ((rd_T72 x0 x7).f0) = x443000 then (spec_l5With.l0 k x0 x5 x6 (wrap64 (x7 + 1)) x443000 x443001 x443002) else (if x5.length < 5864062014805 then (spec_l5With.l0 k x0 (x5 ++ [(⟨(rd_T72 x0 x7).f0, (rd_T72 x0 x7).f1, (rd_T72 x0 x7).f2⟩ : S72)]) x6 (wrap64 (x7 + 1)) x443000 x443001 x443002) else (none))) else (none)) else (none))
end
def spec_l5With.f (k : Nat) (l0 : List (S72)) (a1_0 : Int) (a1_1 : Int) (a1_2 : Int) : Option ((List (S72))) := spec_l5With.l0 k l0 (([] : List (S72))) (a1_1 == 0) 0 a1_0 a1_1 a1_2
theorem spec_l5With.mono_l : ∀ k, (∀ y0 y1 y2 y3 y4 y5 y6, LeO (spec_l5With.l0 k y0 y1 y2 y3 y4 y5 y6) (spec_l5With.l0 (k + 1) y0 y1 y2 y3 y4 y5 y6)) ∧ (∀ y0 y1 y2 y3 y4 y5 y6 y7, LeO (spec_l5With.j1 k y0 y1 y2 y3 y4 y5 y6 y7) (spec_l5With.j1 (k + 1) y0 y1 y2 y3 y4 y5 y6 y7))
 | 0 => ⟨fun _ _ _ _ _ _ _ r h => by simp [spec_l5With.l0] at h, fun _ _ _ _ _ _ _ _ r h => by simp [spec_l5With.j1] at h⟩
 | k + 1 => by
  obtain ⟨ih0, ih1⟩ := spec_l5With.mono_l k
  refine ⟨?_, ?_⟩
  {
  intro y0 y1 y2 y3 y4 y5 y6
  unfold spec_l5With.l0
  exact qL
  }
  {
  intro y0 y1 y2 y3 y4 y5 y6 y7
  unfold spec_l5With.j1
  exact qL
  }
theorem spec_l5With.mono : ∀ a0 a1 a2 a3 k, LeO (spec_l5With.f k a0 a1 a2 a3) (spec_l5With.f (k + 1) a0 a1 a2 a3) := by
 intro a0 a1 a2 a3 k
 obtain ⟨ih0, ih1⟩ := spec_l5With.mono_l k
 unfold spec_l5With.f
 exact qL
set_option maxHeartbeats 8000000 in
set_option maxRecDepth 100000 in
theorem spec_l5With.calls (k : Nat) (A0 : Option Addr) (c0 : Nat) (l0 : List (S72)) (a1_0 : Int) (a1_1 : Int) (a1_2 : Int) (r : List (S72)) (w : World) (hr0 : Kd.C k72 w A0 l0.length l0) (hc0 : l0.length ≤ c0) (h : spec_l5With.f k l0 a1_0 a1_1 a1_2 = some r) :
  Calls Try.prog 95 #[.slice A0 l0.length c0, .agg #[.int .i64 a1_0, .int .i64 a1_1, .int .i64 a1_2]] w fun e w' => ∃ v0_ : Value, e = .returned (v0_) ∧ Kd.R k72 72 w' w.heap.size (fun _ => True) v0_ r ∧ Below w.heap.size w w' := by
 have hu72 := Try.underlying72
 have HR0 := aM hr0
 have HC0 := aM hc0
 clear hr0 hc0
 have HB := aM (Below.refl w.heap.size w)
 have H : (spec_l5With.l0 k l0 (([] : List (S72))) (a1_1 == 0) 0 a1_0 a1_1 a1_2) = some r := h
 clear h
 obtain ⟨y443, hy443⟩ : ∃ y_ : List (S72), y_ = (([] : List (S72))) := ⟨_, rfl⟩
 replace H : (spec_l5With.l0 k l0 y443 (a1_1 == 0) 0 a1_0 a1_1 a1_2) = some r := by first | (rw [hy443]; with_reducible exact H) | (have H2_ := (Option.bind_some _ _).symm.trans H; rw [hy443]; with_reducible exact H2_) | (have H2_ := (Option.bind_some _ _).symm.trans H; with_reducible exact H2_) | with_reducible exact H | (rw [hy443]; exact H) | exact H
 have Ny443 := aM hy443
 clear hy443
 have H' := aM H
 clear H
 go_enter Try.func95, Try.ntmps95
 go_wp2_with (first | ((with_reducible refine gate_dst (N := 3) rfl ?_); refine bx_ 3 #[.int .i64 a1_0, .int .i64 a1_1, .int .i64 a1_2] 72 ?_; intro gb442 hg w3 hbox hb; have BK442 := aM (hbox); have GW442 := aM (bz_ w hg qz1); have GE442 := GW442; replace HB := bS_ hb; clear hb hbox hg) | ((with_reducible refine gate_dst (N := 8) rfl ?_); refine Kd.R_lit k72 _ 72 ?hg (N := 8) ?hd (xs := ([] : List (S72))) (inner := []) (ok := fun _ => True) (okp := fun _ => True) ?hr ?hp (fun _ hk => hk) trivial (Below.refl _ _) (Nat.le_refl _) (by simp) ?_; (case hd => rfl); (case hg => rfl); (case hr => exact qz23); (case hp => exact (Reps.none _ _)); intro v444 w4 ho5 hb hg_ hnew_; clear hg_ hnew_; (first | rw [← Ny443.out] at ho5 | (simp only [Int.reduceToNat] at ho5; rw [← Ny443.out] at ho5)); have HO445 := aM (Kd.R_lower (Kd.R_newB ho5 (bk_ BK442.out)) (below_size qz1)); replace BK442 := bB_ BK442 hb; replace HB := bS_ hb; clear hb ho5; obtain ⟨hcz6_0, hcz6_1, hcz6_2, hfz6_0, hfz6_1, hfz6_2⟩ := b6_ BK442.out))
 repeat (go_quiet (first | ((with_reducible refine gate_dst (N := 3) rfl ?_); refine bx_ 3 #[.int .i64 a1_0, .int .i64 a1_1, .int .i64 a1_2] 72 ?_; intro gb442 hg w3 hbox hb; have BK442 := aM (hbox); have GW442 := aM (bz_ w hg qz1); have GE442 := GW442; replace HB := bS_ hb; clear hb hbox hg) | ((with_reducible refine gate_dst (N := 8) rfl ?_); refine Kd.R_lit k72 _ 72 ?hg (N := 8) ?hd (xs := ([] : List (S72))) (inner := []) (ok := fun _ => True) (okp := fun _ => True) ?hr ?hp (fun _ hk => hk) trivial (Below.refl _ _) (Nat.le_refl _) (by simp) ?_; (case hd => rfl); (case hg => rfl); (case hr => exact qz23); (case hp => exact (Reps.none _ _)); intro v444 w4 ho5 hb hg_ hnew_; clear hg_ hnew_; (first | rw [← Ny443.out] at ho5 | (simp only [Int.reduceToNat] at ho5; rw [← Ny443.out] at ho5)); have HO445 := aM (Kd.R_lower (Kd.R_newB ho5 (bk_ BK442.out)) (below_size qz1)); replace BK442 := bB_ BK442 hb; replace HB := bS_ hb; clear hb ho5; obtain ⟨hcz6_0, hcz6_1, hcz6_2, hfz6_0, hfz6_1, hfz6_2⟩ := b6_ BK442.out)); try go_wp2_with (first | ((with_reducible refine gate_dst (N := 3) rfl ?_); refine bx_ 3 #[.int .i64 a1_0, .int .i64 a1_1, .int .i64 a1_2] 72 ?_; intro gb442 hg w3 hbox hb; have BK442 := aM (hbox); have GW442 := aM (bz_ w hg qz1); have GE442 := GW442; replace HB := bS_ hb; clear hb hbox hg) | ((with_reducible refine gate_dst (N := 8) rfl ?_); refine Kd.R_lit k72 _ 72 ?hg (N := 8) ?hd (xs := ([] : List (S72))) (inner := []) (ok := fun _ => True) (okp := fun _ => True) ?hr ?hp (fun _ hk => hk) trivial (Below.refl _ _) (Nat.le_refl _) (by simp) ?_; (case hd => rfl); (case hg => rfl); (case hr => exact qz23); (case hp => exact (Reps.none _ _)); intro v444 w4 ho5 hb hg_ hnew_; clear hg_ hnew_; (first | rw [← Ny443.out] at ho5 | (simp only [Int.reduceToNat] at ho5; rw [← Ny443.out] at ho5)); have HO445 := aM (Kd.R_lower (Kd.R_newB ho5 (bk_ BK442.out)) (below_size qz1)); replace BK442 := bB_ BK442 hb; replace HB := bS_ hb; clear hb ho5; obtain ⟨hcz6_0, hcz6_1, hcz6_2, hfz6_0, hfz6_1, hfz6_2⟩ := b6_ BK442.out)))
 go_loopg [5, 6, 7] k (fun kq v5 v6 v7 w' => ∃ (x5_1 : List (S72)) (x6_1 : Bool) (x7_1 : Int), v6 = .bool x6_1 ∧ v7 = .int .i64 x7_1 ∧ Aside0 (spec_l5With.l0 kq l0 x5_1 x6_1 x7_1 a1_0 a1_1 a1_2 = some r) ∧ Aside0 (kq ≤ k) ∧ Aside0 (Kd.R k72 72 w' w.heap.size (fun k_ => k_ ≠ gb442) v5 x5_1) ∧ Aside0 (w'.heap[gb442]? = some (.cells #[.int .i64 a1_0, .int .i64 a1_1, .int .i64 a1_2] 72 (0, 0))) ∧ Aside0 (Below w.heap.size w w'))
 case atStart => exact ⟨(y443), ((a1_1 == 0)), (0), qz5, qz5, H', ⟨Nat.le_refl _⟩, ⟨by (with_reducible repeat (first | apply Kd.R_alloc | apply Kd.R_drewN | apply Kd.R_drew)); exact Kd.R_mono HO445.out (fun _ hk => hk.2)⟩, ⟨bk_ BK442.out⟩, ⟨qz1⟩⟩
 case round =>
  clear H'
  try clear p2
  try clear hcz6_0 hcz6_1 hcz6_2 hfz6_0 hfz6_1 hfz6_2
  obtain ⟨x5_1, x6_1, x7_1, rfl, rfl, HA, HK1, HO_5, BK442, HB⟩ := hrel
  cases gk with
  | zero => exact absurd HA.out (by simp [spec_l5With.l0])
  | succ k1 =>
   have H := HA.out
   clear HA
   simp only [spec_l5With.l0] at H
   by_cases c7 : x7_1 < (l0.length : Int)
   {
   rw [if_pos c7] at H
   have c7b0 := decide_eq_true c7
   clear c7
   have HC8 := aM H
   clear H
   go_upto_region 6 with (fail)
   repeat (go_quiet (fail); go_upto_region 6 with (fail))
   go_cut [29] (fun v29 wc => ∃ (kq : Nat) (x29_7 : Bool), v29 = .bool x29_7 ∧ Aside0 (spec_l5With.j1 kq l0 x5_1 x6_1 x7_1 x29_7 a1_0 a1_1 a1_2 = some r) ∧ Aside0 (kq ≤ k1) ∧ Aside0 (Kd.R k72 72 wc w.heap.size (fun k_ => k_ ≠ gb442) u5 x5_1) ∧ Aside0 (wc.heap[gb442]? = some (.cells #[.int .i64 a1_0, .int .i64 a1_1, .int .i64 a1_2] 72 (0, 0))) ∧ Aside0 (Below w.heap.size w wc))
   case first =>
    have H := HC8.out
    clear HC8
    by_cases c9 : x6_1 = true
    {
    subst c9
    rw [if_pos rfl] at H
    have H' := aM H
    clear H
    go_wp2
    repeat (go_quiet (fail); try go_wp2)
    go_meet
    case rel => exact ⟨_, (false), qz5, H', ⟨by have := HK1.out; first | omega | exact Nat.le_refl _⟩, ⟨rm_ HO_5.out⟩, ⟨bk_ BK442.out⟩, ⟨qz1⟩⟩
    }
    {
    replace c9 := Bool.eq_false_iff.mpr c9
    subst c9
    rw [if_neg (show ¬ (false = true) by decide)] at H
    by_cases c10 : 0 ≤ x7_1
    {
    rw [if_pos c10] at H
    have c10b0 := decide_eq_true c10
    clear c10
    (first | rw [c10b0] | (simp only [i64_w, i32_w]; rw [c10b0]) | rw [@decide_eq_true _ _ (of_decide_eq_true c10b0)] | rw [@decide_eq_true _ _ (of_decide_eq_true c10b1)] | skip)
    have H' := aM H
    clear H
    have p449 : 0 ≤ (x7_1 : Int) := dt_
    have q449 : x7_1 < (l0.length : Int) := dt_
    obtain ⟨ad449, e449, hx449_0, hx449_1, hx449_2⟩ := at_T72 HR0.out x7_1 p449 q449
    cases e449
    replace hx449_0 := cB_ hx449_0
    replace hx449_1 := cB_ hx449_1
    replace hx449_2 := cB_ hx449_2
    replace p449 := eq_true p449
    replace q449 := eq_true q449
    obtain ⟨hcz11_0, hcz11_1, hcz11_2, hfz11_0, hfz11_1, hfz11_2⟩ := b6_ BK442.out
    go_wp2
    repeat (go_quiet (fail); try go_wp2)
    go_meet
    case rel => exact ⟨_, (decide (((rd_T72 l0 x7_1).f0) ≥ a1_0)), qz5, H', ⟨by have := HK1.out; first | omega | exact Nat.le_refl _⟩, ⟨rm_ HO_5.out⟩, ⟨bk_ BK442.out⟩, ⟨qz1⟩⟩
    }
    {
    exact an_ c10 H
    }
    }
   case rest =>
    clear HC8
    try clear c1
    try clear p2
    try clear p4
    try clear q4
    try clear hx4
    try clear c7
    try clear c7b0
    try clear c9
    try clear c10
    try clear c10b0
    try clear c10b1
    try clear hcz11_0 hcz11_1 hcz11_2 hfz11_0 hfz11_1 hfz11_2
    try clear hcz6_0 hcz6_1 hcz6_2 hfz6_0 hfz6_1 hfz6_2
    try clear hx449_0
    try clear hx449_1
    try clear hx449_2
    try clear p449
    try clear q449
    obtain ⟨kq, x29_7, rfl, HA, HJ7, HO_5, BK442, HB⟩ := hcut
    cases kq with
    | zero => exact absurd HA.out (by simp [spec_l5With.j1])
    | succ kj7 =>
     have H := HA.out
     clear HA
     simp only [spec_l5With.j1] at H
     by_cases c12 : x29_7 = true
     {
     subst c12
     rw [if_pos rfl] at H
     by_cases c13 : x5_1.length < 5864062014805
     {
     rw [if_pos c13] at H
     have LMc13 := aM c13
     clear c13
     obtain ⟨y450, hy450⟩ : ∃ y_ : List (S72), y_ = (x5_1 ++ [(⟨a1_0, a1_1, a1_2⟩ : S72)]) := ⟨_, rfl⟩
     replace H : (if 0 ≤ x7_1 then (if x7_1 < (l0.length : Int) then (if ((rd_T72 l0 x7_1).f0) = a1_0 then (spec_l5With.l0 kj7 l0 y450 true (wrap64 (x7_1 + 1)) a1_0 a1_1 a1_2) else (if y450.length < 5864062014805 then (spec_l5With.l0 kj7 l0 (y450 ++ [(⟨(rd_T72 l0 x7_1).f0, (rd_T72 l0 x7_1).f1, (rd_T72 l0 x7_1).f2⟩ : S72)]) true (wrap64 (x7_1 + 1)) a1_0 a1_1 a1_2) else (none))) else (none)) else (none)) = some r := by first | (rw [hy450]; with_reducible exact H) | (have H2_ := (Option.bind_some _ _).symm.trans H; rw [hy450]; with_reducible exact H2_) | (have H2_ := (Option.bind_some _ _).symm.trans H; with_reducible exact H2_) | with_reducible exact H | (rw [hy450]; exact H) | exact H
     have Ny450 := aM hy450
     clear hy450
     by_cases c14 : 0 ≤ x7_1
     {
     rw [if_pos c14] at H
     have c14b0 := decide_eq_true c14
     clear c14
     by_cases c15 : x7_1 < (l0.length : Int)
     {
     rw [if_pos c15] at H
     have c15b0 := decide_eq_true c15
     clear c15
     by_cases c16 : ((rd_T72 l0 x7_1).f0) = a1_0
     {
     rw [if_pos c16] at H
     have c16b0 := beq_iff_eq.mpr c16
     have c16b1 := bne_eq_false_iff_eq.mpr c16
     clear c16
     have H' := aM H
     clear H
     obtain ⟨hcz17_0, hcz17_1, hcz17_2, hfz17_0, hfz17_1, hfz17_2⟩ := b6_ BK442.out
     go_wp2_with (first | ((with_reducible refine gate_builtin (b := .append) (xs := #[.tmp 30, .tmp 32]) rfl ?_); at_builtin; refine Kd.R_append k72 (w0 := w) w.heap.size rfl (.tmp 30) (.tmp 32) 77 72 (.agg #[(.int .i64 0), (.int .i64 0), (.int .i64 0)]) 24 rfl Try.underlying77 info72 rfl (by decide) (by omega) u5 x5_1 (⟨a1_0, a1_1, a1_2⟩ : S72) [.int .i64 a1_0, .int .i64 a1_1, .int .i64 a1_2] (fun k_ => k_ ≠ gb442) (fun _ => False) rfl rfl ?aP (fun _ hk => hk.elim) ?aF ?aO ?aB ?aS ?aL ?_; (case aP => exact qz42); (case aB => exact qz1); (case aF => exact qz25); (case aO => exact (rr_ HO_5.out)); (case aS => exact qz46); (case aL => have := LMc13.out; omega); intro v451 w18 ho hb hg hat; rw [← Ny450.out] at ho; replace BK442 := aM (blk_grown (bk_ BK442.out) hg (Kd.R_away HO_5.out (fun _ hk => hk))); replace HB := aM (hb); have HO452 := aM (ho); clear HO_5; clear ho hb hg hat; have p453 : 0 ≤ (x7_1 : Int) := dt_; have q453 : x7_1 < (l0.length : Int) := dt_; obtain ⟨ad453, e453, hx453_0, hx453_1, hx453_2⟩ := at_T72 HR0.out x7_1 p453 q453; cases e453; replace hx453_0 := cB_ hx453_0; replace hx453_1 := cB_ hx453_1; replace hx453_2 := cB_ hx453_2; replace p453 := eq_true p453; replace q453 := eq_true q453; obtain ⟨hcz19_0, hcz19_1, hcz19_2, hfz19_0, hfz19_1, hfz19_2⟩ := b6_ BK442.out))
     repeat (go_quiet (first | ((with_reducible refine gate_builtin (b := .append) (xs := #[.tmp 30, .tmp 32]) rfl ?_); at_builtin; refine Kd.R_append k72 (w0 := w) w.heap.size rfl (.tmp 30) (.tmp 32) 77 72 (.agg #[(.int .i64 0), (.int .i64 0), (.int .i64 0)]) 24 rfl Try.underlying77 info72 rfl (by decide) (by omega) u5 x5_1 (⟨a1_0, a1_1, a1_2⟩ : S72) [.int .i64 a1_0, .int .i64 a1_1, .int .i64 a1_2] (fun k_ => k_ ≠ gb442) (fun _ => False) rfl rfl ?aP (fun _ hk => hk.elim) ?aF ?aO ?aB ?aS ?aL ?_; (case aP => exact qz42); (case aB => exact qz1); (case aF => exact qz25); (case aO => exact (rr_ HO_5.out)); (case aS => exact qz46); (case aL => have := LMc13.out; omega); intro v451 w18 ho hb hg hat; rw [← Ny450.out] at ho; replace BK442 := aM (blk_grown (bk_ BK442.out) hg (Kd.R_away HO_5.out (fun _ hk => hk))); replace HB := aM (hb); have HO452 := aM (ho); clear HO_5; clear ho hb hg hat; have p453 : 0 ≤ (x7_1 : Int) := dt_; have q453 : x7_1 < (l0.length : Int) := dt_; obtain ⟨ad453, e453, hx453_0, hx453_1, hx453_2⟩ := at_T72 HR0.out x7_1 p453 q453; cases e453; replace hx453_0 := cB_ hx453_0; replace hx453_1 := cB_ hx453_1; replace hx453_2 := cB_ hx453_2; replace p453 := eq_true p453; replace q453 := eq_true q453; obtain ⟨hcz19_0, hcz19_1, hcz19_2, hfz19_0, hfz19_1, hfz19_2⟩ := b6_ BK442.out)); try go_wp2_with (first | ((with_reducible refine gate_builtin (b := .append) (xs := #[.tmp 30, .tmp 32]) rfl ?_); at_builtin; refine Kd.R_append k72 (w0 := w) w.heap.size rfl (.tmp 30) (.tmp 32) 77 72 (.agg #[(.int .i64 0), (.int .i64 0), (.int .i64 0)]) 24 rfl Try.underlying77 info72 rfl (by decide) (by omega) u5 x5_1 (⟨a1_0, a1_1, a1_2⟩ : S72) [.int .i64 a1_0, .int .i64 a1_1, .int .i64 a1_2] (fun k_ => k_ ≠ gb442) (fun _ => False) rfl rfl ?aP (fun _ hk => hk.elim) ?aF ?aO ?aB ?aS ?aL ?_; (case aP => exact qz42); (case aB => exact qz1); (case aF => exact qz25); (case aO => exact (rr_ HO_5.out)); (case aS => exact qz46); (case aL => have := LMc13.out; omega); intro v451 w18 ho hb hg hat; rw [← Ny450.out] at ho; replace BK442 := aM (blk_grown (bk_ BK442.out) hg (Kd.R_away HO_5.out (fun _ hk => hk))); replace HB := aM (hb); have HO452 := aM (ho); clear HO_5; clear ho hb hg hat; have p453 : 0 ≤ (x7_1 : Int) := dt_; have q453 : x7_1 < (l0.length : Int) := dt_; obtain ⟨ad453, e453, hx453_0, hx453_1, hx453_2⟩ := at_T72 HR0.out x7_1 p453 q453; cases e453; replace hx453_0 := cB_ hx453_0; replace hx453_1 := cB_ hx453_1; replace hx453_2 := cB_ hx453_2; replace p453 := eq_true p453; replace q453 := eq_true q453; obtain ⟨hcz19_0, hcz19_1, hcz19_2, hfz19_0, hfz19_1, hfz19_2⟩ := b6_ BK442.out)))
     go_roundg kj7
     case measure => have := HK1.out; have := HJ7.out; omega
     case rel => exact ⟨(y450), (true), (wrap64 (x7_1 + 1)), qz5, qz5, H', ⟨by have := HK1.out; have := HJ7.out; omega⟩, ⟨rm_ HO452.out⟩, ⟨bk_ BK442.out⟩, ⟨qz1⟩⟩
     }
     {
     rw [if_neg c16] at H
     have c16b0 := beq_eq_false_iff_ne.mpr c16
     have c16b1 := bne_iff_ne.mpr c16
     by_cases c20 : y450.length < 5864062014805
     {
     rw [if_pos c20] at H
     have LMc20 := aM c20
     clear c20
     obtain ⟨y455, hy455⟩ : ∃ y_ : List (S72), y_ = (y450 ++ [(⟨(rd_T72 l0 x7_1).f0, (rd_T72 l0 x7_1).f1, (rd_T72 l0 x7_1).f2⟩ : S72)]) := ⟨_, rfl⟩
     replace H : (spec_l5With.l0 kj7 l0 y455 true (wrap64 (x7_1 + 1)) a1_0 a1_1 a1_2) = some r := by first | (rw [hy455]; with_reducible exact H) | (have H2_ := (Option.bind_some _ _).symm.trans H; rw [hy455]; with_reducible exact H2_) | (have H2_ := (Option.bind_some _ _).symm.trans H; with_reducible exact H2_) | with_reducible exact H | (rw [hy455]; exact H) | exact H
     have Ny455 := aM hy455
     clear hy455
     have H' := aM H
     clear H
     obtain ⟨hcz21_0, hcz21_1, hcz21_2, hfz21_0, hfz21_1, hfz21_2⟩ := b6_ BK442.out
     go_wp2_with (first | ((with_reducible refine gate_builtin (b := .append) (xs := #[.tmp 30, .tmp 32]) rfl ?_); at_builtin; refine Kd.R_append k72 (w0 := w) w.heap.size rfl (.tmp 30) (.tmp 32) 77 72 (.agg #[(.int .i64 0), (.int .i64 0), (.int .i64 0)]) 24 rfl Try.underlying77 info72 rfl (by decide) (by omega) u5 x5_1 (⟨a1_0, a1_1, a1_2⟩ : S72) [.int .i64 a1_0, .int .i64 a1_1, .int .i64 a1_2] (fun k_ => k_ ≠ gb442) (fun _ => False) rfl rfl ?aP (fun _ hk => hk.elim) ?aF ?aO ?aB ?aS ?aL ?_; (case aP => exact qz42); (case aB => exact qz1); (case aF => exact qz25); (case aO => exact (rr_ HO_5.out)); (case aS => exact qz46); (case aL => have := LMc13.out; omega); intro v451 w22 ho hb hg hat; rw [← Ny450.out] at ho; replace BK442 := aM (blk_grown (bk_ BK442.out) hg (Kd.R_away HO_5.out (fun _ hk => hk))); replace HB := aM (hb); have HO452 := aM (ho); clear HO_5; clear ho hb hg hat; have p453 : 0 ≤ (x7_1 : Int) := dt_; have q453 : x7_1 < (l0.length : Int) := dt_; obtain ⟨ad453, e453, hx453_0, hx453_1, hx453_2⟩ := at_T72 HR0.out x7_1 p453 q453; cases e453; replace hx453_0 := cB_ hx453_0; replace hx453_1 := cB_ hx453_1; replace hx453_2 := cB_ hx453_2; replace p453 := eq_true p453; replace q453 := eq_true q453; obtain ⟨hcz23_0, hcz23_1, hcz23_2, hfz23_0, hfz23_1, hfz23_2⟩ := b6_ BK442.out; have p454 : 0 ≤ (x7_1 : Int) := dt_; have q454 : x7_1 < (l0.length : Int) := dt_; obtain ⟨ad454, e454, hx454_0, hx454_1, hx454_2⟩ := at_T72 HR0.out x7_1 p454 q454; obtain rfl : ad453 = ad454 := (by injection e454); replace hx454_0 := cB_ hx454_0; replace hx454_1 := cB_ hx454_1; replace hx454_2 := cB_ hx454_2; replace p454 := eq_true p454; replace q454 := eq_true q454) | ((with_reducible refine gate_builtin (b := .append) (xs := #[.tmp 42, .tmp 47]) rfl ?_); at_builtin; refine Kd.R_append k72 (w0 := w) w.heap.size rfl (.tmp 42) (.tmp 47) 77 72 (.agg #[(.int .i64 0), (.int .i64 0), (.int .i64 0)]) 24 rfl Try.underlying77 info72 rfl (by decide) (by omega) v451 y450 (⟨(rd_T72 l0 x7_1).f0, (rd_T72 l0 x7_1).f1, (rd_T72 l0 x7_1).f2⟩ : S72) [.int .i64 ((rd_T72 l0 x7_1).f0), .int .i64 ((rd_T72 l0 x7_1).f1), .int .i64 ((rd_T72 l0 x7_1).f2)] (fun k_ => k_ ≠ gb442) (fun _ => False) rfl rfl ?aP (fun _ hk => hk.elim) ?aF ?aO ?aB ?aS ?aL ?_; (case aP => exact qz33); (case aB => exact qz1); (case aF => exact qz25); (case aO => exact (rr_ HO452.out)); (case aS => exact qz46); (case aL => have := LMc20.out; omega); intro v456 w24 ho hb hg hat; rw [← Ny455.out] at ho; replace BK442 := aM (blk_grown (bk_ BK442.out) hg (Kd.R_away HO452.out (fun _ hk => hk))); replace HB := aM (hb); have HO457 := aM (ho); clear HO452; clear ho hb hg hat))
     repeat (go_quiet (first | ((with_reducible refine gate_builtin (b := .append) (xs := #[.tmp 30, .tmp 32]) rfl ?_); at_builtin; refine Kd.R_append k72 (w0 := w) w.heap.size rfl (.tmp 30) (.tmp 32) 77 72 (.agg #[(.int .i64 0), (.int .i64 0), (.int .i64 0)]) 24 rfl Try.underlying77 info72 rfl (by decide) (by omega) u5 x5_1 (⟨a1_0, a1_1, a1_2⟩ : S72) [.int .i64 a1_0, .int .i64 a1_1, .int .i64 a1_2] (fun k_ => k_ ≠ gb442) (fun _ => False) rfl rfl ?aP (fun _ hk => hk.elim) ?aF ?aO ?aB ?aS ?aL ?_; (case aP => exact qz42); (case aB => exact qz1); (case aF => exact qz25); (case aO => exact (rr_ HO_5.out)); (case aS => exact qz46); (case aL => have := LMc13.out; omega); intro v451 w22 ho hb hg hat; rw [← Ny450.out] at ho; replace BK442 := aM (blk_grown (bk_ BK442.out) hg (Kd.R_away HO_5.out (fun _ hk => hk))); replace HB := aM (hb); have HO452 := aM (ho); clear HO_5; clear ho hb hg hat; have p453 : 0 ≤ (x7_1 : Int) := dt_; have q453 : x7_1 < (l0.length : Int) := dt_; obtain ⟨ad453, e453, hx453_0, hx453_1, hx453_2⟩ := at_T72 HR0.out x7_1 p453 q453; cases e453; replace hx453_0 := cB_ hx453_0; replace hx453_1 := cB_ hx453_1; replace hx453_2 := cB_ hx453_2; replace p453 := eq_true p453; replace q453 := eq_true q453; obtain ⟨hcz23_0, hcz23_1, hcz23_2, hfz23_0, hfz23_1, hfz23_2⟩ := b6_ BK442.out; have p454 : 0 ≤ (x7_1 : Int) := dt_; have q454 : x7_1 < (l0.length : Int) := dt_; obtain ⟨ad454, e454, hx454_0, hx454_1, hx454_2⟩ := at_T72 HR0.out x7_1 p454 q454; obtain rfl : ad453 = ad454 := (by injection e454); replace hx454_0 := cB_ hx454_0; replace hx454_1 := cB_ hx454_1; replace hx454_2 := cB_ hx454_2; replace p454 := eq_true p454; replace q454 := eq_true q454) | ((with_reducible refine gate_builtin (b := .append) (xs := #[.tmp 42, .tmp 47]) rfl ?_); at_builtin; refine Kd.R_append k72 (w0 := w) w.heap.size rfl (.tmp 42) (.tmp 47) 77 72 (.agg #[(.int .i64 0), (.int .i64 0), (.int .i64 0)]) 24 rfl Try.underlying77 info72 rfl (by decide) (by omega) v451 y450 (⟨(rd_T72 l0 x7_1).f0, (rd_T72 l0 x7_1).f1, (rd_T72 l0 x7_1).f2⟩ : S72) [.int .i64 ((rd_T72 l0 x7_1).f0), .int .i64 ((rd_T72 l0 x7_1).f1), .int .i64 ((rd_T72 l0 x7_1).f2)] (fun k_ => k_ ≠ gb442) (fun _ => False) rfl rfl ?aP (fun _ hk => hk.elim) ?aF ?aO ?aB ?aS ?aL ?_; (case aP => exact qz33); (case aB => exact qz1); (case aF => exact qz25); (case aO => exact (rr_ HO452.out)); (case aS => exact qz46); (case aL => have := LMc20.out; omega); intro v456 w24 ho hb hg hat; rw [← Ny455.out] at ho; replace BK442 := aM (blk_grown (bk_ BK442.out) hg (Kd.R_away HO452.out (fun _ hk => hk))); replace HB := aM (hb); have HO457 := aM (ho); clear HO452; clear ho hb hg hat)); try go_wp2_with (first | ((with_reducible refine gate_builtin (b := .append) (xs := #[.tmp 30, .tmp 32]) rfl ?_); at_builtin; refine Kd.R_append k72 (w0 := w) w.heap.size rfl (.tmp 30) (.tmp 32) 77 72 (.agg #[(.int .i64 0), (.int .i64 0), (.int .i64 0)]) 24 rfl Try.underlying77 info72 rfl (by decide) (by omega) u5 x5_1 (⟨a1_0, a1_1, a1_2⟩ : S72) [.int .i64 a1_0, .int .i64 a1_1, .int .i64 a1_2] (fun k_ => k_ ≠ gb442) (fun _ => False) rfl rfl ?aP (fun _ hk => hk.elim) ?aF ?aO ?aB ?aS ?aL ?_; (case aP => exact qz42); (case aB => exact qz1); (case aF => exact qz25); (case aO => exact (rr_ HO_5.out)); (case aS => exact qz46); (case aL => have := LMc13.out; omega); intro v451 w22 ho hb hg hat; rw [← Ny450.out] at ho; replace BK442 := aM (blk_grown (bk_ BK442.out) hg (Kd.R_away HO_5.out (fun _ hk => hk))); replace HB := aM (hb); have HO452 := aM (ho); clear HO_5; clear ho hb hg hat; have p453 : 0 ≤ (x7_1 : Int) := dt_; have q453 : x7_1 < (l0.length : Int) := dt_; obtain ⟨ad453, e453, hx453_0, hx453_1, hx453_2⟩ := at_T72 HR0.out x7_1 p453 q453; cases e453; replace hx453_0 := cB_ hx453_0; replace hx453_1 := cB_ hx453_1; replace hx453_2 := cB_ hx453_2; replace p453 := eq_true p453; replace q453 := eq_true q453; obtain ⟨hcz23_0, hcz23_1, hcz23_2, hfz23_0, hfz23_1, hfz23_2⟩ := b6_ BK442.out; have p454 : 0 ≤ (x7_1 : Int) := dt_; have q454 : x7_1 < (l0.length : Int) := dt_; obtain ⟨ad454, e454, hx454_0, hx454_1, hx454_2⟩ := at_T72 HR0.out x7_1 p454 q454; obtain rfl : ad453 = ad454 := (by injection e454); replace hx454_0 := cB_ hx454_0; replace hx454_1 := cB_ hx454_1; replace hx454_2 := cB_ hx454_2; replace p454 := eq_true p454; replace q454 := eq_true q454) | ((with_reducible refine gate_builtin (b := .append) (xs := #[.tmp 42, .tmp 47]) rfl ?_); at_builtin; refine Kd.R_append k72 (w0 := w) w.heap.size rfl (.tmp 42) (.tmp 47) 77 72 (.agg #[(.int .i64 0), (.int .i64 0), (.int .i64 0)]) 24 rfl Try.underlying77 info72 rfl (by decide) (by omega) v451 y450 (⟨(rd_T72 l0 x7_1).f0, (rd_T72 l0 x7_1).f1, (rd_T72 l0 x7_1).f2⟩ : S72) [.int .i64 ((rd_T72 l0 x7_1).f0), .int .i64 ((rd_T72 l0 x7_1).f1), .int .i64 ((rd_T72 l0 x7_1).f2)] (fun k_ => k_ ≠ gb442) (fun _ => False) rfl rfl ?aP (fun _ hk => hk.elim) ?aF ?aO ?aB ?aS ?aL ?_; (case aP => exact qz33); (case aB => exact qz1); (case aF => exact qz25); (case aO => exact (rr_ HO452.out)); (case aS => exact qz46); (case aL => have := LMc20.out; omega); intro v456 w24 ho hb hg hat; rw [← Ny455.out] at ho; replace BK442 := aM (blk_grown (bk_ BK442.out) hg (Kd.R_away HO452.out (fun _ hk => hk))); replace HB := aM (hb); have HO457 := aM (ho); clear HO452; clear ho hb hg hat)))
     go_roundg kj7
     case measure => have := HK1.out; have := HJ7.out; omega
     case rel => exact ⟨(y455), (true), (wrap64 (x7_1 + 1)), qz5, qz5, H', ⟨by have := HK1.out; have := HJ7.out; omega⟩, ⟨rm_ HO457.out⟩, ⟨bk_ BK442.out⟩, ⟨qz1⟩⟩
     }
     {
     exact an_ c20 H
     }
     }
     }
     {
     exact an_ c15 H
     }
     }
     {
     exact an_ c14 H
     }
     }
     {
     exact an_ c13 H
     }
     }
     {
     replace c12 := Bool.eq_false_iff.mpr c12
     subst c12
     rw [if_neg (show ¬ (false = true) by decide)] at H
     by_cases c25 : 0 ≤ x7_1
     {
     rw [if_pos c25] at H
     have c25b0 := decide_eq_true c25
     clear c25
     by_cases c26 : x7_1 < (l0.length : Int)
     {
     rw [if_pos c26] at H
     have c26b0 := decide_eq_true c26
     clear c26
     by_cases c27 : ((rd_T72 l0 x7_1).f0) = a1_0
     {
     rw [if_pos c27] at H
     have c27b0 := beq_iff_eq.mpr c27
     have c27b1 := bne_eq_false_iff_eq.mpr c27
     clear c27
     have H' := aM H
     clear H
     have p458 : 0 ≤ (x7_1 : Int) := dt_
     have q458 : x7_1 < (l0.length : Int) := dt_
     obtain ⟨ad458, e458, hx458_0, hx458_1, hx458_2⟩ := at_T72 HR0.out x7_1 p458 q458
     cases e458
     replace hx458_0 := cB_ hx458_0
     replace hx458_1 := cB_ hx458_1
     replace hx458_2 := cB_ hx458_2
     replace p458 := eq_true p458
     replace q458 := eq_true q458
     obtain ⟨hcz28_0, hcz28_1, hcz28_2, hfz28_0, hfz28_1, hfz28_2⟩ := b6_ BK442.out
     go_wp2
     repeat (go_quiet (fail); try go_wp2)
     go_roundg kj7
     case measure => have := HK1.out; have := HJ7.out; omega
     case rel => exact ⟨(x5_1), (x6_1), (wrap64 (x7_1 + 1)), qz5, qz5, H', ⟨by have := HK1.out; have := HJ7.out; omega⟩, ⟨rm_ HO_5.out⟩, ⟨bk_ BK442.out⟩, ⟨qz1⟩⟩
     }
     {
     rw [if_neg c27] at H
     have c27b0 := beq_eq_false_iff_ne.mpr c27
     have c27b1 := bne_iff_ne.mpr c27
     by_cases c29 : x5_1.length < 5864062014805
     {
     rw [if_pos c29] at H
     have LMc29 := aM c29
     clear c29
     obtain ⟨y460, hy460⟩ : ∃ y_ : List (S72), y_ = (x5_1 ++ [(⟨(rd_T72 l0 x7_1).f0, (rd_T72 l0 x7_1).f1, (rd_T72 l0 x7_1).f2⟩ : S72)]) := ⟨_, rfl⟩
     replace H : (spec_l5With.l0 kj7 l0 y460 x6_1 (wrap64 (x7_1 + 1)) a1_0 a1_1 a1_2) = some r := by first | (rw [hy460]; with_reducible exact H) | (have H2_ := (Option.bind_some _ _).symm.trans H; rw [hy460]; with_reducible exact H2_) | (have H2_ := (Option.bind_some _ _).symm.trans H; with_reducible exact H2_) | with_reducible exact H | (rw [hy460]; exact H) | exact H
     have Ny460 := aM hy460
     clear hy460
     have H' := aM H
     clear H
     have p458 : 0 ≤ (x7_1 : Int) := dt_
     have q458 : x7_1 < (l0.length : Int) := dt_
     obtain ⟨ad458, e458, hx458_0, hx458_1, hx458_2⟩ := at_T72 HR0.out x7_1 p458 q458
     cases e458
     replace hx458_0 := cB_ hx458_0
     replace hx458_1 := cB_ hx458_1
     replace hx458_2 := cB_ hx458_2
     replace p458 := eq_true p458
     replace q458 := eq_true q458
     obtain ⟨hcz30_0, hcz30_1, hcz30_2, hfz30_0, hfz30_1, hfz30_2⟩ := b6_ BK442.out
     have p459 : 0 ≤ (x7_1 : Int) := dt_
     have q459 : x7_1 < (l0.length : Int) := dt_
     obtain ⟨ad459, e459, hx459_0, hx459_1, hx459_2⟩ := at_T72 HR0.out x7_1 p459 q459
     obtain rfl : ad458 = ad459 := (by injection e459)
     replace hx459_0 := cB_ hx459_0
     replace hx459_1 := cB_ hx459_1
     replace hx459_2 := cB_ hx459_2
     replace p459 := eq_true p459
     replace q459 := eq_true q459
     go_wp2_with (first | ((with_reducible refine gate_builtin (b := .append) (xs := #[.tmp 42, .tmp 47]) rfl ?_); at_builtin; refine Kd.R_append k72 (w0 := w) w.heap.size rfl (.tmp 42) (.tmp 47) 77 72 (.agg #[(.int .i64 0), (.int .i64 0), (.int .i64 0)]) 24 rfl Try.underlying77 info72 rfl (by decide) (by omega) u5 x5_1 (⟨(rd_T72 l0 x7_1).f0, (rd_T72 l0 x7_1).f1, (rd_T72 l0 x7_1).f2⟩ : S72) [.int .i64 ((rd_T72 l0 x7_1).f0), .int .i64 ((rd_T72 l0 x7_1).f1), .int .i64 ((rd_T72 l0 x7_1).f2)] (fun k_ => k_ ≠ gb442) (fun _ => False) rfl rfl ?aP (fun _ hk => hk.elim) ?aF ?aO ?aB ?aS ?aL ?_; (case aP => exact qz33); (case aB => exact qz1); (case aF => exact qz25); (case aO => exact (rr_ HO_5.out)); (case aS => exact qz46); (case aL => have := LMc29.out; omega); intro v461 w31 ho hb hg hat; rw [← Ny460.out] at ho; replace BK442 := aM (blk_grown (bk_ BK442.out) hg (Kd.R_away HO_5.out (fun _ hk => hk))); replace HB := aM (hb); have HO462 := aM (ho); clear HO_5; clear ho hb hg hat))
     repeat (go_quiet (first | ((with_reducible refine gate_builtin (b := .append) (xs := #[.tmp 42, .tmp 47]) rfl ?_); at_builtin; refine Kd.R_append k72 (w0 := w) w.heap.size rfl (.tmp 42) (.tmp 47) 77 72 (.agg #[(.int .i64 0), (.int .i64 0), (.int .i64 0)]) 24 rfl Try.underlying77 info72 rfl (by decide) (by omega) u5 x5_1 (⟨(rd_T72 l0 x7_1).f0, (rd_T72 l0 x7_1).f1, (rd_T72 l0 x7_1).f2⟩ : S72) [.int .i64 ((rd_T72 l0 x7_1).f0), .int .i64 ((rd_T72 l0 x7_1).f1), .int .i64 ((rd_T72 l0 x7_1).f2)] (fun k_ => k_ ≠ gb442) (fun _ => False) rfl rfl ?aP (fun _ hk => hk.elim) ?aF ?aO ?aB ?aS ?aL ?_; (case aP => exact qz33); (case aB => exact qz1); (case aF => exact qz25); (case aO => exact (rr_ HO_5.out)); (case aS => exact qz46); (case aL => have := LMc29.out; omega); intro v461 w31 ho hb hg hat; rw [← Ny460.out] at ho; replace BK442 := aM (blk_grown (bk_ BK442.out) hg (Kd.R_away HO_5.out (fun _ hk => hk))); replace HB := aM (hb); have HO462 := aM (ho); clear HO_5; clear ho hb hg hat)); try go_wp2_with (first | ((with_reducible refine gate_builtin (b := .append) (xs := #[.tmp 42, .tmp 47]) rfl ?_); at_builtin; refine Kd.R_append k72 (w0 := w) w.heap.size rfl (.tmp 42) (.tmp 47) 77 72 (.agg #[(.int .i64 0), (.int .i64 0), (.int .i64 0)]) 24 rfl Try.underlying77 info72 rfl (by decide) (by omega) u5 x5_1 (⟨(rd_T72 l0 x7_1).f0, (rd_T72 l0 x7_1).f1, (rd_T72 l0 x7_1).f2⟩ : S72) [.int .i64 ((rd_T72 l0 x7_1).f0), .int .i64 ((rd_T72 l0 x7_1).f1), .int .i64 ((rd_T72 l0 x7_1).f2)] (fun k_ => k_ ≠ gb442) (fun _ => False) rfl rfl ?aP (fun _ hk => hk.elim) ?aF ?aO ?aB ?aS ?aL ?_; (case aP => exact qz33); (case aB => exact qz1); (case aF => exact qz25); (case aO => exact (rr_ HO_5.out)); (case aS => exact qz46); (case aL => have := LMc29.out; omega); intro v461 w31 ho hb hg hat; rw [← Ny460.out] at ho; replace BK442 := aM (blk_grown (bk_ BK442.out) hg (Kd.R_away HO_5.out (fun _ hk => hk))); replace HB := aM (hb); have HO462 := aM (ho); clear HO_5; clear ho hb hg hat)))
     go_roundg kj7
     case measure => have := HK1.out; have := HJ7.out; omega
     case rel => exact ⟨(y460), (x6_1), (wrap64 (x7_1 + 1)), qz5, qz5, H', ⟨by have := HK1.out; have := HJ7.out; omega⟩, ⟨rm_ HO462.out⟩, ⟨bk_ BK442.out⟩, ⟨qz1⟩⟩
     }
     {
     exact an_ c29 H
     }
     }
     }
     {
     exact an_ c26 H
     }
     }
     {
     exact an_ c25 H
     }
     }
   }
   {
   rw [if_neg c7] at H
   have c7b0 := decide_eq_false c7
   clear c7
   by_cases c32 : x6_1 = true
   {
   subst c32
   rw [if_pos rfl] at H
   obtain rfl := Option.some.inj H
   simp only [Option.some.injEq, Prod.mk.injEq] at H
   obtain ⟨rfl⟩ := H
   go_wp2
   repeat (go_quiet (fail); try go_wp2)
   go_ret
   exact ⟨_, qzw, by (with_reducible repeat (first | apply Kd.R_alloc | apply Kd.R_drewN | apply Kd.R_drew)); exact Kd.R_mono HO_5.out (fun _ hk => trivial), qz1⟩
   }
   {
   replace c32 := Bool.eq_false_iff.mpr c32
   subst c32
   rw [if_neg (show ¬ (false = true) by decide)] at H
   by_cases c33 : x5_1.length < 5864062014805
   {
   rw [if_pos c33] at H
   have LMc33 := aM c33
   clear c33
   obtain ⟨y446, hy446⟩ : ∃ y_ : List (S72), y_ = (x5_1 ++ [(⟨a1_0, a1_1, a1_2⟩ : S72)]) := ⟨_, rfl⟩
   replace H : (some y446) = some r := by first | (rw [hy446]; with_reducible exact H) | (have H2_ := (Option.bind_some _ _).symm.trans H; rw [hy446]; with_reducible exact H2_) | (have H2_ := (Option.bind_some _ _).symm.trans H; with_reducible exact H2_) | with_reducible exact H | (rw [hy446]; exact H) | exact H
   have Ny446 := aM hy446
   clear hy446
   obtain rfl := Option.some.inj H
   simp only [Option.some.injEq, Prod.mk.injEq] at H
   obtain ⟨rfl⟩ := H
   obtain ⟨hcz34_0, hcz34_1, hcz34_2, hfz34_0, hfz34_1, hfz34_2⟩ := b6_ BK442.out
   go_wp2_with (first | ((with_reducible refine gate_builtin (b := .append) (xs := #[.tmp 51, .tmp 53]) rfl ?_); at_builtin; refine Kd.R_append k72 (w0 := w) w.heap.size rfl (.tmp 51) (.tmp 53) 77 72 (.agg #[(.int .i64 0), (.int .i64 0), (.int .i64 0)]) 24 rfl Try.underlying77 info72 rfl (by decide) (by omega) u5 x5_1 (⟨a1_0, a1_1, a1_2⟩ : S72) [.int .i64 a1_0, .int .i64 a1_1, .int .i64 a1_2] (fun k_ => k_ ≠ gb442) (fun _ => False) rfl rfl ?aP (fun _ hk => hk.elim) ?aF ?aO ?aB ?aS ?aL ?_; (case aP => exact qz42); (case aB => exact qz1); (case aF => exact qz25); (case aO => exact (rr_ HO_5.out)); (case aS => exact qz46); (case aL => have := LMc33.out; omega); intro v447 w35 ho hb hg hat; rw [← Ny446.out] at ho; replace BK442 := aM (blk_grown (bk_ BK442.out) hg (Kd.R_away HO_5.out (fun _ hk => hk))); replace HB := aM (hb); have HO448 := aM (ho); clear HO_5; clear ho hb hg hat))
   repeat (go_quiet (first | ((with_reducible refine gate_builtin (b := .append) (xs := #[.tmp 51, .tmp 53]) rfl ?_); at_builtin; refine Kd.R_append k72 (w0 := w) w.heap.size rfl (.tmp 51) (.tmp 53) 77 72 (.agg #[(.int .i64 0), (.int .i64 0), (.int .i64 0)]) 24 rfl Try.underlying77 info72 rfl (by decide) (by omega) u5 x5_1 (⟨a1_0, a1_1, a1_2⟩ : S72) [.int .i64 a1_0, .int .i64 a1_1, .int .i64 a1_2] (fun k_ => k_ ≠ gb442) (fun _ => False) rfl rfl ?aP (fun _ hk => hk.elim) ?aF ?aO ?aB ?aS ?aL ?_; (case aP => exact qz42); (case aB => exact qz1); (case aF => exact qz25); (case aO => exact (rr_ HO_5.out)); (case aS => exact qz46); (case aL => have := LMc33.out; omega); intro v447 w35 ho hb hg hat; rw [← Ny446.out] at ho; replace BK442 := aM (blk_grown (bk_ BK442.out) hg (Kd.R_away HO_5.out (fun _ hk => hk))); replace HB := aM (hb); have HO448 := aM (ho); clear HO_5; clear ho hb hg hat)); try go_wp2_with (first | ((with_reducible refine gate_builtin (b := .append) (xs := #[.tmp 51, .tmp 53]) rfl ?_); at_builtin; refine Kd.R_append k72 (w0 := w) w.heap.size rfl (.tmp 51) (.tmp 53) 77 72 (.agg #[(.int .i64 0), (.int .i64 0), (.int .i64 0)]) 24 rfl Try.underlying77 info72 rfl (by decide) (by omega) u5 x5_1 (⟨a1_0, a1_1, a1_2⟩ : S72) [.int .i64 a1_0, .int .i64 a1_1, .int .i64 a1_2] (fun k_ => k_ ≠ gb442) (fun _ => False) rfl rfl ?aP (fun _ hk => hk.elim) ?aF ?aO ?aB ?aS ?aL ?_; (case aP => exact qz42); (case aB => exact qz1); (case aF => exact qz25); (case aO => exact (rr_ HO_5.out)); (case aS => exact qz46); (case aL => have := LMc33.out; omega); intro v447 w35 ho hb hg hat; rw [← Ny446.out] at ho; replace BK442 := aM (blk_grown (bk_ BK442.out) hg (Kd.R_away HO_5.out (fun _ hk => hk))); replace HB := aM (hb); have HO448 := aM (ho); clear HO_5; clear ho hb hg hat)))
   go_ret
   exact ⟨_, qzw, by (with_reducible repeat (first | apply Kd.R_alloc | apply Kd.R_drewN | apply Kd.R_drew)); exact Kd.R_mono HO448.out (fun _ hk => trivial), qz1⟩
   }
   {
   exact an_ c33 H

   }
   }
   }
/-! ### spec_l5Put: function 63 -/
def spec_l5Put.f (k : Nat) (l : List S79) (a1 : Int) (a2_0 a2_1 a2_2 : Int) : Option (List S79) := (spec_l5Copy.f k l).bind fun o => (if 0 ≤ a1 then (if a1 < (o.length : Int) then ((spec_l5With.f k (rd_T79 o a1).f2 a2_0 a2_1 a2_2).bind fun y => some (o.set a1.toNat ⟨(rd_T79 o a1).f0, (rd_T79 o a1).f1, y⟩)) else none) else none)
theorem spec_l5Put.mono : ∀ a0 a1 a2 a3 a4 k, LeO (spec_l5Put.f k a0 a1 a2 a3 a4) (spec_l5Put.f (k + 1) a0 a1 a2 a3 a4) := by
 intro a0 a1 a2 a3 a4 k
 unfold spec_l5Put.f
 have j0 := @spec_l5Copy.mono
 have j1 := @spec_l5With.mono
 exact qL
def spec_l5Put.T2 : Bool × List (List Nat × List Nat) := (true, [([], []), ([0], [0]), ([], []), ([], []), ([3], [3]), ([], []), ([4, 5], [4, 5]), ([6], [6]), ([7], [7]), ([], []), ([8, 9], [8, 9]), ([1, 2, 0, 1, 2, 3, 4, 5, 6, 7, 8, 9, 10], [1, 2]), ([11, 0, 1, 2, 3, 4, 5, 6, 7, 8, 9, 10], [11]), ([12, 10, 10, 0, 1, 2, 3, 4, 5, 6, 7, 8, 9, 10], [10, 12])])
def spec_l5Put.B2 : List Nat := [0, 1, 0, 0, 8, 0, 56, 120, 248, 0, 1016, 2047, 4095, 8191]
theorem spec_l5Put.tab2 : rtab .any (opsOf Try.f63 2) = spec_l5Put.T2 := by kernel_rfl
theorem spec_l5Put.bits2 : waitsOk spec_l5Put.T2.2 spec_l5Put.B2 = true := by kernel_rfl
set_option maxHeartbeats 8000000 in
set_option maxRecDepth 100000 in
theorem spec_l5Put.calls (k : Nat) (A0_0 : Option Addr) (c0_0 : Nat) (l0_0 : List (S79)) (a1 : Int) (a2_0 : Int) (a2_1 : Int) (a2_2 : Int) (r : List (S79)) (w : World) (hr0_0 : Kd.C k79 w A0_0 l0_0.length l0_0) (hc0_0 : l0_0.length ≤ c0_0) (h : spec_l5Put.f k l0_0 a1 a2_0 a2_1 a2_2 = some r) :
  Calls Try.prog 63 #[.agg #[.slice A0_0 l0_0.length c0_0], .int .i64 a1, .agg #[.int .i64 a2_0, .int .i64 a2_1, .int .i64 a2_2]] w fun e w' => ∃ v0_ : Value, e = .returned (.agg #[v0_]) ∧ Kd.S k79 79 w' w.heap.size (fun _ => True) v0_ r ∧ Below w.heap.size w w' := by
 have hu26 := Try.underlying26
 have hu79 := Try.underlying79
 have hu72 := Try.underlying72
 have hu24 := Try.underlying24
 have hu77 := Try.underlying77
 unfold spec_l5Put.f at h
 obtain ⟨o, ho, h⟩ := Option.bind_eq_some_iff.mp h
 have ci0 : 0 ≤ a1 := Decidable.byContradiction fun hn => by rw [if_neg hn] at h; cases h
 have ci1 : a1 < (o.length : Int) := Decidable.byContradiction fun hn => by rw [if_pos ci0, if_neg hn] at h; cases h
 rw [if_pos ci0, if_pos ci1] at h
 obtain ⟨y, hy, h⟩ := Option.bind_eq_some_iff.mp h
 obtain rfl : _ = r := Option.some.inj h
 have Ho := aM ho
 have Hy := aM hy
 have HR := aM hr0_0
 have HC := aM hc0_0
 clear ho hy h hr0_0 hc0_0
 go_enter Try.func63, Try.ntmps63
 go_wp2_with (first
  | (go_at_call 62; refine (spec_l5Copy.calls k _ _ l0_0 o _ (Kd.C_alloc (Kd.C_alloc (Kd.C_alloc HR.out _) _) _) HC.out Ho.out).mono ?_; rintro e w1 ⟨v0, rfl, hS, hb⟩; obtain ⟨Ao, co, rfl⟩ := Kd.S_slice hS; have B5 := aM (blk_below (blk_alloc (blk_new1 w (.cells #[.slice A0_0 l0_0.length c0_0] 26) (.cells #[.int .i64 a2_0, .int .i64 a2_1, .int .i64 a2_2] 72)) (.cells #[.slice none 0 0] 26)) hb); have B6 := aM (blk_below (blk_new2 w (.cells #[.slice A0_0 l0_0.length c0_0] 26) (.cells #[.int .i64 a2_0, .int .i64 a2_1, .int .i64 a2_2] 72) (.cells #[.slice none 0 0] 26)) hb); have HB1 := aM (below_step (below_alloc (below_alloc (below_alloc (Below.refl w.heap.size w) _) _) _) hb); have HS := aM (show Kd.S k79 79 w1 (w.heap.size + 3) (fun k => k < w1.heap.size) (.slice Ao o.length co) o by refine Kd.S_mono (Kd.S_bound (ok := fun _ => True) ?_) (fun _ hk => hk.2.2.1); rw [show w.heap.size + 3 = (((w.alloc (.cells #[.slice A0_0 l0_0.length c0_0] 26)).alloc (.cells #[.int .i64 a2_0, .int .i64 a2_1, .int .i64 a2_2] 72)).alloc (.cells #[.slice none 0 0] 26)).heap.size by simp]; exact hS); have L6 := aM (blk_lt B6.out); clear hb hS))
 have hS := Kd.S_alloc HS.out (.cells #[.slice Ao o.length co] 26)
 have B7 := blk_new w1 (.cells #[.slice Ao o.length co] 26)
 replace B5 := blk_alloc B5.out (.cells #[.slice Ao o.length co] 26)
 replace B6 := blk_alloc B6.out (.cells #[.slice Ao o.length co] 26)
 have HB2 := below_alloc HB1.out (.cells #[.slice Ao o.length co] 26)
 clear HS HB1
 generalize w1.alloc (.cells #[.slice Ao o.length co] 26) = w2 at hS B5 B6 B7 HB2 ⊢
 obtain ⟨g, oki, A2, c2, e, hgb, hgl, x0, x1, x2, f0, f1, f2, hR2, hoki, hn, hH⟩ := S79_at hS a1 ci0 ci1
 cases e
 clear x0 x1 f0 f1 f2 hoki hH
 have HRr := aM (Kd.R_reads' hR2)
 have HGW := (Kd.S_R hS).1 g rfl
 have C7 : w2.cell? ⟨w1.heap.size, 0, none⟩ = some (.slice (some ⟨g, 0, none⟩) o.length co) := (blk_cell B7 0).trans rfl
 have C50 : w2.cell? ⟨w.heap.size + 1, 0, none⟩ = some (.int .i64 a2_0) := (blk_cell B5 0).trans rfl
 have C51 : w2.cell? ⟨w.heap.size + 1, 1, none⟩ = some (.int .i64 a2_1) := (blk_cell B5 1).trans rfl
 have C52 : w2.cell? ⟨w.heap.size + 1, 2, none⟩ = some (.int .i64 a2_2) := (blk_cell B5 2).trans rfl
 have p8 := eq_true ci0
 have q8 := eq_true ci1
 clear hR2
 refine start_ (n := 14) (S := fun w' => w'.cell? ⟨w1.heap.size, 0, none⟩ = some (.slice (some ⟨g, 0, none⟩) o.length co) ∧ w'.cell? ⟨w.heap.size + 1, 0, none⟩ = some (.int .i64 a2_0) ∧ w'.cell? ⟨w.heap.size + 1, 1, none⟩ = some (.int .i64 a2_1) ∧ w'.cell? ⟨w.heap.size + 1, 2, none⟩ = some (.int .i64 a2_2) ∧ w'.cell? ⟨g, a1.toNat * 3 + 2, none⟩ = some (.slice A2 (rd_T79 o a1).f2.length c2)) (ds := [13]) #[false, false, false, false, false, false, false, false, false, false, false, false, false, false] (by kernel_rfl) rfl rfl ⟨C7, C50, C51, C52, x2⟩ (fun hHeld => ?_); refine with_tabW spec_l5Put.tab2 spec_l5Put.bits2 (fun HT_ HW_ => ?_)
 refine pI_ 0 10 (bqz 14 1) ?_
 refine jI_ 2 12 ?_
 refine jI_ 3 13 ?_
 refine jI_ 5 15 ?_
 refine sI5_ 1 11 ?_
 refine sI5_ 4 14 ?_
 refine jI_ 6 16 ?_
 refine jI_ 7 17 ?_
 refine sI5_ 8 18 ?_
 refine sI5_ 9 19 ?_
 refine one_ (i := 10) (N := some 20) (bqz 14 2047) rfl rfl qzc (by decide) (fun K hK => ?_)
 refine goes_ Try.func95 (by kernel_rfl) rfl #[.slice A2 (rd_T79 o a1).f2.length c2, .agg #[.int .i64 a2_0, .int .i64 a2_1, .int .i64 a2_2]] (by rfl) rfl rfl (by (try simp only [List.map_toArray, List.map_cons, List.map_nil]); first | done | rfl) ?_
 refine (spec_l5With.calls k _ _ (rd_T79 o a1).f2 a2_0 a2_1 a2_2 y _ (Kd.C_drew HRr.out.2.2) HRr.out.2.1 Hy.out).mono ?_
 rintro e w3 ⟨v0, rfl, ho8, hb⟩; obtain ⟨A8, c8, rfl⟩ := Kd.R_slice ho8
 refine ⟨_, rfl, ?_⟩
 refine hK.out _ _ ⟨pw_cell_below hb hHeld.1, pw_cell_below hb hHeld.2.1, pw_cell_below hb hHeld.2.2.1, pw_cell_below hb hHeld.2.2.2.1, pw_cell_below hb hHeld.2.2.2.2⟩ (fun hHeld => ?_)
 clear hK K
 refine nm_ 20 ?_
 refine jI_ 11 21 ?_
 refine jI_ 12 22 ?_
 have hbz : Below w2.heap.size w2 w3 := below_then (below_drew (Below.refl _ _)) (Nat.le_refl _) hb
 have hS8 := Kd.S_below (Kd.S_mono (Kd.S_bound hS) (ok' := fun k => k < w2.heap.size) (fun k hk => hk.2.2.1)) hbz
 obtain ⟨g', oki', A2', c2', e', hgb', hgl', q0, q1, q2, f0, f1, f2, -, -, -, -⟩ := S79_at hS8 a1 ci0 ci1
 injection e' with e'; injection e' with e'; subst e'
 clear q0 q1 f0 f1
 refine last_ (i := 13) (N := none) (bqz 14 16383) rfl rfl qzc (by decide) (fun K hK => ?_)
 refine sk_ ?_
 refine hK.out _ _ ?_
 clear hK K
 refine done_ (done_of HT_.out (by kernel_rfl)) ?_
 have hP := S79_row hS8 (fun k hk hlt => Nat.lt_irrefl _ (Nat.lt_of_lt_of_le hlt hk)) ho8 (show w.heap.size + 3 ≤ w2.heap.size by have := L6.out; have := hgl; omega) a1 ci0 ci1 hgl
 replace HB2 := below_step HB2 hbz
 replace B6 := blk_below B6 hbz
 replace C7 := pw_cell_below hbz C7
 have C6 : w3.cell? ⟨w.heap.size + 1 + 1, 0, none⟩ = some (.slice none 0 0) := (blk_cell B6 0).trans rfl
 have F6 := blk_frozen B6 0
 have hl6 := L6.out
 have n1 : g ≠ w.heap.size + 1 + 1 := by omega
 have n2 : w.heap.size + 1 + 1 ≠ g := by omega
 have n3 : g < w1.heap.size := HGW
 have n4 : g ≠ w1.heap.size := Nat.ne_of_lt n3
 have n5 : w1.heap.size ≠ g := Nat.ne_of_gt n3
 clear hHeld q2 x2 C50 C51 C52 hS hS8 HGW
 go_wp2
 refine bodyPost_ret (results_cell_row rfl _ _ (w.heap.size + 1 + 1) 26 #[.slice (some ⟨g, 0, none⟩) o.length co] (0, 0) _ rfl (blk_put (cs := #[.slice none 0 0]) (blk_far B6 n2 _) 0 _ rfl) Try.underlying26 rfl (by kernel_rfl)) rfl ?_
 exact ⟨_, rfl, Kd.S_mono (ok' := fun _ => True) (Kd.S_lower (S_box hP.1 (show w.heap.size + 1 + 1 < w.heap.size + 3 by omega) (.slice (some ⟨g, 0, none⟩) o.length co)) (show w.heap.size ≤ w.heap.size + 3 by omega)) (fun _ _ => trivial), below_set (below_set HB2 (by omega)) (by omega)⟩

/-! ### spec_Hold: function 18 -/
def spec_Hold.f (k : Nat) (l0_0 : List (S79)) (a1 : Int) (a2 : Int) (a3 : Int) : Option ((List (S79)) × Int) := (spec_l5Call.f k l0_0 a1 a2 a3).bind fun q => if q.2.2.2.2 = 0 then (if wrap64 (q.2.2.1 - q.2.2.2.1) < a3 then ((spec_l5Copy.f k l0_0).bind fun t => some (t, 3)) else ((spec_l5Put.f k l0_0 q.1 q.2.1 q.2.2.1 (wrap64 (q.2.2.2.1 + a3))).bind fun t => some (t, 0))) else ((spec_l5Copy.f k l0_0).bind fun t => some (t, q.2.2.2.2))
theorem spec_Hold.mono : ∀ a0 a1 a2 a3 k, LeO (spec_Hold.f k a0 a1 a2 a3) (spec_Hold.f (k + 1) a0 a1 a2 a3) := by
 intro a0 a1 a2 a3 k
 unfold spec_Hold.f
 have j0 := @spec_l5Call.mono
 have j1 := @spec_l5Copy.mono
 have j2 := @spec_l5Put.mono
 exact qL
set_option maxHeartbeats 8000000 in
set_option maxRecDepth 100000 in
theorem spec_Hold.calls (k : Nat) (A0_0 : Option Addr) (c0_0 : Nat) (l0_0 : List (S79)) (a1 : Int) (a2 : Int) (a3 : Int) (r1 : List (S79)) (r2 : Int) (w : World) (hr0_0 : Kd.C k79 w A0_0 l0_0.length l0_0) (hc0_0 : l0_0.length ≤ c0_0) (h : spec_Hold.f k l0_0 a1 a2 a3 = some (r1, r2)) :
  Calls Try.prog 18 #[.agg #[.slice A0_0 l0_0.length c0_0], .int .i64 a1, .int .i64 a2, .int .i64 a3] w fun e w' => ∃ v0_ : Value, e = .returned (.tuple #[.agg #[v0_], .int .i64 r2]) ∧ Kd.S k79 79 w' w.heap.size (fun _ => True) v0_ r1 ∧ Below w.heap.size w w' := by
 have hu26 := Try.underlying26
 have hu72 := Try.underlying72
 have hu24 := Try.underlying24
 have hu79 := Try.underlying79
 unfold spec_Hold.f at h
 obtain ⟨⟨t1, t2, t3, t4, t5⟩, hq, h⟩ := Option.bind_eq_some_iff.mp h
 have Hq := aM hq
 have HR := aM hr0_0
 have HC := aM hc0_0
 clear hq hr0_0 hc0_0
 dsimp only at h
 by_cases c1 : t5 = 0
 {
 subst c1
 rw [if_pos rfl] at h
 by_cases c2 : wrap64 (t3 - t4) < a3
 {
 rw [if_pos c2] at h
 have c2b := decide_eq_true c2
 obtain ⟨t6, h6, h⟩ := Option.bind_eq_some_iff.mp h
 have H6 := aM h6
 obtain ⟨rfl, rfl⟩ : t6 = r1 ∧ 3 = r2 := by simpa using h
 clear h h6 c2
 go_enter Try.func18, Try.ntmps18
 go_wp2_with (first
  | (go_at_call 61; refine (spec_l5Call.calls k _ _ l0_0 a1 a2 a3 t1 t2 t3 t4 0 _ (Kd.C_alloc (Kd.C_alloc HR.out _) _) HC.out Hq.out).mono ?_; rintro e w1 ⟨rfl, hb⟩; have B4 := aM (blk_below (blk_alloc (blk_new w (.cells #[.slice A0_0 l0_0.length c0_0] 26)) (.cells #[.slice none 0 0] 26)) hb); have B8 := aM (blk_below (blk_new1 w (.cells #[.slice A0_0 l0_0.length c0_0] 26) (.cells #[.slice none 0 0] 26)) hb); have HB1 := aM (below_step (below_alloc (below_alloc (Below.refl w.heap.size w) _) _) hb); have C4 : w1.cell? ⟨w.heap.size, 0, none⟩ = some (.slice A0_0 l0_0.length c0_0) := (blk_cell B4.out 0).trans rfl; have L4 := blk_lt B4.out; have L8 := blk_lt B8.out; have N8 := Nat.ne_of_lt L8; have N8' := Nat.ne_of_gt L8; have N4 := Nat.ne_of_lt L4; have N4' := Nat.ne_of_gt L4; clear hb)
  | (go_at_call 62; refine (spec_l5Copy.calls k _ _ l0_0 t6 _ (Kd.C_below HR.out (below_alloc HB1.out _)) HC.out H6.out).mono ?_; rintro e w2 ⟨v0, rfl, hS, hb⟩; obtain ⟨Ac, cc, rfl⟩ := Kd.S_slice hS; replace B8 := aM (blk_below (blk_alloc B8.out _) hb); have HB2 := aM (below_step (below_alloc HB1.out _) hb); have HS := aM (show Kd.S k79 79 w2 (w.heap.size + 2) (fun _ => True) (.slice Ac t6.length cc) t6 from Kd.S_lower hS (by rw [World.size_alloc]; omega)); have C8 : w2.cell? ⟨w.heap.size + 1, 0, none⟩ = some (.slice none 0 0) := (blk_cell B8.out 0).trans rfl; have F8 := blk_frozen B8.out 0; clear hb hS C4))
 refine bodyPost_ret (results_ct rfl _ _ (w.heap.size + 1) 26 #[.slice Ac t6.length cc] (0, 0) _ rfl (blk_put (cs := #[.slice none 0 0]) B8.out 0 _ rfl) Try.underlying26 rfl (by kernel_rfl)) rfl ?_
 exact ⟨_, rfl, Kd.S_lower (S_box HS.out (show w.heap.size + 1 < w.heap.size + 2 by omega) _) (by omega), below_set HB2.out (by omega)⟩
 }
 {
 rw [if_neg c2] at h
 have c2b := decide_eq_false c2
 obtain ⟨t6, h6, h⟩ := Option.bind_eq_some_iff.mp h
 have H6 := aM h6
 obtain ⟨rfl, rfl⟩ : t6 = r1 ∧ 0 = r2 := by simpa using h
 clear h h6 c2
 go_enter Try.func18, Try.ntmps18
 go_wp2_with (first
  | (go_at_call 61; refine (spec_l5Call.calls k _ _ l0_0 a1 a2 a3 t1 t2 t3 t4 0 _ (Kd.C_alloc (Kd.C_alloc HR.out _) _) HC.out Hq.out).mono ?_; rintro e w1 ⟨rfl, hb⟩; have B4 := aM (blk_below (blk_alloc (blk_new w (.cells #[.slice A0_0 l0_0.length c0_0] 26)) (.cells #[.slice none 0 0] 26)) hb); have B8 := aM (blk_below (blk_new1 w (.cells #[.slice A0_0 l0_0.length c0_0] 26) (.cells #[.slice none 0 0] 26)) hb); have HB1 := aM (below_step (below_alloc (below_alloc (Below.refl w.heap.size w) _) _) hb); have C4 : w1.cell? ⟨w.heap.size, 0, none⟩ = some (.slice A0_0 l0_0.length c0_0) := (blk_cell B4.out 0).trans rfl; have L4 := blk_lt B4.out; have L8 := blk_lt B8.out; have N8 := Nat.ne_of_lt L8; have N8' := Nat.ne_of_gt L8; have N4 := Nat.ne_of_lt L4; have N4' := Nat.ne_of_gt L4; clear hb)
  | (go_at_call 63; refine (spec_l5Put.calls k _ _ l0_0 t1 t2 t3 (wrap64 (t4 + a3)) t6 _ (Kd.C_below HR.out (below_alloc HB1.out _)) HC.out H6.out).mono ?_; rintro e w2 ⟨v0, rfl, hS, hb⟩; obtain ⟨Ac, cc, rfl⟩ := Kd.S_slice hS; replace B8 := aM (blk_below (blk_alloc B8.out _) hb); have HB2 := aM (below_step (below_alloc HB1.out _) hb); have HS := aM (show Kd.S k79 79 w2 (w.heap.size + 2) (fun _ => True) (.slice Ac t6.length cc) t6 from Kd.S_lower hS (by simp only [World.size_setCell, World.size_alloc]; omega)); have C8 : w2.cell? ⟨w.heap.size + 1, 0, none⟩ = some (.slice none 0 0) := (blk_cell B8.out 0).trans rfl; have F8 := blk_frozen B8.out 0; clear hb hS C4))
 refine bodyPost_ret (results_ct rfl _ _ (w.heap.size + 1) 26 #[.slice Ac t6.length cc] (0, 0) _ rfl (blk_put (cs := #[.slice none 0 0]) B8.out 0 _ rfl) Try.underlying26 rfl (by kernel_rfl)) rfl ?_
 exact ⟨_, rfl, Kd.S_lower (S_box HS.out (show w.heap.size + 1 < w.heap.size + 2 by omega) _) (by omega), below_set HB2.out (by omega)⟩
 }
 }
 {
 rw [if_neg c1] at h
 obtain ⟨t6, h6, h⟩ := Option.bind_eq_some_iff.mp h
 have H6 := aM h6
 obtain ⟨rfl, rfl⟩ : t6 = r1 ∧ t5 = r2 := by simpa using h
 have c1b : (t5 != 0) = true := by simpa using c1
 clear h h6 c1
 go_enter Try.func18, Try.ntmps18
 go_wp2_with (first
  | (go_at_call 61; refine (spec_l5Call.calls k _ _ l0_0 a1 a2 a3 t1 t2 t3 t4 t5 _ (Kd.C_alloc (Kd.C_alloc HR.out _) _) HC.out Hq.out).mono ?_; rintro e w1 ⟨rfl, hb⟩; have B4 := aM (blk_below (blk_alloc (blk_new w (.cells #[.slice A0_0 l0_0.length c0_0] 26)) (.cells #[.slice none 0 0] 26)) hb); have B8 := aM (blk_below (blk_new1 w (.cells #[.slice A0_0 l0_0.length c0_0] 26) (.cells #[.slice none 0 0] 26)) hb); have HB1 := aM (below_step (below_alloc (below_alloc (Below.refl w.heap.size w) _) _) hb); have C4 : w1.cell? ⟨w.heap.size, 0, none⟩ = some (.slice A0_0 l0_0.length c0_0) := (blk_cell B4.out 0).trans rfl; have L4 := blk_lt B4.out; have L8 := blk_lt B8.out; have N8 := Nat.ne_of_lt L8; have N8' := Nat.ne_of_gt L8; have N4 := Nat.ne_of_lt L4; have N4' := Nat.ne_of_gt L4; clear hb)
  | (go_at_call 62; refine (spec_l5Copy.calls k _ _ l0_0 t6 _ (Kd.C_below HR.out (below_alloc HB1.out _)) HC.out H6.out).mono ?_; rintro e w2 ⟨v0, rfl, hS, hb⟩; obtain ⟨Ac, cc, rfl⟩ := Kd.S_slice hS; replace B8 := aM (blk_below (blk_alloc B8.out _) hb); have HB2 := aM (below_step (below_alloc HB1.out _) hb); have HS := aM (show Kd.S k79 79 w2 (w.heap.size + 2) (fun _ => True) (.slice Ac t6.length cc) t6 from Kd.S_lower hS (by rw [World.size_alloc]; omega)); have C8 : w2.cell? ⟨w.heap.size + 1, 0, none⟩ = some (.slice none 0 0) := (blk_cell B8.out 0).trans rfl; have F8 := blk_frozen B8.out 0; clear hb hS C4))
 refine bodyPost_ret (results_ct rfl _ _ (w.heap.size + 1) 26 #[.slice Ac t6.length cc] (0, 0) _ rfl (blk_put (cs := #[.slice none 0 0]) B8.out 0 _ rfl) Try.underlying26 rfl (by kernel_rfl)) rfl ?_
 exact ⟨_, rfl, Kd.S_lower (S_box HS.out (show w.heap.size + 1 < w.heap.size + 2 by omega) _) (by omega), below_set HB2.out (by omega)⟩

 }
end Go.Proofs.Yteajnkondkfmgaa.PFnEach
