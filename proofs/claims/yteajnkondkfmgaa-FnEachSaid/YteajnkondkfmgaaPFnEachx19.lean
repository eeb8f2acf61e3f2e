-- Made by a program of this session out of the translation. Lean checks it.
import Derived.Test.YteajnkondkfmgaaPFnEachx18
namespace Go.Proofs.Yteajnkondkfmgaa.PFnEach
open Go.RowKit Go.Proofs.YteajnkondkfmgaaW.PrintWords Go.Proofs.YteajnkondkfmgaaW.PrintLast Go.Proofs.YteajnkondkfmgaaW.PrintMore
attribute [local go_sem] max2_int min2_int max_two min_two max_three min_three max_four min_four   -- for this text's walks alone
set_option linter.unusedVariables false
set_option linter.unusedSimpArgs false

/-! ### spec_TakeOut: function 28 -/
def spec_TakeOut.f (k : Nat) (l0_0 : List (S79)) (a1 : Int) (a2 : Int) (a3 : Int) : Option ((List (S79)) × Int) := (spec_l5Call.f k l0_0 a1 a2 a3).bind fun q => if q.2.2.2.2 = 0 then (if q.2.2.2.1 < a3 then ((spec_l5Copy.f k l0_0).bind fun t => some (t, 3)) else ((spec_l5Put.f k l0_0 q.1 q.2.1 (wrap64 (q.2.2.1 - a3)) (wrap64 (q.2.2.2.1 - a3))).bind fun t => some (t, 0))) else ((spec_l5Copy.f k l0_0).bind fun t => some (t, q.2.2.2.2))
theorem spec_TakeOut.mono : ∀ a0 a1 a2 a3 k, LeO (spec_TakeOut.f k a0 a1 a2 a3) (spec_TakeOut.f (k + 1) a0 a1 a2 a3) := by
 intro a0 a1 a2 a3 k
 unfold spec_TakeOut.f
 have j0 := @spec_l5Call.mono
 have j1 := @spec_l5Copy.mono
 have j2 := @spec_l5Put.mono
 exact qL
set_option maxHeartbeats 8000000 in
set_option maxRecDepth 100000 in
theorem spec_TakeOut.calls (k : Nat) (A0_0 : Option Addr) (c0_0 : Nat) (l0_0 : List (S79)) (a1 : Int) (a2 : Int) (a3 : Int) (r1 : List (S79)) (r2 : Int) (w : World) (hr0_0 : Kd.C k79 w A0_0 l0_0.length l0_0) (hc0_0 : l0_0.length ≤ c0_0) (h : spec_TakeOut.f k l0_0 a1 a2 a3 = some (r1, r2)) :
  Calls Try.prog 28 #[.agg #[.slice A0_0 l0_0.length c0_0], .int .i64 a1, .int .i64 a2, .int .i64 a3] w fun e w' => ∃ v0_ : Value, e = .returned (.tuple #[.agg #[v0_], .int .i64 r2]) ∧ Kd.S k79 79 w' w.heap.size (fun _ => True) v0_ r1 ∧ Below w.heap.size w w' := by
 have hu26 := Try.underlying26
 have hu72 := Try.underlying72
 have hu24 := Try.underlying24
 have hu79 := Try.underlying79
 unfold spec_TakeOut.f at h
 obtain ⟨⟨t1, t2, t3, t4, t5⟩, hq, h⟩ := Option.bind_eq_some_iff.mp h
 have Hq := aM hq
 have HR := aM hr0_0
 have HC := aM hc0_0
 clear hq hr0_0 hc0_0
 dsimp only at h
 by_cases c1 : t5 = 0
 {
 subst c1
 rw [if_pos rfl] at h
 by_cases c2 : t4 < a3
 {
 rw [if_pos c2] at h
 have c2b := decide_eq_true c2
 obtain ⟨t6, h6, h⟩ := Option.bind_eq_some_iff.mp h
 have H6 := aM h6
 obtain ⟨rfl, rfl⟩ : t6 = r1 ∧ 3 = r2 := by simpa using h
 clear h h6 c2
 go_enter Try.func28, Try.ntmps28
 go_wp2_with (first
  | (go_at_call 61; refine (spec_l5Call.calls k _ _ l0_0 a1 a2 a3 t1 t2 t3 t4 0 _ (Kd.C_alloc (Kd.C_alloc HR.out _) _) HC.out Hq.out).mono ?_; rintro e w1 ⟨rfl, hb⟩; have B4 := aM (blk_below (blk_alloc (blk_new w (.cells #[.slice A0_0 l0_0.length c0_0] 26)) (.cells #[.slice none 0 0] 26)) hb); have B8 := aM (blk_below (blk_new1 w (.cells #[.slice A0_0 l0_0.length c0_0] 26) (.cells #[.slice none 0 0] 26)) hb); have HB1 := aM (below_step (below_alloc (below_alloc (Below.refl w.heap.size w) _) _) hb); have C4 : w1.cell? ⟨w.heap.size, 0, none⟩ = some (.slice A0_0 l0_0.length c0_0) := (blk_cell B4.out 0).trans rfl; have L4 := blk_lt B4.out; have L8 := blk_lt B8.out; have N8 := Nat.ne_of_lt L8; have N8' := Nat.ne_of_gt L8; have N4 := Nat.ne_of_lt L4; have N4' := Nat.ne_of_gt L4; clear hb)
  | (go_at_call 62; refine (spec_l5Copy.calls k _ _ l0_0 t6 _ (Kd.C_below HR.out (below_alloc HB1.out _)) HC.out H6.out).mono ?_; rintro e w2 ⟨v0, rfl, hS, hb⟩; obtain ⟨Ac, cc, rfl⟩ := Kd.S_slice hS; replace B8 := aM (blk_below (blk_alloc B8.out _) hb); have HB2 := aM (below_step (below_alloc HB1.out _) hb); have HS := aM (show Kd.S k79 79 w2 (w.heap.size + 2) (fun _ => True) (.slice Ac t6.length cc) t6 from Kd.S_lower hS (by rw [World.size_alloc]; omega)); have C8 : w2.cell? ⟨w.heap.size + 1, 0, none⟩ = some (.slice none 0 0) := (blk_cell B8.out 0).trans rfl; have F8 := blk_frozen B8.out 0; clear hb hS C4))
 refine bodyPost_ret (results_ct rfl _ _ (w.heap.size + 1) 26 #[.slice Ac t6.length cc] (0, 0) _ rfl (blk_put (cs := #[.slice none 0 0]) B8.out 0 _ rfl) Try.underlying26 rfl (by kernel_rfl)) rfl ?_
 exact ⟨_, rfl, Kd.S_lower (S_box HS.out (show w.heap.size + 1 < w.heap.size + 2 by omega) _) (by omega), below_set HB2.out (by omega)⟩
 }
 {
 rw [if_neg c2] at h
 have c2b := decide_eq_false c2
 obtain ⟨t6, h6, h⟩ := Option.bind_eq_some_iff.mp h
 have H6 := aM h6
 obtain ⟨rfl, rfl⟩ : t6 = r1 ∧ 0 = r2 := by simpa using h
 clear h h6 c2
 go_enter Try.func28, Try.ntmps28
 go_wp2_with (first
  | (go_at_call 61; refine (spec_l5Call.calls k _ _ l0_0 a1 a2 a3 t1 t2 t3 t4 0 _ (Kd.C_alloc (Kd.C_alloc HR.out _) _) HC.out Hq.out).mono ?_; rintro e w1 ⟨rfl, hb⟩; have B4 := aM (blk_below (blk_alloc (blk_new w (.cells #[.slice A0_0 l0_0.length c0_0] 26)) (.cells #[.slice none 0 0] 26)) hb); have B8 := aM (blk_below (blk_new1 w (.cells #[.slice A0_0 l0_0.length c0_0] 26) (.cells #[.slice none 0 0] 26)) hb); have HB1 := aM (below_step (below_alloc (below_alloc (Below.refl w.heap.size w) _) _) hb); have C4 : w1.cell? ⟨w.heap.size, 0, none⟩ = some (.slice A0_0 l0_0.length c0_0) := (blk_cell B4.out 0).trans rfl; have L4 := blk_lt B4.out; have L8 := blk_lt B8.out; have N8 := Nat.ne_of_lt L8; have N8' := Nat.ne_of_gt L8; have N4 := Nat.ne_of_lt L4; have N4' := Nat.ne_of_gt L4; clear hb)
  | (go_at_call 63; refine (spec_l5Put.calls k _ _ l0_0 t1 t2 (wrap64 (t3 - a3)) (wrap64 (t4 - a3)) t6 _ (Kd.C_below HR.out (below_alloc HB1.out _)) HC.out H6.out).mono ?_; rintro e w2 ⟨v0, rfl, hS, hb⟩; obtain ⟨Ac, cc, rfl⟩ := Kd.S_slice hS; replace B8 := aM (blk_below (blk_alloc B8.out _) hb); have HB2 := aM (below_step (below_alloc HB1.out _) hb); have HS := aM (show Kd.S k79 79 w2 (w.heap.size + 2) (fun _ => True) (.slice Ac t6.length cc) t6 from Kd.S_lower hS (by simp only [World.size_setCell, World.size_alloc]; omega)); have C8 : w2.cell? ⟨w.heap.size + 1, 0, none⟩ = some (.slice none 0 0) := (blk_cell B8.out 0).trans rfl; have F8 := blk_frozen B8.out 0; clear hb hS C4))
 refine bodyPost_ret (results_ct rfl _ _ (w.heap.size + 1) 26 #[.slice Ac t6.length cc] (0, 0) _ rfl (blk_put (cs := #[.slice none 0 0]) B8.out 0 _ rfl) Try.underlying26 rfl (by kernel_rfl)) rfl ?_
 exact ⟨_, rfl, Kd.S_lower (S_box HS.out (show w.heap.size + 1 < w.heap.size + 2 by omega) _) (by omega), below_set HB2.out (by omega)⟩
 }
 }
 {
 rw [if_neg c1] at h
 obtain ⟨t6, h6, h⟩ := Option.bind_eq_some_iff.mp h
 have H6 := aM h6
 obtain ⟨rfl, rfl⟩ : t6 = r1 ∧ t5 = r2 := by simpa using h
 have c1b : (t5 != 0) = true := by simpa using c1
 clear h h6 c1
 go_enter Try.func28, Try.ntmps28
 go_wp2_with (first
  | (go_at_call 61; refine (spec_l5Call.calls k _ _ l0_0 a1 a2 a3 t1 t2 t3 t4 t5 _ (Kd.C_alloc (Kd.C_alloc HR.out _) _) HC.out Hq.out).mono ?_; rintro e w1 ⟨rfl, hb⟩; have B4 := aM (blk_below (blk_alloc (blk_new w (.cells #[.slice A0_0 l0_0.length c0_0] 26)) (.cells #[.slice none 0 0] 26)) hb); have B8 := aM (blk_below (blk_new1 w (.cells #[.slice A0_0 l0_0.length c0_0] 26) (.cells #[.slice none 0 0] 26)) hb); have HB1 := aM (below_step (below_alloc (below_alloc (Below.refl w.heap.size w) _) _) hb); have C4 : w1.cell? ⟨w.heap.size, 0, none⟩ = some (.slice A0_0 l0_0.length c0_0) := (blk_cell B4.out 0).trans rfl; have L4 := blk_lt B4.out; have L8 := blk_lt B8.out; have N8 := Nat.ne_of_lt L8; have N8' := Nat.ne_of_gt L8; have N4 := Nat.ne_of_lt L4; have N4' := Nat.ne_of_gt L4; clear hb)
  | (go_at_call 62; refine (spec_l5Copy.calls k _ _ l0_0 t6 _ (Kd.C_below HR.out (below_alloc HB1.out _)) HC.out H6.out).mono ?_; rintro e w2 ⟨v0, rfl, hS, hb⟩; obtain ⟨Ac, cc, rfl⟩ := Kd.S_slice hS; replace B8 := aM (blk_below (blk_alloc B8.out _) hb); have HB2 := aM (below_step (below_alloc HB1.out _) hb); have HS := aM (show Kd.S k79 79 w2 (w.heap.size + 2) (fun _ => True) (.slice Ac t6.length cc) t6 from Kd.S_lower hS (by rw [World.size_alloc]; omega)); have C8 : w2.cell? ⟨w.heap.size + 1, 0, none⟩ = some (.slice none 0 0) := (blk_cell B8.out 0).trans rfl; have F8 := blk_frozen B8.out 0; clear hb hS C4))
 refine bodyPost_ret (results_ct rfl _ _ (w.heap.size + 1) 26 #[.slice Ac t6.length cc] (0, 0) _ rfl (blk_put (cs := #[.slice none 0 0]) B8.out 0 _ rfl) Try.underlying26 rfl (by kernel_rfl)) rfl ?_
 exact ⟨_, rfl, Kd.S_lower (S_box HS.out (show w.heap.size + 1 < w.heap.size + 2 by omega) _) (by omega), below_set HB2.out (by omega)⟩

 }
/-! ### spec_Release: function 34 -/
def spec_Release.f (k : Nat) (l0_0 : List (S79)) (a1 : Int) (a2 : Int) (a3 : Int) : Option ((List (S79)) × Int) := (spec_l5Call.f k l0_0 a1 a2 a3).bind fun q => if q.2.2.2.2 = 0 then (if q.2.2.2.1 < a3 then ((spec_l5Copy.f k l0_0).bind fun t => some (t, 3)) else ((spec_l5Put.f k l0_0 q.1 q.2.1 q.2.2.1 (wrap64 (q.2.2.2.1 - a3))).bind fun t => some (t, 0))) else ((spec_l5Copy.f k l0_0).bind fun t => some (t, q.2.2.2.2))
theorem spec_Release.mono : ∀ a0 a1 a2 a3 k, LeO (spec_Release.f k a0 a1 a2 a3) (spec_Release.f (k + 1) a0 a1 a2 a3) := by
 intro a0 a1 a2 a3 k
 unfold spec_Release.f
 have j0 := @spec_l5Call.mono
 have j1 := @spec_l5Copy.mono
 have j2 := @spec_l5Put.mono
 exact qL
set_option maxHeartbeats 8000000 in
set_option maxRecDepth 100000 in
theorem spec_Release.calls (k : Nat) (A0_0 : Option Addr) (c0_0 : Nat) (l0_0 : List (S79)) (a1 : Int) (a2 : Int) (a3 : Int) (r1 : List (S79)) (r2 : Int) (w : World) (hr0_0 : Kd.C k79 w A0_0 l0_0.length l0_0) (hc0_0 : l0_0.length ≤ c0_0) (h : spec_Release.f k l0_0 a1 a2 a3 = some (r1, r2)) :
  Calls Try.prog 34 #[.agg #[.slice A0_0 l0_0.length c0_0], .int .i64 a1, .int .i64 a2, .int .i64 a3] w fun e w' => ∃ v0_ : Value, e = .returned (.tuple #[.agg #[v0_], .int .i64 r2]) ∧ Kd.S k79 79 w' w.heap.size (fun _ => True) v0_ r1 ∧ Below w.heap.size w w' := by
 have hu26 := Try.underlying26
 have hu72 := Try.underlying72
 have hu24 := Try.underlying24
 have hu79 := Try.underlying79
 unfold spec_Release.f at h
 obtain ⟨⟨t1, t2, t3, t4, t5⟩, hq, h⟩ := Option.bind_eq_some_iff.mp h
 have Hq := aM hq
 have HR := aM hr0_0
 have HC := aM hc0_0
 clear hq hr0_0 hc0_0
 dsimp only at h
 by_cases c1 : t5 = 0
 {
 subst c1
 rw [if_pos rfl] at h
 by_cases c2 : t4 < a3
 {
 rw [if_pos c2] at h
 have c2b := decide_eq_true c2
 obtain ⟨t6, h6, h⟩ := Option.bind_eq_some_iff.mp h
 have H6 := aM h6
 obtain ⟨rfl, rfl⟩ : t6 = r1 ∧ 3 = r2 := by simpa using h
 clear h h6 c2
 go_enter Try.func34, Try.ntmps34
 go_wp2_with (first
  | (go_at_call 61; refine (spec_l5Call.calls k _ _ l0_0 a1 a2 a3 t1 t2 t3 t4 0 _ (Kd.C_alloc (Kd.C_alloc HR.out _) _) HC.out Hq.out).mono ?_; rintro e w1 ⟨rfl, hb⟩; have B4 := aM (blk_below (blk_alloc (blk_new w (.cells #[.slice A0_0 l0_0.length c0_0] 26)) (.cells #[.slice none 0 0] 26)) hb); have B8 := aM (blk_below (blk_new1 w (.cells #[.slice A0_0 l0_0.length c0_0] 26) (.cells #[.slice none 0 0] 26)) hb); have HB1 := aM (below_step (below_alloc (below_alloc (Below.refl w.heap.size w) _) _) hb); have C4 : w1.cell? ⟨w.heap.size, 0, none⟩ = some (.slice A0_0 l0_0.length c0_0) := (blk_cell B4.out 0).trans rfl; have L4 := blk_lt B4.out; have L8 := blk_lt B8.out; have N8 := Nat.ne_of_lt L8; have N8' := Nat.ne_of_gt L8; have N4 := Nat.ne_of_lt L4; have N4' := Nat.ne_of_gt L4; clear hb)
  | (go_at_call 62; refine (spec_l5Copy.calls k _ _ l0_0 t6 _ (Kd.C_below HR.out (below_alloc HB1.out _)) HC.out H6.out).mono ?_; rintro e w2 ⟨v0, rfl, hS, hb⟩; obtain ⟨Ac, cc, rfl⟩ := Kd.S_slice hS; replace B8 := aM (blk_below (blk_alloc B8.out _) hb); have HB2 := aM (below_step (below_alloc HB1.out _) hb); have HS := aM (show Kd.S k79 79 w2 (w.heap.size + 2) (fun _ => True) (.slice Ac t6.length cc) t6 from Kd.S_lower hS (by rw [World.size_alloc]; omega)); have C8 : w2.cell? ⟨w.heap.size + 1, 0, none⟩ = some (.slice none 0 0) := (blk_cell B8.out 0).trans rfl; have F8 := blk_frozen B8.out 0; clear hb hS C4))
 refine bodyPost_ret (results_ct rfl _ _ (w.heap.size + 1) 26 #[.slice Ac t6.length cc] (0, 0) _ rfl (blk_put (cs := #[.slice none 0 0]) B8.out 0 _ rfl) Try.underlying26 rfl (by kernel_rfl)) rfl ?_
 exact ⟨_, rfl, Kd.S_lower (S_box HS.out (show w.heap.size + 1 < w.heap.size + 2 by omega) _) (by omega), below_set HB2.out (by omega)⟩
 }
 {
 rw [if_neg c2] at h
 have c2b := decide_eq_false c2
 obtain ⟨t6, h6, h⟩ := Option.bind_eq_some_iff.mp h
 have H6 := aM h6
 obtain ⟨rfl, rfl⟩ : t6 = r1 ∧ 0 = r2 := by simpa using h
 clear h h6 c2
 go_enter Try.func34, Try.ntmps34
 go_wp2_with (first
  | (go_at_call 61; refine (spec_l5Call.calls k _ _ l0_0 a1 a2 a3 t1 t2 t3 t4 0 _ (Kd.C_alloc (Kd.C_alloc HR.out _) _) HC.out Hq.out).mono ?_; rintro e w1 ⟨rfl, hb⟩; have B4 := aM (blk_below (blk_alloc (blk_new w (.cells #[.slice A0_0 l0_0.length c0_0] 26)) (.cells #[.slice none 0 0] 26)) hb); have B8 := aM (blk_below (blk_new1 w (.cells #[.slice A0_0 l0_0.length c0_0] 26) (.cells #[.slice none 0 0] 26)) hb); have HB1 := aM (below_step (below_alloc (below_alloc (Below.refl w.heap.size w) _) _) hb); have C4 : w1.cell? ⟨w.heap.size, 0, none⟩ = some (.slice A0_0 l0_0.length c0_0) := (blk_cell B4.out 0).trans rfl; have L4 := blk_lt B4.out; have L8 := blk_lt B8.out; have N8 := Nat.ne_of_lt L8; have N8' := Nat.ne_of_gt L8; have N4 := Nat.ne_of_lt L4; have N4' := Nat.ne_of_gt L4; clear hb)
  | (go_at_call 63; refine (spec_l5Put.calls k _ _ l0_0 t1 t2 t3 (wrap64 (t4 - a3)) t6 _ (Kd.C_below HR.out (below_alloc HB1.out _)) HC.out H6.out).mono ?_; rintro e w2 ⟨v0, rfl, hS, hb⟩; obtain ⟨Ac, cc, rfl⟩ := Kd.S_slice hS; replace B8 := aM (blk_below (blk_alloc B8.out _) hb); have HB2 := aM (below_step (below_alloc HB1.out _) hb); have HS := aM (show Kd.S k79 79 w2 (w.heap.size + 2) (fun _ => True) (.slice Ac t6.length cc) t6 from Kd.S_lower hS (by simp only [World.size_setCell, World.size_alloc]; omega)); have C8 : w2.cell? ⟨w.heap.size + 1, 0, none⟩ = some (.slice none 0 0) := (blk_cell B8.out 0).trans rfl; have F8 := blk_frozen B8.out 0; clear hb hS C4))
 refine bodyPost_ret (results_ct rfl _ _ (w.heap.size + 1) 26 #[.slice Ac t6.length cc] (0, 0) _ rfl (blk_put (cs := #[.slice none 0 0]) B8.out 0 _ rfl) Try.underlying26 rfl (by kernel_rfl)) rfl ?_
 exact ⟨_, rfl, Kd.S_lower (S_box HS.out (show w.heap.size + 1 < w.heap.size + 2 by omega) _) (by omega), below_set HB2.out (by omega)⟩
 }
 }
 {
 rw [if_neg c1] at h
 obtain ⟨t6, h6, h⟩ := Option.bind_eq_some_iff.mp h
 have H6 := aM h6
 obtain ⟨rfl, rfl⟩ : t6 = r1 ∧ t5 = r2 := by simpa using h
 have c1b : (t5 != 0) = true := by simpa using c1
 clear h h6 c1
 go_enter Try.func34, Try.ntmps34
 go_wp2_with (first
  | (go_at_call 61; refine (spec_l5Call.calls k _ _ l0_0 a1 a2 a3 t1 t2 t3 t4 t5 _ (Kd.C_alloc (Kd.C_alloc HR.out _) _) HC.out Hq.out).mono ?_; rintro e w1 ⟨rfl, hb⟩; have B4 := aM (blk_below (blk_alloc (blk_new w (.cells #[.slice A0_0 l0_0.length c0_0] 26)) (.cells #[.slice none 0 0] 26)) hb); have B8 := aM (blk_below (blk_new1 w (.cells #[.slice A0_0 l0_0.length c0_0] 26) (.cells #[.slice none 0 0] 26)) hb); have HB1 := aM (below_step (below_alloc (below_alloc (Below.refl w.heap.size w) _) _) hb); have C4 : w1.cell? ⟨w.heap.size, 0, none⟩ = some (.slice A0_0 l0_0.length c0_0) := (blk_cell B4.out 0).trans rfl; have L4 := blk_lt B4.out; have L8 := blk_lt B8.out; have N8 := Nat.ne_of_lt L8; have N8' := Nat.ne_of_gt L8; have N4 := Nat.ne_of_lt L4; have N4' := Nat.ne_of_gt L4; clear hb)
  | (go_at_call 62; refine (spec_l5Copy.calls k _ _ l0_0 t6 _ (Kd.C_below HR.out (below_alloc HB1.out _)) HC.out H6.out).mono ?_; rintro e w2 ⟨v0, rfl, hS, hb⟩; obtain ⟨Ac, cc, rfl⟩ := Kd.S_slice hS; replace B8 := aM (blk_below (blk_alloc B8.out _) hb); have HB2 := aM (below_step (below_alloc HB1.out _) hb); have HS := aM (show Kd.S k79 79 w2 (w.heap.size + 2) (fun _ => True) (.slice Ac t6.length cc) t6 from Kd.S_lower hS (by rw [World.size_alloc]; omega)); have C8 : w2.cell? ⟨w.heap.size + 1, 0, none⟩ = some (.slice none 0 0) := (blk_cell B8.out 0).trans rfl; have F8 := blk_frozen B8.out 0; clear hb hS C4))
 refine bodyPost_ret (results_ct rfl _ _ (w.heap.size + 1) 26 #[.slice Ac t6.length cc] (0, 0) _ rfl (blk_put (cs := #[.slice none 0 0]) B8.out 0 _ rfl) Try.underlying26 rfl (by kernel_rfl)) rfl ?_
 exact ⟨_, rfl, Kd.S_lower (S_box HS.out (show w.heap.size + 1 < w.heap.size + 2 by omega) _) (by omega), below_set HB2.out (by omega)⟩

 }
/-! ### spec_l6Each: function 86 -/
def spec_l6Each.l0 : Nat → List (S50) → Int → Int → List (S79) → List (S79) → Option ((List (S79)) × Bool)
 | 0, _, _, _, _, _ => none
 | k + 1, x1, x2, x9, x464000, x469000 => if x9 < (x1.length : Int) then (if 0 ≤ x9 then (if x2 = 1 then ((spec_Hold.f k x469000 ((rd_T50 x1 x9).f0) ((rd_T50 x1 x9).f1) ((rd_T50 x1 x9).f2)).bind fun bt471 => (if bt471.2 = 0 then (spec_l6Each.l0 k x1 x2 (wrap64 (x9 + 1)) x464000 bt471.1) else ((spec_l5Copy.f k x464000).bind fun t475 => (some (t475, false))))) else (if x2 = 2 then ((spec_Release.f k x469000 ((rd_T50 x1 x9).f0) ((rd_T50 x1 x9).f1) ((rd_T50 x1 x9).f2)).bind fun bt478 => (if bt478.2 = 0 then (spec_l6Each.l0 k x1 x2 (wrap64 (x9 + 1)) x464000 bt478.1) else ((spec_l5Copy.f k x464000).bind fun t482 => (some (t482, false))))) else ((spec_TakeOut.f k x469000 ((rd_T50 x1 x9).f0) ((rd_T50 x1 x9).f1) ((rd_T50 x1 x9).f2)).bind fun bt485 => (if bt485.2 = 0 then (spec_l6Each.l0 k x1 x2 (wrap64 (x9 + 1)) x464000 bt485.1) else ((spec_l5Copy.f k x464000).bind fun t489 => (some (t489, false))))))) else (none)) else (some (x469000, true))
def spec_l6Each.f (k : Nat) (l0_0 : List (S79)) (l1 : List (S50)) (a2 : Int) : Option ((List (S79)) × Bool) := (spec_l5Copy.f k l0_0).bind fun t465 => (spec_l6Each.l0 k l1 a2 0 l0_0 t465)
theorem spec_l6Each.mono_l : ∀ k, (∀ y0 y1 y2 y3 y4, LeO (spec_l6Each.l0 k y0 y1 y2 y3 y4) (spec_l6Each.l0 (k + 1) y0 y1 y2 y3 y4))
 | 0 => fun _ _ _ _ _ r h => by simp [spec_l6Each.l0] at h
 | k + 1 => by
  have ih0 := spec_l6Each.mono_l k
  {
  intro y0 y1 y2 y3 y4
  unfold spec_l6Each.l0
  have j0 := @spec_Hold.mono
  have j1 := @spec_Release.mono
  have j2 := @spec_TakeOut.mono
  have j3 := @spec_l5Copy.mono
  exact qL
  }
theorem spec_l6Each.mono : ∀ a0 a1 a2 k, LeO (spec_l6Each.f k a0 a1 a2) (spec_l6Each.f (k + 1) a0 a1 a2) := by
 intro a0 a1 a2 k
 have ih0 := spec_l6Each.mono_l k
 unfold spec_l6Each.f
 have j0 := @spec_Hold.mono
 have j1 := @spec_Release.mono
 have j2 := @spec_TakeOut.mono
 have j3 := @spec_l5Copy.mono
 exact qL
set_option maxHeartbeats 8000000 in
set_option maxRecDepth 100000 in
theorem spec_l6Each.calls (k : Nat) (A0_0 : Option Addr) (c0_0 : Nat) (l0_0 : List (S79)) (A1 : Option Addr) (c1 : Nat) (l1 : List (S50)) (a2 : Int) (r1 : List (S79)) (r2 : Bool) (w : World) (hr0_0 : Kd.C k79 w A0_0 l0_0.length l0_0) (hc0_0 : l0_0.length ≤ c0_0) (hr1 : Kd.C k50 w A1 l1.length l1) (hc1 : l1.length ≤ c1) (h : spec_l6Each.f k l0_0 l1 a2 = some (r1, r2)) :
  Calls Try.prog 86 #[.agg #[.slice A0_0 l0_0.length c0_0], .slice A1 l1.length c1, .int .i64 a2] w fun e w' => ∃ v0_ : Value, e = .returned (.tuple #[.agg #[v0_], .bool r2]) ∧ Kd.S k79 79 w' w.heap.size (fun _ => True) v0_ r1 ∧ Below w.heap.size w w' := by
 have hu26 := Try.underlying26
 have hu50 := Try.underlying50
 have HR0_0 := aM hr0_0
 have HC0_0 := aM hc0_0
 clear hr0_0 hc0_0
 have HR1 := aM hr1
 have HC1 := aM hc1
 clear hr1 hc1
 have HB := aM (Below.refl w.heap.size w)
 have H : ((spec_l5Copy.f k l0_0).bind fun t465 => (spec_l6Each.l0 k l1 a2 0 l0_0 t465)) = some (r1, r2) := h
 clear h
 replace H := Option.bind_eq_some_iff.mp H
 obtain ⟨t465, A40, H⟩ := H
 replace H : (spec_l6Each.l0 k l1 a2 0 l0_0 t465) = some (r1, r2) := H
 have A4 := aM A40
 clear A40
 have H' := aM H
 clear H
 go_enter Try.func86, Try.ntmps86
 go_wp2_with (first | ((with_reducible refine gate_dst (N := 3) rfl ?_); refine bx_ 3 #[.slice A0_0 l0_0.length c0_0] 26 ?_; intro gb463 hg w5 hbox hb; have BK463 := aM (hbox); have GW463 := aM (bz_ w hg qz1); have GE463 := GW463; replace HB := bS_ hb; clear hb hbox hg) | ((with_reducible refine gate_dst (N := 6) rfl ?_); refine bx_ 6 #[.slice none 0 0] 26 ?_; intro gb464 hg w6 hbox hb; have BK464 := aM (hbox); have GW464 := aM (bz_ w hg qz1); have GE464 := GW464; replace HB := bS_ hb; obtain ⟨NB463_464, NB464_463⟩ := nb_ hg (bk_ BK463.out); replace BK463 := bB_ BK463 hb; clear hb hbox hg; have hnb7 := NB463_464.out; have hnc7 := NB464_463.out; obtain ⟨hcz8_0, hfz8_0⟩ := bf_ BK463.out) | ((with_reducible refine gate_callee (f := 62) rfl ?_); refine goesL_ (some 13) rfl rfl Try.func62 (by kernel_rfl) rfl #[.agg #[.slice A0_0 l0_0.length c0_0]] rfl qz4 ?_; (with_reducible refine (spec_l5Copy.calls k _ _ l0_0 t465 _ ?side1 ?side2 A4.out).mono ?_); (case side1 => exact qz6); (case side2 => exact HC0_0.out); rintro e w9 ⟨v466, rfl, ho0, hb⟩; refine ⟨_, rfl, ?_⟩; have HO467 := aM (Kd.S_lower ho0 (below_size qz1)); replace BK463 := bB_ BK463 hb; replace BK464 := bB_ BK464 hb; replace HB := bS_ hb; (try clear hb ho0)) | ((with_reducible refine gate_dst (N := 8) rfl ?_); refine bx_ 8 #[.slice none 0 0] 26 ?_; intro gb468 hg w10 hbox hb; replace HO467 := aM (Kd.S_below (rs_ HO467.out) hb); have BK468 := aM (hbox); have GW468 := aM (bz_ w hg qz1); have GE468 := GW468; replace HB := bS_ hb; obtain ⟨NB463_468, NB468_463⟩ := nb_ hg (bk_ BK463.out); replace BK463 := bB_ BK463 hb; obtain ⟨NB464_468, NB468_464⟩ := nb_ hg (bk_ BK464.out); replace BK464 := bB_ BK464 hb; clear hb hbox hg; obtain ⟨Ao11, co11, eo11⟩ := Kd.S_slice HO467.out; subst eo11; have hnb12 := NB468_463.out; have hnc12 := NB463_468.out; have hnb13 := NB468_464.out; have hnc13 := NB464_468.out; obtain ⟨hcz14_0, hfz14_0⟩ := bf_ BK468.out))
 go_loopg [9] k (fun kq v9 w' => ∃ (x9_1 : Int) (x469000_1 : List (S79)) (u469000 : Value), v9 = .int .i64 x9_1 ∧ Aside0 (spec_l6Each.l0 kq l1 a2 x9_1 l0_0 x469000_1 = some (r1, r2)) ∧ Aside0 (kq ≤ k) ∧ Aside0 (Kd.S k79 79 w' w.heap.size (fun _ => True) u469000 x469000_1) ∧ Aside0 (w'.heap[gb463]? = some (.cells #[(.slice A0_0 l0_0.length c0_0)] 26 (0, 0))) ∧ Aside0 (w'.heap[gb464]? = some (.cells #[(.slice none 0 0)] 26 (0, 0))) ∧ Aside0 (w'.heap[gb468]? = some (.cells #[u469000] 26 (0, 0))) ∧ Aside0 (Below w.heap.size w w'))
 case atStart => exact ⟨(0), (t465), (.slice Ao11 t465.length co11), qz5, H', ⟨Nat.le_refl _⟩, ⟨by (with_reducible repeat (first | apply Kd.S_alloc | apply Kd.S_drewN | apply Kd.S_drew)); exact Kd.S_mono (Kd.S_far (p := ⟨gb468, 0, none⟩) (Kd.S_types HO467.out BK468.out (by decide)) (fun _ hk => hk.2) (.slice Ao11 t465.length co11)) (fun _ hk => trivial)⟩, ⟨by (with_reducible repeat (first | refine blk_drewN ?_ _ | refine blk_drew ?_ | refine blk_alloc ?_ _)); refine blk_far ?_ NB463_468.out _; exact bk_ BK463.out⟩, ⟨by (with_reducible repeat (first | refine blk_drewN ?_ _ | refine blk_drew ?_ | refine blk_alloc ?_ _)); refine blk_far ?_ NB464_468.out _; exact bk_ BK464.out⟩, ⟨by (with_reducible repeat (first | refine blk_drewN ?_ _ | refine blk_drew ?_ | refine blk_alloc ?_ _)); refine blk_put (cs := #[.slice none 0 0]) ?_ 0 _ rfl; exact bk_ BK468.out⟩, ⟨qz1⟩⟩
 case round =>
  clear H'
  try clear c1
  try clear p2
  try clear c6
  try clear c7
  try clear c8
  try clear c12
  try clear c13
  try clear hcz14_0 hfz14_0
  try clear hcz8_0 hfz8_0
  obtain ⟨x9_1, x469000_1, u469000, rfl, HA, HK1, HO_469000, BK463, BK464, BK468, HB⟩ := hrel
  cases gk with
  | zero => exact absurd HA.out (by simp [spec_l6Each.l0])
  | succ k1 =>
   have H := HA.out
   clear HA
   simp only [spec_l6Each.l0] at H
   by_cases c15 : x9_1 < (l1.length : Int)
   {
   rw [if_pos c15] at H
   have c15b0 := decide_eq_true c15
   clear c15
   by_cases c16 : 0 ≤ x9_1
   {
   rw [if_pos c16] at H
   have c16b0 := decide_eq_true c16
   clear c16
   by_cases c17 : a2 = 1
   {
   rw [if_pos c17] at H
   have c17b0 := beq_iff_eq.mpr c17
   have c17b1 := bne_eq_false_iff_eq.mpr c17
   clear c17
   replace H := Option.bind_eq_some_iff.mp H
   obtain ⟨⟨t471, t474⟩, A180, H⟩ := H
   replace H : (if t474 = 0 then (spec_l6Each.l0 k1 l1 a2 (wrap64 (x9_1 + 1)) l0_0 t471) else ((spec_l5Copy.f k1 l0_0).bind fun t475 => (some (t475, false)))) = some (r1, r2) := H
   have A18 := aM A180
   clear A180
   by_cases c19 : t474 = 0
   {
   rw [if_pos c19] at H
   have c19b0 := beq_iff_eq.mpr c19
   have c19b1 := bne_eq_false_iff_eq.mpr c19
   clear c19
   have H' := aM H
   clear H
   have p469 : 0 ≤ (x9_1 : Int) := dt_
   have q469 : x9_1 < (l1.length : Int) := dt_
   obtain ⟨ad469, e469, hx469_0, hx469_1, hx469_2⟩ := at_T50 HR1.out x9_1 p469 q469
   cases e469
   replace hx469_0 := cB_ hx469_0
   replace hx469_1 := cB_ hx469_1
   replace hx469_2 := cB_ hx469_2
   replace p469 := eq_true p469
   replace q469 := eq_true q469
   go_wp2_with (first | ((with_reducible refine gate_dst (N := 10) rfl ?_); refine bx_ 10 #[.int .i64 0, .int .i64 0, .int .i64 0] 50 ?_; intro gb470 hg w20 hbox hb; replace HO_469000 := aM (Kd.S_below (rs_ HO_469000.out) hb); have BK470 := aM (hbox); have GW470 := aM (bz_ w hg qz1); have GE470 := GW470; replace HB := bS_ hb; obtain ⟨NB463_470, NB470_463⟩ := nb_ hg (bk_ BK463.out); replace BK463 := bB_ BK463 hb; obtain ⟨NB464_470, NB470_464⟩ := nb_ hg (bk_ BK464.out); replace BK464 := bB_ BK464 hb; obtain ⟨NB468_470, NB470_468⟩ := nb_ hg (bk_ BK468.out); replace BK468 := bB_ BK468 hb; clear hb hbox hg; have hnb21 := NB470_463.out; have hnc21 := NB463_470.out; have hnb22 := NB470_464.out; have hnc22 := NB464_470.out; have hnb23 := NB470_468.out; have hnc23 := NB468_470.out; obtain ⟨hcz24_0, hcz24_1, hcz24_2, hfz24_0, hfz24_1, hfz24_2⟩ := b6_ BK470.out; have hnb25 := NB468_463.out; have hnc25 := NB463_468.out; have hnb26 := NB468_464.out; have hnc26 := NB464_468.out; obtain ⟨hcz27_0, hfz27_0⟩ := bf_ BK468.out; obtain ⟨Ao28, co28, eo28⟩ := Kd.S_slice HO_469000.out; subst eo28) | ((with_reducible refine gate_callee (f := 18) rfl ?_); refine goesL_ (some 46) rfl rfl Try.func18 (by kernel_rfl) rfl #[.agg #[.slice Ao28 x469000_1.length co28], .int .i64 ((rd_T50 l1 x9_1).f0), .int .i64 ((rd_T50 l1 x9_1).f1), .int .i64 ((rd_T50 l1 x9_1).f2)] rfl qz4 ?_; (with_reducible refine (spec_Hold.calls k1 _ _ x469000_1 ((rd_T50 l1 x9_1).f0) ((rd_T50 l1 x9_1).f1) ((rd_T50 l1 x9_1).f2) t471 t474 _ ?side1 ?side2 A18.out).mono ?_); (case side1 => refine (Kd.S_reads' (e := 79) (base := w.heap.size) (ok := fun k_ => True) (n := x469000_1.length) (c := co28) ?_).2.2; exact (by (with_reducible repeat (first | apply Kd.S_alloc | apply Kd.S_drewN | apply Kd.S_drew)); exact (Kd.S_mono (Kd.S_far (p := ⟨gb470, 2, none⟩) (Kd.S_far (p := ⟨gb470, 1, none⟩) (Kd.S_far (p := ⟨gb470, 0, none⟩) (Kd.S_types HO_469000.out BK470.out (by decide)) (fun _ hk => hk.2) (.int .i64 ((rd_T50 l1 x9_1).f0))) (fun _ hk => hk.2) (.int .i64 ((rd_T50 l1 x9_1).f1))) (fun _ hk => hk.2) (.int .i64 ((rd_T50 l1 x9_1).f2))) (fun _ h_ => h_.1)))); (case side2 => exact (Kd.S_reads' HO_469000.out).2.1); rintro e w29 ⟨v472, rfl, ho0, hb⟩; refine ⟨_, rfl, ?_⟩; have HO473 := aM (Kd.S_lower (Kd.S_new' ho0 (Kd.S_lt (by (with_reducible repeat (first | apply Kd.S_alloc | apply Kd.S_drewN | apply Kd.S_drew)); exact (Kd.S_mono (Kd.S_far (p := ⟨gb470, 2, none⟩) (Kd.S_far (p := ⟨gb470, 1, none⟩) (Kd.S_far (p := ⟨gb470, 0, none⟩) (Kd.S_types HO_469000.out BK470.out (by decide)) (fun _ hk => hk.2) (.int .i64 ((rd_T50 l1 x9_1).f0))) (fun _ hk => hk.2) (.int .i64 ((rd_T50 l1 x9_1).f1))) (fun _ hk => hk.2) (.int .i64 ((rd_T50 l1 x9_1).f2))) (fun _ h_ => h_.1))))) (below_size qz1)); replace HO_469000 := aM (Kd.S_elder' (by (with_reducible repeat (first | apply Kd.S_alloc | apply Kd.S_drewN | apply Kd.S_drew)); exact (Kd.S_mono (Kd.S_far (p := ⟨gb470, 2, none⟩) (Kd.S_far (p := ⟨gb470, 1, none⟩) (Kd.S_far (p := ⟨gb470, 0, none⟩) (Kd.S_types HO_469000.out BK470.out (by decide)) (fun _ hk => hk.2) (.int .i64 ((rd_T50 l1 x9_1).f0))) (fun _ hk => hk.2) (.int .i64 ((rd_T50 l1 x9_1).f1))) (fun _ hk => hk.2) (.int .i64 ((rd_T50 l1 x9_1).f2))) (fun _ h_ => h_.1))) (Kd.S_base ho0) hb); replace BK463 := aM (blk_below (g := gb463) (o := .cells #[.slice A0_0 l0_0.length c0_0] 26 (0, 0)) (bk2_ BK463.out) hb); replace BK464 := aM (blk_below (g := gb464) (o := .cells #[.slice none 0 0] 26 (0, 0)) (bk2_ BK464.out) hb); replace BK468 := aM (blk_below (g := gb468) (o := .cells #[.slice Ao28 x469000_1.length co28] 26 (0, 0)) (bk2_ BK468.out) hb); replace BK470 := aM (blk_below (g := gb470) (o := .cells #[.int .i64 ((rd_T50 l1 x9_1).f0), .int .i64 ((rd_T50 l1 x9_1).f1), .int .i64 ((rd_T50 l1 x9_1).f2)] 50 (0, 0)) (by (with_reducible repeat (first | refine blk_drewN ?_ _ | refine blk_drew ?_ | refine blk_alloc ?_ _)); refine blk_put (cs := #[.int .i64 ((rd_T50 l1 x9_1).f0), .int .i64 ((rd_T50 l1 x9_1).f1), .int .i64 0]) ?_ 2 _ rfl; (with_reducible repeat (first | refine blk_drewN ?_ _ | refine blk_drew ?_ | refine blk_alloc ?_ _)); refine blk_put (cs := #[.int .i64 ((rd_T50 l1 x9_1).f0), .int .i64 0, .int .i64 0]) ?_ 1 _ rfl; (with_reducible repeat (first | refine blk_drewN ?_ _ | refine blk_drew ?_ | refine blk_alloc ?_ _)); refine blk_put (cs := #[.int .i64 0, .int .i64 0, .int .i64 0]) ?_ 0 _ rfl; exact bk_ BK470.out) hb); replace HB := bS_ hb; (try clear hb ho0); obtain ⟨Ao30, co30, eo30⟩ := Kd.S_slice HO473.out; subst eo30; obtain ⟨hcz31_0, hfz31_0⟩ := bf_ BK468.out))
   go_roundg k1
   case measure => have := HK1.out; omega
   case rel => exact ⟨(wrap64 (x9_1 + 1)), (t471), (.slice Ao30 t471.length co30), qz5, H', ⟨by have := HK1.out; omega⟩, ⟨by (with_reducible repeat (first | apply Kd.S_alloc | apply Kd.S_drewN | apply Kd.S_drew)); exact Kd.S_mono (Kd.S_far (p := ⟨gb468, 0, none⟩) (Kd.S_types HO473.out BK468.out (by decide)) (fun _ hk => hk.2) (.slice Ao30 t471.length co30)) (fun _ hk => trivial)⟩, ⟨by (with_reducible repeat (first | refine blk_drewN ?_ _ | refine blk_drew ?_ | refine blk_alloc ?_ _)); refine blk_far ?_ NB463_468.out _; exact bk_ BK463.out⟩, ⟨by (with_reducible repeat (first | refine blk_drewN ?_ _ | refine blk_drew ?_ | refine blk_alloc ?_ _)); refine blk_far ?_ NB464_468.out _; exact bk_ BK464.out⟩, ⟨by (with_reducible repeat (first | refine blk_drewN ?_ _ | refine blk_drew ?_ | refine blk_alloc ?_ _)); refine blk_put (cs := #[.slice Ao28 x469000_1.length co28]) ?_ 0 _ rfl; exact bk_ BK468.out⟩, ⟨qz1⟩⟩
   }
   {
   rw [if_neg c19] at H
   have c19b0 := beq_eq_false_iff_ne.mpr c19
   have c19b1 := bne_iff_ne.mpr c19
   replace H := Option.bind_eq_some_iff.mp H
   obtain ⟨t475, A320, H⟩ := H
   replace H : (some (t475, false)) = some (r1, r2) := H
   have A32 := aM A320
   clear A320
   simp only [Option.some.injEq, Prod.mk.injEq] at H
   obtain ⟨rfl, rfl⟩ := H
   have p469 : 0 ≤ (x9_1 : Int) := dt_
   have q469 : x9_1 < (l1.length : Int) := dt_
   obtain ⟨ad469, e469, hx469_0, hx469_1, hx469_2⟩ := at_T50 HR1.out x9_1 p469 q469
   cases e469
   replace hx469_0 := cB_ hx469_0
   replace hx469_1 := cB_ hx469_1
   replace hx469_2 := cB_ hx469_2
   replace p469 := eq_true p469
   replace q469 := eq_true q469
   go_wp2_with (first | ((with_reducible refine gate_dst (N := 10) rfl ?_); refine bx_ 10 #[.int .i64 0, .int .i64 0, .int .i64 0] 50 ?_; intro gb470 hg w33 hbox hb; replace HO_469000 := aM (Kd.S_below (rs_ HO_469000.out) hb); have BK470 := aM (hbox); have GW470 := aM (bz_ w hg qz1); have GE470 := GW470; replace HB := bS_ hb; obtain ⟨NB463_470, NB470_463⟩ := nb_ hg (bk_ BK463.out); replace BK463 := bB_ BK463 hb; obtain ⟨NB464_470, NB470_464⟩ := nb_ hg (bk_ BK464.out); replace BK464 := bB_ BK464 hb; obtain ⟨NB468_470, NB470_468⟩ := nb_ hg (bk_ BK468.out); replace BK468 := bB_ BK468 hb; clear hb hbox hg; have hnb34 := NB470_463.out; have hnc34 := NB463_470.out; have hnb35 := NB470_464.out; have hnc35 := NB464_470.out; have hnb36 := NB470_468.out; have hnc36 := NB468_470.out; obtain ⟨hcz37_0, hcz37_1, hcz37_2, hfz37_0, hfz37_1, hfz37_2⟩ := b6_ BK470.out; have hnb38 := NB468_463.out; have hnc38 := NB463_468.out; have hnb39 := NB468_464.out; have hnc39 := NB464_468.out; obtain ⟨hcz40_0, hfz40_0⟩ := bf_ BK468.out; obtain ⟨Ao41, co41, eo41⟩ := Kd.S_slice HO_469000.out; subst eo41) | ((with_reducible refine gate_callee (f := 18) rfl ?_); refine goesL_ (some 46) rfl rfl Try.func18 (by kernel_rfl) rfl #[.agg #[.slice Ao41 x469000_1.length co41], .int .i64 ((rd_T50 l1 x9_1).f0), .int .i64 ((rd_T50 l1 x9_1).f1), .int .i64 ((rd_T50 l1 x9_1).f2)] rfl qz4 ?_; (with_reducible refine (spec_Hold.calls k1 _ _ x469000_1 ((rd_T50 l1 x9_1).f0) ((rd_T50 l1 x9_1).f1) ((rd_T50 l1 x9_1).f2) t471 t474 _ ?side1 ?side2 A18.out).mono ?_); (case side1 => refine (Kd.S_reads' (e := 79) (base := w.heap.size) (ok := fun k_ => True) (n := x469000_1.length) (c := co41) ?_).2.2; exact (by (with_reducible repeat (first | apply Kd.S_alloc | apply Kd.S_drewN | apply Kd.S_drew)); exact (Kd.S_mono (Kd.S_far (p := ⟨gb470, 2, none⟩) (Kd.S_far (p := ⟨gb470, 1, none⟩) (Kd.S_far (p := ⟨gb470, 0, none⟩) (Kd.S_types HO_469000.out BK470.out (by decide)) (fun _ hk => hk.2) (.int .i64 ((rd_T50 l1 x9_1).f0))) (fun _ hk => hk.2) (.int .i64 ((rd_T50 l1 x9_1).f1))) (fun _ hk => hk.2) (.int .i64 ((rd_T50 l1 x9_1).f2))) (fun _ h_ => h_.1)))); (case side2 => exact (Kd.S_reads' HO_469000.out).2.1); rintro e w42 ⟨v472, rfl, ho0, hb⟩; refine ⟨_, rfl, ?_⟩; have HO473 := aM (Kd.S_lower (Kd.S_new' ho0 (Kd.S_lt (by (with_reducible repeat (first | apply Kd.S_alloc | apply Kd.S_drewN | apply Kd.S_drew)); exact (Kd.S_mono (Kd.S_far (p := ⟨gb470, 2, none⟩) (Kd.S_far (p := ⟨gb470, 1, none⟩) (Kd.S_far (p := ⟨gb470, 0, none⟩) (Kd.S_types HO_469000.out BK470.out (by decide)) (fun _ hk => hk.2) (.int .i64 ((rd_T50 l1 x9_1).f0))) (fun _ hk => hk.2) (.int .i64 ((rd_T50 l1 x9_1).f1))) (fun _ hk => hk.2) (.int .i64 ((rd_T50 l1 x9_1).f2))) (fun _ h_ => h_.1))))) (below_size qz1)); replace HO_469000 := aM (Kd.S_elder' (by (with_reducible repeat (first | apply Kd.S_alloc | apply Kd.S_drewN | apply Kd.S_drew)); exact (Kd.S_mono (Kd.S_far (p := ⟨gb470, 2, none⟩) (Kd.S_far (p := ⟨gb470, 1, none⟩) (Kd.S_far (p := ⟨gb470, 0, none⟩) (Kd.S_types HO_469000.out BK470.out (by decide)) (fun _ hk => hk.2) (.int .i64 ((rd_T50 l1 x9_1).f0))) (fun _ hk => hk.2) (.int .i64 ((rd_T50 l1 x9_1).f1))) (fun _ hk => hk.2) (.int .i64 ((rd_T50 l1 x9_1).f2))) (fun _ h_ => h_.1))) (Kd.S_base ho0) hb); replace BK463 := aM (blk_below (g := gb463) (o := .cells #[.slice A0_0 l0_0.length c0_0] 26 (0, 0)) (bk2_ BK463.out) hb); replace BK464 := aM (blk_below (g := gb464) (o := .cells #[.slice none 0 0] 26 (0, 0)) (bk2_ BK464.out) hb); replace BK468 := aM (blk_below (g := gb468) (o := .cells #[.slice Ao41 x469000_1.length co41] 26 (0, 0)) (bk2_ BK468.out) hb); replace BK470 := aM (blk_below (g := gb470) (o := .cells #[.int .i64 ((rd_T50 l1 x9_1).f0), .int .i64 ((rd_T50 l1 x9_1).f1), .int .i64 ((rd_T50 l1 x9_1).f2)] 50 (0, 0)) (by (with_reducible repeat (first | refine blk_drewN ?_ _ | refine blk_drew ?_ | refine blk_alloc ?_ _)); refine blk_put (cs := #[.int .i64 ((rd_T50 l1 x9_1).f0), .int .i64 ((rd_T50 l1 x9_1).f1), .int .i64 0]) ?_ 2 _ rfl; (with_reducible repeat (first | refine blk_drewN ?_ _ | refine blk_drew ?_ | refine blk_alloc ?_ _)); refine blk_put (cs := #[.int .i64 ((rd_T50 l1 x9_1).f0), .int .i64 0, .int .i64 0]) ?_ 1 _ rfl; (with_reducible repeat (first | refine blk_drewN ?_ _ | refine blk_drew ?_ | refine blk_alloc ?_ _)); refine blk_put (cs := #[.int .i64 0, .int .i64 0, .int .i64 0]) ?_ 0 _ rfl; exact bk_ BK470.out) hb); replace HB := bS_ hb; (try clear hb ho0); obtain ⟨Ao43, co43, eo43⟩ := Kd.S_slice HO473.out; subst eo43; obtain ⟨hcz44_0, hfz44_0⟩ := bf_ BK468.out; have hnb45 := NB463_464.out; have hnc45 := NB464_463.out; obtain ⟨hcz46_0, hfz46_0⟩ := bf_ BK463.out) | ((with_reducible refine gate_callee (f := 62) rfl ?_); refine goesL_ (some 65) rfl rfl Try.func62 (by kernel_rfl) rfl #[.agg #[.slice A0_0 l0_0.length c0_0]] rfl qz4 ?_; (with_reducible refine (spec_l5Copy.calls k1 _ _ l0_0 t475 _ ?side1 ?side2 A32.out).mono ?_); (case side1 => exact Kd.C_below HR0_0.out qz1); (case side2 => exact HC0_0.out); rintro e w47 ⟨v476, rfl, ho0, hb⟩; refine ⟨_, rfl, ?_⟩; have HO477 := aM (Kd.S_lower (Kd.S_new' (Kd.S_new' ho0 (Kd.S_lt (by (with_reducible repeat (first | apply Kd.S_alloc | apply Kd.S_drewN | apply Kd.S_drew)); exact (Kd.S_mono (Kd.S_far (p := ⟨gb468, 0, none⟩) (Kd.S_types HO_469000.out BK468.out (by decide)) (fun _ hk => hk.2) (.slice Ao43 t471.length co43)) (fun _ h_ => h_.1))))) (Kd.S_lt (by (with_reducible repeat (first | apply Kd.S_alloc | apply Kd.S_drewN | apply Kd.S_drew)); exact (Kd.S_mono (Kd.S_far (p := ⟨gb468, 0, none⟩) (Kd.S_types HO473.out BK468.out (by decide)) (fun _ hk => hk.2) (.slice Ao43 t471.length co43)) (fun _ h_ => h_.1))))) (below_size qz1)); replace HO_469000 := aM (Kd.S_elder' (by (with_reducible repeat (first | apply Kd.S_alloc | apply Kd.S_drewN | apply Kd.S_drew)); exact (Kd.S_mono (Kd.S_far (p := ⟨gb468, 0, none⟩) (Kd.S_types HO_469000.out BK468.out (by decide)) (fun _ hk => hk.2) (.slice Ao43 t471.length co43)) (fun _ h_ => h_.1))) (Kd.S_base ho0) hb); replace HO473 := aM (Kd.S_elder' (by (with_reducible repeat (first | apply Kd.S_alloc | apply Kd.S_drewN | apply Kd.S_drew)); exact (Kd.S_mono (Kd.S_far (p := ⟨gb468, 0, none⟩) (Kd.S_types HO473.out BK468.out (by decide)) (fun _ hk => hk.2) (.slice Ao43 t471.length co43)) (fun _ h_ => h_.1))) (Kd.S_base ho0) hb); replace BK463 := aM (blk_below (g := gb463) (o := .cells #[.slice A0_0 l0_0.length c0_0] 26 (0, 0)) (bk2_ BK463.out) hb); replace BK464 := aM (blk_below (g := gb464) (o := .cells #[.slice none 0 0] 26 (0, 0)) (bk2_ BK464.out) hb); replace BK468 := aM (blk_below (g := gb468) (o := .cells #[.slice Ao43 t471.length co43] 26 (0, 0)) (by (with_reducible repeat (first | refine blk_drewN ?_ _ | refine blk_drew ?_ | refine blk_alloc ?_ _)); refine blk_put (cs := #[.slice Ao41 x469000_1.length co41]) ?_ 0 _ rfl; exact bk_ BK468.out) hb); replace BK470 := aM (blk_below (g := gb470) (o := .cells #[.int .i64 ((rd_T50 l1 x9_1).f0), .int .i64 ((rd_T50 l1 x9_1).f1), .int .i64 ((rd_T50 l1 x9_1).f2)] 50 (0, 0)) (bk2_ BK470.out) hb); replace HB := bS_ hb; (try clear hb ho0); obtain ⟨Ao48, co48, eo48⟩ := Kd.S_slice HO477.out; subst eo48; obtain ⟨hcz49_0, hfz49_0⟩ := bf_ BK464.out))
   refine bodyPost_ret (results_ct rfl _ _ gb464 26 #[.slice Ao48 t475.length co48] (0, 0) _ rfl (by (with_reducible repeat (first | refine blk_drewN ?_ _ | refine blk_drew ?_ | refine blk_alloc ?_ _)); refine blk_put (cs := #[.slice none 0 0]) ?_ 0 _ rfl; exact bk_ BK464.out) Try.underlying26 rfl (by kernel_rfl)) rfl ?_
   exact ⟨_, qzw, by (with_reducible repeat (first | apply Kd.S_alloc | apply Kd.S_drewN | apply Kd.S_drew)); exact Kd.S_mono (Kd.S_far (p := ⟨gb464, 0, none⟩) (Kd.S_types HO477.out BK464.out (by decide)) (fun _ hk => hk.2) (.slice Ao48 t475.length co48)) (fun _ hk => trivial), qz1⟩
   }
   }
   {
   rw [if_neg c17] at H
   have c17b0 := beq_eq_false_iff_ne.mpr c17
   have c17b1 := bne_iff_ne.mpr c17
   by_cases c50 : a2 = 2
   {
   rw [if_pos c50] at H
   have c50b0 := beq_iff_eq.mpr c50
   have c50b1 := bne_eq_false_iff_eq.mpr c50
   clear c50
   replace H := Option.bind_eq_some_iff.mp H
   obtain ⟨⟨t478, t481⟩, A510, H⟩ := H
   replace H : (if t481 = 0 then (spec_l6Each.l0 k1 l1 a2 (wrap64 (x9_1 + 1)) l0_0 t478) else ((spec_l5Copy.f k1 l0_0).bind fun t482 => (some (t482, false)))) = some (r1, r2) := H
   have A51 := aM A510
   clear A510
   by_cases c52 : t481 = 0
   {
   rw [if_pos c52] at H
   have c52b0 := beq_iff_eq.mpr c52
   have c52b1 := bne_eq_false_iff_eq.mpr c52
   clear c52
   have H' := aM H
   clear H
   have p469 : 0 ≤ (x9_1 : Int) := dt_
   have q469 : x9_1 < (l1.length : Int) := dt_
   obtain ⟨ad469, e469, hx469_0, hx469_1, hx469_2⟩ := at_T50 HR1.out x9_1 p469 q469
   cases e469
   replace hx469_0 := cB_ hx469_0
   replace hx469_1 := cB_ hx469_1
   replace hx469_2 := cB_ hx469_2
   replace p469 := eq_true p469
   replace q469 := eq_true q469
   go_wp2_with (first | ((with_reducible refine gate_dst (N := 10) rfl ?_); refine bx_ 10 #[.int .i64 0, .int .i64 0, .int .i64 0] 50 ?_; intro gb470 hg w53 hbox hb; replace HO_469000 := aM (Kd.S_below (rs_ HO_469000.out) hb); have BK470 := aM (hbox); have GW470 := aM (bz_ w hg qz1); have GE470 := GW470; replace HB := bS_ hb; obtain ⟨NB463_470, NB470_463⟩ := nb_ hg (bk_ BK463.out); replace BK463 := bB_ BK463 hb; obtain ⟨NB464_470, NB470_464⟩ := nb_ hg (bk_ BK464.out); replace BK464 := bB_ BK464 hb; obtain ⟨NB468_470, NB470_468⟩ := nb_ hg (bk_ BK468.out); replace BK468 := bB_ BK468 hb; clear hb hbox hg; have hnb54 := NB470_463.out; have hnc54 := NB463_470.out; have hnb55 := NB470_464.out; have hnc55 := NB464_470.out; have hnb56 := NB470_468.out; have hnc56 := NB468_470.out; obtain ⟨hcz57_0, hcz57_1, hcz57_2, hfz57_0, hfz57_1, hfz57_2⟩ := b6_ BK470.out; have hnb58 := NB468_463.out; have hnc58 := NB463_468.out; have hnb59 := NB468_464.out; have hnc59 := NB464_468.out; obtain ⟨hcz60_0, hfz60_0⟩ := bf_ BK468.out; obtain ⟨Ao61, co61, eo61⟩ := Kd.S_slice HO_469000.out; subst eo61) | ((with_reducible refine gate_callee (f := 34) rfl ?_); refine goesL_ (some 59) rfl rfl Try.func34 (by kernel_rfl) rfl #[.agg #[.slice Ao61 x469000_1.length co61], .int .i64 ((rd_T50 l1 x9_1).f0), .int .i64 ((rd_T50 l1 x9_1).f1), .int .i64 ((rd_T50 l1 x9_1).f2)] rfl qz4 ?_; (with_reducible refine (spec_Release.calls k1 _ _ x469000_1 ((rd_T50 l1 x9_1).f0) ((rd_T50 l1 x9_1).f1) ((rd_T50 l1 x9_1).f2) t478 t481 _ ?side1 ?side2 A51.out).mono ?_); (case side1 => refine (Kd.S_reads' (e := 79) (base := w.heap.size) (ok := fun k_ => True) (n := x469000_1.length) (c := co61) ?_).2.2; exact (by (with_reducible repeat (first | apply Kd.S_alloc | apply Kd.S_drewN | apply Kd.S_drew)); exact (Kd.S_mono (Kd.S_far (p := ⟨gb470, 2, none⟩) (Kd.S_far (p := ⟨gb470, 1, none⟩) (Kd.S_far (p := ⟨gb470, 0, none⟩) (Kd.S_types HO_469000.out BK470.out (by decide)) (fun _ hk => hk.2) (.int .i64 ((rd_T50 l1 x9_1).f0))) (fun _ hk => hk.2) (.int .i64 ((rd_T50 l1 x9_1).f1))) (fun _ hk => hk.2) (.int .i64 ((rd_T50 l1 x9_1).f2))) (fun _ h_ => h_.1)))); (case side2 => exact (Kd.S_reads' HO_469000.out).2.1); rintro e w62 ⟨v479, rfl, ho0, hb⟩; refine ⟨_, rfl, ?_⟩; have HO480 := aM (Kd.S_lower (Kd.S_new' ho0 (Kd.S_lt (by (with_reducible repeat (first | apply Kd.S_alloc | apply Kd.S_drewN | apply Kd.S_drew)); exact (Kd.S_mono (Kd.S_far (p := ⟨gb470, 2, none⟩) (Kd.S_far (p := ⟨gb470, 1, none⟩) (Kd.S_far (p := ⟨gb470, 0, none⟩) (Kd.S_types HO_469000.out BK470.out (by decide)) (fun _ hk => hk.2) (.int .i64 ((rd_T50 l1 x9_1).f0))) (fun _ hk => hk.2) (.int .i64 ((rd_T50 l1 x9_1).f1))) (fun _ hk => hk.2) (.int .i64 ((rd_T50 l1 x9_1).f2))) (fun _ h_ => h_.1))))) (below_size qz1)); replace HO_469000 := aM (Kd.S_elder' (by (with_reducible repeat (first | apply Kd.S_alloc | apply Kd.S_drewN | apply Kd.S_drew)); exact (Kd.S_mono (Kd.S_far (p := ⟨gb470, 2, none⟩) (Kd.S_far (p := ⟨gb470, 1, none⟩) (Kd.S_far (p := ⟨gb470, 0, none⟩) (Kd.S_types HO_469000.out BK470.out (by decide)) (fun _ hk => hk.2) (.int .i64 ((rd_T50 l1 x9_1).f0))) (fun _ hk => hk.2) (.int .i64 ((rd_T50 l1 x9_1).f1))) (fun _ hk => hk.2) (.int .i64 ((rd_T50 l1 x9_1).f2))) (fun _ h_ => h_.1))) (Kd.S_base ho0) hb); replace BK463 := aM (blk_below (g := gb463) (o := .cells #[.slice A0_0 l0_0.length c0_0] 26 (0, 0)) (bk2_ BK463.out) hb); replace BK464 := aM (blk_below (g := gb464) (o := .cells #[.slice none 0 0] 26 (0, 0)) (bk2_ BK464.out) hb); replace BK468 := aM (blk_below (g := gb468) (o := .cells #[.slice Ao61 x469000_1.length co61] 26 (0, 0)) (bk2_ BK468.out) hb); replace BK470 := aM (blk_below (g := gb470) (o := .cells #[.int .i64 ((rd_T50 l1 x9_1).f0), .int .i64 ((rd_T50 l1 x9_1).f1), .int .i64 ((rd_T50 l1 x9_1).f2)] 50 (0, 0)) (by (with_reducible repeat (first | refine blk_drewN ?_ _ | refine blk_drew ?_ | refine blk_alloc ?_ _)); refine blk_put (cs := #[.int .i64 ((rd_T50 l1 x9_1).f0), .int .i64 ((rd_T50 l1 x9_1).f1), .int .i64 0]) ?_ 2 _ rfl; (with_reducible repeat (first | refine blk_drewN ?_ _ | refine blk_drew ?_ | refine blk_alloc ?_ _)); refine blk_put (cs := #[.int .i64 ((rd_T50 l1 x9_1).f0), .int .i64 0, .int .i64 0]) ?_ 1 _ rfl; (with_reducible repeat (first | refine blk_drewN ?_ _ | refine blk_drew ?_ | refine blk_alloc ?_ _)); refine blk_put (cs := #[.int .i64 0, .int .i64 0, .int .i64 0]) ?_ 0 _ rfl; exact bk_ BK470.out) hb); replace HB := bS_ hb; (try clear hb ho0); obtain ⟨Ao63, co63, eo63⟩ := Kd.S_slice HO480.out; subst eo63; obtain ⟨hcz64_0, hfz64_0⟩ := bf_ BK468.out))
   go_roundg k1
   case measure => have := HK1.out; omega
   case rel => exact ⟨(wrap64 (x9_1 + 1)), (t478), (.slice Ao63 t478.length co63), qz5, H', ⟨by have := HK1.out; omega⟩, ⟨by (with_reducible repeat (first | apply Kd.S_alloc | apply Kd.S_drewN | apply Kd.S_drew)); exact Kd.S_mono (Kd.S_far (p := ⟨gb468, 0, none⟩) (Kd.S_types HO480.out BK468.out (by decide)) (fun _ hk => hk.2) (.slice Ao63 t478.length co63)) (fun _ hk => trivial)⟩, ⟨by (with_reducible repeat (first | refine blk_drewN ?_ _ | refine blk_drew ?_ | refine blk_alloc ?_ _)); refine blk_far ?_ NB463_468.out _; exact bk_ BK463.out⟩, ⟨by (with_reducible repeat (first | refine blk_drewN ?_ _ | refine blk_drew ?_ | refine blk_alloc ?_ _)); refine blk_far ?_ NB464_468.out _; exact bk_ BK464.out⟩, ⟨by (with_reducible repeat (first | refine blk_drewN ?_ _ | refine blk_drew ?_ | refine blk_alloc ?_ _)); refine blk_put (cs := #[.slice Ao61 x469000_1.length co61]) ?_ 0 _ rfl; exact bk_ BK468.out⟩, ⟨qz1⟩⟩
   }
   {
   rw [if_neg c52] at H
   have c52b0 := beq_eq_false_iff_ne.mpr c52
   have c52b1 := bne_iff_ne.mpr c52
   replace H := Option.bind_eq_some_iff.mp H
   obtain ⟨t482, A650, H⟩ := H
   replace H : (some (t482, false)) = some (r1, r2) := H
   have A65 := aM A650
   clear A650
   simp only [Option.some.injEq, Prod.mk.injEq] at H
   obtain ⟨rfl, rfl⟩ := H
   have p469 : 0 ≤ (x9_1 : Int) := dt_
   have q469 : x9_1 < (l1.length : Int) := dt_
   obtain ⟨ad469, e469, hx469_0, hx469_1, hx469_2⟩ := at_T50 HR1.out x9_1 p469 q469
   cases e469
   replace hx469_0 := cB_ hx469_0
   replace hx469_1 := cB_ hx469_1
   replace hx469_2 := cB_ hx469_2
   replace p469 := eq_true p469
   replace q469 := eq_true q469
   go_wp2_with (first | ((with_reducible refine gate_dst (N := 10) rfl ?_); refine bx_ 10 #[.int .i64 0, .int .i64 0, .int .i64 0] 50 ?_; intro gb470 hg w66 hbox hb; replace HO_469000 := aM (Kd.S_below (rs_ HO_469000.out) hb); have BK470 := aM (hbox); have GW470 := aM (bz_ w hg qz1); have GE470 := GW470; replace HB := bS_ hb; obtain ⟨NB463_470, NB470_463⟩ := nb_ hg (bk_ BK463.out); replace BK463 := bB_ BK463 hb; obtain ⟨NB464_470, NB470_464⟩ := nb_ hg (bk_ BK464.out); replace BK464 := bB_ BK464 hb; obtain ⟨NB468_470, NB470_468⟩ := nb_ hg (bk_ BK468.out); replace BK468 := bB_ BK468 hb; clear hb hbox hg; have hnb67 := NB470_463.out; have hnc67 := NB463_470.out; have hnb68 := NB470_464.out; have hnc68 := NB464_470.out; have hnb69 := NB470_468.out; have hnc69 := NB468_470.out; obtain ⟨hcz70_0, hcz70_1, hcz70_2, hfz70_0, hfz70_1, hfz70_2⟩ := b6_ BK470.out; have hnb71 := NB468_463.out; have hnc71 := NB463_468.out; have hnb72 := NB468_464.out; have hnc72 := NB464_468.out; obtain ⟨hcz73_0, hfz73_0⟩ := bf_ BK468.out; obtain ⟨Ao74, co74, eo74⟩ := Kd.S_slice HO_469000.out; subst eo74) | ((with_reducible refine gate_callee (f := 34) rfl ?_); refine goesL_ (some 59) rfl rfl Try.func34 (by kernel_rfl) rfl #[.agg #[.slice Ao74 x469000_1.length co74], .int .i64 ((rd_T50 l1 x9_1).f0), .int .i64 ((rd_T50 l1 x9_1).f1), .int .i64 ((rd_T50 l1 x9_1).f2)] rfl qz4 ?_; (with_reducible refine (spec_Release.calls k1 _ _ x469000_1 ((rd_T50 l1 x9_1).f0) ((rd_T50 l1 x9_1).f1) ((rd_T50 l1 x9_1).f2) t478 t481 _ ?side1 ?side2 A51.out).mono ?_); (case side1 => refine (Kd.S_reads' (e := 79) (base := w.heap.size) (ok := fun k_ => True) (n := x469000_1.length) (c := co74) ?_).2.2; exact (by (with_reducible repeat (first | apply Kd.S_alloc | apply Kd.S_drewN | apply Kd.S_drew)); exact (Kd.S_mono (Kd.S_far (p := ⟨gb470, 2, none⟩) (Kd.S_far (p := ⟨gb470, 1, none⟩) (Kd.S_far (p := ⟨gb470, 0, none⟩) (Kd.S_types HO_469000.out BK470.out (by decide)) (fun _ hk => hk.2) (.int .i64 ((rd_T50 l1 x9_1).f0))) (fun _ hk => hk.2) (.int .i64 ((rd_T50 l1 x9_1).f1))) (fun _ hk => hk.2) (.int .i64 ((rd_T50 l1 x9_1).f2))) (fun _ h_ => h_.1)))); (case side2 => exact (Kd.S_reads' HO_469000.out).2.1); rintro e w75 ⟨v479, rfl, ho0, hb⟩; refine ⟨_, rfl, ?_⟩; have HO480 := aM (Kd.S_lower (Kd.S_new' ho0 (Kd.S_lt (by (with_reducible repeat (first | apply Kd.S_alloc | apply Kd.S_drewN | apply Kd.S_drew)); exact (Kd.S_mono (Kd.S_far (p := ⟨gb470, 2, none⟩) (Kd.S_far (p := ⟨gb470, 1, none⟩) (Kd.S_far (p := ⟨gb470, 0, none⟩) (Kd.S_types HO_469000.out BK470.out (by decide)) (fun _ hk => hk.2) (.int .i64 ((rd_T50 l1 x9_1).f0))) (fun _ hk => hk.2) (.int .i64 ((rd_T50 l1 x9_1).f1))) (fun _ hk => hk.2) (.int .i64 ((rd_T50 l1 x9_1).f2))) (fun _ h_ => h_.1))))) (below_size qz1)); replace HO_469000 := aM (Kd.S_elder' (by (with_reducible repeat (first | apply Kd.S_alloc | apply Kd.S_drewN | apply Kd.S_drew)); exact (Kd.S_mono (Kd.S_far (p := ⟨gb470, 2, none⟩) (Kd.S_far (p := ⟨gb470, 1, none⟩) (Kd.S_far (p := ⟨gb470, 0, none⟩) (Kd.S_types HO_469000.out BK470.out (by decide)) (fun _ hk => hk.2) (.int .i64 ((rd_T50 l1 x9_1).f0))) (fun _ hk => hk.2) (.int .i64 ((rd_T50 l1 x9_1).f1))) (fun _ hk => hk.2) (.int .i64 ((rd_T50 l1 x9_1).f2))) (fun _ h_ => h_.1))) (Kd.S_base ho0) hb); replace BK463 := aM (blk_below (g := gb463) (o := .cells #[.slice A0_0 l0_0.length c0_0] 26 (0, 0)) (bk2_ BK463.out) hb); replace BK464 := aM (blk_below (g := gb464) (o := .cells #[.slice none 0 0] 26 (0, 0)) (bk2_ BK464.out) hb); replace BK468 := aM (blk_below (g := gb468) (o := .cells #[.slice Ao74 x469000_1.length co74] 26 (0, 0)) (bk2_ BK468.out) hb); replace BK470 := aM (blk_below (g := gb470) (o := .cells #[.int .i64 ((rd_T50 l1 x9_1).f0), .int .i64 ((rd_T50 l1 x9_1).f1), .int .i64 ((rd_T50 l1 x9_1).f2)] 50 (0, 0)) (by (with_reducible repeat (first | refine blk_drewN ?_ _ | refine blk_drew ?_ | refine blk_alloc ?_ _)); refine blk_put (cs := #[.int .i64 ((rd_T50 l1 x9_1).f0), .int .i64 ((rd_T50 l1 x9_1).f1), .int .i64 0]) ?_ 2 _ rfl; (with_reducible repeat (first | refine blk_drewN ?_ _ | refine blk_drew ?_ | refine blk_alloc ?_ _)); refine blk_put (cs := #[.int .i64 ((rd_T50 l1 x9_1).f0), .int .i64 0, .int .i64 0]) ?_ 1 _ rfl; (with_reducible repeat (first | refine blk_drewN ?_ _ | refine blk_drew ?_ | refine blk_alloc ?_ _)); refine blk_put (cs := #[.int .i64 0, .int .i64 0, .int .i64 0]) ?_ 0 _ rfl; exact bk_ BK470.out) hb); replace HB := bS_ hb; (try clear hb ho0); obtain ⟨Ao76, co76, eo76⟩ := Kd.S_slice HO480.out; subst eo76; obtain ⟨hcz77_0, hfz77_0⟩ := bf_ BK468.out; have hnb78 := NB463_464.out; have hnc78 := NB464_463.out; obtain ⟨hcz79_0, hfz79_0⟩ := bf_ BK463.out) | ((with_reducible refine gate_callee (f := 62) rfl ?_); refine goesL_ (some 65) rfl rfl Try.func62 (by kernel_rfl) rfl #[.agg #[.slice A0_0 l0_0.length c0_0]] rfl qz4 ?_; (with_reducible refine (spec_l5Copy.calls k1 _ _ l0_0 t482 _ ?side1 ?side2 A65.out).mono ?_); (case side1 => exact Kd.C_below HR0_0.out qz1); (case side2 => exact HC0_0.out); rintro e w80 ⟨v483, rfl, ho0, hb⟩; refine ⟨_, rfl, ?_⟩; have HO484 := aM (Kd.S_lower (Kd.S_new' (Kd.S_new' ho0 (Kd.S_lt (by (with_reducible repeat (first | apply Kd.S_alloc | apply Kd.S_drewN | apply Kd.S_drew)); exact (Kd.S_mono (Kd.S_far (p := ⟨gb468, 0, none⟩) (Kd.S_types HO_469000.out BK468.out (by decide)) (fun _ hk => hk.2) (.slice Ao76 t478.length co76)) (fun _ h_ => h_.1))))) (Kd.S_lt (by (with_reducible repeat (first | apply Kd.S_alloc | apply Kd.S_drewN | apply Kd.S_drew)); exact (Kd.S_mono (Kd.S_far (p := ⟨gb468, 0, none⟩) (Kd.S_types HO480.out BK468.out (by decide)) (fun _ hk => hk.2) (.slice Ao76 t478.length co76)) (fun _ h_ => h_.1))))) (below_size qz1)); replace HO_469000 := aM (Kd.S_elder' (by (with_reducible repeat (first | apply Kd.S_alloc | apply Kd.S_drewN | apply Kd.S_drew)); exact (Kd.S_mono (Kd.S_far (p := ⟨gb468, 0, none⟩) (Kd.S_types HO_469000.out BK468.out (by decide)) (fun _ hk => hk.2) (.slice Ao76 t478.length co76)) (fun _ h_ => h_.1))) (Kd.S_base ho0) hb); replace HO480 := aM (Kd.S_elder' (by (with_reducible repeat (first | apply Kd.S_alloc | apply Kd.S_drewN | apply Kd.S_drew)); exact (Kd.S_mono (Kd.S_far (p := ⟨gb468, 0, none⟩) (Kd.S_types HO480.out BK468.out (by decide)) (fun _ hk => hk.2) (.slice Ao76 t478.length co76)) (fun _ h_ => h_.1))) (Kd.S_base ho0) hb); replace BK463 := aM (blk_below (g := gb463) (o := .cells #[.slice A0_0 l0_0.length c0_0] 26 (0, 0)) (bk2_ BK463.out) hb); replace BK464 := aM (blk_below (g := gb464) (o := .cells #[.slice none 0 0] 26 (0, 0)) (bk2_ BK464.out) hb); replace BK468 := aM (blk_below (g := gb468) (o := .cells #[.slice Ao76 t478.length co76] 26 (0, 0)) (by (with_reducible repeat (first | refine blk_drewN ?_ _ | refine blk_drew ?_ | refine blk_alloc ?_ _)); refine blk_put (cs := #[.slice Ao74 x469000_1.length co74]) ?_ 0 _ rfl; exact bk_ BK468.out) hb); replace BK470 := aM (blk_below (g := gb470) (o := .cells #[.int .i64 ((rd_T50 l1 x9_1).f0), .int .i64 ((rd_T50 l1 x9_1).f1), .int .i64 ((rd_T50 l1 x9_1).f2)] 50 (0, 0)) (bk2_ BK470.out) hb); replace HB := bS_ hb; (try clear hb ho0); obtain ⟨Ao81, co81, eo81⟩ := Kd.S_slice HO484.out; subst eo81; obtain ⟨hcz82_0, hfz82_0⟩ := bf_ BK464.out))
   refine bodyPost_ret (results_ct rfl _ _ gb464 26 #[.slice Ao81 t482.length co81] (0, 0) _ rfl (by (with_reducible repeat (first | refine blk_drewN ?_ _ | refine blk_drew ?_ | refine blk_alloc ?_ _)); refine blk_put (cs := #[.slice none 0 0]) ?_ 0 _ rfl; exact bk_ BK464.out) Try.underlying26 rfl (by kernel_rfl)) rfl ?_
   exact ⟨_, qzw, by (with_reducible repeat (first | apply Kd.S_alloc | apply Kd.S_drewN | apply Kd.S_drew)); exact Kd.S_mono (Kd.S_far (p := ⟨gb464, 0, none⟩) (Kd.S_types HO484.out BK464.out (by decide)) (fun _ hk => hk.2) (.slice Ao81 t482.length co81)) (fun _ hk => trivial), qz1⟩
   }
   }
   {
   rw [if_neg c50] at H
   have c50b0 := beq_eq_false_iff_ne.mpr c50
   have c50b1 := bne_iff_ne.mpr c50
   replace H := Option.bind_eq_some_iff.mp H
   obtain ⟨⟨t485, t488⟩, A830, H⟩ := H
   replace H : (if t488 = 0 then (spec_l6Each.l0 k1 l1 a2 (wrap64 (x9_1 + 1)) l0_0 t485) else ((spec_l5Copy.f k1 l0_0).bind fun t489 => (some (t489, false)))) = some (r1, r2) := H
   have A83 := aM A830
   clear A830
   by_cases c84 : t488 = 0
   {
   rw [if_pos c84] at H
   have c84b0 := beq_iff_eq.mpr c84
   have c84b1 := bne_eq_false_iff_eq.mpr c84
   clear c84
   have H' := aM H
   clear H
   have p469 : 0 ≤ (x9_1 : Int) := dt_
   have q469 : x9_1 < (l1.length : Int) := dt_
   obtain ⟨ad469, e469, hx469_0, hx469_1, hx469_2⟩ := at_T50 HR1.out x9_1 p469 q469
   cases e469
   replace hx469_0 := cB_ hx469_0
   replace hx469_1 := cB_ hx469_1
   replace hx469_2 := cB_ hx469_2
   replace p469 := eq_true p469
   replace q469 := eq_true q469
   go_wp2_with (first | ((with_reducible refine gate_dst (N := 10) rfl ?_); refine bx_ 10 #[.int .i64 0, .int .i64 0, .int .i64 0] 50 ?_; intro gb470 hg w85 hbox hb; replace HO_469000 := aM (Kd.S_below (rs_ HO_469000.out) hb); have BK470 := aM (hbox); have GW470 := aM (bz_ w hg qz1); have GE470 := GW470; replace HB := bS_ hb; obtain ⟨NB463_470, NB470_463⟩ := nb_ hg (bk_ BK463.out); replace BK463 := bB_ BK463 hb; obtain ⟨NB464_470, NB470_464⟩ := nb_ hg (bk_ BK464.out); replace BK464 := bB_ BK464 hb; obtain ⟨NB468_470, NB470_468⟩ := nb_ hg (bk_ BK468.out); replace BK468 := bB_ BK468 hb; clear hb hbox hg; have hnb86 := NB470_463.out; have hnc86 := NB463_470.out; have hnb87 := NB470_464.out; have hnc87 := NB464_470.out; have hnb88 := NB470_468.out; have hnc88 := NB468_470.out; obtain ⟨hcz89_0, hcz89_1, hcz89_2, hfz89_0, hfz89_1, hfz89_2⟩ := b6_ BK470.out; have hnb90 := NB468_463.out; have hnc90 := NB463_468.out; have hnb91 := NB468_464.out; have hnc91 := NB464_468.out; obtain ⟨hcz92_0, hfz92_0⟩ := bf_ BK468.out; obtain ⟨Ao93, co93, eo93⟩ := Kd.S_slice HO_469000.out; subst eo93) | ((with_reducible refine gate_callee (f := 28) rfl ?_); refine goesL_ (some 33) rfl rfl Try.func28 (by kernel_rfl) rfl #[.agg #[.slice Ao93 x469000_1.length co93], .int .i64 ((rd_T50 l1 x9_1).f0), .int .i64 ((rd_T50 l1 x9_1).f1), .int .i64 ((rd_T50 l1 x9_1).f2)] rfl qz4 ?_; (with_reducible refine (spec_TakeOut.calls k1 _ _ x469000_1 ((rd_T50 l1 x9_1).f0) ((rd_T50 l1 x9_1).f1) ((rd_T50 l1 x9_1).f2) t485 t488 _ ?side1 ?side2 A83.out).mono ?_); (case side1 => refine (Kd.S_reads' (e := 79) (base := w.heap.size) (ok := fun k_ => True) (n := x469000_1.length) (c := co93) ?_).2.2; exact (by (with_reducible repeat (first | apply Kd.S_alloc | apply Kd.S_drewN | apply Kd.S_drew)); exact (Kd.S_mono (Kd.S_far (p := ⟨gb470, 2, none⟩) (Kd.S_far (p := ⟨gb470, 1, none⟩) (Kd.S_far (p := ⟨gb470, 0, none⟩) (Kd.S_types HO_469000.out BK470.out (by decide)) (fun _ hk => hk.2) (.int .i64 ((rd_T50 l1 x9_1).f0))) (fun _ hk => hk.2) (.int .i64 ((rd_T50 l1 x9_1).f1))) (fun _ hk => hk.2) (.int .i64 ((rd_T50 l1 x9_1).f2))) (fun _ h_ => h_.1)))); (case side2 => exact (Kd.S_reads' HO_469000.out).2.1); rintro e w94 ⟨v486, rfl, ho0, hb⟩; refine ⟨_, rfl, ?_⟩; have HO487 := aM (Kd.S_lower (Kd.S_new' ho0 (Kd.S_lt (by (with_reducible repeat (first | apply Kd.S_alloc | apply Kd.S_drewN | apply Kd.S_drew)); exact (Kd.S_mono (Kd.S_far (p := ⟨gb470, 2, none⟩) (Kd.S_far (p := ⟨gb470, 1, none⟩) (Kd.S_far (p := ⟨gb470, 0, none⟩) (Kd.S_types HO_469000.out BK470.out (by decide)) (fun _ hk => hk.2) (.int .i64 ((rd_T50 l1 x9_1).f0))) (fun _ hk => hk.2) (.int .i64 ((rd_T50 l1 x9_1).f1))) (fun _ hk => hk.2) (.int .i64 ((rd_T50 l1 x9_1).f2))) (fun _ h_ => h_.1))))) (below_size qz1)); replace HO_469000 := aM (Kd.S_elder' (by (with_reducible repeat (first | apply Kd.S_alloc | apply Kd.S_drewN | apply Kd.S_drew)); exact (Kd.S_mono (Kd.S_far (p := ⟨gb470, 2, none⟩) (Kd.S_far (p := ⟨gb470, 1, none⟩) (Kd.S_far (p := ⟨gb470, 0, none⟩) (Kd.S_types HO_469000.out BK470.out (by decide)) (fun _ hk => hk.2) (.int .i64 ((rd_T50 l1 x9_1).f0))) (fun _ hk => hk.2) (.int .i64 ((rd_T50 l1 x9_1).f1))) (fun _ hk => hk.2) (.int .i64 ((rd_T50 l1 x9_1).f2))) (fun _ h_ => h_.1))) (Kd.S_base ho0) hb); replace BK463 := aM (blk_below (g := gb463) (o := .cells #[.slice A0_0 l0_0.length c0_0] 26 (0, 0)) (bk2_ BK463.out) hb); replace BK464 := aM (blk_below (g := gb464) (o := .cells #[.slice none 0 0] 26 (0, 0)) (bk2_ BK464.out) hb); replace BK468 := aM (blk_below (g := gb468) (o := .cells #[.slice Ao93 x469000_1.length co93] 26 (0, 0)) (bk2_ BK468.out) hb); replace BK470 := aM (blk_below (g := gb470) (o := .cells #[.int .i64 ((rd_T50 l1 x9_1).f0), .int .i64 ((rd_T50 l1 x9_1).f1), .int .i64 ((rd_T50 l1 x9_1).f2)] 50 (0, 0)) (by (with_reducible repeat (first | refine blk_drewN ?_ _ | refine blk_drew ?_ | refine blk_alloc ?_ _)); refine blk_put (cs := #[.int .i64 ((rd_T50 l1 x9_1).f0), .int .i64 ((rd_T50 l1 x9_1).f1), .int .i64 0]) ?_ 2 _ rfl; (with_reducible repeat (first | refine blk_drewN ?_ _ | refine blk_drew ?_ | refine blk_alloc ?_ _)); refine blk_put (cs := #[.int .i64 ((rd_T50 l1 x9_1).f0), .int .i64 0, .int .i64 0]) ?_ 1 _ rfl; (with_reducible repeat (first | refine blk_drewN ?_ _ | refine blk_drew ?_ | refine blk_alloc ?_ _)); refine blk_put (cs := #[.int .i64 0, .int .i64 0, .int .i64 0]) ?_ 0 _ rfl; exact bk_ BK470.out) hb); replace HB := bS_ hb; (try clear hb ho0); obtain ⟨Ao95, co95, eo95⟩ := Kd.S_slice HO487.out; subst eo95; obtain ⟨hcz96_0, hfz96_0⟩ := bf_ BK468.out))
   go_roundg k1
   case measure => have := HK1.out; omega
   case rel => exact ⟨(wrap64 (x9_1 + 1)), (t485), (.slice Ao95 t485.length co95), qz5, H', ⟨by have := HK1.out; omega⟩, ⟨by (with_reducible repeat (first | apply Kd.S_alloc | apply Kd.S_drewN | apply Kd.S_drew)); exact Kd.S_mono (Kd.S_far (p := ⟨gb468, 0, none⟩) (Kd.S_types HO487.out BK468.out (by decide)) (fun _ hk => hk.2) (.slice Ao95 t485.length co95)) (fun _ hk => trivial)⟩, ⟨by (with_reducible repeat (first | refine blk_drewN ?_ _ | refine blk_drew ?_ | refine blk_alloc ?_ _)); refine blk_far ?_ NB463_468.out _; exact bk_ BK463.out⟩, ⟨by (with_reducible repeat (first | refine blk_drewN ?_ _ | refine blk_drew ?_ | refine blk_alloc ?_ _)); refine blk_far ?_ NB464_468.out _; exact bk_ BK464.out⟩, ⟨by (with_reducible repeat (first | refine blk_drewN ?_ _ | refine blk_drew ?_ | refine blk_alloc ?_ _)); refine blk_put (cs := #[.slice Ao93 x469000_1.length co93]) ?_ 0 _ rfl; exact bk_ BK468.out⟩, ⟨qz1⟩⟩
   }
   {
   rw [if_neg c84] at H
   have c84b0 := beq_eq_false_iff_ne.mpr c84
   have c84b1 := bne_iff_ne.mpr c84
   replace H := Option.bind_eq_some_iff.mp H
   obtain ⟨t489, A970, H⟩ := H
   replace H : (some (t489, false)) = some (r1, r2) := H
   have A97 := aM A970
   clear A970
   simp only [Option.some.injEq, Prod.mk.injEq] at H
   obtain ⟨rfl, rfl⟩ := H
   have p469 : 0 ≤ (x9_1 : Int) := dt_
   have q469 : x9_1 < (l1.length : Int) := dt_
   obtain ⟨ad469, e469, hx469_0, hx469_1, hx469_2⟩ := at_T50 HR1.out x9_1 p469 q469
   cases e469
   replace hx469_0 := cB_ hx469_0
   replace hx469_1 := cB_ hx469_1
   replace hx469_2 := cB_ hx469_2
   replace p469 := eq_true p469
   replace q469 := eq_true q469
   go_wp2_with (first | ((with_reducible refine gate_dst (N := 10) rfl ?_); refine bx_ 10 #[.int .i64 0, .int .i64 0, .int .i64 0] 50 ?_; intro gb470 hg w98 hbox hb; replace HO_469000 := aM (Kd.S_below (rs_ HO_469000.out) hb); have BK470 := aM (hbox); have GW470 := aM (bz_ w hg qz1); have GE470 := GW470; replace HB := bS_ hb; obtain ⟨NB463_470, NB470_463⟩ := nb_ hg (bk_ BK463.out); replace BK463 := bB_ BK463 hb; obtain ⟨NB464_470, NB470_464⟩ := nb_ hg (bk_ BK464.out); replace BK464 := bB_ BK464 hb; obtain ⟨NB468_470, NB470_468⟩ := nb_ hg (bk_ BK468.out); replace BK468 := bB_ BK468 hb; clear hb hbox hg; have hnb99 := NB470_463.out; have hnc99 := NB463_470.out; have hnb100 := NB470_464.out; have hnc100 := NB464_470.out; have hnb101 := NB470_468.out; have hnc101 := NB468_470.out; obtain ⟨hcz102_0, hcz102_1, hcz102_2, hfz102_0, hfz102_1, hfz102_2⟩ := b6_ BK470.out; have hnb103 := NB468_463.out; have hnc103 := NB463_468.out; have hnb104 := NB468_464.out; have hnc104 := NB464_468.out; obtain ⟨hcz105_0, hfz105_0⟩ := bf_ BK468.out; obtain ⟨Ao106, co106, eo106⟩ := Kd.S_slice HO_469000.out; subst eo106) | ((with_reducible refine gate_callee (f := 28) rfl ?_); refine goesL_ (some 33) rfl rfl Try.func28 (by kernel_rfl) rfl #[.agg #[.slice Ao106 x469000_1.length co106], .int .i64 ((rd_T50 l1 x9_1).f0), .int .i64 ((rd_T50 l1 x9_1).f1), .int .i64 ((rd_T50 l1 x9_1).f2)] rfl qz4 ?_; (with_reducible refine (spec_TakeOut.calls k1 _ _ x469000_1 ((rd_T50 l1 x9_1).f0) ((rd_T50 l1 x9_1).f1) ((rd_T50 l1 x9_1).f2) t485 t488 _ ?side1 ?side2 A83.out).mono ?_); (case side1 => refine (Kd.S_reads' (e := 79) (base := w.heap.size) (ok := fun k_ => True) (n := x469000_1.length) (c := co106) ?_).2.2; exact (by (with_reducible repeat (first | apply Kd.S_alloc | apply Kd.S_drewN | apply Kd.S_drew)); exact (Kd.S_mono (Kd.S_far (p := ⟨gb470, 2, none⟩) (Kd.S_far (p := ⟨gb470, 1, none⟩) (Kd.S_far (p := ⟨gb470, 0, none⟩) (Kd.S_types HO_469000.out BK470.out (by decide)) (fun _ hk => hk.2) (.int .i64 ((rd_T50 l1 x9_1).f0))) (fun _ hk => hk.2) (.int .i64 ((rd_T50 l1 x9_1).f1))) (fun _ hk => hk.2) (.int .i64 ((rd_T50 l1 x9_1).f2))) (fun _ h_ => h_.1)))); (case side2 => exact (Kd.S_reads' HO_469000.out).2.1); rintro e w107 ⟨v486, rfl, ho0, hb⟩; refine ⟨_, rfl, ?_⟩; have HO487 := aM (Kd.S_lower (Kd.S_new' ho0 (Kd.S_lt (by (with_reducible repeat (first | apply Kd.S_alloc | apply Kd.S_drewN | apply Kd.S_drew)); exact (Kd.S_mono (Kd.S_far (p := ⟨gb470, 2, none⟩) (Kd.S_far (p := ⟨gb470, 1, none⟩) (Kd.S_far (p := ⟨gb470, 0, none⟩) (Kd.S_types HO_469000.out BK470.out (by decide)) (fun _ hk => hk.2) (.int .i64 ((rd_T50 l1 x9_1).f0))) (fun _ hk => hk.2) (.int .i64 ((rd_T50 l1 x9_1).f1))) (fun _ hk => hk.2) (.int .i64 ((rd_T50 l1 x9_1).f2))) (fun _ h_ => h_.1))))) (below_size qz1)); replace HO_469000 := aM (Kd.S_elder' (by (with_reducible repeat (first | apply Kd.S_alloc | apply Kd.S_drewN | apply Kd.S_drew)); exact (Kd.S_mono (Kd.S_far (p := ⟨gb470, 2, none⟩) (Kd.S_far (p := ⟨gb470, 1, none⟩) (Kd.S_far (p := ⟨gb470, 0, none⟩) (Kd.S_types HO_469000.out BK470.out (by decide)) (fun _ hk => hk.2) (.int .i64 ((rd_T50 l1 x9_1).f0))) (fun _ hk => hk.2) (.int .i64 ((rd_T50 l1 x9_1).f1))) (fun _ hk => hk.2) (.int .i64 ((rd_T50 l1 x9_1).f2))) (fun _ h_ => h_.1))) (Kd.S_base ho0) hb); replace BK463 := aM (blk_below (g := gb463) (o := .cells #[.slice A0_0 l0_0.length c0_0] 26 (0, 0)) (bk2_ BK463.out) hb); replace BK464 := aM (blk_below (g := gb464) (o := .cells #[.slice none 0 0] 26 (0, 0)) (bk2_ BK464.out) hb); replace BK468 := aM (blk_below (g := gb468) (o := .cells #[.slice Ao106 x469000_1.length co106] 26 (0, 0)) (bk2_ BK468.out) hb); replace BK470 := aM (blk_below (g := gb470) (o := .cells #[.int .i64 ((rd_T50 l1 x9_1).f0), .int .i64 ((rd_T50 l1 x9_1).f1), .int .i64 ((rd_T50 l1 x9_1).f2)] 50 (0, 0)) (by (with_reducible repeat (first | refine blk_drewN ?_ _ | refine blk_drew ?_ | refine blk_alloc ?_ _)); refine blk_put (cs := #[.int .i64 ((rd_T50 l1 x9_1).f0), .int .i64 ((rd_T50 l1 x9_1).f1), .int .i64 0]) ?_ 2 _ rfl; (with_reducible repeat (first | refine blk_drewN ?_ _ | refine blk_drew ?_ | refine blk_alloc ?_ _)); refine blk_put (cs := #[.int .i64 ((rd_T50 l1 x9_1).f0), .int .i64 0, .int .i64 0]) ?_ 1 _ rfl; (with_reducible repeat (first | refine blk_drewN ?_ _ | refine blk_drew ?_ | refine blk_alloc ?_ _)); refine blk_put (cs := #[.int .i64 0, .int .i64 0, .int .i64 0]) ?_ 0 _ rfl; exact bk_ BK470.out) hb); replace HB := bS_ hb; (try clear hb ho0); obtain ⟨Ao108, co108, eo108⟩ := Kd.S_slice HO487.out; subst eo108; obtain ⟨hcz109_0, hfz109_0⟩ := bf_ BK468.out; have hnb110 := NB463_464.out; have hnc110 := NB464_463.out; obtain ⟨hcz111_0, hfz111_0⟩ := bf_ BK463.out) | ((with_reducible refine gate_callee (f := 62) rfl ?_); refine goesL_ (some 65) rfl rfl Try.func62 (by kernel_rfl) rfl #[.agg #[.slice A0_0 l0_0.length c0_0]] rfl qz4 ?_; (with_reducible refine (spec_l5Copy.calls k1 _ _ l0_0 t489 _ ?side1 ?side2 A97.out).mono ?_); (case side1 => exact Kd.C_below HR0_0.out qz1); (case side2 => exact HC0_0.out); rintro e w112 ⟨v490, rfl, ho0, hb⟩; refine ⟨_, rfl, ?_⟩; have HO491 := aM (Kd.S_lower (Kd.S_new' (Kd.S_new' ho0 (Kd.S_lt (by (with_reducible repeat (first | apply Kd.S_alloc | apply Kd.S_drewN | apply Kd.S_drew)); exact (Kd.S_mono (Kd.S_far (p := ⟨gb468, 0, none⟩) (Kd.S_types HO_469000.out BK468.out (by decide)) (fun _ hk => hk.2) (.slice Ao108 t485.length co108)) (fun _ h_ => h_.1))))) (Kd.S_lt (by (with_reducible repeat (first | apply Kd.S_alloc | apply Kd.S_drewN | apply Kd.S_drew)); exact (Kd.S_mono (Kd.S_far (p := ⟨gb468, 0, none⟩) (Kd.S_types HO487.out BK468.out (by decide)) (fun _ hk => hk.2) (.slice Ao108 t485.length co108)) (fun _ h_ => h_.1))))) (below_size qz1)); replace HO_469000 := aM (Kd.S_elder' (by (with_reducible repeat (first | apply Kd.S_alloc | apply Kd.S_drewN | apply Kd.S_drew)); exact (Kd.S_mono (Kd.S_far (p := ⟨gb468, 0, none⟩) (Kd.S_types HO_469000.out BK468.out (by decide)) (fun _ hk => hk.2) (.slice Ao108 t485.length co108)) (fun _ h_ => h_.1))) (Kd.S_base ho0) hb); replace HO487 := aM (Kd.S_elder' (by (with_reducible repeat (first | apply Kd.S_alloc | apply Kd.S_drewN | apply Kd.S_drew)); exact (Kd.S_mono (Kd.S_far (p := ⟨gb468, 0, none⟩) (Kd.S_types HO487.out BK468.out (by decide)) (fun _ hk => hk.2) (.slice Ao108 t485.length co108)) (fun _ h_ => h_.1))) (Kd.S_base ho0) hb); replace BK463 := aM (blk_below (g := gb463) (o := .cells #[.slice A0_0 l0_0.length c0_0] 26 (0, 0)) (bk2_ BK463.out) hb); replace BK464 := aM (blk_below (g := gb464) (o := .cells #[.slice none 0 0] 26 (0, 0)) (bk2_ BK464.out) hb); replace BK468 := aM (blk_below (g := gb468) (o := .cells #[.slice Ao108 t485.length co108] 26 (0, 0)) (by (with_reducible repeat (first | refine blk_drewN ?_ _ | refine blk_drew ?_ | refine blk_alloc ?_ _)); refine blk_put (cs := #[.slice Ao106 x469000_1.length co106]) ?_ 0 _ rfl; exact bk_ BK468.out) hb); replace BK470 := aM (blk_below (g := gb470) (o := .cells #[.int .i64 ((rd_T50 l1 x9_1).f0), .int .i64 ((rd_T50 l1 x9_1).f1), .int .i64 ((rd_T50 l1 x9_1).f2)] 50 (0, 0)) (bk2_ BK470.out) hb); replace HB := bS_ hb; (try clear hb ho0); obtain ⟨Ao113, co113, eo113⟩ := Kd.S_slice HO491.out; subst eo113; obtain ⟨hcz114_0, hfz114_0⟩ := bf_ BK464.out))
   refine bodyPost_ret (results_ct rfl _ _ gb464 26 #[.slice Ao113 t489.length co113] (0, 0) _ rfl (by (with_reducible repeat (first | refine blk_drewN ?_ _ | refine blk_drew ?_ | refine blk_alloc ?_ _)); refine blk_put (cs := #[.slice none 0 0]) ?_ 0 _ rfl; exact bk_ BK464.out) Try.underlying26 rfl (by kernel_rfl)) rfl ?_
   exact ⟨_, qzw, by (with_reducible repeat (first | apply Kd.S_alloc | apply Kd.S_drewN | apply Kd.S_drew)); exact Kd.S_mono (Kd.S_far (p := ⟨gb464, 0, none⟩) (Kd.S_types HO491.out BK464.out (by decide)) (fun _ hk => hk.2) (.slice Ao113 t489.length co113)) (fun _ hk => trivial), qz1⟩
   }
   }
   }
   }
   {
   exact an_ c16 H
   }
   }
   {
   rw [if_neg c15] at H
   have c15b0 := decide_eq_false c15
   clear c15
   simp only [Option.some.injEq, Prod.mk.injEq] at H
   obtain ⟨rfl, rfl⟩ := H
   have hnb115 := NB468_463.out
   have hnc115 := NB463_468.out
   have hnb116 := NB468_464.out
   have hnc116 := NB464_468.out
   obtain ⟨hcz117_0, hfz117_0⟩ := bf_ BK468.out
   obtain ⟨Ao118, co118, eo118⟩ := Kd.S_slice HO_469000.out
   subst eo118
   have hnb119 := NB464_463.out
   have hnc119 := NB463_464.out
   obtain ⟨hcz120_0, hfz120_0⟩ := bf_ BK464.out
   go_wp2
   refine bodyPost_ret (results_ct rfl _ _ gb464 26 #[.slice Ao118 x469000_1.length co118] (0, 0) _ rfl (by (with_reducible repeat (first | refine blk_drewN ?_ _ | refine blk_drew ?_ | refine blk_alloc ?_ _)); refine blk_put (cs := #[.slice none 0 0]) ?_ 0 _ rfl; exact bk_ BK464.out) Try.underlying26 rfl (by kernel_rfl)) rfl ?_
   exact ⟨_, qzw, by (with_reducible repeat (first | apply Kd.S_alloc | apply Kd.S_drewN | apply Kd.S_drew)); exact Kd.S_mono (Kd.S_far (p := ⟨gb464, 0, none⟩) (Kd.S_types HO_469000.out BK464.out (by decide)) (fun _ hk => hk.2) (.slice Ao118 x469000_1.length co118)) (fun _ hk => trivial), qz1⟩

   }
/-! ### spec_HoldAll: function 45 -/
def spec_HoldAll.f (k : Nat) (l0_0 : List (S79)) (l1 : List (S50)) : Option ((List (S79)) × Bool) := (spec_l6Each.f k l0_0 l1 1).bind fun bt494 => (some (bt494.1, bt494.2))
theorem spec_HoldAll.mono : ∀ a0 a1 k, LeO (spec_HoldAll.f k a0 a1) (spec_HoldAll.f (k + 1) a0 a1) := by
 intro a0 a1 k
 unfold spec_HoldAll.f
 have j0 := @spec_l6Each.mono
 exact qL
set_option maxHeartbeats 8000000 in
set_option maxRecDepth 100000 in
theorem spec_HoldAll.calls (k : Nat) (A0_0 : Option Addr) (c0_0 : Nat) (l0_0 : List (S79)) (A1 : Option Addr) (c1 : Nat) (l1 : List (S50)) (r1 : List (S79)) (r2 : Bool) (w : World) (hr0_0 : Kd.C k79 w A0_0 l0_0.length l0_0) (hc0_0 : l0_0.length ≤ c0_0) (hr1 : Kd.C k50 w A1 l1.length l1) (hc1 : l1.length ≤ c1) (h : spec_HoldAll.f k l0_0 l1 = some (r1, r2)) :
  Calls Try.prog 45 #[.agg #[.slice A0_0 l0_0.length c0_0], .slice A1 l1.length c1] w fun e w' => ∃ v0_ : Value, e = .returned (.tuple #[.agg #[v0_], .bool r2]) ∧ Kd.S k79 79 w' w.heap.size (fun _ => True) v0_ r1 ∧ Below w.heap.size w w' := by
 have hu26 := Try.underlying26
 have HR0_0 := aM hr0_0
 have HC0_0 := aM hc0_0
 clear hr0_0 hc0_0
 have HR1 := aM hr1
 have HC1 := aM hc1
 clear hr1 hc1
 have HB := aM (Below.refl w.heap.size w)
 have H : ((spec_l6Each.f k l0_0 l1 1).bind fun bt494 => (some (bt494.1, bt494.2))) = some (r1, r2) := h
 clear h
 replace H := Option.bind_eq_some_iff.mp H
 obtain ⟨⟨t494, t497⟩, A30, H⟩ := H
 replace H : (some (t494, t497)) = some (r1, r2) := H
 have A3 := aM A30
 clear A30
 simp only [Option.some.injEq, Prod.mk.injEq] at H
 obtain ⟨rfl, rfl⟩ := H
 go_enter Try.func45, Try.ntmps45
 go_wp2_with (first | ((with_reducible refine gate_dst (N := 2) rfl ?_); refine bx_ 2 #[.slice A0_0 l0_0.length c0_0] 26 ?_; intro gb492 hg w4 hbox hb; have BK492 := aM (hbox); have GW492 := aM (bz_ w hg qz1); have GE492 := GW492; replace HB := bS_ hb; clear hb hbox hg) | ((with_reducible refine gate_dst (N := 4) rfl ?_); refine bx_ 4 #[.slice none 0 0] 26 ?_; intro gb493 hg w5 hbox hb; have BK493 := aM (hbox); have GW493 := aM (bz_ w hg qz1); have GE493 := GW493; replace HB := bS_ hb; obtain ⟨NB492_493, NB493_492⟩ := nb_ hg (bk_ BK492.out); replace BK492 := bB_ BK492 hb; clear hb hbox hg; have hnb6 := NB492_493.out; have hnc6 := NB493_492.out; obtain ⟨hcz7_0, hfz7_0⟩ := bf_ BK492.out) | ((with_reducible refine gate_callee (f := 86) rfl ?_); refine goesL_ (some 8) rfl rfl Try.func86 (by kernel_rfl) rfl #[.agg #[.slice A0_0 l0_0.length c0_0], .slice A1 l1.length c1, .int .i64 1] rfl qz4 ?_; (with_reducible refine (spec_l6Each.calls k _ _ l0_0 _ _ l1 1 t494 t497 _ ?side1 ?side2 ?side3 ?side4 A3.out).mono ?_); (case side1 => exact qz6); (case side2 => exact HC0_0.out); (case side3 => exact qz40); (case side4 => exact HC1.out); rintro e w8 ⟨v495, rfl, ho0, hb⟩; refine ⟨_, rfl, ?_⟩; have HO496 := aM (Kd.S_lower ho0 (below_size qz1)); replace BK492 := bB_ BK492 hb; replace BK493 := bB_ BK493 hb; replace HB := bS_ hb; (try clear hb ho0); obtain ⟨Ao9, co9, eo9⟩ := Kd.S_slice HO496.out; subst eo9; obtain ⟨hcz10_0, hfz10_0⟩ := bf_ BK493.out))
 refine bodyPost_ret (results_ct rfl _ _ gb493 26 #[.slice Ao9 t494.length co9] (0, 0) _ rfl (by (with_reducible repeat (first | refine blk_drewN ?_ _ | refine blk_drew ?_ | refine blk_alloc ?_ _)); refine blk_put (cs := #[.slice none 0 0]) ?_ 0 _ rfl; exact bk_ BK493.out) Try.underlying26 rfl (by kernel_rfl)) rfl ?_
 exact ⟨_, qzw, by (with_reducible repeat (first | apply Kd.S_alloc | apply Kd.S_drewN | apply Kd.S_drew)); exact Kd.S_mono (Kd.S_far (p := ⟨gb493, 0, none⟩) (Kd.S_types HO496.out BK493.out (by decide)) (fun _ hk => hk.2) (.slice Ao9 t494.length co9)) (fun _ hk => trivial), qz1⟩

/-! ### laws_among: function 46 -/
def laws_among.l0 : Nat → List Int → Int → Int → Option (Bool)
 | 0, _, _, _ => none
 | k + 1, x0, x1, x5 => if x5 < (x0.length : Int) then (if 0 ≤ x5 then (if (rd x0 x5) = x1 then (some true) else (laws_among.l0 k x0 x1 (wrap64 (x5 + 1)))) else (none)) else (some false)
def laws_among.f (k : Nat) (l0 : List Int) (a1 : Int) : Option (Bool) := laws_among.l0 k l0 a1 0
theorem laws_among.mono_l : ∀ k, (∀ y0 y1 y2, LeO (laws_among.l0 k y0 y1 y2) (laws_among.l0 (k + 1) y0 y1 y2))
 | 0 => fun _ _ _ r h => by simp [laws_among.l0] at h
 | k + 1 => by
  have ih0 := laws_among.mono_l k
  {
  intro y0 y1 y2
  unfold laws_among.l0
  exact qL
  }
theorem laws_among.mono : ∀ a0 a1 k, LeO (laws_among.f k a0 a1) (laws_among.f (k + 1) a0 a1) := by
 intro a0 a1 k
 have ih0 := laws_among.mono_l k
 unfold laws_among.f
 exact qL
set_option maxHeartbeats 8000000 in
set_option maxRecDepth 100000 in
theorem laws_among.calls (k : Nat) (A0 : Option Addr) (c0 : Nat) (l0 : List Int) (a1 : Int) (r : Bool) (w : World) (hr0 : Kd.C (Kd.int .i64) w A0 l0.length l0) (hc0 : l0.length ≤ c0) (h : laws_among.f k l0 a1 = some r) :
  Calls Try.prog 46 #[.slice A0 l0.length c0, .int .i64 a1] w fun e w' => e = .returned (.bool r) ∧ Drawn0 w w' := by
 have HR0 := aM hr0
 have HC0 := aM hc0
 clear hr0 hc0
 have H : (laws_among.l0 k l0 a1 0) = some r := h
 clear h
 have H' := aM H
 clear H
 go_enter Try.func46, Try.ntmps46
 go_wp2
 go_loopg [5] k (fun kq v5 w' => ∃ (x5_1 : Int), v5 = .int .i64 x5_1 ∧ Aside0 (laws_among.l0 kq l0 a1 x5_1 = some r) ∧ Aside0 (kq ≤ k) ∧ Drawn0 w w')
 case atStart => exact ⟨(0), qz5, H', ⟨Nat.le_refl _⟩, by repeat (first | exact Drawn0.refl _ | apply Drawn0.step)⟩
 case round =>
  clear H'
  try clear p2
  obtain ⟨x5_1, rfl, HA, HK1, ⟨m1, rfl⟩⟩ := hrel
  cases gk with
  | zero => exact absurd HA.out (by simp [laws_among.l0])
  | succ k1 =>
   have H := HA.out
   clear HA
   simp only [laws_among.l0] at H
   by_cases c3 : x5_1 < (l0.length : Int)
   {
   rw [if_pos c3] at H
   have c3b0 := decide_eq_true c3
   clear c3
   by_cases c4 : 0 ≤ x5_1
   {
   rw [if_pos c4] at H
   have c4b0 := decide_eq_true c4
   clear c4
   by_cases c5 : (rd l0 x5_1) = a1
   {
   rw [if_pos c5] at H
   have c5b0 := beq_iff_eq.mpr c5
   have c5b1 := bne_eq_false_iff_eq.mpr c5
   clear c5
   obtain rfl := Option.some.inj H
   simp only [Option.some.injEq, Prod.mk.injEq] at H
   obtain ⟨rfl⟩ := H
   have p498 : 0 ≤ (x5_1 : Int) := dt_
   have q498 : x5_1 < (l0.length : Int) := dt_
   obtain ⟨ad498, e498, hx498_0⟩ := Kd.at_int HR0.out x5_1 p498 q498
   cases e498
   replace p498 := eq_true p498
   replace q498 := eq_true q498
   go_wp2
   go_ret
   exact ⟨by first | rfl | (simp; done) | (simp [*]; done), by repeat (first | exact Drawn0.refl _ | apply Drawn0.step)⟩
   }
   {
   rw [if_neg c5] at H
   have c5b0 := beq_eq_false_iff_ne.mpr c5
   have c5b1 := bne_iff_ne.mpr c5
   have H' := aM H
   clear H
   have p498 : 0 ≤ (x5_1 : Int) := dt_
   have q498 : x5_1 < (l0.length : Int) := dt_
   obtain ⟨ad498, e498, hx498_0⟩ := Kd.at_int HR0.out x5_1 p498 q498
   cases e498
   replace p498 := eq_true p498
   replace q498 := eq_true q498
   go_wp2
   go_roundg k1
   case measure => have := HK1.out; omega
   case rel => exact ⟨(wrap64 (x5_1 + 1)), qz5, H', ⟨by have := HK1.out; omega⟩, by repeat (first | exact Drawn0.refl _ | apply Drawn0.step)⟩
   }
   }
   {
   exact an_ c4 H
   }
   }
   {
   rw [if_neg c3] at H
   have c3b0 := decide_eq_false c3
   clear c3
   obtain rfl := Option.some.inj H
   simp only [Option.some.injEq, Prod.mk.injEq] at H
   obtain ⟨rfl⟩ := H
   go_wp2
   go_ret
   exact ⟨by first | rfl | (simp; done) | (simp [*]; done), by repeat (first | exact Drawn0.refl _ | apply Drawn0.step)⟩

   }
end Go.Proofs.Yteajnkondkfmgaa.PFnEach
