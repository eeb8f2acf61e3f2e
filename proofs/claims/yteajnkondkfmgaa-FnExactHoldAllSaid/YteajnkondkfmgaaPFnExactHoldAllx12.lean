-- Made by a program of this session out of the translation. Lean checks it.
import Derived.Test.YteajnkondkfmgaaPFnExactHoldAllx0
import Derived.Test.YteajnkondkfmgaaPFnExactHoldAllx10
import Derived.Test.YteajnkondkfmgaaPFnExactHoldAllx11
namespace Go.Proofs.Yteajnkondkfmgaa.PFnExactHoldAll
open Go.RowKit Go.Proofs.YteajnkondkfmgaaW.PrintWords Go.Proofs.YteajnkondkfmgaaW.PrintLast Go.Proofs.YteajnkondkfmgaaW.PrintMore
attribute [local go_sem] max2_int min2_int max_two min_two max_three min_three max_four min_four   -- for this text's walks alone
set_option linter.unusedVariables false
set_option linter.unusedSimpArgs false

/-! ### spec_l5Put: function 63 -/
def spec_l5Put.f (k : Nat) (l : List S79) (a1 : Int) (a2_0 a2_1 a2_2 : Int) : Option (List S79) := (spec_l5Copy.f k l).bind fun o => (if 0 ≤ a1 then (if a1 < (o.length : Int) then ((spec_l5With.f k (rd_T79 o a1).f2 a2_0 a2_1 a2_2).bind fun y => some (o.set a1.toNat ⟨(rd_T79 o a1).f0, (rd_T79 o a1).f1, y⟩)) else none) else none)
theorem spec_l5Put.mono : ∀ a0 a1 a2 a3 a4 k, LeO (spec_l5Put.f k a0 a1 a2 a3 a4) (spec_l5Put.f (k + 1) a0 a1 a2 a3 a4) := by
 intro a0 a1 a2 a3 a4 k
 unfold spec_l5Put.f
 repeat' first
  | (with_reducible exact spec_l5Copy.mono _ _)
  | (with_reducible exact spec_l5With.mono _ _ _ _ _)
  | (with_reducible exact LeO.refl _)
  | (with_reducible exact LeO.none _)
  | (with_reducible refine LeO.ite ?_ ?_)
  | (with_reducible refine LeO.bind ?_ (fun _ => ?_))
def spec_l5Put.T2 : Bool × List (List Nat × List Nat) := (true, [([], []), ([0], [0]), ([], []), ([], []), ([3], [3]), ([], []), ([4, 5], [4, 5]), ([6], [6]), ([7], [7]), ([], []), ([8, 9], [8, 9]), ([1, 2, 0, 1, 2, 3, 4, 5, 6, 7, 8, 9, 10], [1, 2]), ([11, 0, 1, 2, 3, 4, 5, 6, 7, 8, 9, 10], [11]), ([12, 10, 10, 0, 1, 2, 3, 4, 5, 6, 7, 8, 9, 10], [10, 12])])
def spec_l5Put.B2 : List Nat := [0, 1, 0, 0, 8, 0, 56, 120, 248, 0, 1016, 2047, 4095, 8191]
theorem spec_l5Put.tab2 : rtab .any (opsOf Try.f63 2) = spec_l5Put.T2 := by kernel_rfl
theorem spec_l5Put.bits2 : waitsOk spec_l5Put.T2.2 spec_l5Put.B2 = true := by kernel_rfl
set_option maxHeartbeats 8000000 in
set_option maxRecDepth 100000 in
theorem spec_l5Put.calls (k : Nat) (A0_0 : Option Addr) (c0_0 : Nat) (l0_0 : List (S79)) (a1 : Int) (a2_0 : Int) (a2_1 : Int) (a2_2 : Int) (r : List (S79)) (w : World) (hr0_0 : Kd.C k79 w A0_0 l0_0.length l0_0) (hc0_0 : l0_0.length ≤ c0_0) (h : spec_l5Put.f k l0_0 a1 a2_0 a2_1 a2_2 = some r) :
  Calls Try.prog 63 #[.agg #[.slice A0_0 l0_0.length c0_0], .int .i64 a1, .agg #[.int .i64 a2_0, .int .i64 a2_1, .int .i64 a2_2]] w fun e w' => ∃ v0_ : Value, e = .returned (.agg #[v0_]) ∧ Kd.S k79 79 w' w.heap.size (fun _ => True) v0_ r ∧ Below w.heap.size w w' := by
 have hu26 := Try.underlying26
 have hu79 := Try.underlying79
 have hu72 := Try.underlying72
 have hu24 := Try.underlying24
 have hu77 := Try.underlying77
 unfold spec_l5Put.f at h
 obtain ⟨o, ho, h⟩ := Option.bind_eq_some_iff.mp h
 have ci0 : 0 ≤ a1 := Decidable.byContradiction fun hn => by rw [if_neg hn] at h; cases h
 have ci1 : a1 < (o.length : Int) := Decidable.byContradiction fun hn => by rw [if_pos ci0, if_neg hn] at h; cases h
 rw [if_pos ci0, if_pos ci1] at h
 obtain ⟨y, hy, h⟩ := Option.bind_eq_some_iff.mp h
 obtain rfl : _ = r := Option.some.inj h
 have Ho := aM ho
 have Hy := aM hy
 have HR := aM hr0_0
 have HC := aM hc0_0
 clear ho hy h hr0_0 hc0_0
 go_enter Try.func63, Try.ntmps63
 go_wp2_with (first
  | (go_at_call 62; refine (spec_l5Copy.calls k _ _ l0_0 o _ (Kd.C_alloc (Kd.C_alloc (Kd.C_alloc HR.out _) _) _) HC.out Ho.out).mono ?_; rintro e w1 ⟨v0, rfl, hS, hb⟩; obtain ⟨Ao, co, rfl⟩ := Kd.S_slice hS; have B5 := aM (blk_below (blk_alloc (blk_new1 w (.cells #[.slice A0_0 l0_0.length c0_0] 26) (.cells #[.int .i64 a2_0, .int .i64 a2_1, .int .i64 a2_2] 72)) (.cells #[.slice none 0 0] 26)) hb); have B6 := aM (blk_below (blk_new2 w (.cells #[.slice A0_0 l0_0.length c0_0] 26) (.cells #[.int .i64 a2_0, .int .i64 a2_1, .int .i64 a2_2] 72) (.cells #[.slice none 0 0] 26)) hb); have HB1 := aM (below_step (below_alloc (below_alloc (below_alloc (Below.refl w.heap.size w) _) _) _) hb); have HS := aM (show Kd.S k79 79 w1 (w.heap.size + 3) (fun k => k < w1.heap.size) (.slice Ao o.length co) o by refine Kd.S_mono (Kd.S_bound (ok := fun _ => True) ?_) (fun _ hk => hk.2.2.1); rw [show w.heap.size + 3 = (((w.alloc (.cells #[.slice A0_0 l0_0.length c0_0] 26)).alloc (.cells #[.int .i64 a2_0, .int .i64 a2_1, .int .i64 a2_2] 72)).alloc (.cells #[.slice none 0 0] 26)).heap.size by simp]; exact hS); have L6 := aM (blk_lt B6.out); clear hb hS))
 have hS := Kd.S_alloc HS.out (.cells #[.slice Ao o.length co] 26)
 have B7 := blk_new w1 (.cells #[.slice Ao o.length co] 26)
 replace B5 := blk_alloc B5.out (.cells #[.slice Ao o.length co] 26)
 replace B6 := blk_alloc B6.out (.cells #[.slice Ao o.length co] 26)
 have HB2 := below_alloc HB1.out (.cells #[.slice Ao o.length co] 26)
 clear HS HB1
 generalize w1.alloc (.cells #[.slice Ao o.length co] 26) = w2 at hS B5 B6 B7 HB2 ⊢
 obtain ⟨g, oki, A2, c2, e, hgb, hgl, x0, x1, x2, f0, f1, f2, hR2, hoki, hn, hH⟩ := S79_at hS a1 ci0 ci1
 cases e
 clear x0 x1 f0 f1 f2 hoki hH
 have HRr := aM (Kd.R_reads' hR2)
 have HGW := (Kd.S_R hS).1 g rfl
 have C7 : w2.cell? ⟨w1.heap.size, 0, none⟩ = some (.slice (some ⟨g, 0, none⟩) o.length co) := (blk_cell B7 0).trans rfl
 have C50 : w2.cell? ⟨w.heap.size + 1, 0, none⟩ = some (.int .i64 a2_0) := (blk_cell B5 0).trans rfl
 have C51 : w2.cell? ⟨w.heap.size + 1, 1, none⟩ = some (.int .i64 a2_1) := (blk_cell B5 1).trans rfl
 have C52 : w2.cell? ⟨w.heap.size + 1, 2, none⟩ = some (.int .i64 a2_2) := (blk_cell B5 2).trans rfl
 have p8 := eq_true ci0
 have q8 := eq_true ci1
 clear hR2
 refine start_ (n := 14) (S := fun w' => w'.cell? ⟨w1.heap.size, 0, none⟩ = some (.slice (some ⟨g, 0, none⟩) o.length co) ∧ w'.cell? ⟨w.heap.size + 1, 0, none⟩ = some (.int .i64 a2_0) ∧ w'.cell? ⟨w.heap.size + 1, 1, none⟩ = some (.int .i64 a2_1) ∧ w'.cell? ⟨w.heap.size + 1, 2, none⟩ = some (.int .i64 a2_2) ∧ w'.cell? ⟨g, a1.toNat * 3 + 2, none⟩ = some (.slice A2 (rd_T79 o a1).f2.length c2)) (ds := [13]) #[false, false, false, false, false, false, false, false, false, false, false, false, false, false] (by kernel_rfl) rfl rfl ⟨C7, C50, C51, C52, x2⟩ (fun hHeld => ?_); refine with_tabW spec_l5Put.tab2 spec_l5Put.bits2 (fun HT_ HW_ => ?_)
 refine pI_ 0 10 (bqz 14 1) ?_
 refine pI_ 2 12 (bqz 14 5) ?_
 refine pI_ 3 13 (bqz 14 13) ?_
 refine pI_ 5 15 (bqz 14 45) ?_
 refine tI5_ 1 11 (bqz 14 47) ?_
 refine tI5_ 4 14 (bqz 14 63) ?_
 refine pI_ 6 16 (bqz 14 127) ?_
 refine pI_ 7 17 (bqz 14 255) ?_
 refine tI5_ 8 18 (bqz 14 511) ?_
 refine tI5_ 9 19 (bqz 14 1023) ?_
 refine one_ (i := 10) (N := some 20) (bqz 14 2047) rfl rfl qzc (by decide) (fun K hK => ?_)
 refine goes_ Try.func95 (by kernel_rfl) rfl #[.slice A2 (rd_T79 o a1).f2.length c2, .agg #[.int .i64 a2_0, .int .i64 a2_1, .int .i64 a2_2]] (by rfl) rfl rfl qz77 ?_
 refine (spec_l5With.calls k _ _ (rd_T79 o a1).f2 a2_0 a2_1 a2_2 y _ (Kd.C_drew HRr.out.2.2) HRr.out.2.1 Hy.out).mono ?_
 rintro e w3 ⟨v0, rfl, ho8, hb⟩; obtain ⟨A8, c8, rfl⟩ := Kd.R_slice ho8
 refine ⟨_, rfl, ?_⟩
 refine hK.out _ _ ⟨pw_cell_below hb hHeld.1, pw_cell_below hb hHeld.2.1, pw_cell_below hb hHeld.2.2.1, pw_cell_below hb hHeld.2.2.2.1, pw_cell_below hb hHeld.2.2.2.2⟩ (fun hHeld => ?_)
 clear hK K
 refine norm_ (a' := ?_) ?_ ?_
 rotate_left
 {
 show Act.put _ (some 20) _ = _
 simp only [qzs]
 rfl
 }
 refine pI_ 11 21 (bqz 14 4095) ?_
 refine pI_ 12 22 (bqz 14 8191) ?_
 have hbz : Below w2.heap.size w2 w3 := below_then (below_drew (Below.refl _ _)) (Nat.le_refl _) hb
 have hS8 := Kd.S_below (Kd.S_mono (Kd.S_bound hS) (ok' := fun k => k < w2.heap.size) (fun k hk => hk.2.2.1)) hbz
 obtain ⟨g', oki', A2', c2', e', hgb', hgl', q0, q1, q2, f0, f1, f2, -, -, -, -⟩ := S79_at hS8 a1 ci0 ci1
 injection e' with e'; injection e' with e'; subst e'
 clear q0 q1 f0 f1
 refine last_ (i := 13) (N := none) (bqz 14 16383) rfl rfl qzc (by decide) (fun K hK => ?_)
 refine skip_ (w1 := ?_) (by rfl) rfl ?_ ?_
 rotate_left
 {
 go_simp
 rfl
 }
 refine hK.out _ _ ?_
 clear hK K
 refine done_ (done_of HT_.out (by kernel_rfl)) ?_
 have hP := S79_row hS8 (fun k hk hlt => Nat.lt_irrefl _ (Nat.lt_of_lt_of_le hlt hk)) ho8 (show w.heap.size + 3 ≤ w2.heap.size by have := L6.out; have := hgl; omega) a1 ci0 ci1 hgl
 replace HB2 := below_step HB2 hbz
 replace B6 := blk_below B6 hbz
 replace C7 := pw_cell_below hbz C7
 have C6 : w3.cell? ⟨w.heap.size + 1 + 1, 0, none⟩ = some (.slice none 0 0) := (blk_cell B6 0).trans rfl
 have F6 := blk_frozen B6 0
 have hl6 := L6.out
 have n1 : g ≠ w.heap.size + 1 + 1 := by omega
 have n2 : w.heap.size + 1 + 1 ≠ g := by omega
 have n3 : g < w1.heap.size := HGW
 have n4 : g ≠ w1.heap.size := Nat.ne_of_lt n3
 have n5 : w1.heap.size ≠ g := Nat.ne_of_gt n3
 clear hHeld q2 x2 C50 C51 C52 hS hS8 HGW
 go_wp2
 refine bodyPost_ret (results_cell_row rfl _ _ (w.heap.size + 1 + 1) 26 #[.slice (some ⟨g, 0, none⟩) o.length co] (0, 0) _ rfl (blk_put (cs := #[.slice none 0 0]) (blk_far B6 n2 _) 0 _ rfl) Try.underlying26 rfl (by kernel_rfl)) rfl ?_
 exact ⟨_, rfl, Kd.S_mono (ok' := fun _ => True) (Kd.S_lower (S_box hP.1 (show w.heap.size + 1 + 1 < w.heap.size + 3 by omega) (.slice (some ⟨g, 0, none⟩) o.length co)) (show w.heap.size ≤ w.heap.size + 3 by omega)) (fun _ _ => trivial), below_set (below_set HB2 (by omega)) (by omega)⟩

/-! ### spec_Hold: function 18 -/
def spec_Hold.f (k : Nat) (l0_0 : List (S79)) (a1 : Int) (a2 : Int) (a3 : Int) : Option ((List (S79)) × Int) := (spec_l5Call.f k l0_0 a1 a2 a3).bind fun q => if q.2.2.2.2 = 0 then (if wrap64 (q.2.2.1 - q.2.2.2.1) < a3 then ((spec_l5Copy.f k l0_0).bind fun t => some (t, 3)) else ((spec_l5Put.f k l0_0 q.1 q.2.1 q.2.2.1 (wrap64 (q.2.2.2.1 + a3))).bind fun t => some (t, 0))) else ((spec_l5Copy.f k l0_0).bind fun t => some (t, q.2.2.2.2))
theorem spec_Hold.mono : ∀ a0 a1 a2 a3 k, LeO (spec_Hold.f k a0 a1 a2 a3) (spec_Hold.f (k + 1) a0 a1 a2 a3) := by
 intro a0 a1 a2 a3 k
 unfold spec_Hold.f
 repeat' first
  | (with_reducible exact spec_l5Call.mono _ _ _ _ _)
  | (with_reducible exact spec_l5Copy.mono _ _)
  | (with_reducible exact spec_l5Put.mono _ _ _ _ _ _)
  | (with_reducible exact LeO.refl _)
  | (with_reducible exact LeO.none _)
  | (with_reducible refine LeO.ite ?_ ?_)
  | (with_reducible refine LeO.bind ?_ (fun _ => ?_))
set_option maxHeartbeats 8000000 in
set_option maxRecDepth 100000 in
theorem spec_Hold.calls (k : Nat) (A0_0 : Option Addr) (c0_0 : Nat) (l0_0 : List (S79)) (a1 : Int) (a2 : Int) (a3 : Int) (r1 : List (S79)) (r2 : Int) (w : World) (hr0_0 : Kd.C k79 w A0_0 l0_0.length l0_0) (hc0_0 : l0_0.length ≤ c0_0) (h : spec_Hold.f k l0_0 a1 a2 a3 = some (r1, r2)) :
  Calls Try.prog 18 #[.agg #[.slice A0_0 l0_0.length c0_0], .int .i64 a1, .int .i64 a2, .int .i64 a3] w fun e w' => ∃ v0_ : Value, e = .returned (.tuple #[.agg #[v0_], .int .i64 r2]) ∧ Kd.S k79 79 w' w.heap.size (fun _ => True) v0_ r1 ∧ Below w.heap.size w w' := by
 have hu26 := Try.underlying26
 have hu72 := Try.underlying72
 have hu24 := Try.underlying24
 have hu79 := Try.underlying79
 unfold spec_Hold.f at h
 obtain ⟨⟨t1, t2, t3, t4, t5⟩, hq, h⟩ := Option.bind_eq_some_iff.mp h
 have Hq := aM hq
 have HR := aM hr0_0
 have HC := aM hc0_0
 clear hq hr0_0 hc0_0
 dsimp only at h
 by_cases c1 : t5 = 0
 {
 subst c1
 rw [if_pos rfl] at h
 by_cases c2 : wrap64 (t3 - t4) < a3
 {
 rw [if_pos c2] at h
 have c2b := decide_eq_true c2
 obtain ⟨t6, h6, h⟩ := Option.bind_eq_some_iff.mp h
 have H6 := aM h6
 obtain ⟨rfl, rfl⟩ : t6 = r1 ∧ 3 = r2 := by simpa using h
 clear h h6 c2
 go_enter Try.func18, Try.ntmps18
 go_wp2_with (first
  | (go_at_call 61; refine (spec_l5Call.calls k _ _ l0_0 a1 a2 a3 t1 t2 t3 t4 0 _ (Kd.C_alloc (Kd.C_alloc HR.out _) _) HC.out Hq.out).mono ?_; rintro e w1 ⟨rfl, hb⟩; have B4 := aM (blk_below (blk_alloc (blk_new w (.cells #[.slice A0_0 l0_0.length c0_0] 26)) (.cells #[.slice none 0 0] 26)) hb); have B8 := aM (blk_below (blk_new1 w (.cells #[.slice A0_0 l0_0.length c0_0] 26) (.cells #[.slice none 0 0] 26)) hb); have HB1 := aM (below_step (below_alloc (below_alloc (Below.refl w.heap.size w) _) _) hb); have C4 : w1.cell? ⟨w.heap.size, 0, none⟩ = some (.slice A0_0 l0_0.length c0_0) := (blk_cell B4.out 0).trans rfl; have L4 := blk_lt B4.out; have L8 := blk_lt B8.out; have N8 := Nat.ne_of_lt L8; have N8' := Nat.ne_of_gt L8; have N4 := Nat.ne_of_lt L4; have N4' := Nat.ne_of_gt L4; clear hb)
  | (go_at_call 62; refine (spec_l5Copy.calls k _ _ l0_0 t6 _ (Kd.C_below HR.out (below_alloc HB1.out _)) HC.out H6.out).mono ?_; rintro e w2 ⟨v0, rfl, hS, hb⟩; obtain ⟨Ac, cc, rfl⟩ := Kd.S_slice hS; replace B8 := aM (blk_below (blk_alloc B8.out _) hb); have HB2 := aM (below_step (below_alloc HB1.out _) hb); have HS := aM (show Kd.S k79 79 w2 (w.heap.size + 2) (fun _ => True) (.slice Ac t6.length cc) t6 from Kd.S_lower hS (by rw [World.size_alloc]; omega)); have C8 : w2.cell? ⟨w.heap.size + 1, 0, none⟩ = some (.slice none 0 0) := (blk_cell B8.out 0).trans rfl; have F8 := blk_frozen B8.out 0; clear hb hS C4))
 refine bodyPost_ret (results_ct rfl _ _ (w.heap.size + 1) 26 #[.slice Ac t6.length cc] (0, 0) _ rfl (blk_put (cs := #[.slice none 0 0]) B8.out 0 _ rfl) Try.underlying26 rfl (by kernel_rfl)) rfl ?_
 exact ⟨_, rfl, Kd.S_lower (S_box HS.out (show w.heap.size + 1 < w.heap.size + 2 by omega) _) (by omega), below_set HB2.out (by omega)⟩
 }
 {
 rw [if_neg c2] at h
 have c2b := decide_eq_false c2
 obtain ⟨t6, h6, h⟩ := Option.bind_eq_some_iff.mp h
 have H6 := aM h6
 obtain ⟨rfl, rfl⟩ : t6 = r1 ∧ 0 = r2 := by simpa using h
 clear h h6 c2
 go_enter Try.func18, Try.ntmps18
 go_wp2_with (first
  | (go_at_call 61; refine (spec_l5Call.calls k _ _ l0_0 a1 a2 a3 t1 t2 t3 t4 0 _ (Kd.C_alloc (Kd.C_alloc HR.out _) _) HC.out Hq.out).mono ?_; rintro e w1 ⟨rfl, hb⟩; have B4 := aM (blk_below (blk_alloc (blk_new w (.cells #[.slice A0_0 l0_0.length c0_0] 26)) (.cells #[.slice none 0 0] 26)) hb); have B8 := aM (blk_below (blk_new1 w (.cells #[.slice A0_0 l0_0.length c0_0] 26) (.cells #[.slice none 0 0] 26)) hb); have HB1 := aM (below_step (below_alloc (below_alloc (Below.refl w.heap.size w) _) _) hb); have C4 : w1.cell? ⟨w.heap.size, 0, none⟩ = some (.slice A0_0 l0_0.length c0_0) := (blk_cell B4.out 0).trans rfl; have L4 := blk_lt B4.out; have L8 := blk_lt B8.out; have N8 := Nat.ne_of_lt L8; have N8' := Nat.ne_of_gt L8; have N4 := Nat.ne_of_lt L4; have N4' := Nat.ne_of_gt L4; clear hb)
  | (go_at_call 63; refine (spec_l5Put.calls k _ _ l0_0 t1 t2 t3 (wrap64 (t4 + a3)) t6 _ (Kd.C_below HR.out (below_alloc HB1.out _)) HC.out H6.out).mono ?_; rintro e w2 ⟨v0, rfl, hS, hb⟩; obtain ⟨Ac, cc, rfl⟩ := Kd.S_slice hS; replace B8 := aM (blk_below (blk_alloc B8.out _) hb); have HB2 := aM (below_step (below_alloc HB1.out _) hb); have HS := aM (show Kd.S k79 79 w2 (w.heap.size + 2) (fun _ => True) (.slice Ac t6.length cc) t6 from Kd.S_lower hS (by simp only [World.size_setCell, World.size_alloc]; omega)); have C8 : w2.cell? ⟨w.heap.size + 1, 0, none⟩ = some (.slice none 0 0) := (blk_cell B8.out 0).trans rfl; have F8 := blk_frozen B8.out 0; clear hb hS C4))
 refine bodyPost_ret (results_ct rfl _ _ (w.heap.size + 1) 26 #[.slice Ac t6.length cc] (0, 0) _ rfl (blk_put (cs := #[.slice none 0 0]) B8.out 0 _ rfl) Try.underlying26 rfl (by kernel_rfl)) rfl ?_
 exact ⟨_, rfl, Kd.S_lower (S_box HS.out (show w.heap.size + 1 < w.heap.size + 2 by omega) _) (by omega), below_set HB2.out (by omega)⟩
 }
 }
 {
 rw [if_neg c1] at h
 obtain ⟨t6, h6, h⟩ := Option.bind_eq_some_iff.mp h
 have H6 := aM h6
 obtain ⟨rfl, rfl⟩ : t6 = r1 ∧ t5 = r2 := by simpa using h
 have c1b : (t5 != 0) = true := by simpa using c1
 clear h h6 c1
 go_enter Try.func18, Try.ntmps18
 go_wp2_with (first
  | (go_at_call 61; refine (spec_l5Call.calls k _ _ l0_0 a1 a2 a3 t1 t2 t3 t4 t5 _ (Kd.C_alloc (Kd.C_alloc HR.out _) _) HC.out Hq.out).mono ?_; rintro e w1 ⟨rfl, hb⟩; have B4 := aM (blk_below (blk_alloc (blk_new w (.cells #[.slice A0_0 l0_0.length c0_0] 26)) (.cells #[.slice none 0 0] 26)) hb); have B8 := aM (blk_below (blk_new1 w (.cells #[.slice A0_0 l0_0.length c0_0] 26) (.cells #[.slice none 0 0] 26)) hb); have HB1 := aM (below_step (below_alloc (below_alloc (Below.refl w.heap.size w) _) _) hb); have C4 : w1.cell? ⟨w.heap.size, 0, none⟩ = some (.slice A0_0 l0_0.length c0_0) := (blk_cell B4.out 0).trans rfl; have L4 := blk_lt B4.out; have L8 := blk_lt B8.out; have N8 := Nat.ne_of_lt L8; have N8' := Nat.ne_of_gt L8; have N4 := Nat.ne_of_lt L4; have N4' := Nat.ne_of_gt L4; clear hb)
  | (go_at_call 62; refine (spec_l5Copy.calls k _ _ l0_0 t6 _ (Kd.C_below HR.out (below_alloc HB1.out _)) HC.out H6.out).mono ?_; rintro e w2 ⟨v0, rfl, hS, hb⟩; obtain ⟨Ac, cc, rfl⟩ := Kd.S_slice hS; replace B8 := aM (blk_below (blk_alloc B8.out _) hb); have HB2 := aM (below_step (below_alloc HB1.out _) hb); have HS := aM (show Kd.S k79 79 w2 (w.heap.size + 2) (fun _ => True) (.slice Ac t6.length cc) t6 from Kd.S_lower hS (by rw [World.size_alloc]; omega)); have C8 : w2.cell? ⟨w.heap.size + 1, 0, none⟩ = some (.slice none 0 0) := (blk_cell B8.out 0).trans rfl; have F8 := blk_frozen B8.out 0; clear hb hS C4))
 refine bodyPost_ret (results_ct rfl _ _ (w.heap.size + 1) 26 #[.slice Ac t6.length cc] (0, 0) _ rfl (blk_put (cs := #[.slice none 0 0]) B8.out 0 _ rfl) Try.underlying26 rfl (by kernel_rfl)) rfl ?_
 exact ⟨_, rfl, Kd.S_lower (S_box HS.out (show w.heap.size + 1 < w.heap.size + 2 by omega) _) (by omega), below_set HB2.out (by omega)⟩

 }
/-! ### spec_TakeOut: function 28 -/
def spec_TakeOut.f (k : Nat) (l0_0 : List (S79)) (a1 : Int) (a2 : Int) (a3 : Int) : Option ((List (S79)) × Int) := (spec_l5Call.f k l0_0 a1 a2 a3).bind fun q => if q.2.2.2.2 = 0 then (if q.2.2.2.1 < a3 then ((spec_l5Copy.f k l0_0).bind fun t => some (t, 3)) else ((spec_l5Put.f k l0_0 q.1 q.2.1 (wrap64 (q.2.2.1 - a3)) (wrap64 (q.2.2.2.1 - a3))).bind fun t => some (t, 0))) else ((spec_l5Copy.f k l0_0).bind fun t => some (t, q.2.2.2.2))
theorem spec_TakeOut.mono : ∀ a0 a1 a2 a3 k, LeO (spec_TakeOut.f k a0 a1 a2 a3) (spec_TakeOut.f (k + 1) a0 a1 a2 a3) := by
 intro a0 a1 a2 a3 k
 unfold spec_TakeOut.f
 repeat' first
  | (with_reducible exact spec_l5Call.mono _ _ _ _ _)
  | (with_reducible exact spec_l5Copy.mono _ _)
  | (with_reducible exact spec_l5Put.mono _ _ _ _ _ _)
  | (with_reducible exact LeO.refl _)
  | (with_reducible exact LeO.none _)
  | (with_reducible refine LeO.ite ?_ ?_)
  | (with_reducible refine LeO.bind ?_ (fun _ => ?_))
set_option maxHeartbeats 8000000 in
set_option maxRecDepth 100000 in
theorem spec_TakeOut.calls (k : Nat) (A0_0 : Option Addr) (c0_0 : Nat) (l0_0 : List (S79)) (a1 : Int) (a2 : Int) (a3 : Int) (r1 : List (S79)) (r2 : Int) (w : World) (hr0_0 : Kd.C k79 w A0_0 l0_0.length l0_0) (hc0_0 : l0_0.length ≤ c0_0) (h : spec_TakeOut.f k l0_0 a1 a2 a3 = some (r1, r2)) :
  Calls Try.prog 28 #[.agg #[.slice A0_0 l0_0.length c0_0], .int .i64 a1, .int .i64 a2, .int .i64 a3] w fun e w' => ∃ v0_ : Value, e = .returned (.tuple #[.agg #[v0_], .int .i64 r2]) ∧ Kd.S k79 79 w' w.heap.size (fun _ => True) v0_ r1 ∧ Below w.heap.size w w' := by
 have hu26 := Try.underlying26
 have hu72 := Try.underlying72
 have hu24 := Try.underlying24
 have hu79 := Try.underlying79
 unfold spec_TakeOut.f at h
 obtain ⟨⟨t1, t2, t3, t4, t5⟩, hq, h⟩ := Option.bind_eq_some_iff.mp h
 have Hq := aM hq
 have HR := aM hr0_0
 have HC := aM hc0_0
 clear hq hr0_0 hc0_0
 dsimp only at h
 by_cases c1 : t5 = 0
 {
 subst c1
 rw [if_pos rfl] at h
 by_cases c2 : t4 < a3
 {
 rw [if_pos c2] at h
 have c2b := decide_eq_true c2
 obtain ⟨t6, h6, h⟩ := Option.bind_eq_some_iff.mp h
 have H6 := aM h6
 obtain ⟨rfl, rfl⟩ : t6 = r1 ∧ 3 = r2 := by simpa using h
 clear h h6 c2
 go_enter Try.func28, Try.ntmps28
 go_wp2_with (first
  | (go_at_call 61; refine (spec_l5Call.calls k _ _ l0_0 a1 a2 a3 t1 t2 t3 t4 0 _ (Kd.C_alloc (Kd.C_alloc HR.out _) _) HC.out Hq.out).mono ?_; rintro e w1 ⟨rfl, hb⟩; have B4 := aM (blk_below (blk_alloc (blk_new w (.cells #[.slice A0_0 l0_0.length c0_0] 26)) (.cells #[.slice none 0 0] 26)) hb); have B8 := aM (blk_below (blk_new1 w (.cells #[.slice A0_0 l0_0.length c0_0] 26) (.cells #[.slice none 0 0] 26)) hb); have HB1 := aM (below_step (below_alloc (below_alloc (Below.refl w.heap.size w) _) _) hb); have C4 : w1.cell? ⟨w.heap.size, 0, none⟩ = some (.slice A0_0 l0_0.length c0_0) := (blk_cell B4.out 0).trans rfl; have L4 := blk_lt B4.out; have L8 := blk_lt B8.out; have N8 := Nat.ne_of_lt L8; have N8' := Nat.ne_of_gt L8; have N4 := Nat.ne_of_lt L4; have N4' := Nat.ne_of_gt L4; clear hb)
  | (go_at_call 62; refine (spec_l5Copy.calls k _ _ l0_0 t6 _ (Kd.C_below HR.out (below_alloc HB1.out _)) HC.out H6.out).mono ?_; rintro e w2 ⟨v0, rfl, hS, hb⟩; obtain ⟨Ac, cc, rfl⟩ := Kd.S_slice hS; replace B8 := aM (blk_below (blk_alloc B8.out _) hb); have HB2 := aM (below_step (below_alloc HB1.out _) hb); have HS := aM (show Kd.S k79 79 w2 (w.heap.size + 2) (fun _ => True) (.slice Ac t6.length cc) t6 from Kd.S_lower hS (by rw [World.size_alloc]; omega)); have C8 : w2.cell? ⟨w.heap.size + 1, 0, none⟩ = some (.slice none 0 0) := (blk_cell B8.out 0).trans rfl; have F8 := blk_frozen B8.out 0; clear hb hS C4))
 refine bodyPost_ret (results_ct rfl _ _ (w.heap.size + 1) 26 #[.slice Ac t6.length cc] (0, 0) _ rfl (blk_put (cs := #[.slice none 0 0]) B8.out 0 _ rfl) Try.underlying26 rfl (by kernel_rfl)) rfl ?_
 exact ⟨_, rfl, Kd.S_lower (S_box HS.out (show w.heap.size + 1 < w.heap.size + 2 by omega) _) (by omega), below_set HB2.out (by omega)⟩
 }
 {
 rw [if_neg c2] at h
 have c2b := decide_eq_false c2
 obtain ⟨t6, h6, h⟩ := Option.bind_eq_some_iff.mp h
 have H6 := aM h6
 obtain ⟨rfl, rfl⟩ : t6 = r1 ∧ 0 = r2 := by simpa using h
 clear h h6 c2
 go_enter Try.func28, Try.ntmps28
 go_wp2_with (first
  | (go_at_call 61; refine (spec_l5Call.calls k _ _ l0_0 a1 a2 a3 t1 t2 t3 t4 0 _ (Kd.C_alloc (Kd.C_alloc HR.out _) _) HC.out Hq.out).mono ?_; rintro e w1 ⟨rfl, hb⟩; have B4 := aM (blk_below (blk_alloc (blk_new w (.cells #[.slice A0_0 l0_0.length c0_0] 26)) (.cells #[.slice none 0 0] 26)) hb); have B8 := aM (blk_below (blk_new1 w (.cells #[.slice A0_0 l0_0.length c0_0] 26) (.cells #[.slice none 0 0] 26)) hb); have HB1 := aM (below_step (below_alloc (below_alloc (Below.refl w.heap.size w) _) _) hb); have C4 : w1.cell? ⟨w.heap.size, 0, none⟩ = some (.slice A0_0 l0_0.length c0_0) := (blk_cell B4.out 0).trans rfl; have L4 := blk_lt B4.out; have L8 := blk_lt B8.out; have N8 := Nat.ne_of_lt L8; have N8' := Nat.ne_of_gt L8; have N4 := Nat.ne_of_lt L4; have N4' := Nat.ne_of_gt L4; clear hb)
  | (go_at_call 63; refine (spec_l5Put.calls k _ _ l0_0 t1 t2 (wrap64 (t3 - a3)) (wrap64 (t4 - a3)) t6 _ (Kd.C_below HR.out (below_alloc HB1.out _)) HC.out H6.out).mono ?_; rintro e w2 ⟨v0, rfl, hS, hb⟩; obtain ⟨Ac, cc, rfl⟩ := Kd.S_slice hS; replace B8 := aM (blk_below (blk_alloc B8.out _) hb); have HB2 := aM (below_step (below_alloc HB1.out _) hb); have HS := aM (show Kd.S k79 79 w2 (w.heap.size + 2) (fun _ => True) (.slice Ac t6.length cc) t6 from Kd.S_lower hS (by simp only [World.size_setCell, World.size_alloc]; omega)); have C8 : w2.cell? ⟨w.heap.size + 1, 0, none⟩ = some (.slice none 0 0) := (blk_cell B8.out 0).trans rfl; have F8 := blk_frozen B8.out 0; clear hb hS C4))
 refine bodyPost_ret (results_ct rfl _ _ (w.heap.size + 1) 26 #[.slice Ac t6.length cc] (0, 0) _ rfl (blk_put (cs := #[.slice none 0 0]) B8.out 0 _ rfl) Try.underlying26 rfl (by kernel_rfl)) rfl ?_
 exact ⟨_, rfl, Kd.S_lower (S_box HS.out (show w.heap.size + 1 < w.heap.size + 2 by omega) _) (by omega), below_set HB2.out (by omega)⟩
 }
 }
 {
 rw [if_neg c1] at h
 obtain ⟨t6, h6, h⟩ := Option.bind_eq_some_iff.mp h
 have H6 := aM h6
 obtain ⟨rfl, rfl⟩ : t6 = r1 ∧ t5 = r2 := by simpa using h
 have c1b : (t5 != 0) = true := by simpa using c1
 clear h h6 c1
 go_enter Try.func28, Try.ntmps28
 go_wp2_with (first
  | (go_at_call 61; refine (spec_l5Call.calls k _ _ l0_0 a1 a2 a3 t1 t2 t3 t4 t5 _ (Kd.C_alloc (Kd.C_alloc HR.out _) _) HC.out Hq.out).mono ?_; rintro e w1 ⟨rfl, hb⟩; have B4 := aM (blk_below (blk_alloc (blk_new w (.cells #[.slice A0_0 l0_0.length c0_0] 26)) (.cells #[.slice none 0 0] 26)) hb); have B8 := aM (blk_below (blk_new1 w (.cells #[.slice A0_0 l0_0.length c0_0] 26) (.cells #[.slice none 0 0] 26)) hb); have HB1 := aM (below_step (below_alloc (below_alloc (Below.refl w.heap.size w) _) _) hb); have C4 : w1.cell? ⟨w.heap.size, 0, none⟩ = some (.slice A0_0 l0_0.length c0_0) := (blk_cell B4.out 0).trans rfl; have L4 := blk_lt B4.out; have L8 := blk_lt B8.out; have N8 := Nat.ne_of_lt L8; have N8' := Nat.ne_of_gt L8; have N4 := Nat.ne_of_lt L4; have N4' := Nat.ne_of_gt L4; clear hb)
  | (go_at_call 62; refine (spec_l5Copy.calls k _ _ l0_0 t6 _ (Kd.C_below HR.out (below_alloc HB1.out _)) HC.out H6.out).mono ?_; rintro e w2 ⟨v0, rfl, hS, hb⟩; obtain ⟨Ac, cc, rfl⟩ := Kd.S_slice hS; replace B8 := aM (blk_below (blk_alloc B8.out _) hb); have HB2 := aM (below_step (below_alloc HB1.out _) hb); have HS := aM (show Kd.S k79 79 w2 (w.heap.size + 2) (fun _ => True) (.slice Ac t6.length cc) t6 from Kd.S_lower hS (by rw [World.size_alloc]; omega)); have C8 : w2.cell? ⟨w.heap.size + 1, 0, none⟩ = some (.slice none 0 0) := (blk_cell B8.out 0).trans rfl; have F8 := blk_frozen B8.out 0; clear hb hS C4))
 refine bodyPost_ret (results_ct rfl _ _ (w.heap.size + 1) 26 #[.slice Ac t6.length cc] (0, 0) _ rfl (blk_put (cs := #[.slice none 0 0]) B8.out 0 _ rfl) Try.underlying26 rfl (by kernel_rfl)) rfl ?_
 exact ⟨_, rfl, Kd.S_lower (S_box HS.out (show w.heap.size + 1 < w.heap.size + 2 by omega) _) (by omega), below_set HB2.out (by omega)⟩

 }
/-! ### spec_Release: function 34 -/
def spec_Release.f (k : Nat) (l0_0 : List (S79)) (a1 : Int) (a2 : Int) (a3 : Int) : Option ((List (S79)) × Int) := (spec_l5Call.f k l0_0 a1 a2 a3).bind fun q => if q.2.2.2.2 = 0 then (if q.2.2.2.1 < a3 then ((spec_l5Copy.f k l0_0).bind fun t => some (t, 3)) else ((spec_l5Put.f k l0_0 q.1 q.2.1 q.2.2.1 (wrap64 (q.2.2.2.1 - a3))).bind fun t => some (t, 0))) else ((spec_l5Copy.f k l0_0).bind fun t => some (t, q.2.2.2.2))
theorem spec_Release.mono : ∀ a0 a1 a2 a3 k, LeO (spec_Release.f k a0 a1 a2 a3) (spec_Release.f (k + 1) a0 a1 a2 a3) := by
 intro a0 a1 a2 a3 k
 unfold spec_Release.f
 repeat' first
  | (with_reducible exact spec_l5Call.mono _ _ _ _ _)
  | (with_reducible exact spec_l5Copy.mono _ _)
  | (with_reducible exact spec_l5Put.mono _ _ _ _ _ _)
  | (with_reducible exact LeO.refl _)
  | (with_reducible exact LeO.none _)
  | (with_reducible refine LeO.ite ?_ ?_)
  | (with_reducible refine LeO.bind ?_ (fun _ => ?_))
set_option maxHeartbeats 8000000 in
set_option maxRecDepth 100000 in
theorem spec_Release.calls (k : Nat) (A0_0 : Option Addr) (c0_0 : Nat) (l0_0 : List (S79)) (a1 : Int) (a2 : Int) (a3 : Int) (r1 : List (S79)) (r2 : Int) (w : World) (hr0_0 : Kd.C k79 w A0_0 l0_0.length l0_0) (hc0_0 : l0_0.length ≤ c0_0) (h : spec_Release.f k l0_0 a1 a2 a3 = some (r1, r2)) :
  Calls Try.prog 34 #[.agg #[.slice A0_0 l0_0.length c0_0], .int .i64 a1, .int .i64 a2, .int .i64 a3] w fun e w' => ∃ v0_ : Value, e = .returned (.tuple #[.agg #[v0_], .int .i64 r2]) ∧ Kd.S k79 79 w' w.heap.size (fun _ => True) v0_ r1 ∧ Below w.heap.size w w' := by
 have hu26 := Try.underlying26
 have hu72 := Try.underlying72
 have hu24 := Try.underlying24
 have hu79 := Try.underlying79
 unfold spec_Release.f at h
 obtain ⟨⟨t1, t2, t3, t4, t5⟩, hq, h⟩ := Option.bind_eq_some_iff.mp h
 have Hq := aM hq
 have HR := aM hr0_0
 have HC := aM hc0_0
 clear hq hr0_0 hc0_0
 dsimp only at h
 by_cases c1 : t5 = 0
 {
 subst c1
 rw [if_pos rfl] at h
 by_cases c2 : t4 < a3
 {
 rw [if_pos c2] at h
 have c2b := decide_eq_true c2
 obtain ⟨t6, h6, h⟩ := Option.bind_eq_some_iff.mp h
 have H6 := aM h6
 obtain ⟨rfl, rfl⟩ : t6 = r1 ∧ 3 = r2 := by simpa using h
 clear h h6 c2
 go_enter Try.func34, Try.ntmps34
 go_wp2_with (first
  | (go_at_call 61; refine (spec_l5Call.calls k _ _ l0_0 a1 a2 a3 t1 t2 t3 t4 0 _ (Kd.C_alloc (Kd.C_alloc HR.out _) _) HC.out Hq.out).mono ?_; rintro e w1 ⟨rfl, hb⟩; have B4 := aM (blk_below (blk_alloc (blk_new w (.cells #[.slice A0_0 l0_0.length c0_0] 26)) (.cells #[.slice none 0 0] 26)) hb); have B8 := aM (blk_below (blk_new1 w (.cells #[.slice A0_0 l0_0.length c0_0] 26) (.cells #[.slice none 0 0] 26)) hb); have HB1 := aM (below_step (below_alloc (below_alloc (Below.refl w.heap.size w) _) _) hb); have C4 : w1.cell? ⟨w.heap.size, 0, none⟩ = some (.slice A0_0 l0_0.length c0_0) := (blk_cell B4.out 0).trans rfl; have L4 := blk_lt B4.out; have L8 := blk_lt B8.out; have N8 := Nat.ne_of_lt L8; have N8' := Nat.ne_of_gt L8; have N4 := Nat.ne_of_lt L4; have N4' := Nat.ne_of_gt L4; clear hb)
  | (go_at_call 62; refine (spec_l5Copy.calls k _ _ l0_0 t6 _ (Kd.C_below HR.out (below_alloc HB1.out _)) HC.out H6.out).mono ?_; rintro e w2 ⟨v0, rfl, hS, hb⟩; obtain ⟨Ac, cc, rfl⟩ := Kd.S_slice hS; replace B8 := aM (blk_below (blk_alloc B8.out _) hb); have HB2 := aM (below_step (below_alloc HB1.out _) hb); have HS := aM (show Kd.S k79 79 w2 (w.heap.size + 2) (fun _ => True) (.slice Ac t6.length cc) t6 from Kd.S_lower hS (by rw [World.size_alloc]; omega)); have C8 : w2.cell? ⟨w.heap.size + 1, 0, none⟩ = some (.slice none 0 0) := (blk_cell B8.out 0).trans rfl; have F8 := blk_frozen B8.out 0; clear hb hS C4))
 refine bodyPost_ret (results_ct rfl _ _ (w.heap.size + 1) 26 #[.slice Ac t6.length cc] (0, 0) _ rfl (blk_put (cs := #[.slice none 0 0]) B8.out 0 _ rfl) Try.underlying26 rfl (by kernel_rfl)) rfl ?_
 exact ⟨_, rfl, Kd.S_lower (S_box HS.out (show w.heap.size + 1 < w.heap.size + 2 by omega) _) (by omega), below_set HB2.out (by omega)⟩
 }
 {
 rw [if_neg c2] at h
 have c2b := decide_eq_false c2
 obtain ⟨t6, h6, h⟩ := Option.bind_eq_some_iff.mp h
 have H6 := aM h6
 obtain ⟨rfl, rfl⟩ : t6 = r1 ∧ 0 = r2 := by simpa using h
 clear h h6 c2
 go_enter Try.func34, Try.ntmps34
 go_wp2_with (first
  | (go_at_call 61; refine (spec_l5Call.calls k _ _ l0_0 a1 a2 a3 t1 t2 t3 t4 0 _ (Kd.C_alloc (Kd.C_alloc HR.out _) _) HC.out Hq.out).mono ?_; rintro e w1 ⟨rfl, hb⟩; have B4 := aM (blk_below (blk_alloc (blk_new w (.cells #[.slice A0_0 l0_0.length c0_0] 26)) (.cells #[.slice none 0 0] 26)) hb); have B8 := aM (blk_below (blk_new1 w (.cells #[.slice A0_0 l0_0.length c0_0] 26) (.cells #[.slice none 0 0] 26)) hb); have HB1 := aM (below_step (below_alloc (below_alloc (Below.refl w.heap.size w) _) _) hb); have C4 : w1.cell? ⟨w.heap.size, 0, none⟩ = some (.slice A0_0 l0_0.length c0_0) := (blk_cell B4.out 0).trans rfl; have L4 := blk_lt B4.out; have L8 := blk_lt B8.out; have N8 := Nat.ne_of_lt L8; have N8' := Nat.ne_of_gt L8; have N4 := Nat.ne_of_lt L4; have N4' := Nat.ne_of_gt L4; clear hb)
  | (go_at_call 63; refine (spec_l5Put.calls k _ _ l0_0 t1 t2 t3 (wrap64 (t4 - a3)) t6 _ (Kd.C_below HR.out (below_alloc HB1.out _)) HC.out H6.out).mono ?_; rintro e w2 ⟨v0, rfl, hS, hb⟩; obtain ⟨Ac, cc, rfl⟩ := Kd.S_slice hS; replace B8 := aM (blk_below (blk_alloc B8.out _) hb); have HB2 := aM (below_step (below_alloc HB1.out _) hb); have HS := aM (show Kd.S k79 79 w2 (w.heap.size + 2) (fun _ => True) (.slice Ac t6.length cc) t6 from Kd.S_lower hS (by simp only [World.size_setCell, World.size_alloc]; omega)); have C8 : w2.cell? ⟨w.heap.size + 1, 0, none⟩ = some (.slice none 0 0) := (blk_cell B8.out 0).trans rfl; have F8 := blk_frozen B8.out 0; clear hb hS C4))
 refine bodyPost_ret (results_ct rfl _ _ (w.heap.size + 1) 26 #[.slice Ac t6.length cc] (0, 0) _ rfl (blk_put (cs := #[.slice none 0 0]) B8.out 0 _ rfl) Try.underlying26 rfl (by kernel_rfl)) rfl ?_
 exact ⟨_, rfl, Kd.S_lower (S_box HS.out (show w.heap.size + 1 < w.heap.size + 2 by omega) _) (by omega), below_set HB2.out (by omega)⟩
 }
 }
 {
 rw [if_neg c1] at h
 obtain ⟨t6, h6, h⟩ := Option.bind_eq_some_iff.mp h
 have H6 := aM h6
 obtain ⟨rfl, rfl⟩ : t6 = r1 ∧ t5 = r2 := by simpa using h
 have c1b : (t5 != 0) = true := by simpa using c1
 clear h h6 c1
 go_enter Try.func34, Try.ntmps34
 go_wp2_with (first
  | (go_at_call 61; refine (spec_l5Call.calls k _ _ l0_0 a1 a2 a3 t1 t2 t3 t4 t5 _ (Kd.C_alloc (Kd.C_alloc HR.out _) _) HC.out Hq.out).mono ?_; rintro e w1 ⟨rfl, hb⟩; have B4 := aM (blk_below (blk_alloc (blk_new w (.cells #[.slice A0_0 l0_0.length c0_0] 26)) (.cells #[.slice none 0 0] 26)) hb); have B8 := aM (blk_below (blk_new1 w (.cells #[.slice A0_0 l0_0.length c0_0] 26) (.cells #[.slice none 0 0] 26)) hb); have HB1 := aM (below_step (below_alloc (below_alloc (Below.refl w.heap.size w) _) _) hb); have C4 : w1.cell? ⟨w.heap.size, 0, none⟩ = some (.slice A0_0 l0_0.length c0_0) := (blk_cell B4.out 0).trans rfl; have L4 := blk_lt B4.out; have L8 := blk_lt B8.out; have N8 := Nat.ne_of_lt L8; have N8' := Nat.ne_of_gt L8; have N4 := Nat.ne_of_lt L4; have N4' := Nat.ne_of_gt L4; clear hb)
  | (go_at_call 62; refine (spec_l5Copy.calls k _ _ l0_0 t6 _ (Kd.C_below HR.out (below_alloc HB1.out _)) HC.out H6.out).mono ?_; rintro e w2 ⟨v0, rfl, hS, hb⟩; obtain ⟨Ac, cc, rfl⟩ := Kd.S_slice hS; replace B8 := aM (blk_below (blk_alloc B8.out _) hb); have HB2 := aM (below_step (below_alloc HB1.out _) hb); have HS := aM (show Kd.S k79 79 w2 (w.heap.size + 2) (fun _ => True) (.slice Ac t6.length cc) t6 from Kd.S_lower hS (by rw [World.size_alloc]; omega)); have C8 : w2.cell? ⟨w.heap.size + 1, 0, none⟩ = some (.slice none 0 0) := (blk_cell B8.out 0).trans rfl; have F8 := blk_frozen B8.out 0; clear hb hS C4))
 refine bodyPost_ret (results_ct rfl _ _ (w.heap.size + 1) 26 #[.slice Ac t6.length cc] (0, 0) _ rfl (blk_put (cs := #[.slice none 0 0]) B8.out 0 _ rfl) Try.underlying26 rfl (by kernel_rfl)) rfl ?_
 exact ⟨_, rfl, Kd.S_lower (S_box HS.out (show w.heap.size + 1 < w.heap.size + 2 by omega) _) (by omega), below_set HB2.out (by omega)⟩

 }
/-! ### spec_l6Each: function 86 -/
def spec_l6Each.l0 : Nat → List (S50) → Int → Int → List (S79) → List (S79) → Option ((List (S79)) × Bool)
 | 0, _, _, _, _, _ => none
 | k + 1, x1, x2, x9, x283000, x288000 => if x9 < (x1.length : Int) then (if 0 ≤ x9 then (if x2 = 1 then ((spec_Hold.f k x288000 ((rd_T50 x1 x9).f0) ((rd_T50 x1 x9).f1) ((rd_T50 x1 x9).f2)).bind fun bt290 => (if bt290.2 = 0 then (spec_l6Each.l0 k x1 x2 (wrap64 (x9 + 1)) x283000 bt290.1) else ((spec_l5Copy.f k x283000).bind fun t294 => (some (t294, false))))) else (if x2 = 2 then ((spec_Release.f k x288000 ((rd_T50 x1 x9).f0) ((rd_T50 x1 x9).f1) ((rd_T50 x1 x9).f2)).bind fun bt297 => (if bt297.2 = 0 then (spec_l6Each.l0 k x1 x2 (wrap64 (x9 + 1)) x283000 bt297.1) else ((spec_l5Copy.f k x283000).bind fun t301 => (some (t301, false))))) else ((spec_TakeOut.f k x288000 ((rd_T50 x1 x9).f0) ((rd_T50 x1 x9).f1) ((rd_T50 x1 x9).f2)).bind fun bt304 => (if bt304.2 = 0 then (spec_l6Each.l0 k x1 x2 (wrap64 (x9 + 1)) x283000 bt304.1) else ((spec_l5Copy.f k x283000).bind fun t308 => (some (t308, false))))))) else (none)) else (some (x288000, true))
def spec_l6Each.f (k : Nat) (l0_0 : List (S79)) (l1 : List (S50)) (a2 : Int) : Option ((List (S79)) × Bool) := (spec_l5Copy.f k l0_0).bind fun t284 => (spec_l6Each.l0 k l1 a2 0 l0_0 t284)
theorem spec_l6Each.mono_l : ∀ k, (∀ y0 y1 y2 y3 y4, LeO (spec_l6Each.l0 k y0 y1 y2 y3 y4) (spec_l6Each.l0 (k + 1) y0 y1 y2 y3 y4))
 | 0 => fun _ _ _ _ _ r h => by simp [spec_l6Each.l0] at h
 | k + 1 => by
  have ih0 := spec_l6Each.mono_l k
  {
  intro y0 y1 y2 y3 y4
  unfold spec_l6Each.l0
  repeat' first
  | (with_reducible exact ih0 _ _ _ _ _)
  | (with_reducible exact spec_Hold.mono _ _ _ _ _)
  | (with_reducible exact spec_Release.mono _ _ _ _ _)
  | (with_reducible exact spec_TakeOut.mono _ _ _ _ _)
  | (with_reducible exact spec_l5Copy.mono _ _)
  | (with_reducible exact LeO.refl _)
  | (with_reducible exact LeO.none _)
  | (with_reducible refine LeO.ite ?_ ?_)
  | (with_reducible refine LeO.bind ?_ (fun _ => ?_))
  | exact ih0 _ _ _ _ _
  | exact spec_Hold.mono _ _ _ _ _
  | exact spec_Release.mono _ _ _ _ _
  | exact spec_TakeOut.mono _ _ _ _ _
  | exact spec_l5Copy.mono _ _
  | exact LeO.none _
  | refine LeO.ite ?_ ?_
  | refine LeO.bind ?_ (fun _ => ?_)
  }
theorem spec_l6Each.mono : ∀ a0 a1 a2 k, LeO (spec_l6Each.f k a0 a1 a2) (spec_l6Each.f (k + 1) a0 a1 a2) := by
 intro a0 a1 a2 k
 have ih0 := spec_l6Each.mono_l k
 unfold spec_l6Each.f
 repeat' first
  | (with_reducible exact ih0 _ _ _ _ _)
  | (with_reducible exact spec_Hold.mono _ _ _ _ _)
  | (with_reducible exact spec_Release.mono _ _ _ _ _)
  | (with_reducible exact spec_TakeOut.mono _ _ _ _ _)
  | (with_reducible exact spec_l5Copy.mono _ _)
  | (with_reducible exact LeO.refl _)
  | (with_reducible exact LeO.none _)
  | (with_reducible refine LeO.ite ?_ ?_)
  | (with_reducible refine LeO.bind ?_ (fun _ => ?_))
  | exact ih0 _ _ _ _ _
  | exact spec_Hold.mono _ _ _ _ _
  | exact spec_Release.mono _ _ _ _ _
  | exact spec_TakeOut.mono _ _ _ _ _
  | exact spec_l5Copy.mono _ _
  | exact LeO.none _
  | refine LeO.ite ?_ ?_
  | refine LeO.bind ?_ (fun _ => ?_)
set_option maxHeartbeats 8000000 in
set_option maxRecDepth 100000 in
theorem spec_l6Each.calls (k : Nat) (A0_0 : Option Addr) (c0_0 : Nat) (l0_0 : List (S79)) (A1 : Option Addr) (c1 : Nat) (l1 : List (S50)) (a2 : Int) (r1 : List (S79)) (r2 : Bool) (w : World) (hr0_0 : Kd.C k79 w A0_0 l0_0.length l0_0) (hc0_0 : l0_0.length ≤ c0_0) (hr1 : Kd.C k50 w A1 l1.length l1) (hc1 : l1.length ≤ c1) (h : spec_l6Each.f k l0_0 l1 a2 = some (r1, r2)) :
  Calls Try.prog 86 #[.agg #[.slice A0_0 l0_0.length c0_0], .slice A1 l1.length c1, .int .i64 a2] w fun e w' => ∃ v0_ : Value, e = .returned (.tuple #[.agg #[v0_], .bool r2]) ∧ Kd.S k79 79 w' w.heap.size (fun _ => True) v0_ r1 ∧ Below w.heap.size w w' := by
 have hu26 := Try.underlying26
 have hu50 := Try.underlying50
 have HR0_0 := aM hr0_0
 have HC0_0 := aM hc0_0
 clear hr0_0 hc0_0
 have HR1 := aM hr1
 have HC1 := aM hc1
 clear hr1 hc1
 have HB := aM (Below.refl w.heap.size w)
 have H : ((spec_l5Copy.f k l0_0).bind fun t284 => (spec_l6Each.l0 k l1 a2 0 l0_0 t284)) = some (r1, r2) := h
 clear h
 replace H := Option.bind_eq_some_iff.mp H
 obtain ⟨t284, A40, H⟩ := H
 replace H : (spec_l6Each.l0 k l1 a2 0 l0_0 t284) = some (r1, r2) := H
 have A4 := aM A40
 clear A40
 have H' := aM H
 clear H
 go_enter Try.func86, Try.ntmps86
 go_wp2_with (first | ((with_reducible refine gate_dst (N := 3) rfl ?_); refine bx_ 3 #[.slice A0_0 l0_0.length c0_0] 26 ?_; intro gb282 hg w5 hbox hb; have n0_ := aM (below_step qz1 hb); have n1_ := aM (hbox); have n2_ := aM ((by rw [hg]; exact (below_size qz1) : w.heap.size ≤ gb282)); have n3_ := aM ((by rw [hg]; exact (below_size qz1) : w.heap.size ≤ gb282)); clear HB; have HB := n0_; have BK282 := n1_; have GW282 := n2_; have GE282 := n3_; clear n0_ n1_ n2_ n3_; clear hb hbox hg) | ((with_reducible refine gate_dst (N := 6) rfl ?_); refine bx_ 6 #[.slice none 0 0] 26 ?_; intro gb283 hg w6 hbox hb; have n0_ := aM (blk_below (g := gb282) (o := .cells #[.slice A0_0 l0_0.length c0_0] 26 (0, 0)) qz10 hb); have n1_ := aM (below_step qz83 hb); have n2_ := aM (hbox); have n3_ := aM ((by rw [hg]; exact (below_size qz83) : w.heap.size ≤ gb283)); have n4_ := aM ((by rw [hg]; exact (below_size qz83) : w.heap.size ≤ gb283)); have n5_ := aM ((by rw [hg]; exact Nat.ne_of_lt (blk_lt (g := gb282) (o := .cells #[.slice A0_0 l0_0.length c0_0] 26 (0, 0)) qz10) : gb282 ≠ gb283)); have n6_ := aM ((by rw [hg]; exact Nat.ne_of_gt (blk_lt (g := gb282) (o := .cells #[.slice A0_0 l0_0.length c0_0] 26 (0, 0)) qz10) : gb283 ≠ gb282)); clear BK282 HB; have BK282 := n0_; have HB := n1_; have BK283 := n2_; have GW283 := n3_; have GE283 := n4_; have NB282_283 := n5_; have NB283_282 := n6_; clear n0_ n1_ n2_ n3_ n4_ n5_ n6_; clear hb hbox hg; have hnb7 := NB282_283.out; have hnc7 := NB283_282.out; have hcz8_0 : w6.cell? ⟨gb282, 0, none⟩ = some (.slice A0_0 l0_0.length c0_0) := (blk_cell BK282.out 0).trans rfl; have hfz8_0 := blk_frozen BK282.out 0) | ((with_reducible refine gate_callee (f := 62) rfl ?_); refine goesL_ (some 13) rfl rfl Try.func62 (by kernel_rfl) rfl #[.agg #[.slice A0_0 l0_0.length c0_0]] rfl qz2 ?_; (with_reducible refine (spec_l5Copy.calls k _ _ l0_0 t284 _ ?side1 ?side2 A4.out).mono ?_); (case side1 => exact qz9); (case side2 => exact HC0_0.out); rintro e w9 ⟨v285, rfl, ho0, hb⟩; refine ⟨_, rfl, ?_⟩; have n0_ := aM (Kd.S_lower ho0 (below_size qz38)); have n1_ := aM (blk_below (g := gb282) (o := .cells #[.slice A0_0 l0_0.length c0_0] 26 (0, 0)) qz10 hb); have n2_ := aM (blk_below (g := gb283) (o := .cells #[.slice none 0 0] 26 (0, 0)) qz51 hb); have n3_ := aM (below_step qz38 hb); clear BK282 BK283 HB; have HO286 := n0_; have BK282 := n1_; have BK283 := n2_; have HB := n3_; clear n0_ n1_ n2_ n3_; (try clear hb); (try clear hb2); (try clear hk); (try clear hi); (try clear ho0)) | ((with_reducible refine gate_dst (N := 8) rfl ?_); refine bx_ 8 #[.slice none 0 0] 26 ?_; intro gb287 hg w10 hbox hb; have n0_ := aM (Kd.S_below (by (with_reducible repeat (first | apply Kd.S_alloc | apply Kd.S_drewN | apply Kd.S_drew)); exact HO286.out) hb); have n1_ := aM (blk_below (g := gb282) (o := .cells #[.slice A0_0 l0_0.length c0_0] 26 (0, 0)) qz10 hb); have n2_ := aM (blk_below (g := gb283) (o := .cells #[.slice none 0 0] 26 (0, 0)) qz51 hb); have n3_ := aM (below_step qz38 hb); have n4_ := aM (hbox); have n5_ := aM ((by rw [hg]; exact (below_size qz38) : w.heap.size ≤ gb287)); have n6_ := aM ((by rw [hg]; exact (below_size qz38) : w.heap.size ≤ gb287)); have n7_ := aM ((by rw [hg]; exact Nat.ne_of_lt (blk_lt (g := gb282) (o := .cells #[.slice A0_0 l0_0.length c0_0] 26 (0, 0)) qz10) : gb282 ≠ gb287)); have n8_ := aM ((by rw [hg]; exact Nat.ne_of_gt (blk_lt (g := gb282) (o := .cells #[.slice A0_0 l0_0.length c0_0] 26 (0, 0)) qz10) : gb287 ≠ gb282)); have n9_ := aM ((by rw [hg]; exact Nat.ne_of_lt (blk_lt (g := gb283) (o := .cells #[.slice none 0 0] 26 (0, 0)) qz51) : gb283 ≠ gb287)); have n10_ := aM ((by rw [hg]; exact Nat.ne_of_gt (blk_lt (g := gb283) (o := .cells #[.slice none 0 0] 26 (0, 0)) qz51) : gb287 ≠ gb283)); clear HO286 BK282 BK283 HB; have HO286 := n0_; have BK282 := n1_; have BK283 := n2_; have HB := n3_; have BK287 := n4_; have GW287 := n5_; have GE287 := n6_; have NB282_287 := n7_; have NB287_282 := n8_; have NB283_287 := n9_; have NB287_283 := n10_; clear n0_ n1_ n2_ n3_ n4_ n5_ n6_ n7_ n8_ n9_ n10_; clear hb hbox hg; obtain ⟨Ao11, co11, eo11⟩ := Kd.S_slice HO286.out; subst eo11; have hnb12 := NB287_282.out; have hnc12 := NB282_287.out; have hnb13 := NB287_283.out; have hnc13 := NB283_287.out; have hcz14_0 : w10.cell? ⟨gb287, 0, none⟩ = some (.slice none 0 0) := (blk_cell BK287.out 0).trans rfl; have hfz14_0 := blk_frozen BK287.out 0))
 go_loopg [9] k (fun kq v9 w' => ∃ (x9_1 : Int) (x288000_1 : List (S79)) (u288000 : Value), v9 = .int .i64 x9_1 ∧ Aside0 (spec_l6Each.l0 kq l1 a2 x9_1 l0_0 x288000_1 = some (r1, r2)) ∧ Aside0 (kq ≤ k) ∧ Aside0 (Kd.S k79 79 w' w.heap.size (fun _ => True) u288000 x288000_1) ∧ Aside0 (w'.heap[gb282]? = some (.cells #[(.slice A0_0 l0_0.length c0_0)] 26 (0, 0))) ∧ Aside0 (w'.heap[gb283]? = some (.cells #[(.slice none 0 0)] 26 (0, 0))) ∧ Aside0 (w'.heap[gb287]? = some (.cells #[u288000] 26 (0, 0))) ∧ Aside0 (Below w.heap.size w w'))
 case atStart => exact ⟨(0), (t284), (.slice Ao11 t284.length co11), qz7, H', ⟨Nat.le_refl _⟩, ⟨by (with_reducible repeat (first | apply Kd.S_alloc | apply Kd.S_drewN | apply Kd.S_drew)); exact Kd.S_mono (Kd.S_far (p := ⟨gb287, 0, none⟩) (Kd.S_types HO286.out BK287.out (by decide)) (fun _ hk => hk.2) (.slice Ao11 t284.length co11)) (fun _ hk => trivial)⟩, ⟨by (with_reducible repeat (first | refine blk_drewN ?_ _ | refine blk_drew ?_ | refine blk_alloc ?_ _)); refine blk_far ?_ NB282_287.out _; (with_reducible repeat (first | refine blk_drewN ?_ _ | refine blk_drew ?_ | refine blk_alloc ?_ _)); exact BK282.out⟩, ⟨by (with_reducible repeat (first | refine blk_drewN ?_ _ | refine blk_drew ?_ | refine blk_alloc ?_ _)); refine blk_far ?_ NB283_287.out _; (with_reducible repeat (first | refine blk_drewN ?_ _ | refine blk_drew ?_ | refine blk_alloc ?_ _)); exact BK283.out⟩, ⟨by (with_reducible repeat (first | refine blk_drewN ?_ _ | refine blk_drew ?_ | refine blk_alloc ?_ _)); refine blk_put (cs := #[.slice none 0 0]) ?_ 0 _ rfl; (with_reducible repeat (first | refine blk_drewN ?_ _ | refine blk_drew ?_ | refine blk_alloc ?_ _)); exact BK287.out⟩, ⟨by repeat (first | (with_reducible first | exact HB.out | apply below_alloc | apply pw_below_drewN | apply below_drew1 | refine below_set ?_ GE282.out | refine below_set ?_ GE283.out | refine below_set ?_ GE287.out) | exact HB.out)⟩⟩
 case round =>
  clear H'
  try clear c1
  try clear p2
  try clear c6
  try clear c7
  try clear c8
  try clear c12
  try clear c13
  try clear hcz14_0
  try clear hcz8_0
  try clear hfz14_0
  try clear hfz8_0
  obtain ⟨x9_1, x288000_1, u288000, rfl, HA, HK1, HO_288000, BK282, BK283, BK287, HB⟩ := hrel
  cases gk with
  | zero => exact absurd HA.out (by simp [spec_l6Each.l0])
  | succ k1 =>
   have H := HA.out
   clear HA
   simp only [spec_l6Each.l0] at H
   by_cases c15 : x9_1 < (l1.length : Int)
   {
   rw [if_pos c15] at H
   have c15b0 := decide_eq_true c15
   clear c15
   by_cases c16 : 0 ≤ x9_1
   {
   rw [if_pos c16] at H
   have c16b0 := decide_eq_true c16
   clear c16
   by_cases c17 : a2 = 1
   {
   rw [if_pos c17] at H
   have c17b0 := beq_iff_eq.mpr c17
   have c17b1 := bne_eq_false_iff_eq.mpr c17
   clear c17
   replace H := Option.bind_eq_some_iff.mp H
   obtain ⟨⟨t290, t293⟩, A180, H⟩ := H
   replace H : (if t293 = 0 then (spec_l6Each.l0 k1 l1 a2 (wrap64 (x9_1 + 1)) l0_0 t290) else ((spec_l5Copy.f k1 l0_0).bind fun t294 => (some (t294, false)))) = some (r1, r2) := H
   have A18 := aM A180
   clear A180
   by_cases c19 : t293 = 0
   {
   rw [if_pos c19] at H
   have c19b0 := beq_iff_eq.mpr c19
   have c19b1 := bne_eq_false_iff_eq.mpr c19
   clear c19
   have H' := aM H
   clear H
   have p288 : 0 ≤ (x9_1 : Int) := of_decide_eq_true qz3
   have q288 : x9_1 < (l1.length : Int) := of_decide_eq_true qz3
   obtain ⟨ad288, e288, hx288_0, hx288_1, hx288_2⟩ := at_T50 HR1.out x9_1 p288 q288
   cases e288
   replace hx288_0 := pw_cell_below HB.out hx288_0
   replace hx288_1 := pw_cell_below HB.out hx288_1
   replace hx288_2 := pw_cell_below HB.out hx288_2
   replace p288 := eq_true p288
   replace q288 := eq_true q288
   go_wp2_with (first | ((with_reducible refine gate_dst (N := 10) rfl ?_); refine bx_ 10 #[.int .i64 0, .int .i64 0, .int .i64 0] 50 ?_; intro gb289 hg w20 hbox hb; have n0_ := aM (Kd.S_below qz49 hb); have n1_ := aM (blk_below (g := gb282) (o := .cells #[.slice A0_0 l0_0.length c0_0] 26 (0, 0)) qz10 hb); have n2_ := aM (blk_below (g := gb283) (o := .cells #[.slice none 0 0] 26 (0, 0)) qz51 hb); have n3_ := aM (blk_below (g := gb287) (o := .cells #[u288000] 26 (0, 0)) qz52 hb); have n4_ := aM (below_step qz8 hb); have n5_ := aM (hbox); have n6_ := aM ((by rw [hg]; exact (below_size qz8) : w.heap.size ≤ gb289)); have n7_ := aM ((by rw [hg]; exact (below_size qz8) : w.heap.size ≤ gb289)); have n8_ := aM ((by rw [hg]; exact Nat.ne_of_lt (blk_lt (g := gb282) (o := .cells #[.slice A0_0 l0_0.length c0_0] 26 (0, 0)) qz10) : gb282 ≠ gb289)); have n9_ := aM ((by rw [hg]; exact Nat.ne_of_gt (blk_lt (g := gb282) (o := .cells #[.slice A0_0 l0_0.length c0_0] 26 (0, 0)) qz10) : gb289 ≠ gb282)); have n10_ := aM ((by rw [hg]; exact Nat.ne_of_lt (blk_lt (g := gb283) (o := .cells #[.slice none 0 0] 26 (0, 0)) qz51) : gb283 ≠ gb289)); have n11_ := aM ((by rw [hg]; exact Nat.ne_of_gt (blk_lt (g := gb283) (o := .cells #[.slice none 0 0] 26 (0, 0)) qz51) : gb289 ≠ gb283)); have n12_ := aM ((by rw [hg]; exact Nat.ne_of_lt (blk_lt (g := gb287) (o := .cells #[u288000] 26 (0, 0)) qz52) : gb287 ≠ gb289)); have n13_ := aM ((by rw [hg]; exact Nat.ne_of_gt (blk_lt (g := gb287) (o := .cells #[u288000] 26 (0, 0)) qz52) : gb289 ≠ gb287)); clear HO_288000 BK282 BK283 BK287 HB; have HO_288000 := n0_; have BK282 := n1_; have BK283 := n2_; have BK287 := n3_; have HB := n4_; have BK289 := n5_; have GW289 := n6_; have GE289 := n7_; have NB282_289 := n8_; have NB289_282 := n9_; have NB283_289 := n10_; have NB289_283 := n11_; have NB287_289 := n12_; have NB289_287 := n13_; clear n0_ n1_ n2_ n3_ n4_ n5_ n6_ n7_ n8_ n9_ n10_ n11_ n12_ n13_; clear hb hbox hg; have hnb21 := NB289_282.out; have hnc21 := NB282_289.out; have hnb22 := NB289_283.out; have hnc22 := NB283_289.out; have hnb23 := NB289_287.out; have hnc23 := NB287_289.out; have hcz24_0 : w20.cell? ⟨gb289, 0, none⟩ = some (.int .i64 0) := (blk_cell BK289.out 0).trans rfl; have hcz24_1 : w20.cell? ⟨gb289, 1, none⟩ = some (.int .i64 0) := (blk_cell BK289.out 1).trans rfl; have hcz24_2 : w20.cell? ⟨gb289, 2, none⟩ = some (.int .i64 0) := (blk_cell BK289.out 2).trans rfl; have hfz24_0 := blk_frozen BK289.out 0; have hfz24_1 := blk_frozen BK289.out 1; have hfz24_2 := blk_frozen BK289.out 2; have hnb25 := NB287_282.out; have hnc25 := NB282_287.out; have hnb26 := NB287_283.out; have hnc26 := NB283_287.out; have hcz27_0 : w20.cell? ⟨gb287, 0, none⟩ = some (u288000) := (blk_cell BK287.out 0).trans rfl; have hfz27_0 := blk_frozen BK287.out 0; obtain ⟨Ao28, co28, eo28⟩ := Kd.S_slice HO_288000.out; subst eo28) | ((with_reducible refine gate_callee (f := 18) rfl ?_); refine goesL_ (some 46) rfl rfl Try.func18 (by kernel_rfl) rfl #[.agg #[.slice Ao28 x288000_1.length co28], .int .i64 ((rd_T50 l1 x9_1).f0), .int .i64 ((rd_T50 l1 x9_1).f1), .int .i64 ((rd_T50 l1 x9_1).f2)] rfl qz2 ?_; (with_reducible refine (spec_Hold.calls k1 _ _ x288000_1 ((rd_T50 l1 x9_1).f0) ((rd_T50 l1 x9_1).f1) ((rd_T50 l1 x9_1).f2) t290 t293 _ ?side1 ?side2 A18.out).mono ?_); (case side1 => refine (Kd.S_reads' (e := 79) (base := w.heap.size) (ok := fun k_ => True) (n := x288000_1.length) (c := co28) ?_).2.2; exact (by (with_reducible repeat (first | apply Kd.S_alloc | apply Kd.S_drewN | apply Kd.S_drew)); exact (Kd.S_mono (Kd.S_far (p := ⟨gb289, 2, none⟩) (Kd.S_far (p := ⟨gb289, 1, none⟩) (Kd.S_far (p := ⟨gb289, 0, none⟩) (Kd.S_types HO_288000.out BK289.out (by decide)) (fun _ hk => hk.2) (.int .i64 ((rd_T50 l1 x9_1).f0))) (fun _ hk => hk.2) (.int .i64 ((rd_T50 l1 x9_1).f1))) (fun _ hk => hk.2) (.int .i64 ((rd_T50 l1 x9_1).f2))) (fun _ h_ => h_.1)))); (case side2 => exact (Kd.S_reads' HO_288000.out).2.1); rintro e w29 ⟨v291, rfl, ho0, hb⟩; refine ⟨_, rfl, ?_⟩; have n0_ := aM (Kd.S_elder' (by (with_reducible repeat (first | apply Kd.S_alloc | apply Kd.S_drewN | apply Kd.S_drew)); exact (Kd.S_mono (Kd.S_far (p := ⟨gb289, 2, none⟩) (Kd.S_far (p := ⟨gb289, 1, none⟩) (Kd.S_far (p := ⟨gb289, 0, none⟩) (Kd.S_types HO_288000.out BK289.out (by decide)) (fun _ hk => hk.2) (.int .i64 ((rd_T50 l1 x9_1).f0))) (fun _ hk => hk.2) (.int .i64 ((rd_T50 l1 x9_1).f1))) (fun _ hk => hk.2) (.int .i64 ((rd_T50 l1 x9_1).f2))) (fun _ h_ => h_.1))) (Kd.S_base ho0) hb); have n1_ := aM (Kd.S_lower (Kd.S_new' ho0 (Kd.S_lt (by (with_reducible repeat (first | apply Kd.S_alloc | apply Kd.S_drewN | apply Kd.S_drew)); exact (Kd.S_mono (Kd.S_far (p := ⟨gb289, 2, none⟩) (Kd.S_far (p := ⟨gb289, 1, none⟩) (Kd.S_far (p := ⟨gb289, 0, none⟩) (Kd.S_types HO_288000.out BK289.out (by decide)) (fun _ hk => hk.2) (.int .i64 ((rd_T50 l1 x9_1).f0))) (fun _ hk => hk.2) (.int .i64 ((rd_T50 l1 x9_1).f1))) (fun _ hk => hk.2) (.int .i64 ((rd_T50 l1 x9_1).f2))) (fun _ h_ => h_.1))))) (below_size qz5)); have n2_ := aM (blk_below (g := gb282) (o := .cells #[.slice A0_0 l0_0.length c0_0] 26 (0, 0)) qz50 hb); have n3_ := aM (blk_below (g := gb283) (o := .cells #[.slice none 0 0] 26 (0, 0)) qz12 hb); have n4_ := aM (blk_below (g := gb287) (o := .cells #[.slice Ao28 x288000_1.length co28] 26 (0, 0)) qz13 hb); have n5_ := aM (blk_below (g := gb289) (o := .cells #[.int .i64 ((rd_T50 l1 x9_1).f0), .int .i64 ((rd_T50 l1 x9_1).f1), .int .i64 ((rd_T50 l1 x9_1).f2)] 50 (0, 0)) (by (with_reducible repeat (first | refine blk_drewN ?_ _ | refine blk_drew ?_ | refine blk_alloc ?_ _)); refine blk_put (cs := #[.int .i64 ((rd_T50 l1 x9_1).f0), .int .i64 ((rd_T50 l1 x9_1).f1), .int .i64 0]) ?_ 2 _ rfl; (with_reducible repeat (first | refine blk_drewN ?_ _ | refine blk_drew ?_ | refine blk_alloc ?_ _)); refine blk_put (cs := #[.int .i64 ((rd_T50 l1 x9_1).f0), .int .i64 0, .int .i64 0]) ?_ 1 _ rfl; (with_reducible repeat (first | refine blk_drewN ?_ _ | refine blk_drew ?_ | refine blk_alloc ?_ _)); refine blk_put (cs := #[.int .i64 0, .int .i64 0, .int .i64 0]) ?_ 0 _ rfl; (with_reducible repeat (first | refine blk_drewN ?_ _ | refine blk_drew ?_ | refine blk_alloc ?_ _)); exact BK289.out) hb); have n6_ := aM (below_step qz5 hb); clear HO_288000 BK282 BK283 BK287 BK289 HB; have HO_288000 := n0_; have HO292 := n1_; have BK282 := n2_; have BK283 := n3_; have BK287 := n4_; have BK289 := n5_; have HB := n6_; clear n0_ n1_ n2_ n3_ n4_ n5_ n6_; (try clear hb); (try clear hb2); (try clear hk); (try clear hi); (try clear ho0); obtain ⟨Ao30, co30, eo30⟩ := Kd.S_slice HO292.out; subst eo30; have hcz31_0 : w29.cell? ⟨gb287, 0, none⟩ = some (.slice Ao28 x288000_1.length co28) := (blk_cell BK287.out 0).trans rfl; have hfz31_0 := blk_frozen BK287.out 0))
   go_roundg k1
   case measure => have := HK1.out; omega
   case rel => exact ⟨(wrap64 (x9_1 + 1)), (t290), (.slice Ao30 t290.length co30), qz7, H', ⟨by have := HK1.out; omega⟩, ⟨by (with_reducible repeat (first | apply Kd.S_alloc | apply Kd.S_drewN | apply Kd.S_drew)); exact Kd.S_mono (Kd.S_far (p := ⟨gb287, 0, none⟩) (Kd.S_types HO292.out BK287.out (by decide)) (fun _ hk => hk.2) (.slice Ao30 t290.length co30)) (fun _ hk => trivial)⟩, ⟨by (with_reducible repeat (first | refine blk_drewN ?_ _ | refine blk_drew ?_ | refine blk_alloc ?_ _)); refine blk_far ?_ NB282_287.out _; (with_reducible repeat (first | refine blk_drewN ?_ _ | refine blk_drew ?_ | refine blk_alloc ?_ _)); exact BK282.out⟩, ⟨by (with_reducible repeat (first | refine blk_drewN ?_ _ | refine blk_drew ?_ | refine blk_alloc ?_ _)); refine blk_far ?_ NB283_287.out _; (with_reducible repeat (first | refine blk_drewN ?_ _ | refine blk_drew ?_ | refine blk_alloc ?_ _)); exact BK283.out⟩, ⟨by (with_reducible repeat (first | refine blk_drewN ?_ _ | refine blk_drew ?_ | refine blk_alloc ?_ _)); refine blk_put (cs := #[.slice Ao28 x288000_1.length co28]) ?_ 0 _ rfl; (with_reducible repeat (first | refine blk_drewN ?_ _ | refine blk_drew ?_ | refine blk_alloc ?_ _)); exact BK287.out⟩, ⟨by repeat (first | (with_reducible first | exact HB.out | apply below_alloc | apply pw_below_drewN | apply below_drew1 | refine below_set ?_ GE282.out | refine below_set ?_ GE283.out | refine below_set ?_ GE287.out | refine below_set ?_ GE289.out) | exact HB.out)⟩⟩
   }
   {
   rw [if_neg c19] at H
   have c19b0 := beq_eq_false_iff_ne.mpr c19
   have c19b1 := bne_iff_ne.mpr c19
   replace H := Option.bind_eq_some_iff.mp H
   obtain ⟨t294, A320, H⟩ := H
   replace H : (some (t294, false)) = some (r1, r2) := H
   have A32 := aM A320
   clear A320
   simp only [Option.some.injEq, Prod.mk.injEq] at H
   obtain ⟨rfl, rfl⟩ := H
   have p288 : 0 ≤ (x9_1 : Int) := of_decide_eq_true qz3
   have q288 : x9_1 < (l1.length : Int) := of_decide_eq_true qz3
   obtain ⟨ad288, e288, hx288_0, hx288_1, hx288_2⟩ := at_T50 HR1.out x9_1 p288 q288
   cases e288
   replace hx288_0 := pw_cell_below HB.out hx288_0
   replace hx288_1 := pw_cell_below HB.out hx288_1
   replace hx288_2 := pw_cell_below HB.out hx288_2
   replace p288 := eq_true p288
   replace q288 := eq_true q288
   go_wp2_with (first | ((with_reducible refine gate_dst (N := 10) rfl ?_); refine bx_ 10 #[.int .i64 0, .int .i64 0, .int .i64 0] 50 ?_; intro gb289 hg w33 hbox hb; have n0_ := aM (Kd.S_below qz49 hb); have n1_ := aM (blk_below (g := gb282) (o := .cells #[.slice A0_0 l0_0.length c0_0] 26 (0, 0)) qz10 hb); have n2_ := aM (blk_below (g := gb283) (o := .cells #[.slice none 0 0] 26 (0, 0)) qz51 hb); have n3_ := aM (blk_below (g := gb287) (o := .cells #[u288000] 26 (0, 0)) qz52 hb); have n4_ := aM (below_step qz8 hb); have n5_ := aM (hbox); have n6_ := aM ((by rw [hg]; exact (below_size qz8) : w.heap.size ≤ gb289)); have n7_ := aM ((by rw [hg]; exact (below_size qz8) : w.heap.size ≤ gb289)); have n8_ := aM ((by rw [hg]; exact Nat.ne_of_lt (blk_lt (g := gb282) (o := .cells #[.slice A0_0 l0_0.length c0_0] 26 (0, 0)) qz10) : gb282 ≠ gb289)); have n9_ := aM ((by rw [hg]; exact Nat.ne_of_gt (blk_lt (g := gb282) (o := .cells #[.slice A0_0 l0_0.length c0_0] 26 (0, 0)) qz10) : gb289 ≠ gb282)); have n10_ := aM ((by rw [hg]; exact Nat.ne_of_lt (blk_lt (g := gb283) (o := .cells #[.slice none 0 0] 26 (0, 0)) qz51) : gb283 ≠ gb289)); have n11_ := aM ((by rw [hg]; exact Nat.ne_of_gt (blk_lt (g := gb283) (o := .cells #[.slice none 0 0] 26 (0, 0)) qz51) : gb289 ≠ gb283)); have n12_ := aM ((by rw [hg]; exact Nat.ne_of_lt (blk_lt (g := gb287) (o := .cells #[u288000] 26 (0, 0)) qz52) : gb287 ≠ gb289)); have n13_ := aM ((by rw [hg]; exact Nat.ne_of_gt (blk_lt (g := gb287) (o := .cells #[u288000] 26 (0, 0)) qz52) : gb289 ≠ gb287)); clear HO_288000 BK282 BK283 BK287 HB; have HO_288000 := n0_; have BK282 := n1_; have BK283 := n2_; have BK287 := n3_; have HB := n4_; have BK289 := n5_; have GW289 := n6_; have GE289 := n7_; have NB282_289 := n8_; have NB289_282 := n9_; have NB283_289 := n10_; have NB289_283 := n11_; have NB287_289 := n12_; have NB289_287 := n13_; clear n0_ n1_ n2_ n3_ n4_ n5_ n6_ n7_ n8_ n9_ n10_ n11_ n12_ n13_; clear hb hbox hg; have hnb34 := NB289_282.out; have hnc34 := NB282_289.out; have hnb35 := NB289_283.out; have hnc35 := NB283_289.out; have hnb36 := NB289_287.out; have hnc36 := NB287_289.out; have hcz37_0 : w33.cell? ⟨gb289, 0, none⟩ = some (.int .i64 0) := (blk_cell BK289.out 0).trans rfl; have hcz37_1 : w33.cell? ⟨gb289, 1, none⟩ = some (.int .i64 0) := (blk_cell BK289.out 1).trans rfl; have hcz37_2 : w33.cell? ⟨gb289, 2, none⟩ = some (.int .i64 0) := (blk_cell BK289.out 2).trans rfl; have hfz37_0 := blk_frozen BK289.out 0; have hfz37_1 := blk_frozen BK289.out 1; have hfz37_2 := blk_frozen BK289.out 2; have hnb38 := NB287_282.out; have hnc38 := NB282_287.out; have hnb39 := NB287_283.out; have hnc39 := NB283_287.out; have hcz40_0 : w33.cell? ⟨gb287, 0, none⟩ = some (u288000) := (blk_cell BK287.out 0).trans rfl; have hfz40_0 := blk_frozen BK287.out 0; obtain ⟨Ao41, co41, eo41⟩ := Kd.S_slice HO_288000.out; subst eo41) | ((with_reducible refine gate_callee (f := 18) rfl ?_); refine goesL_ (some 46) rfl rfl Try.func18 (by kernel_rfl) rfl #[.agg #[.slice Ao41 x288000_1.length co41], .int .i64 ((rd_T50 l1 x9_1).f0), .int .i64 ((rd_T50 l1 x9_1).f1), .int .i64 ((rd_T50 l1 x9_1).f2)] rfl qz2 ?_; (with_reducible refine (spec_Hold.calls k1 _ _ x288000_1 ((rd_T50 l1 x9_1).f0) ((rd_T50 l1 x9_1).f1) ((rd_T50 l1 x9_1).f2) t290 t293 _ ?side1 ?side2 A18.out).mono ?_); (case side1 => refine (Kd.S_reads' (e := 79) (base := w.heap.size) (ok := fun k_ => True) (n := x288000_1.length) (c := co41) ?_).2.2; exact (by (with_reducible repeat (first | apply Kd.S_alloc | apply Kd.S_drewN | apply Kd.S_drew)); exact (Kd.S_mono (Kd.S_far (p := ⟨gb289, 2, none⟩) (Kd.S_far (p := ⟨gb289, 1, none⟩) (Kd.S_far (p := ⟨gb289, 0, none⟩) (Kd.S_types HO_288000.out BK289.out (by decide)) (fun _ hk => hk.2) (.int .i64 ((rd_T50 l1 x9_1).f0))) (fun _ hk => hk.2) (.int .i64 ((rd_T50 l1 x9_1).f1))) (fun _ hk => hk.2) (.int .i64 ((rd_T50 l1 x9_1).f2))) (fun _ h_ => h_.1)))); (case side2 => exact (Kd.S_reads' HO_288000.out).2.1); rintro e w42 ⟨v291, rfl, ho0, hb⟩; refine ⟨_, rfl, ?_⟩; have n0_ := aM (Kd.S_elder' (by (with_reducible repeat (first | apply Kd.S_alloc | apply Kd.S_drewN | apply Kd.S_drew)); exact (Kd.S_mono (Kd.S_far (p := ⟨gb289, 2, none⟩) (Kd.S_far (p := ⟨gb289, 1, none⟩) (Kd.S_far (p := ⟨gb289, 0, none⟩) (Kd.S_types HO_288000.out BK289.out (by decide)) (fun _ hk => hk.2) (.int .i64 ((rd_T50 l1 x9_1).f0))) (fun _ hk => hk.2) (.int .i64 ((rd_T50 l1 x9_1).f1))) (fun _ hk => hk.2) (.int .i64 ((rd_T50 l1 x9_1).f2))) (fun _ h_ => h_.1))) (Kd.S_base ho0) hb); have n1_ := aM (Kd.S_lower (Kd.S_new' ho0 (Kd.S_lt (by (with_reducible repeat (first | apply Kd.S_alloc | apply Kd.S_drewN | apply Kd.S_drew)); exact (Kd.S_mono (Kd.S_far (p := ⟨gb289, 2, none⟩) (Kd.S_far (p := ⟨gb289, 1, none⟩) (Kd.S_far (p := ⟨gb289, 0, none⟩) (Kd.S_types HO_288000.out BK289.out (by decide)) (fun _ hk => hk.2) (.int .i64 ((rd_T50 l1 x9_1).f0))) (fun _ hk => hk.2) (.int .i64 ((rd_T50 l1 x9_1).f1))) (fun _ hk => hk.2) (.int .i64 ((rd_T50 l1 x9_1).f2))) (fun _ h_ => h_.1))))) (below_size qz5)); have n2_ := aM (blk_below (g := gb282) (o := .cells #[.slice A0_0 l0_0.length c0_0] 26 (0, 0)) qz50 hb); have n3_ := aM (blk_below (g := gb283) (o := .cells #[.slice none 0 0] 26 (0, 0)) qz12 hb); have n4_ := aM (blk_below (g := gb287) (o := .cells #[.slice Ao41 x288000_1.length co41] 26 (0, 0)) qz13 hb); have n5_ := aM (blk_below (g := gb289) (o := .cells #[.int .i64 ((rd_T50 l1 x9_1).f0), .int .i64 ((rd_T50 l1 x9_1).f1), .int .i64 ((rd_T50 l1 x9_1).f2)] 50 (0, 0)) (by (with_reducible repeat (first | refine blk_drewN ?_ _ | refine blk_drew ?_ | refine blk_alloc ?_ _)); refine blk_put (cs := #[.int .i64 ((rd_T50 l1 x9_1).f0), .int .i64 ((rd_T50 l1 x9_1).f1), .int .i64 0]) ?_ 2 _ rfl; (with_reducible repeat (first | refine blk_drewN ?_ _ | refine blk_drew ?_ | refine blk_alloc ?_ _)); refine blk_put (cs := #[.int .i64 ((rd_T50 l1 x9_1).f0), .int .i64 0, .int .i64 0]) ?_ 1 _ rfl; (with_reducible repeat (first | refine blk_drewN ?_ _ | refine blk_drew ?_ | refine blk_alloc ?_ _)); refine blk_put (cs := #[.int .i64 0, .int .i64 0, .int .i64 0]) ?_ 0 _ rfl; (with_reducible repeat (first | refine blk_drewN ?_ _ | refine blk_drew ?_ | refine blk_alloc ?_ _)); exact BK289.out) hb); have n6_ := aM (below_step qz5 hb); clear HO_288000 BK282 BK283 BK287 BK289 HB; have HO_288000 := n0_; have HO292 := n1_; have BK282 := n2_; have BK283 := n3_; have BK287 := n4_; have BK289 := n5_; have HB := n6_; clear n0_ n1_ n2_ n3_ n4_ n5_ n6_; (try clear hb); (try clear hb2); (try clear hk); (try clear hi); (try clear ho0); obtain ⟨Ao43, co43, eo43⟩ := Kd.S_slice HO292.out; subst eo43; have hcz44_0 : w42.cell? ⟨gb287, 0, none⟩ = some (.slice Ao41 x288000_1.length co41) := (blk_cell BK287.out 0).trans rfl; have hfz44_0 := blk_frozen BK287.out 0; have hnb45 := NB282_283.out; have hnc45 := NB283_282.out; have hcz46_0 : w42.cell? ⟨gb282, 0, none⟩ = some (.slice A0_0 l0_0.length c0_0) := (blk_cell BK282.out 0).trans rfl; have hfz46_0 := blk_frozen BK282.out 0) | ((with_reducible refine gate_callee (f := 62) rfl ?_); refine goesL_ (some 65) rfl rfl Try.func62 (by kernel_rfl) rfl #[.agg #[.slice A0_0 l0_0.length c0_0]] rfl qz2 ?_; (with_reducible refine (spec_l5Copy.calls k1 _ _ l0_0 t294 _ ?side1 ?side2 A32.out).mono ?_); (case side1 => exact Kd.C_below HR0_0.out qz5); (case side2 => exact HC0_0.out); rintro e w47 ⟨v295, rfl, ho0, hb⟩; refine ⟨_, rfl, ?_⟩; have n0_ := aM (Kd.S_elder' (by (with_reducible repeat (first | apply Kd.S_alloc | apply Kd.S_drewN | apply Kd.S_drew)); exact (Kd.S_mono (Kd.S_far (p := ⟨gb287, 0, none⟩) (Kd.S_types HO_288000.out BK287.out (by decide)) (fun _ hk => hk.2) (.slice Ao43 t290.length co43)) (fun _ h_ => h_.1))) (Kd.S_base ho0) hb); have n1_ := aM (Kd.S_elder' (by (with_reducible repeat (first | apply Kd.S_alloc | apply Kd.S_drewN | apply Kd.S_drew)); exact (Kd.S_mono (Kd.S_far (p := ⟨gb287, 0, none⟩) (Kd.S_types HO292.out BK287.out (by decide)) (fun _ hk => hk.2) (.slice Ao43 t290.length co43)) (fun _ h_ => h_.1))) (Kd.S_base ho0) hb); have n2_ := aM (Kd.S_lower (Kd.S_new' (Kd.S_new' ho0 (Kd.S_lt (by (with_reducible repeat (first | apply Kd.S_alloc | apply Kd.S_drewN | apply Kd.S_drew)); exact (Kd.S_mono (Kd.S_far (p := ⟨gb287, 0, none⟩) (Kd.S_types HO_288000.out BK287.out (by decide)) (fun _ hk => hk.2) (.slice Ao43 t290.length co43)) (fun _ h_ => h_.1))))) (Kd.S_lt (by (with_reducible repeat (first | apply Kd.S_alloc | apply Kd.S_drewN | apply Kd.S_drew)); exact (Kd.S_mono (Kd.S_far (p := ⟨gb287, 0, none⟩) (Kd.S_types HO292.out BK287.out (by decide)) (fun _ hk => hk.2) (.slice Ao43 t290.length co43)) (fun _ h_ => h_.1))))) (below_size qz5)); have n3_ := aM (blk_below (g := gb282) (o := .cells #[.slice A0_0 l0_0.length c0_0] 26 (0, 0)) qz57 hb); have n4_ := aM (blk_below (g := gb283) (o := .cells #[.slice none 0 0] 26 (0, 0)) qz107 hb); have n5_ := aM (blk_below (g := gb287) (o := .cells #[.slice Ao43 t290.length co43] 26 (0, 0)) (by (with_reducible repeat (first | refine blk_drewN ?_ _ | refine blk_drew ?_ | refine blk_alloc ?_ _)); refine blk_put (cs := #[.slice Ao41 x288000_1.length co41]) ?_ 0 _ rfl; (with_reducible repeat (first | refine blk_drewN ?_ _ | refine blk_drew ?_ | refine blk_alloc ?_ _)); exact BK287.out) hb); have n6_ := aM (blk_below (g := gb289) (o := .cells #[.int .i64 ((rd_T50 l1 x9_1).f0), .int .i64 ((rd_T50 l1 x9_1).f1), .int .i64 ((rd_T50 l1 x9_1).f2)] 50 (0, 0)) qz58 hb); have n7_ := aM (below_step qz5 hb); clear HO_288000 HO292 BK282 BK283 BK287 BK289 HB; have HO_288000 := n0_; have HO292 := n1_; have HO296 := n2_; have BK282 := n3_; have BK283 := n4_; have BK287 := n5_; have BK289 := n6_; have HB := n7_; clear n0_ n1_ n2_ n3_ n4_ n5_ n6_ n7_; (try clear hb); (try clear hb2); (try clear hk); (try clear hi); (try clear ho0); obtain ⟨Ao48, co48, eo48⟩ := Kd.S_slice HO296.out; subst eo48; have hcz49_0 : w47.cell? ⟨gb283, 0, none⟩ = some (.slice none 0 0) := (blk_cell BK283.out 0).trans rfl; have hfz49_0 := blk_frozen BK283.out 0))
   refine bodyPost_ret (results_ct rfl _ _ gb283 26 #[.slice Ao48 t294.length co48] (0, 0) _ rfl (by (with_reducible repeat (first | refine blk_drewN ?_ _ | refine blk_drew ?_ | refine blk_alloc ?_ _)); refine blk_put (cs := #[.slice none 0 0]) ?_ 0 _ rfl; (with_reducible repeat (first | refine blk_drewN ?_ _ | refine blk_drew ?_ | refine blk_alloc ?_ _)); exact BK283.out) Try.underlying26 rfl (by kernel_rfl)) rfl ?_
   exact ⟨_, by first | rfl | (simp [errW_none, errW_some] <;> rfl) | (simp [*, errW_none, errW_some] <;> rfl), by (with_reducible repeat (first | apply Kd.S_alloc | apply Kd.S_drewN | apply Kd.S_drew)); exact Kd.S_mono (Kd.S_far (p := ⟨gb283, 0, none⟩) (Kd.S_types HO296.out BK283.out (by decide)) (fun _ hk => hk.2) (.slice Ao48 t294.length co48)) (fun _ hk => trivial), by repeat (first | (with_reducible first | exact HB.out | apply below_alloc | apply pw_below_drewN | apply below_drew1 | refine below_set ?_ GE282.out | refine below_set ?_ GE283.out | refine below_set ?_ GE287.out | refine below_set ?_ GE289.out) | exact HB.out)⟩
   }
   }
   {
   rw [if_neg c17] at H
   have c17b0 := beq_eq_false_iff_ne.mpr c17
   have c17b1 := bne_iff_ne.mpr c17
   by_cases c50 : a2 = 2
   {
   rw [if_pos c50] at H
   have c50b0 := beq_iff_eq.mpr c50
   have c50b1 := bne_eq_false_iff_eq.mpr c50
   clear c50
   replace H := Option.bind_eq_some_iff.mp H
   obtain ⟨⟨t297, t300⟩, A510, H⟩ := H
   replace H : (if t300 = 0 then (spec_l6Each.l0 k1 l1 a2 (wrap64 (x9_1 + 1)) l0_0 t297) else ((spec_l5Copy.f k1 l0_0).bind fun t301 => (some (t301, false)))) = some (r1, r2) := H
   have A51 := aM A510
   clear A510
   by_cases c52 : t300 = 0
   {
   rw [if_pos c52] at H
   have c52b0 := beq_iff_eq.mpr c52
   have c52b1 := bne_eq_false_iff_eq.mpr c52
   clear c52
   have H' := aM H
   clear H
   have p288 : 0 ≤ (x9_1 : Int) := of_decide_eq_true qz3
   have q288 : x9_1 < (l1.length : Int) := of_decide_eq_true qz3
   obtain ⟨ad288, e288, hx288_0, hx288_1, hx288_2⟩ := at_T50 HR1.out x9_1 p288 q288
   cases e288
   replace hx288_0 := pw_cell_below HB.out hx288_0
   replace hx288_1 := pw_cell_below HB.out hx288_1
   replace hx288_2 := pw_cell_below HB.out hx288_2
   replace p288 := eq_true p288
   replace q288 := eq_true q288
   go_wp2_with (first | ((with_reducible refine gate_dst (N := 10) rfl ?_); refine bx_ 10 #[.int .i64 0, .int .i64 0, .int .i64 0] 50 ?_; intro gb289 hg w53 hbox hb; have n0_ := aM (Kd.S_below qz49 hb); have n1_ := aM (blk_below (g := gb282) (o := .cells #[.slice A0_0 l0_0.length c0_0] 26 (0, 0)) qz10 hb); have n2_ := aM (blk_below (g := gb283) (o := .cells #[.slice none 0 0] 26 (0, 0)) qz51 hb); have n3_ := aM (blk_below (g := gb287) (o := .cells #[u288000] 26 (0, 0)) qz52 hb); have n4_ := aM (below_step qz8 hb); have n5_ := aM (hbox); have n6_ := aM ((by rw [hg]; exact (below_size qz8) : w.heap.size ≤ gb289)); have n7_ := aM ((by rw [hg]; exact (below_size qz8) : w.heap.size ≤ gb289)); have n8_ := aM ((by rw [hg]; exact Nat.ne_of_lt (blk_lt (g := gb282) (o := .cells #[.slice A0_0 l0_0.length c0_0] 26 (0, 0)) qz10) : gb282 ≠ gb289)); have n9_ := aM ((by rw [hg]; exact Nat.ne_of_gt (blk_lt (g := gb282) (o := .cells #[.slice A0_0 l0_0.length c0_0] 26 (0, 0)) qz10) : gb289 ≠ gb282)); have n10_ := aM ((by rw [hg]; exact Nat.ne_of_lt (blk_lt (g := gb283) (o := .cells #[.slice none 0 0] 26 (0, 0)) qz51) : gb283 ≠ gb289)); have n11_ := aM ((by rw [hg]; exact Nat.ne_of_gt (blk_lt (g := gb283) (o := .cells #[.slice none 0 0] 26 (0, 0)) qz51) : gb289 ≠ gb283)); have n12_ := aM ((by rw [hg]; exact Nat.ne_of_lt (blk_lt (g := gb287) (o := .cells #[u288000] 26 (0, 0)) qz52) : gb287 ≠ gb289)); have n13_ := aM ((by rw [hg]; exact Nat.ne_of_gt (blk_lt (g := gb287) (o := .cells #[u288000] 26 (0, 0)) qz52) : gb289 ≠ gb287)); clear HO_288000 BK282 BK283 BK287 HB; have HO_288000 := n0_; have BK282 := n1_; have BK283 := n2_; have BK287 := n3_; have HB := n4_; have BK289 := n5_; have GW289 := n6_; have GE289 := n7_; have NB282_289 := n8_; have NB289_282 := n9_; have NB283_289 := n10_; have NB289_283 := n11_; have NB287_289 := n12_; have NB289_287 := n13_; clear n0_ n1_ n2_ n3_ n4_ n5_ n6_ n7_ n8_ n9_ n10_ n11_ n12_ n13_; clear hb hbox hg; have hnb54 := NB289_282.out; have hnc54 := NB282_289.out; have hnb55 := NB289_283.out; have hnc55 := NB283_289.out; have hnb56 := NB289_287.out; have hnc56 := NB287_289.out; have hcz57_0 : w53.cell? ⟨gb289, 0, none⟩ = some (.int .i64 0) := (blk_cell BK289.out 0).trans rfl; have hcz57_1 : w53.cell? ⟨gb289, 1, none⟩ = some (.int .i64 0) := (blk_cell BK289.out 1).trans rfl; have hcz57_2 : w53.cell? ⟨gb289, 2, none⟩ = some (.int .i64 0) := (blk_cell BK289.out 2).trans rfl; have hfz57_0 := blk_frozen BK289.out 0; have hfz57_1 := blk_frozen BK289.out 1; have hfz57_2 := blk_frozen BK289.out 2; have hnb58 := NB287_282.out; have hnc58 := NB282_287.out; have hnb59 := NB287_283.out; have hnc59 := NB283_287.out; have hcz60_0 : w53.cell? ⟨gb287, 0, none⟩ = some (u288000) := (blk_cell BK287.out 0).trans rfl; have hfz60_0 := blk_frozen BK287.out 0; obtain ⟨Ao61, co61, eo61⟩ := Kd.S_slice HO_288000.out; subst eo61) | ((with_reducible refine gate_callee (f := 34) rfl ?_); refine goesL_ (some 59) rfl rfl Try.func34 (by kernel_rfl) rfl #[.agg #[.slice Ao61 x288000_1.length co61], .int .i64 ((rd_T50 l1 x9_1).f0), .int .i64 ((rd_T50 l1 x9_1).f1), .int .i64 ((rd_T50 l1 x9_1).f2)] rfl qz2 ?_; (with_reducible refine (spec_Release.calls k1 _ _ x288000_1 ((rd_T50 l1 x9_1).f0) ((rd_T50 l1 x9_1).f1) ((rd_T50 l1 x9_1).f2) t297 t300 _ ?side1 ?side2 A51.out).mono ?_); (case side1 => refine (Kd.S_reads' (e := 79) (base := w.heap.size) (ok := fun k_ => True) (n := x288000_1.length) (c := co61) ?_).2.2; exact (by (with_reducible repeat (first | apply Kd.S_alloc | apply Kd.S_drewN | apply Kd.S_drew)); exact (Kd.S_mono (Kd.S_far (p := ⟨gb289, 2, none⟩) (Kd.S_far (p := ⟨gb289, 1, none⟩) (Kd.S_far (p := ⟨gb289, 0, none⟩) (Kd.S_types HO_288000.out BK289.out (by decide)) (fun _ hk => hk.2) (.int .i64 ((rd_T50 l1 x9_1).f0))) (fun _ hk => hk.2) (.int .i64 ((rd_T50 l1 x9_1).f1))) (fun _ hk => hk.2) (.int .i64 ((rd_T50 l1 x9_1).f2))) (fun _ h_ => h_.1)))); (case side2 => exact (Kd.S_reads' HO_288000.out).2.1); rintro e w62 ⟨v298, rfl, ho0, hb⟩; refine ⟨_, rfl, ?_⟩; have n0_ := aM (Kd.S_elder' (by (with_reducible repeat (first | apply Kd.S_alloc | apply Kd.S_drewN | apply Kd.S_drew)); exact (Kd.S_mono (Kd.S_far (p := ⟨gb289, 2, none⟩) (Kd.S_far (p := ⟨gb289, 1, none⟩) (Kd.S_far (p := ⟨gb289, 0, none⟩) (Kd.S_types HO_288000.out BK289.out (by decide)) (fun _ hk => hk.2) (.int .i64 ((rd_T50 l1 x9_1).f0))) (fun _ hk => hk.2) (.int .i64 ((rd_T50 l1 x9_1).f1))) (fun _ hk => hk.2) (.int .i64 ((rd_T50 l1 x9_1).f2))) (fun _ h_ => h_.1))) (Kd.S_base ho0) hb); have n1_ := aM (Kd.S_lower (Kd.S_new' ho0 (Kd.S_lt (by (with_reducible repeat (first | apply Kd.S_alloc | apply Kd.S_drewN | apply Kd.S_drew)); exact (Kd.S_mono (Kd.S_far (p := ⟨gb289, 2, none⟩) (Kd.S_far (p := ⟨gb289, 1, none⟩) (Kd.S_far (p := ⟨gb289, 0, none⟩) (Kd.S_types HO_288000.out BK289.out (by decide)) (fun _ hk => hk.2) (.int .i64 ((rd_T50 l1 x9_1).f0))) (fun _ hk => hk.2) (.int .i64 ((rd_T50 l1 x9_1).f1))) (fun _ hk => hk.2) (.int .i64 ((rd_T50 l1 x9_1).f2))) (fun _ h_ => h_.1))))) (below_size qz5)); have n2_ := aM (blk_below (g := gb282) (o := .cells #[.slice A0_0 l0_0.length c0_0] 26 (0, 0)) qz50 hb); have n3_ := aM (blk_below (g := gb283) (o := .cells #[.slice none 0 0] 26 (0, 0)) qz12 hb); have n4_ := aM (blk_below (g := gb287) (o := .cells #[.slice Ao61 x288000_1.length co61] 26 (0, 0)) qz13 hb); have n5_ := aM (blk_below (g := gb289) (o := .cells #[.int .i64 ((rd_T50 l1 x9_1).f0), .int .i64 ((rd_T50 l1 x9_1).f1), .int .i64 ((rd_T50 l1 x9_1).f2)] 50 (0, 0)) (by (with_reducible repeat (first | refine blk_drewN ?_ _ | refine blk_drew ?_ | refine blk_alloc ?_ _)); refine blk_put (cs := #[.int .i64 ((rd_T50 l1 x9_1).f0), .int .i64 ((rd_T50 l1 x9_1).f1), .int .i64 0]) ?_ 2 _ rfl; (with_reducible repeat (first | refine blk_drewN ?_ _ | refine blk_drew ?_ | refine blk_alloc ?_ _)); refine blk_put (cs := #[.int .i64 ((rd_T50 l1 x9_1).f0), .int .i64 0, .int .i64 0]) ?_ 1 _ rfl; (with_reducible repeat (first | refine blk_drewN ?_ _ | refine blk_drew ?_ | refine blk_alloc ?_ _)); refine blk_put (cs := #[.int .i64 0, .int .i64 0, .int .i64 0]) ?_ 0 _ rfl; (with_reducible repeat (first | refine blk_drewN ?_ _ | refine blk_drew ?_ | refine blk_alloc ?_ _)); exact BK289.out) hb); have n6_ := aM (below_step qz5 hb); clear HO_288000 BK282 BK283 BK287 BK289 HB; have HO_288000 := n0_; have HO299 := n1_; have BK282 := n2_; have BK283 := n3_; have BK287 := n4_; have BK289 := n5_; have HB := n6_; clear n0_ n1_ n2_ n3_ n4_ n5_ n6_; (try clear hb); (try clear hb2); (try clear hk); (try clear hi); (try clear ho0); obtain ⟨Ao63, co63, eo63⟩ := Kd.S_slice HO299.out; subst eo63; have hcz64_0 : w62.cell? ⟨gb287, 0, none⟩ = some (.slice Ao61 x288000_1.length co61) := (blk_cell BK287.out 0).trans rfl; have hfz64_0 := blk_frozen BK287.out 0))
   go_roundg k1
   case measure => have := HK1.out; omega
   case rel => exact ⟨(wrap64 (x9_1 + 1)), (t297), (.slice Ao63 t297.length co63), qz7, H', ⟨by have := HK1.out; omega⟩, ⟨by (with_reducible repeat (first | apply Kd.S_alloc | apply Kd.S_drewN | apply Kd.S_drew)); exact Kd.S_mono (Kd.S_far (p := ⟨gb287, 0, none⟩) (Kd.S_types HO299.out BK287.out (by decide)) (fun _ hk => hk.2) (.slice Ao63 t297.length co63)) (fun _ hk => trivial)⟩, ⟨by (with_reducible repeat (first | refine blk_drewN ?_ _ | refine blk_drew ?_ | refine blk_alloc ?_ _)); refine blk_far ?_ NB282_287.out _; (with_reducible repeat (first | refine blk_drewN ?_ _ | refine blk_drew ?_ | refine blk_alloc ?_ _)); exact BK282.out⟩, ⟨by (with_reducible repeat (first | refine blk_drewN ?_ _ | refine blk_drew ?_ | refine blk_alloc ?_ _)); refine blk_far ?_ NB283_287.out _; (with_reducible repeat (first | refine blk_drewN ?_ _ | refine blk_drew ?_ | refine blk_alloc ?_ _)); exact BK283.out⟩, ⟨by (with_reducible repeat (first | refine blk_drewN ?_ _ | refine blk_drew ?_ | refine blk_alloc ?_ _)); refine blk_put (cs := #[.slice Ao61 x288000_1.length co61]) ?_ 0 _ rfl; (with_reducible repeat (first | refine blk_drewN ?_ _ | refine blk_drew ?_ | refine blk_alloc ?_ _)); exact BK287.out⟩, ⟨by repeat (first | (with_reducible first | exact HB.out | apply below_alloc | apply pw_below_drewN | apply below_drew1 | refine below_set ?_ GE282.out | refine below_set ?_ GE283.out | refine below_set ?_ GE287.out | refine below_set ?_ GE289.out) | exact HB.out)⟩⟩
   }
   {
   rw [if_neg c52] at H
   have c52b0 := beq_eq_false_iff_ne.mpr c52
   have c52b1 := bne_iff_ne.mpr c52
   replace H := Option.bind_eq_some_iff.mp H
   obtain ⟨t301, A650, H⟩ := H
   replace H : (some (t301, false)) = some (r1, r2) := H
   have A65 := aM A650
   clear A650
   simp only [Option.some.injEq, Prod.mk.injEq] at H
   obtain ⟨rfl, rfl⟩ := H
   have p288 : 0 ≤ (x9_1 : Int) := of_decide_eq_true qz3
   have q288 : x9_1 < (l1.length : Int) := of_decide_eq_true qz3
   obtain ⟨ad288, e288, hx288_0, hx288_1, hx288_2⟩ := at_T50 HR1.out x9_1 p288 q288
   cases e288
   replace hx288_0 := pw_cell_below HB.out hx288_0
   replace hx288_1 := pw_cell_below HB.out hx288_1
   replace hx288_2 := pw_cell_below HB.out hx288_2
   replace p288 := eq_true p288
   replace q288 := eq_true q288
   go_wp2_with (first | ((with_reducible refine gate_dst (N := 10) rfl ?_); refine bx_ 10 #[.int .i64 0, .int .i64 0, .int .i64 0] 50 ?_; intro gb289 hg w66 hbox hb; have n0_ := aM (Kd.S_below qz49 hb); have n1_ := aM (blk_below (g := gb282) (o := .cells #[.slice A0_0 l0_0.length c0_0] 26 (0, 0)) qz10 hb); have n2_ := aM (blk_below (g := gb283) (o := .cells #[.slice none 0 0] 26 (0, 0)) qz51 hb); have n3_ := aM (blk_below (g := gb287) (o := .cells #[u288000] 26 (0, 0)) qz52 hb); have n4_ := aM (below_step qz8 hb); have n5_ := aM (hbox); have n6_ := aM ((by rw [hg]; exact (below_size qz8) : w.heap.size ≤ gb289)); have n7_ := aM ((by rw [hg]; exact (below_size qz8) : w.heap.size ≤ gb289)); have n8_ := aM ((by rw [hg]; exact Nat.ne_of_lt (blk_lt (g := gb282) (o := .cells #[.slice A0_0 l0_0.length c0_0] 26 (0, 0)) qz10) : gb282 ≠ gb289)); have n9_ := aM ((by rw [hg]; exact Nat.ne_of_gt (blk_lt (g := gb282) (o := .cells #[.slice A0_0 l0_0.length c0_0] 26 (0, 0)) qz10) : gb289 ≠ gb282)); have n10_ := aM ((by rw [hg]; exact Nat.ne_of_lt (blk_lt (g := gb283) (o := .cells #[.slice none 0 0] 26 (0, 0)) qz51) : gb283 ≠ gb289)); have n11_ := aM ((by rw [hg]; exact Nat.ne_of_gt (blk_lt (g := gb283) (o := .cells #[.slice none 0 0] 26 (0, 0)) qz51) : gb289 ≠ gb283)); have n12_ := aM ((by rw [hg]; exact Nat.ne_of_lt (blk_lt (g := gb287) (o := .cells #[u288000] 26 (0, 0)) qz52) : gb287 ≠ gb289)); have n13_ := aM ((by rw [hg]; exact Nat.ne_of_gt (blk_lt (g := gb287) (o := .cells #[u288000] 26 (0, 0)) qz52) : gb289 ≠ gb287)); clear HO_288000 BK282 BK283 BK287 HB; have HO_288000 := n0_; have BK282 := n1_; have BK283 := n2_; have BK287 := n3_; have HB := n4_; have BK289 := n5_; have GW289 := n6_; have GE289 := n7_; have NB282_289 := n8_; have NB289_282 := n9_; have NB283_289 := n10_; have NB289_283 := n11_; have NB287_289 := n12_; have NB289_287 := n13_; clear n0_ n1_ n2_ n3_ n4_ n5_ n6_ n7_ n8_ n9_ n10_ n11_ n12_ n13_; clear hb hbox hg; have hnb67 := NB289_282.out; have hnc67 := NB282_289.out; have hnb68 := NB289_283.out; have hnc68 := NB283_289.out; have hnb69 := NB289_287.out; have hnc69 := NB287_289.out; have hcz70_0 : w66.cell? ⟨gb289, 0, none⟩ = some (.int .i64 0) := (blk_cell BK289.out 0).trans rfl; have hcz70_1 : w66.cell? ⟨gb289, 1, none⟩ = some (.int .i64 0) := (blk_cell BK289.out 1).trans rfl; have hcz70_2 : w66.cell? ⟨gb289, 2, none⟩ = some (.int .i64 0) := (blk_cell BK289.out 2).trans rfl; have hfz70_0 := blk_frozen BK289.out 0; have hfz70_1 := blk_frozen BK289.out 1; have hfz70_2 := blk_frozen BK289.out 2; have hnb71 := NB287_282.out; have hnc71 := NB282_287.out; have hnb72 := NB287_283.out; have hnc72 := NB283_287.out; have hcz73_0 : w66.cell? ⟨gb287, 0, none⟩ = some (u288000) := (blk_cell BK287.out 0).trans rfl; have hfz73_0 := blk_frozen BK287.out 0; obtain ⟨Ao74, co74, eo74⟩ := Kd.S_slice HO_288000.out; subst eo74) | ((with_reducible refine gate_callee (f := 34) rfl ?_); refine goesL_ (some 59) rfl rfl Try.func34 (by kernel_rfl) rfl #[.agg #[.slice Ao74 x288000_1.length co74], .int .i64 ((rd_T50 l1 x9_1).f0), .int .i64 ((rd_T50 l1 x9_1).f1), .int .i64 ((rd_T50 l1 x9_1).f2)] rfl qz2 ?_; (with_reducible refine (spec_Release.calls k1 _ _ x288000_1 ((rd_T50 l1 x9_1).f0) ((rd_T50 l1 x9_1).f1) ((rd_T50 l1 x9_1).f2) t297 t300 _ ?side1 ?side2 A51.out).mono ?_); (case side1 => refine (Kd.S_reads' (e := 79) (base := w.heap.size) (ok := fun k_ => True) (n := x288000_1.length) (c := co74) ?_).2.2; exact (by (with_reducible repeat (first | apply Kd.S_alloc | apply Kd.S_drewN | apply Kd.S_drew)); exact (Kd.S_mono (Kd.S_far (p := ⟨gb289, 2, none⟩) (Kd.S_far (p := ⟨gb289, 1, none⟩) (Kd.S_far (p := ⟨gb289, 0, none⟩) (Kd.S_types HO_288000.out BK289.out (by decide)) (fun _ hk => hk.2) (.int .i64 ((rd_T50 l1 x9_1).f0))) (fun _ hk => hk.2) (.int .i64 ((rd_T50 l1 x9_1).f1))) (fun _ hk => hk.2) (.int .i64 ((rd_T50 l1 x9_1).f2))) (fun _ h_ => h_.1)))); (case side2 => exact (Kd.S_reads' HO_288000.out).2.1); rintro e w75 ⟨v298, rfl, ho0, hb⟩; refine ⟨_, rfl, ?_⟩; have n0_ := aM (Kd.S_elder' (by (with_reducible repeat (first | apply Kd.S_alloc | apply Kd.S_drewN | apply Kd.S_drew)); exact (Kd.S_mono (Kd.S_far (p := ⟨gb289, 2, none⟩) (Kd.S_far (p := ⟨gb289, 1, none⟩) (Kd.S_far (p := ⟨gb289, 0, none⟩) (Kd.S_types HO_288000.out BK289.out (by decide)) (fun _ hk => hk.2) (.int .i64 ((rd_T50 l1 x9_1).f0))) (fun _ hk => hk.2) (.int .i64 ((rd_T50 l1 x9_1).f1))) (fun _ hk => hk.2) (.int .i64 ((rd_T50 l1 x9_1).f2))) (fun _ h_ => h_.1))) (Kd.S_base ho0) hb); have n1_ := aM (Kd.S_lower (Kd.S_new' ho0 (Kd.S_lt (by (with_reducible repeat (first | apply Kd.S_alloc | apply Kd.S_drewN | apply Kd.S_drew)); exact (Kd.S_mono (Kd.S_far (p := ⟨gb289, 2, none⟩) (Kd.S_far (p := ⟨gb289, 1, none⟩) (Kd.S_far (p := ⟨gb289, 0, none⟩) (Kd.S_types HO_288000.out BK289.out (by decide)) (fun _ hk => hk.2) (.int .i64 ((rd_T50 l1 x9_1).f0))) (fun _ hk => hk.2) (.int .i64 ((rd_T50 l1 x9_1).f1))) (fun _ hk => hk.2) (.int .i64 ((rd_T50 l1 x9_1).f2))) (fun _ h_ => h_.1))))) (below_size qz5)); have n2_ := aM (blk_below (g := gb282) (o := .cells #[.slice A0_0 l0_0.length c0_0] 26 (0, 0)) qz50 hb); have n3_ := aM (blk_below (g := gb283) (o := .cells #[.slice none 0 0] 26 (0, 0)) qz12 hb); have n4_ := aM (blk_below (g := gb287) (o := .cells #[.slice Ao74 x288000_1.length co74] 26 (0, 0)) qz13 hb); have n5_ := aM (blk_below (g := gb289) (o := .cells #[.int .i64 ((rd_T50 l1 x9_1).f0), .int .i64 ((rd_T50 l1 x9_1).f1), .int .i64 ((rd_T50 l1 x9_1).f2)] 50 (0, 0)) (by (with_reducible repeat (first | refine blk_drewN ?_ _ | refine blk_drew ?_ | refine blk_alloc ?_ _)); refine blk_put (cs := #[.int .i64 ((rd_T50 l1 x9_1).f0), .int .i64 ((rd_T50 l1 x9_1).f1), .int .i64 0]) ?_ 2 _ rfl; (with_reducible repeat (first | refine blk_drewN ?_ _ | refine blk_drew ?_ | refine blk_alloc ?_ _)); refine blk_put (cs := #[.int .i64 ((rd_T50 l1 x9_1).f0), .int .i64 0, .int .i64 0]) ?_ 1 _ rfl; (with_reducible repeat (first | refine blk_drewN ?_ _ | refine blk_drew ?_ | refine blk_alloc ?_ _)); refine blk_put (cs := #[.int .i64 0, .int .i64 0, .int .i64 0]) ?_ 0 _ rfl; (with_reducible repeat (first | refine blk_drewN ?_ _ | refine blk_drew ?_ | refine blk_alloc ?_ _)); exact BK289.out) hb); have n6_ := aM (below_step qz5 hb); clear HO_288000 BK282 BK283 BK287 BK289 HB; have HO_288000 := n0_; have HO299 := n1_; have BK282 := n2_; have BK283 := n3_; have BK287 := n4_; have BK289 := n5_; have HB := n6_; clear n0_ n1_ n2_ n3_ n4_ n5_ n6_; (try clear hb); (try clear hb2); (try clear hk); (try clear hi); (try clear ho0); obtain ⟨Ao76, co76, eo76⟩ := Kd.S_slice HO299.out; subst eo76; have hcz77_0 : w75.cell? ⟨gb287, 0, none⟩ = some (.slice Ao74 x288000_1.length co74) := (blk_cell BK287.out 0).trans rfl; have hfz77_0 := blk_frozen BK287.out 0; have hnb78 := NB282_283.out; have hnc78 := NB283_282.out; have hcz79_0 : w75.cell? ⟨gb282, 0, none⟩ = some (.slice A0_0 l0_0.length c0_0) := (blk_cell BK282.out 0).trans rfl; have hfz79_0 := blk_frozen BK282.out 0) | ((with_reducible refine gate_callee (f := 62) rfl ?_); refine goesL_ (some 65) rfl rfl Try.func62 (by kernel_rfl) rfl #[.agg #[.slice A0_0 l0_0.length c0_0]] rfl qz2 ?_; (with_reducible refine (spec_l5Copy.calls k1 _ _ l0_0 t301 _ ?side1 ?side2 A65.out).mono ?_); (case side1 => exact Kd.C_below HR0_0.out qz5); (case side2 => exact HC0_0.out); rintro e w80 ⟨v302, rfl, ho0, hb⟩; refine ⟨_, rfl, ?_⟩; have n0_ := aM (Kd.S_elder' (by (with_reducible repeat (first | apply Kd.S_alloc | apply Kd.S_drewN | apply Kd.S_drew)); exact (Kd.S_mono (Kd.S_far (p := ⟨gb287, 0, none⟩) (Kd.S_types HO_288000.out BK287.out (by decide)) (fun _ hk => hk.2) (.slice Ao76 t297.length co76)) (fun _ h_ => h_.1))) (Kd.S_base ho0) hb); have n1_ := aM (Kd.S_elder' (by (with_reducible repeat (first | apply Kd.S_alloc | apply Kd.S_drewN | apply Kd.S_drew)); exact (Kd.S_mono (Kd.S_far (p := ⟨gb287, 0, none⟩) (Kd.S_types HO299.out BK287.out (by decide)) (fun _ hk => hk.2) (.slice Ao76 t297.length co76)) (fun _ h_ => h_.1))) (Kd.S_base ho0) hb); have n2_ := aM (Kd.S_lower (Kd.S_new' (Kd.S_new' ho0 (Kd.S_lt (by (with_reducible repeat (first | apply Kd.S_alloc | apply Kd.S_drewN | apply Kd.S_drew)); exact (Kd.S_mono (Kd.S_far (p := ⟨gb287, 0, none⟩) (Kd.S_types HO_288000.out BK287.out (by decide)) (fun _ hk => hk.2) (.slice Ao76 t297.length co76)) (fun _ h_ => h_.1))))) (Kd.S_lt (by (with_reducible repeat (first | apply Kd.S_alloc | apply Kd.S_drewN | apply Kd.S_drew)); exact (Kd.S_mono (Kd.S_far (p := ⟨gb287, 0, none⟩) (Kd.S_types HO299.out BK287.out (by decide)) (fun _ hk => hk.2) (.slice Ao76 t297.length co76)) (fun _ h_ => h_.1))))) (below_size qz5)); have n3_ := aM (blk_below (g := gb282) (o := .cells #[.slice A0_0 l0_0.length c0_0] 26 (0, 0)) qz57 hb); have n4_ := aM (blk_below (g := gb283) (o := .cells #[.slice none 0 0] 26 (0, 0)) qz107 hb); have n5_ := aM (blk_below (g := gb287) (o := .cells #[.slice Ao76 t297.length co76] 26 (0, 0)) (by (with_reducible repeat (first | refine blk_drewN ?_ _ | refine blk_drew ?_ | refine blk_alloc ?_ _)); refine blk_put (cs := #[.slice Ao74 x288000_1.length co74]) ?_ 0 _ rfl; (with_reducible repeat (first | refine blk_drewN ?_ _ | refine blk_drew ?_ | refine blk_alloc ?_ _)); exact BK287.out) hb); have n6_ := aM (blk_below (g := gb289) (o := .cells #[.int .i64 ((rd_T50 l1 x9_1).f0), .int .i64 ((rd_T50 l1 x9_1).f1), .int .i64 ((rd_T50 l1 x9_1).f2)] 50 (0, 0)) qz58 hb); have n7_ := aM (below_step qz5 hb); clear HO_288000 HO299 BK282 BK283 BK287 BK289 HB; have HO_288000 := n0_; have HO299 := n1_; have HO303 := n2_; have BK282 := n3_; have BK283 := n4_; have BK287 := n5_; have BK289 := n6_; have HB := n7_; clear n0_ n1_ n2_ n3_ n4_ n5_ n6_ n7_; (try clear hb); (try clear hb2); (try clear hk); (try clear hi); (try clear ho0); obtain ⟨Ao81, co81, eo81⟩ := Kd.S_slice HO303.out; subst eo81; have hcz82_0 : w80.cell? ⟨gb283, 0, none⟩ = some (.slice none 0 0) := (blk_cell BK283.out 0).trans rfl; have hfz82_0 := blk_frozen BK283.out 0))
   refine bodyPost_ret (results_ct rfl _ _ gb283 26 #[.slice Ao81 t301.length co81] (0, 0) _ rfl (by (with_reducible repeat (first | refine blk_drewN ?_ _ | refine blk_drew ?_ | refine blk_alloc ?_ _)); refine blk_put (cs := #[.slice none 0 0]) ?_ 0 _ rfl; (with_reducible repeat (first | refine blk_drewN ?_ _ | refine blk_drew ?_ | refine blk_alloc ?_ _)); exact BK283.out) Try.underlying26 rfl (by kernel_rfl)) rfl ?_
   exact ⟨_, by first | rfl | (simp [errW_none, errW_some] <;> rfl) | (simp [*, errW_none, errW_some] <;> rfl), by (with_reducible repeat (first | apply Kd.S_alloc | apply Kd.S_drewN | apply Kd.S_drew)); exact Kd.S_mono (Kd.S_far (p := ⟨gb283, 0, none⟩) (Kd.S_types HO303.out BK283.out (by decide)) (fun _ hk => hk.2) (.slice Ao81 t301.length co81)) (fun _ hk => trivial), by repeat (first | (with_reducible first | exact HB.out | apply below_alloc | apply pw_below_drewN | apply below_drew1 | refine below_set ?_ GE282.out | refine below_set ?_ GE283.out | refine below_set ?_ GE287.out | refine below_set ?_ GE289.out) | exact HB.out)⟩
   }
   }
   {
   rw [if_neg c50] at H
   have c50b0 := beq_eq_false_iff_ne.mpr c50
   have c50b1 := bne_iff_ne.mpr c50
   replace H := Option.bind_eq_some_iff.mp H
   obtain ⟨⟨t304, t307⟩, A830, H⟩ := H
   replace H : (if t307 = 0 then (spec_l6Each.l0 k1 l1 a2 (wrap64 (x9_1 + 1)) l0_0 t304) else ((spec_l5Copy.f k1 l0_0).bind fun t308 => (some (t308, false)))) = some (r1, r2) := H
   have A83 := aM A830
   clear A830
   by_cases c84 : t307 = 0
   {
   rw [if_pos c84] at H
   have c84b0 := beq_iff_eq.mpr c84
   have c84b1 := bne_eq_false_iff_eq.mpr c84
   clear c84
   have H' := aM H
   clear H
   have p288 : 0 ≤ (x9_1 : Int) := of_decide_eq_true qz3
   have q288 : x9_1 < (l1.length : Int) := of_decide_eq_true qz3
   obtain ⟨ad288, e288, hx288_0, hx288_1, hx288_2⟩ := at_T50 HR1.out x9_1 p288 q288
   cases e288
   replace hx288_0 := pw_cell_below HB.out hx288_0
   replace hx288_1 := pw_cell_below HB.out hx288_1
   replace hx288_2 := pw_cell_below HB.out hx288_2
   replace p288 := eq_true p288
   replace q288 := eq_true q288
   go_wp2_with (first | ((with_reducible refine gate_dst (N := 10) rfl ?_); refine bx_ 10 #[.int .i64 0, .int .i64 0, .int .i64 0] 50 ?_; intro gb289 hg w85 hbox hb; have n0_ := aM (Kd.S_below qz49 hb); have n1_ := aM (blk_below (g := gb282) (o := .cells #[.slice A0_0 l0_0.length c0_0] 26 (0, 0)) qz10 hb); have n2_ := aM (blk_below (g := gb283) (o := .cells #[.slice none 0 0] 26 (0, 0)) qz51 hb); have n3_ := aM (blk_below (g := gb287) (o := .cells #[u288000] 26 (0, 0)) qz52 hb); have n4_ := aM (below_step qz8 hb); have n5_ := aM (hbox); have n6_ := aM ((by rw [hg]; exact (below_size qz8) : w.heap.size ≤ gb289)); have n7_ := aM ((by rw [hg]; exact (below_size qz8) : w.heap.size ≤ gb289)); have n8_ := aM ((by rw [hg]; exact Nat.ne_of_lt (blk_lt (g := gb282) (o := .cells #[.slice A0_0 l0_0.length c0_0] 26 (0, 0)) qz10) : gb282 ≠ gb289)); have n9_ := aM ((by rw [hg]; exact Nat.ne_of_gt (blk_lt (g := gb282) (o := .cells #[.slice A0_0 l0_0.length c0_0] 26 (0, 0)) qz10) : gb289 ≠ gb282)); have n10_ := aM ((by rw [hg]; exact Nat.ne_of_lt (blk_lt (g := gb283) (o := .cells #[.slice none 0 0] 26 (0, 0)) qz51) : gb283 ≠ gb289)); have n11_ := aM ((by rw [hg]; exact Nat.ne_of_gt (blk_lt (g := gb283) (o := .cells #[.slice none 0 0] 26 (0, 0)) qz51) : gb289 ≠ gb283)); have n12_ := aM ((by rw [hg]; exact Nat.ne_of_lt (blk_lt (g := gb287) (o := .cells #[u288000] 26 (0, 0)) qz52) : gb287 ≠ gb289)); have n13_ := aM ((by rw [hg]; exact Nat.ne_of_gt (blk_lt (g := gb287) (o := .cells #[u288000] 26 (0, 0)) qz52) : gb289 ≠ gb287)); clear HO_288000 BK282 BK283 BK287 HB; have HO_288000 := n0_; have BK282 := n1_; have BK283 := n2_; have BK287 := n3_; have HB := n4_; have BK289 := n5_; have GW289 := n6_; have GE289 := n7_; have NB282_289 := n8_; have NB289_282 := n9_; have NB283_289 := n10_; have NB289_283 := n11_; have NB287_289 := n12_; have NB289_287 := n13_; clear n0_ n1_ n2_ n3_ n4_ n5_ n6_ n7_ n8_ n9_ n10_ n11_ n12_ n13_; clear hb hbox hg; have hnb86 := NB289_282.out; have hnc86 := NB282_289.out; have hnb87 := NB289_283.out; have hnc87 := NB283_289.out; have hnb88 := NB289_287.out; have hnc88 := NB287_289.out; have hcz89_0 : w85.cell? ⟨gb289, 0, none⟩ = some (.int .i64 0) := (blk_cell BK289.out 0).trans rfl; have hcz89_1 : w85.cell? ⟨gb289, 1, none⟩ = some (.int .i64 0) := (blk_cell BK289.out 1).trans rfl; have hcz89_2 : w85.cell? ⟨gb289, 2, none⟩ = some (.int .i64 0) := (blk_cell BK289.out 2).trans rfl; have hfz89_0 := blk_frozen BK289.out 0; have hfz89_1 := blk_frozen BK289.out 1; have hfz89_2 := blk_frozen BK289.out 2; have hnb90 := NB287_282.out; have hnc90 := NB282_287.out; have hnb91 := NB287_283.out; have hnc91 := NB283_287.out; have hcz92_0 : w85.cell? ⟨gb287, 0, none⟩ = some (u288000) := (blk_cell BK287.out 0).trans rfl; have hfz92_0 := blk_frozen BK287.out 0; obtain ⟨Ao93, co93, eo93⟩ := Kd.S_slice HO_288000.out; subst eo93) | ((with_reducible refine gate_callee (f := 28) rfl ?_); refine goesL_ (some 33) rfl rfl Try.func28 (by kernel_rfl) rfl #[.agg #[.slice Ao93 x288000_1.length co93], .int .i64 ((rd_T50 l1 x9_1).f0), .int .i64 ((rd_T50 l1 x9_1).f1), .int .i64 ((rd_T50 l1 x9_1).f2)] rfl qz2 ?_; (with_reducible refine (spec_TakeOut.calls k1 _ _ x288000_1 ((rd_T50 l1 x9_1).f0) ((rd_T50 l1 x9_1).f1) ((rd_T50 l1 x9_1).f2) t304 t307 _ ?side1 ?side2 A83.out).mono ?_); (case side1 => refine (Kd.S_reads' (e := 79) (base := w.heap.size) (ok := fun k_ => True) (n := x288000_1.length) (c := co93) ?_).2.2; exact (by (with_reducible repeat (first | apply Kd.S_alloc | apply Kd.S_drewN | apply Kd.S_drew)); exact (Kd.S_mono (Kd.S_far (p := ⟨gb289, 2, none⟩) (Kd.S_far (p := ⟨gb289, 1, none⟩) (Kd.S_far (p := ⟨gb289, 0, none⟩) (Kd.S_types HO_288000.out BK289.out (by decide)) (fun _ hk => hk.2) (.int .i64 ((rd_T50 l1 x9_1).f0))) (fun _ hk => hk.2) (.int .i64 ((rd_T50 l1 x9_1).f1))) (fun _ hk => hk.2) (.int .i64 ((rd_T50 l1 x9_1).f2))) (fun _ h_ => h_.1)))); (case side2 => exact (Kd.S_reads' HO_288000.out).2.1); rintro e w94 ⟨v305, rfl, ho0, hb⟩; refine ⟨_, rfl, ?_⟩; have n0_ := aM (Kd.S_elder' (by (with_reducible repeat (first | apply Kd.S_alloc | apply Kd.S_drewN | apply Kd.S_drew)); exact (Kd.S_mono (Kd.S_far (p := ⟨gb289, 2, none⟩) (Kd.S_far (p := ⟨gb289, 1, none⟩) (Kd.S_far (p := ⟨gb289, 0, none⟩) (Kd.S_types HO_288000.out BK289.out (by decide)) (fun _ hk => hk.2) (.int .i64 ((rd_T50 l1 x9_1).f0))) (fun _ hk => hk.2) (.int .i64 ((rd_T50 l1 x9_1).f1))) (fun _ hk => hk.2) (.int .i64 ((rd_T50 l1 x9_1).f2))) (fun _ h_ => h_.1))) (Kd.S_base ho0) hb); have n1_ := aM (Kd.S_lower (Kd.S_new' ho0 (Kd.S_lt (by (with_reducible repeat (first | apply Kd.S_alloc | apply Kd.S_drewN | apply Kd.S_drew)); exact (Kd.S_mono (Kd.S_far (p := ⟨gb289, 2, none⟩) (Kd.S_far (p := ⟨gb289, 1, none⟩) (Kd.S_far (p := ⟨gb289, 0, none⟩) (Kd.S_types HO_288000.out BK289.out (by decide)) (fun _ hk => hk.2) (.int .i64 ((rd_T50 l1 x9_1).f0))) (fun _ hk => hk.2) (.int .i64 ((rd_T50 l1 x9_1).f1))) (fun _ hk => hk.2) (.int .i64 ((rd_T50 l1 x9_1).f2))) (fun _ h_ => h_.1))))) (below_size qz5)); have n2_ := aM (blk_below (g := gb282) (o := .cells #[.slice A0_0 l0_0.length c0_0] 26 (0, 0)) qz50 hb); have n3_ := aM (blk_below (g := gb283) (o := .cells #[.slice none 0 0] 26 (0, 0)) qz12 hb); have n4_ := aM (blk_below (g := gb287) (o := .cells #[.slice Ao93 x288000_1.length co93] 26 (0, 0)) qz13 hb); have n5_ := aM (blk_below (g := gb289) (o := .cells #[.int .i64 ((rd_T50 l1 x9_1).f0), .int .i64 ((rd_T50 l1 x9_1).f1), .int .i64 ((rd_T50 l1 x9_1).f2)] 50 (0, 0)) (by (with_reducible repeat (first | refine blk_drewN ?_ _ | refine blk_drew ?_ | refine blk_alloc ?_ _)); refine blk_put (cs := #[.int .i64 ((rd_T50 l1 x9_1).f0), .int .i64 ((rd_T50 l1 x9_1).f1), .int .i64 0]) ?_ 2 _ rfl; (with_reducible repeat (first | refine blk_drewN ?_ _ | refine blk_drew ?_ | refine blk_alloc ?_ _)); refine blk_put (cs := #[.int .i64 ((rd_T50 l1 x9_1).f0), .int .i64 0, .int .i64 0]) ?_ 1 _ rfl; (with_reducible repeat (first | refine blk_drewN ?_ _ | refine blk_drew ?_ | refine blk_alloc ?_ _)); refine blk_put (cs := #[.int .i64 0, .int .i64 0, .int .i64 0]) ?_ 0 _ rfl; (with_reducible repeat (first | refine blk_drewN ?_ _ | refine blk_drew ?_ | refine blk_alloc ?_ _)); exact BK289.out) hb); have n6_ := aM (below_step qz5 hb); clear HO_288000 BK282 BK283 BK287 BK289 HB; have HO_288000 := n0_; have HO306 := n1_; have BK282 := n2_; have BK283 := n3_; have BK287 := n4_; have BK289 := n5_; have HB := n6_; clear n0_ n1_ n2_ n3_ n4_ n5_ n6_; (try clear hb); (try clear hb2); (try clear hk); (try clear hi); (try clear ho0); obtain ⟨Ao95, co95, eo95⟩ := Kd.S_slice HO306.out; subst eo95; have hcz96_0 : w94.cell? ⟨gb287, 0, none⟩ = some (.slice Ao93 x288000_1.length co93) := (blk_cell BK287.out 0).trans rfl; have hfz96_0 := blk_frozen BK287.out 0))
   go_roundg k1
   case measure => have := HK1.out; omega
   case rel => exact ⟨(wrap64 (x9_1 + 1)), (t304), (.slice Ao95 t304.length co95), qz7, H', ⟨by have := HK1.out; omega⟩, ⟨by (with_reducible repeat (first | apply Kd.S_alloc | apply Kd.S_drewN | apply Kd.S_drew)); exact Kd.S_mono (Kd.S_far (p := ⟨gb287, 0, none⟩) (Kd.S_types HO306.out BK287.out (by decide)) (fun _ hk => hk.2) (.slice Ao95 t304.length co95)) (fun _ hk => trivial)⟩, ⟨by (with_reducible repeat (first | refine blk_drewN ?_ _ | refine blk_drew ?_ | refine blk_alloc ?_ _)); refine blk_far ?_ NB282_287.out _; (with_reducible repeat (first | refine blk_drewN ?_ _ | refine blk_drew ?_ | refine blk_alloc ?_ _)); exact BK282.out⟩, ⟨by (with_reducible repeat (first | refine blk_drewN ?_ _ | refine blk_drew ?_ | refine blk_alloc ?_ _)); refine blk_far ?_ NB283_287.out _; (with_reducible repeat (first | refine blk_drewN ?_ _ | refine blk_drew ?_ | refine blk_alloc ?_ _)); exact BK283.out⟩, ⟨by (with_reducible repeat (first | refine blk_drewN ?_ _ | refine blk_drew ?_ | refine blk_alloc ?_ _)); refine blk_put (cs := #[.slice Ao93 x288000_1.length co93]) ?_ 0 _ rfl; (with_reducible repeat (first | refine blk_drewN ?_ _ | refine blk_drew ?_ | refine blk_alloc ?_ _)); exact BK287.out⟩, ⟨by repeat (first | (with_reducible first | exact HB.out | apply below_alloc | apply pw_below_drewN | apply below_drew1 | refine below_set ?_ GE282.out | refine below_set ?_ GE283.out | refine below_set ?_ GE287.out | refine below_set ?_ GE289.out) | exact HB.out)⟩⟩
   }
   {
   rw [if_neg c84] at H
   have c84b0 := beq_eq_false_iff_ne.mpr c84
   have c84b1 := bne_iff_ne.mpr c84
   replace H := Option.bind_eq_some_iff.mp H
   obtain ⟨t308, A970, H⟩ := H
   replace H : (some (t308, false)) = some (r1, r2) := H
   have A97 := aM A970
   clear A970
   simp only [Option.some.injEq, Prod.mk.injEq] at H
   obtain ⟨rfl, rfl⟩ := H
   have p288 : 0 ≤ (x9_1 : Int) := of_decide_eq_true qz3
   have q288 : x9_1 < (l1.length : Int) := of_decide_eq_true qz3
   obtain ⟨ad288, e288, hx288_0, hx288_1, hx288_2⟩ := at_T50 HR1.out x9_1 p288 q288
   cases e288
   replace hx288_0 := pw_cell_below HB.out hx288_0
   replace hx288_1 := pw_cell_below HB.out hx288_1
   replace hx288_2 := pw_cell_below HB.out hx288_2
   replace p288 := eq_true p288
   replace q288 := eq_true q288
   go_wp2_with (first | ((with_reducible refine gate_dst (N := 10) rfl ?_); refine bx_ 10 #[.int .i64 0, .int .i64 0, .int .i64 0] 50 ?_; intro gb289 hg w98 hbox hb; have n0_ := aM (Kd.S_below qz49 hb); have n1_ := aM (blk_below (g := gb282) (o := .cells #[.slice A0_0 l0_0.length c0_0] 26 (0, 0)) qz10 hb); have n2_ := aM (blk_below (g := gb283) (o := .cells #[.slice none 0 0] 26 (0, 0)) qz51 hb); have n3_ := aM (blk_below (g := gb287) (o := .cells #[u288000] 26 (0, 0)) qz52 hb); have n4_ := aM (below_step qz8 hb); have n5_ := aM (hbox); have n6_ := aM ((by rw [hg]; exact (below_size qz8) : w.heap.size ≤ gb289)); have n7_ := aM ((by rw [hg]; exact (below_size qz8) : w.heap.size ≤ gb289)); have n8_ := aM ((by rw [hg]; exact Nat.ne_of_lt (blk_lt (g := gb282) (o := .cells #[.slice A0_0 l0_0.length c0_0] 26 (0, 0)) qz10) : gb282 ≠ gb289)); have n9_ := aM ((by rw [hg]; exact Nat.ne_of_gt (blk_lt (g := gb282) (o := .cells #[.slice A0_0 l0_0.length c0_0] 26 (0, 0)) qz10) : gb289 ≠ gb282)); have n10_ := aM ((by rw [hg]; exact Nat.ne_of_lt (blk_lt (g := gb283) (o := .cells #[.slice none 0 0] 26 (0, 0)) qz51) : gb283 ≠ gb289)); have n11_ := aM ((by rw [hg]; exact Nat.ne_of_gt (blk_lt (g := gb283) (o := .cells #[.slice none 0 0] 26 (0, 0)) qz51) : gb289 ≠ gb283)); have n12_ := aM ((by rw [hg]; exact Nat.ne_of_lt (blk_lt (g := gb287) (o := .cells #[u288000] 26 (0, 0)) qz52) : gb287 ≠ gb289)); have n13_ := aM ((by rw [hg]; exact Nat.ne_of_gt (blk_lt (g := gb287) (o := .cells #[u288000] 26 (0, 0)) qz52) : gb289 ≠ gb287)); clear HO_288000 BK282 BK283 BK287 HB; have HO_288000 := n0_; have BK282 := n1_; have BK283 := n2_; have BK287 := n3_; have HB := n4_; have BK289 := n5_; have GW289 := n6_; have GE289 := n7_; have NB282_289 := n8_; have NB289_282 := n9_; have NB283_289 := n10_; have NB289_283 := n11_; have NB287_289 := n12_; have NB289_287 := n13_; clear n0_ n1_ n2_ n3_ n4_ n5_ n6_ n7_ n8_ n9_ n10_ n11_ n12_ n13_; clear hb hbox hg; have hnb99 := NB289_282.out; have hnc99 := NB282_289.out; have hnb100 := NB289_283.out; have hnc100 := NB283_289.out; have hnb101 := NB289_287.out; have hnc101 := NB287_289.out; have hcz102_0 : w98.cell? ⟨gb289, 0, none⟩ = some (.int .i64 0) := (blk_cell BK289.out 0).trans rfl; have hcz102_1 : w98.cell? ⟨gb289, 1, none⟩ = some (.int .i64 0) := (blk_cell BK289.out 1).trans rfl; have hcz102_2 : w98.cell? ⟨gb289, 2, none⟩ = some (.int .i64 0) := (blk_cell BK289.out 2).trans rfl; have hfz102_0 := blk_frozen BK289.out 0; have hfz102_1 := blk_frozen BK289.out 1; have hfz102_2 := blk_frozen BK289.out 2; have hnb103 := NB287_282.out; have hnc103 := NB282_287.out; have hnb104 := NB287_283.out; have hnc104 := NB283_287.out; have hcz105_0 : w98.cell? ⟨gb287, 0, none⟩ = some (u288000) := (blk_cell BK287.out 0).trans rfl; have hfz105_0 := blk_frozen BK287.out 0; obtain ⟨Ao106, co106, eo106⟩ := Kd.S_slice HO_288000.out; subst eo106) | ((with_reducible refine gate_callee (f := 28) rfl ?_); refine goesL_ (some 33) rfl rfl Try.func28 (by kernel_rfl) rfl #[.agg #[.slice Ao106 x288000_1.length co106], .int .i64 ((rd_T50 l1 x9_1).f0), .int .i64 ((rd_T50 l1 x9_1).f1), .int .i64 ((rd_T50 l1 x9_1).f2)] rfl qz2 ?_; (with_reducible refine (spec_TakeOut.calls k1 _ _ x288000_1 ((rd_T50 l1 x9_1).f0) ((rd_T50 l1 x9_1).f1) ((rd_T50 l1 x9_1).f2) t304 t307 _ ?side1 ?side2 A83.out).mono ?_); (case side1 => refine (Kd.S_reads' (e := 79) (base := w.heap.size) (ok := fun k_ => True) (n := x288000_1.length) (c := co106) ?_).2.2; exact (by (with_reducible repeat (first | apply Kd.S_alloc | apply Kd.S_drewN | apply Kd.S_drew)); exact (Kd.S_mono (Kd.S_far (p := ⟨gb289, 2, none⟩) (Kd.S_far (p := ⟨gb289, 1, none⟩) (Kd.S_far (p := ⟨gb289, 0, none⟩) (Kd.S_types HO_288000.out BK289.out (by decide)) (fun _ hk => hk.2) (.int .i64 ((rd_T50 l1 x9_1).f0))) (fun _ hk => hk.2) (.int .i64 ((rd_T50 l1 x9_1).f1))) (fun _ hk => hk.2) (.int .i64 ((rd_T50 l1 x9_1).f2))) (fun _ h_ => h_.1)))); (case side2 => exact (Kd.S_reads' HO_288000.out).2.1); rintro e w107 ⟨v305, rfl, ho0, hb⟩; refine ⟨_, rfl, ?_⟩; have n0_ := aM (Kd.S_elder' (by (with_reducible repeat (first | apply Kd.S_alloc | apply Kd.S_drewN | apply Kd.S_drew)); exact (Kd.S_mono (Kd.S_far (p := ⟨gb289, 2, none⟩) (Kd.S_far (p := ⟨gb289, 1, none⟩) (Kd.S_far (p := ⟨gb289, 0, none⟩) (Kd.S_types HO_288000.out BK289.out (by decide)) (fun _ hk => hk.2) (.int .i64 ((rd_T50 l1 x9_1).f0))) (fun _ hk => hk.2) (.int .i64 ((rd_T50 l1 x9_1).f1))) (fun _ hk => hk.2) (.int .i64 ((rd_T50 l1 x9_1).f2))) (fun _ h_ => h_.1))) (Kd.S_base ho0) hb); have n1_ := aM (Kd.S_lower (Kd.S_new' ho0 (Kd.S_lt (by (with_reducible repeat (first | apply Kd.S_alloc | apply Kd.S_drewN | apply Kd.S_drew)); exact (Kd.S_mono (Kd.S_far (p := ⟨gb289, 2, none⟩) (Kd.S_far (p := ⟨gb289, 1, none⟩) (Kd.S_far (p := ⟨gb289, 0, none⟩) (Kd.S_types HO_288000.out BK289.out (by decide)) (fun _ hk => hk.2) (.int .i64 ((rd_T50 l1 x9_1).f0))) (fun _ hk => hk.2) (.int .i64 ((rd_T50 l1 x9_1).f1))) (fun _ hk => hk.2) (.int .i64 ((rd_T50 l1 x9_1).f2))) (fun _ h_ => h_.1))))) (below_size qz5)); have n2_ := aM (blk_below (g := gb282) (o := .cells #[.slice A0_0 l0_0.length c0_0] 26 (0, 0)) qz50 hb); have n3_ := aM (blk_below (g := gb283) (o := .cells #[.slice none 0 0] 26 (0, 0)) qz12 hb); have n4_ := aM (blk_below (g := gb287) (o := .cells #[.slice Ao106 x288000_1.length co106] 26 (0, 0)) qz13 hb); have n5_ := aM (blk_below (g := gb289) (o := .cells #[.int .i64 ((rd_T50 l1 x9_1).f0), .int .i64 ((rd_T50 l1 x9_1).f1), .int .i64 ((rd_T50 l1 x9_1).f2)] 50 (0, 0)) (by (with_reducible repeat (first | refine blk_drewN ?_ _ | refine blk_drew ?_ | refine blk_alloc ?_ _)); refine blk_put (cs := #[.int .i64 ((rd_T50 l1 x9_1).f0), .int .i64 ((rd_T50 l1 x9_1).f1), .int .i64 0]) ?_ 2 _ rfl; (with_reducible repeat (first | refine blk_drewN ?_ _ | refine blk_drew ?_ | refine blk_alloc ?_ _)); refine blk_put (cs := #[.int .i64 ((rd_T50 l1 x9_1).f0), .int .i64 0, .int .i64 0]) ?_ 1 _ rfl; (with_reducible repeat (first | refine blk_drewN ?_ _ | refine blk_drew ?_ | refine blk_alloc ?_ _)); refine blk_put (cs := #[.int .i64 0, .int .i64 0, .int .i64 0]) ?_ 0 _ rfl; (with_reducible repeat (first | refine blk_drewN ?_ _ | refine blk_drew ?_ | refine blk_alloc ?_ _)); exact BK289.out) hb); have n6_ := aM (below_step qz5 hb); clear HO_288000 BK282 BK283 BK287 BK289 HB; have HO_288000 := n0_; have HO306 := n1_; have BK282 := n2_; have BK283 := n3_; have BK287 := n4_; have BK289 := n5_; have HB := n6_; clear n0_ n1_ n2_ n3_ n4_ n5_ n6_; (try clear hb); (try clear hb2); (try clear hk); (try clear hi); (try clear ho0); obtain ⟨Ao108, co108, eo108⟩ := Kd.S_slice HO306.out; subst eo108; have hcz109_0 : w107.cell? ⟨gb287, 0, none⟩ = some (.slice Ao106 x288000_1.length co106) := (blk_cell BK287.out 0).trans rfl; have hfz109_0 := blk_frozen BK287.out 0; have hnb110 := NB282_283.out; have hnc110 := NB283_282.out; have hcz111_0 : w107.cell? ⟨gb282, 0, none⟩ = some (.slice A0_0 l0_0.length c0_0) := (blk_cell BK282.out 0).trans rfl; have hfz111_0 := blk_frozen BK282.out 0) | ((with_reducible refine gate_callee (f := 62) rfl ?_); refine goesL_ (some 65) rfl rfl Try.func62 (by kernel_rfl) rfl #[.agg #[.slice A0_0 l0_0.length c0_0]] rfl qz2 ?_; (with_reducible refine (spec_l5Copy.calls k1 _ _ l0_0 t308 _ ?side1 ?side2 A97.out).mono ?_); (case side1 => exact Kd.C_below HR0_0.out qz5); (case side2 => exact HC0_0.out); rintro e w112 ⟨v309, rfl, ho0, hb⟩; refine ⟨_, rfl, ?_⟩; have n0_ := aM (Kd.S_elder' (by (with_reducible repeat (first | apply Kd.S_alloc | apply Kd.S_drewN | apply Kd.S_drew)); exact (Kd.S_mono (Kd.S_far (p := ⟨gb287, 0, none⟩) (Kd.S_types HO_288000.out BK287.out (by decide)) (fun _ hk => hk.2) (.slice Ao108 t304.length co108)) (fun _ h_ => h_.1))) (Kd.S_base ho0) hb); have n1_ := aM (Kd.S_elder' (by (with_reducible repeat (first | apply Kd.S_alloc | apply Kd.S_drewN | apply Kd.S_drew)); exact (Kd.S_mono (Kd.S_far (p := ⟨gb287, 0, none⟩) (Kd.S_types HO306.out BK287.out (by decide)) (fun _ hk => hk.2) (.slice Ao108 t304.length co108)) (fun _ h_ => h_.1))) (Kd.S_base ho0) hb); have n2_ := aM (Kd.S_lower (Kd.S_new' (Kd.S_new' ho0 (Kd.S_lt (by (with_reducible repeat (first | apply Kd.S_alloc | apply Kd.S_drewN | apply Kd.S_drew)); exact (Kd.S_mono (Kd.S_far (p := ⟨gb287, 0, none⟩) (Kd.S_types HO_288000.out BK287.out (by decide)) (fun _ hk => hk.2) (.slice Ao108 t304.length co108)) (fun _ h_ => h_.1))))) (Kd.S_lt (by (with_reducible repeat (first | apply Kd.S_alloc | apply Kd.S_drewN | apply Kd.S_drew)); exact (Kd.S_mono (Kd.S_far (p := ⟨gb287, 0, none⟩) (Kd.S_types HO306.out BK287.out (by decide)) (fun _ hk => hk.2) (.slice Ao108 t304.length co108)) (fun _ h_ => h_.1))))) (below_size qz5)); have n3_ := aM (blk_below (g := gb282) (o := .cells #[.slice A0_0 l0_0.length c0_0] 26 (0, 0)) qz57 hb); have n4_ := aM (blk_below (g := gb283) (o := .cells #[.slice none 0 0] 26 (0, 0)) qz107 hb); have n5_ := aM (blk_below (g := gb287) (o := .cells #[.slice Ao108 t304.length co108] 26 (0, 0)) (by (with_reducible repeat (first | refine blk_drewN ?_ _ | refine blk_drew ?_ | refine blk_alloc ?_ _)); refine blk_put (cs := #[.slice Ao106 x288000_1.length co106]) ?_ 0 _ rfl; (with_reducible repeat (first | refine blk_drewN ?_ _ | refine blk_drew ?_ | refine blk_alloc ?_ _)); exact BK287.out) hb); have n6_ := aM (blk_below (g := gb289) (o := .cells #[.int .i64 ((rd_T50 l1 x9_1).f0), .int .i64 ((rd_T50 l1 x9_1).f1), .int .i64 ((rd_T50 l1 x9_1).f2)] 50 (0, 0)) qz58 hb); have n7_ := aM (below_step qz5 hb); clear HO_288000 HO306 BK282 BK283 BK287 BK289 HB; have HO_288000 := n0_; have HO306 := n1_; have HO310 := n2_; have BK282 := n3_; have BK283 := n4_; have BK287 := n5_; have BK289 := n6_; have HB := n7_; clear n0_ n1_ n2_ n3_ n4_ n5_ n6_ n7_; (try clear hb); (try clear hb2); (try clear hk); (try clear hi); (try clear ho0); obtain ⟨Ao113, co113, eo113⟩ := Kd.S_slice HO310.out; subst eo113; have hcz114_0 : w112.cell? ⟨gb283, 0, none⟩ = some (.slice none 0 0) := (blk_cell BK283.out 0).trans rfl; have hfz114_0 := blk_frozen BK283.out 0))
   refine bodyPost_ret (results_ct rfl _ _ gb283 26 #[.slice Ao113 t308.length co113] (0, 0) _ rfl (by (with_reducible repeat (first | refine blk_drewN ?_ _ | refine blk_drew ?_ | refine blk_alloc ?_ _)); refine blk_put (cs := #[.slice none 0 0]) ?_ 0 _ rfl; (with_reducible repeat (first | refine blk_drewN ?_ _ | refine blk_drew ?_ | refine blk_alloc ?_ _)); exact BK283.out) Try.underlying26 rfl (by kernel_rfl)) rfl ?_
   exact ⟨_, by first | rfl | (simp [errW_none, errW_some] <;> rfl) | (simp [*, errW_none, errW_some] <;> rfl), by (with_reducible repeat (first | apply Kd.S_alloc | apply Kd.S_drewN | apply Kd.S_drew)); exact Kd.S_mono (Kd.S_far (p := ⟨gb283, 0, none⟩) (Kd.S_types HO310.out BK283.out (by decide)) (fun _ hk => hk.2) (.slice Ao113 t308.length co113)) (fun _ hk => trivial), by repeat (first | (with_reducible first | exact HB.out | apply below_alloc | apply pw_below_drewN | apply below_drew1 | refine below_set ?_ GE282.out | refine below_set ?_ GE283.out | refine below_set ?_ GE287.out | refine below_set ?_ GE289.out) | exact HB.out)⟩
   }
   }
   }
   }
   {
   rw [if_neg c16] at H
   exact absurd H (by simp)
   }
   }
   {
   rw [if_neg c15] at H
   have c15b0 := decide_eq_false c15
   clear c15
   simp only [Option.some.injEq, Prod.mk.injEq] at H
   obtain ⟨rfl, rfl⟩ := H
   have hnb115 := NB287_282.out
   have hnc115 := NB282_287.out
   have hnb116 := NB287_283.out
   have hnc116 := NB283_287.out
   have hcz117_0 : wr.cell? ⟨gb287, 0, none⟩ = some (u288000) := (blk_cell BK287.out 0).trans rfl
   have hfz117_0 := blk_frozen BK287.out 0
   obtain ⟨Ao118, co118, eo118⟩ := Kd.S_slice HO_288000.out
   subst eo118
   have hnb119 := NB283_282.out
   have hnc119 := NB282_283.out
   have hcz120_0 : wr.cell? ⟨gb283, 0, none⟩ = some (.slice none 0 0) := (blk_cell BK283.out 0).trans rfl
   have hfz120_0 := blk_frozen BK283.out 0
   go_wp2
   refine bodyPost_ret (results_ct rfl _ _ gb283 26 #[.slice Ao118 x288000_1.length co118] (0, 0) _ rfl (by (with_reducible repeat (first | refine blk_drewN ?_ _ | refine blk_drew ?_ | refine blk_alloc ?_ _)); refine blk_put (cs := #[.slice none 0 0]) ?_ 0 _ rfl; (with_reducible repeat (first | refine blk_drewN ?_ _ | refine blk_drew ?_ | refine blk_alloc ?_ _)); exact BK283.out) Try.underlying26 rfl (by kernel_rfl)) rfl ?_
   exact ⟨_, by first | rfl | (simp [errW_none, errW_some] <;> rfl) | (simp [*, errW_none, errW_some] <;> rfl), by (with_reducible repeat (first | apply Kd.S_alloc | apply Kd.S_drewN | apply Kd.S_drew)); exact Kd.S_mono (Kd.S_far (p := ⟨gb283, 0, none⟩) (Kd.S_types HO_288000.out BK283.out (by decide)) (fun _ hk => hk.2) (.slice Ao118 x288000_1.length co118)) (fun _ hk => trivial), by repeat (first | (with_reducible first | exact HB.out | apply below_alloc | apply pw_below_drewN | apply below_drew1 | refine below_set ?_ GE282.out | refine below_set ?_ GE283.out | refine below_set ?_ GE287.out) | exact HB.out)⟩

   }
/-! ### spec_HoldAll: function 45 -/
def spec_HoldAll.f (k : Nat) (l0_0 : List (S79)) (l1 : List (S50)) : Option ((List (S79)) × Bool) := (spec_l6Each.f k l0_0 l1 1).bind fun bt313 => (some (bt313.1, bt313.2))
theorem spec_HoldAll.mono : ∀ a0 a1 k, LeO (spec_HoldAll.f k a0 a1) (spec_HoldAll.f (k + 1) a0 a1) := by
 intro a0 a1 k
 unfold spec_HoldAll.f
 repeat' first
  | (with_reducible exact spec_l6Each.mono _ _ _ _)
  | (with_reducible exact LeO.refl _)
  | (with_reducible exact LeO.none _)
  | (with_reducible refine LeO.ite ?_ ?_)
  | (with_reducible refine LeO.bind ?_ (fun _ => ?_))
  | exact spec_l6Each.mono _ _ _ _
  | exact LeO.none _
  | refine LeO.ite ?_ ?_
  | refine LeO.bind ?_ (fun _ => ?_)
set_option maxHeartbeats 8000000 in
set_option maxRecDepth 100000 in
theorem spec_HoldAll.calls (k : Nat) (A0_0 : Option Addr) (c0_0 : Nat) (l0_0 : List (S79)) (A1 : Option Addr) (c1 : Nat) (l1 : List (S50)) (r1 : List (S79)) (r2 : Bool) (w : World) (hr0_0 : Kd.C k79 w A0_0 l0_0.length l0_0) (hc0_0 : l0_0.length ≤ c0_0) (hr1 : Kd.C k50 w A1 l1.length l1) (hc1 : l1.length ≤ c1) (h : spec_HoldAll.f k l0_0 l1 = some (r1, r2)) :
  Calls Try.prog 45 #[.agg #[.slice A0_0 l0_0.length c0_0], .slice A1 l1.length c1] w fun e w' => ∃ v0_ : Value, e = .returned (.tuple #[.agg #[v0_], .bool r2]) ∧ Kd.S k79 79 w' w.heap.size (fun _ => True) v0_ r1 ∧ Below w.heap.size w w' := by
 have hu26 := Try.underlying26
 have HR0_0 := aM hr0_0
 have HC0_0 := aM hc0_0
 clear hr0_0 hc0_0
 have HR1 := aM hr1
 have HC1 := aM hc1
 clear hr1 hc1
 have HB := aM (Below.refl w.heap.size w)
 have H : ((spec_l6Each.f k l0_0 l1 1).bind fun bt313 => (some (bt313.1, bt313.2))) = some (r1, r2) := h
 clear h
 replace H := Option.bind_eq_some_iff.mp H
 obtain ⟨⟨t313, t316⟩, A30, H⟩ := H
 replace H : (some (t313, t316)) = some (r1, r2) := H
 have A3 := aM A30
 clear A30
 simp only [Option.some.injEq, Prod.mk.injEq] at H
 obtain ⟨rfl, rfl⟩ := H
 go_enter Try.func45, Try.ntmps45
 go_wp2_with (first | ((with_reducible refine gate_dst (N := 2) rfl ?_); refine bx_ 2 #[.slice A0_0 l0_0.length c0_0] 26 ?_; intro gb311 hg w4 hbox hb; have n0_ := aM (below_step qz1 hb); have n1_ := aM (hbox); have n2_ := aM ((by rw [hg]; exact (below_size qz1) : w.heap.size ≤ gb311)); have n3_ := aM ((by rw [hg]; exact (below_size qz1) : w.heap.size ≤ gb311)); clear HB; have HB := n0_; have BK311 := n1_; have GW311 := n2_; have GE311 := n3_; clear n0_ n1_ n2_ n3_; clear hb hbox hg) | ((with_reducible refine gate_dst (N := 4) rfl ?_); refine bx_ 4 #[.slice none 0 0] 26 ?_; intro gb312 hg w5 hbox hb; have n0_ := aM (blk_below (g := gb311) (o := .cells #[.slice A0_0 l0_0.length c0_0] 26 (0, 0)) qz72 hb); have n1_ := aM (below_step qz84 hb); have n2_ := aM (hbox); have n3_ := aM ((by rw [hg]; exact (below_size qz84) : w.heap.size ≤ gb312)); have n4_ := aM ((by rw [hg]; exact (below_size qz84) : w.heap.size ≤ gb312)); have n5_ := aM ((by rw [hg]; exact Nat.ne_of_lt (blk_lt (g := gb311) (o := .cells #[.slice A0_0 l0_0.length c0_0] 26 (0, 0)) qz72) : gb311 ≠ gb312)); have n6_ := aM ((by rw [hg]; exact Nat.ne_of_gt (blk_lt (g := gb311) (o := .cells #[.slice A0_0 l0_0.length c0_0] 26 (0, 0)) qz72) : gb312 ≠ gb311)); clear BK311 HB; have BK311 := n0_; have HB := n1_; have BK312 := n2_; have GW312 := n3_; have GE312 := n4_; have NB311_312 := n5_; have NB312_311 := n6_; clear n0_ n1_ n2_ n3_ n4_ n5_ n6_; clear hb hbox hg; have hnb6 := NB311_312.out; have hnc6 := NB312_311.out; have hcz7_0 : w5.cell? ⟨gb311, 0, none⟩ = some (.slice A0_0 l0_0.length c0_0) := (blk_cell BK311.out 0).trans rfl; have hfz7_0 := blk_frozen BK311.out 0) | ((with_reducible refine gate_callee (f := 86) rfl ?_); refine goesL_ (some 8) rfl rfl Try.func86 (by kernel_rfl) rfl #[.agg #[.slice A0_0 l0_0.length c0_0], .slice A1 l1.length c1, .int .i64 1] rfl qz2 ?_; (with_reducible refine (spec_l6Each.calls k _ _ l0_0 _ _ l1 1 t313 t316 _ ?side1 ?side2 ?side3 ?side4 A3.out).mono ?_); (case side1 => exact qz9); (case side2 => exact HC0_0.out); (case side3 => repeat (first | exact (Kd.C_below HR1.out HB.out) | (with_reducible refine Kd.C_alloc ?_ _) | (with_reducible refine Kd.C_drewN ?_ _) | (with_reducible refine Kd.C_drew ?_))); (case side4 => exact HC1.out); rintro e w8 ⟨v314, rfl, ho0, hb⟩; refine ⟨_, rfl, ?_⟩; have n0_ := aM (Kd.S_lower ho0 (below_size qz104)); have n1_ := aM (blk_below (g := gb311) (o := .cells #[.slice A0_0 l0_0.length c0_0] 26 (0, 0)) qz72 hb); have n2_ := aM (blk_below (g := gb312) (o := .cells #[.slice none 0 0] 26 (0, 0)) (by (with_reducible repeat (first | refine blk_drewN ?_ _ | refine blk_drew ?_ | refine blk_alloc ?_ _)); exact BK312.out) hb); have n3_ := aM (below_step qz104 hb); clear BK311 BK312 HB; have HO315 := n0_; have BK311 := n1_; have BK312 := n2_; have HB := n3_; clear n0_ n1_ n2_ n3_; (try clear hb); (try clear hb2); (try clear hk); (try clear hi); (try clear ho0); obtain ⟨Ao9, co9, eo9⟩ := Kd.S_slice HO315.out; subst eo9; have hcz10_0 : w8.cell? ⟨gb312, 0, none⟩ = some (.slice none 0 0) := (blk_cell BK312.out 0).trans rfl; have hfz10_0 := blk_frozen BK312.out 0))
 refine bodyPost_ret (results_ct rfl _ _ gb312 26 #[.slice Ao9 t313.length co9] (0, 0) _ rfl (by (with_reducible repeat (first | refine blk_drewN ?_ _ | refine blk_drew ?_ | refine blk_alloc ?_ _)); refine blk_put (cs := #[.slice none 0 0]) ?_ 0 _ rfl; (with_reducible repeat (first | refine blk_drewN ?_ _ | refine blk_drew ?_ | refine blk_alloc ?_ _)); exact BK312.out) Try.underlying26 rfl (by kernel_rfl)) rfl ?_
 exact ⟨_, by first | rfl | (simp [errW_none, errW_some] <;> rfl) | (simp [*, errW_none, errW_some] <;> rfl), by (with_reducible repeat (first | apply Kd.S_alloc | apply Kd.S_drewN | apply Kd.S_drew)); exact Kd.S_mono (Kd.S_far (p := ⟨gb312, 0, none⟩) (Kd.S_types HO315.out BK312.out (by decide)) (fun _ hk => hk.2) (.slice Ao9 t313.length co9)) (fun _ hk => trivial), by repeat (first | (with_reducible first | exact HB.out | apply below_alloc | apply pw_below_drewN | apply below_drew1 | refine below_set ?_ GE311.out | refine below_set ?_ GE312.out) | exact HB.out)⟩

/-! ### laws_szPickS: function 47 -/
def laws_szPickS.f (l0 : List (S104)) (a1 : Int) : Option (Int) := if (wrap64 (a1 - (l0.length : Int))) < 0 then (some (-1)) else (some (wrap64 (a1 - (l0.length : Int))))
set_option maxHeartbeats 8000000 in
set_option maxRecDepth 100000 in
theorem laws_szPickS.calls (A0 : Option Addr) (c0 : Nat) (l0 : List (S104)) (a1 : Int) (r : Int) (w : World) (hr0 : Kd.C k104 w A0 l0.length l0) (hc0 : l0.length ≤ c0) (h : laws_szPickS.f l0 a1 = some r) :
  Calls Try.prog 47 #[.slice A0 l0.length c0, .int .i64 a1] w fun e w' => e = .returned (.int .i64 r) ∧ Drawn0 w w' := by
 have HR0 := aM hr0
 have HC0 := aM hc0
 clear hr0 hc0
 have H : (if (wrap64 (a1 - (l0.length : Int))) < 0 then (some (-1)) else (some (wrap64 (a1 - (l0.length : Int))))) = some r := h
 clear h
 by_cases c3 : (wrap64 (a1 - (l0.length : Int))) < 0
 {
 rw [if_pos c3] at H
 have c3b0 := decide_eq_true c3
 clear c3
 obtain rfl := Option.some.inj H
 simp only [Option.some.injEq, Prod.mk.injEq] at H
 obtain ⟨rfl⟩ := H
 go_enter Try.func47, Try.ntmps47
 go_wp2
 go_ret
 exact ⟨by first | rfl | (simp; done) | (simp [*]; done), by repeat (first | exact Drawn0.refl _ | apply Drawn0.step)⟩
 }
 {
 rw [if_neg c3] at H
 have c3b0 := decide_eq_false c3
 clear c3
 obtain rfl := Option.some.inj H
 simp only [Option.some.injEq, Prod.mk.injEq] at H
 obtain ⟨rfl⟩ := H
 go_enter Try.func47, Try.ntmps47
 go_wp2
 go_ret
 exact ⟨by first | rfl | (simp; done) | (simp [*]; done), by repeat (first | exact Drawn0.refl _ | apply Drawn0.step)⟩

 }
/-! ### laws_toPick: function 87 -/
def laws_toPick.f (a0_0 : Int) (a0_1 : Int) (a0_2 : Int) : Option (Int × Int × Int) := some (a0_0, a0_1, a0_2)
set_option maxHeartbeats 8000000 in
set_option maxRecDepth 100000 in
theorem laws_toPick.calls (a0_0 : Int) (a0_1 : Int) (a0_2 : Int) (r1 : Int) (r2 : Int) (r3 : Int) (w : World) (h : laws_toPick.f a0_0 a0_1 a0_2 = some (r1, r2, r3)) :
  Calls Try.prog 87 #[.agg #[.int .i64 a0_0, .int .i64 a0_1, .int .i64 a0_2]] w fun e w' => e = .returned (.agg #[.int .i64 r1, .int .i64 r2, .int .i64 r3]) ∧ Below w.heap.size w w' := by
 have hu104 := Try.underlying104
 have hu50 := Try.underlying50
 have HB := aM (Below.refl w.heap.size w)
 have H : (some (a0_0, a0_1, a0_2)) = some (r1, r2, r3) := h
 clear h
 simp only [Option.some.injEq, Prod.mk.injEq] at H
 obtain ⟨rfl, rfl, rfl⟩ := H
 go_enter Try.func87, Try.ntmps87
 go_wp2_with (first | ((with_reducible refine gate_dst (N := 1) rfl ?_); refine bx_ 1 #[.int .i64 a0_0, .int .i64 a0_1, .int .i64 a0_2] 104 ?_; intro gb317 hg w2 hbox hb; have n0_ := aM (below_step qz1 hb); have n1_ := aM (hbox); have n2_ := aM ((by rw [hg]; exact (below_size qz1) : w.heap.size ≤ gb317)); have n3_ := aM ((by rw [hg]; exact (below_size qz1) : w.heap.size ≤ gb317)); clear HB; have HB := n0_; have BK317 := n1_; have GW317 := n2_; have GE317 := n3_; clear n0_ n1_ n2_ n3_; clear hb hbox hg) | ((with_reducible refine gate_dst (N := 2) rfl ?_); refine bx_ 2 #[.int .i64 0, .int .i64 0, .int .i64 0] 50 ?_; intro gb318 hg w3 hbox hb; have n0_ := aM (blk_below (g := gb317) (o := .cells #[.int .i64 a0_0, .int .i64 a0_1, .int .i64 a0_2] 104 (0, 0)) qz46 hb); have n1_ := aM (below_step qz85 hb); have n2_ := aM (hbox); have n3_ := aM ((by rw [hg]; exact (below_size qz85) : w.heap.size ≤ gb318)); have n4_ := aM ((by rw [hg]; exact (below_size qz85) : w.heap.size ≤ gb318)); have n5_ := aM ((by rw [hg]; exact Nat.ne_of_lt (blk_lt (g := gb317) (o := .cells #[.int .i64 a0_0, .int .i64 a0_1, .int .i64 a0_2] 104 (0, 0)) qz46) : gb317 ≠ gb318)); have n6_ := aM ((by rw [hg]; exact Nat.ne_of_gt (blk_lt (g := gb317) (o := .cells #[.int .i64 a0_0, .int .i64 a0_1, .int .i64 a0_2] 104 (0, 0)) qz46) : gb318 ≠ gb317)); clear BK317 HB; have BK317 := n0_; have HB := n1_; have BK318 := n2_; have GW318 := n3_; have GE318 := n4_; have NB317_318 := n5_; have NB318_317 := n6_; clear n0_ n1_ n2_ n3_ n4_ n5_ n6_; clear hb hbox hg) | ((with_reducible refine gate_dst (N := 3) rfl ?_); refine bx_ 3 #[.int .i64 0, .int .i64 0, .int .i64 0] 50 ?_; intro gb319 hg w4 hbox hb; have n0_ := aM (blk_below (g := gb317) (o := .cells #[.int .i64 a0_0, .int .i64 a0_1, .int .i64 a0_2] 104 (0, 0)) qz46 hb); have n1_ := aM (blk_below (g := gb318) (o := .cells #[.int .i64 0, .int .i64 0, .int .i64 0] 50 (0, 0)) qz98 hb); have n2_ := aM (below_step qz68 hb); have n3_ := aM (hbox); have n4_ := aM ((by rw [hg]; exact (below_size qz68) : w.heap.size ≤ gb319)); have n5_ := aM ((by rw [hg]; exact (below_size qz68) : w.heap.size ≤ gb319)); have n6_ := aM ((by rw [hg]; exact Nat.ne_of_lt (blk_lt (g := gb317) (o := .cells #[.int .i64 a0_0, .int .i64 a0_1, .int .i64 a0_2] 104 (0, 0)) qz46) : gb317 ≠ gb319)); have n7_ := aM ((by rw [hg]; exact Nat.ne_of_gt (blk_lt (g := gb317) (o := .cells #[.int .i64 a0_0, .int .i64 a0_1, .int .i64 a0_2] 104 (0, 0)) qz46) : gb319 ≠ gb317)); have n8_ := aM ((by rw [hg]; exact Nat.ne_of_lt (blk_lt (g := gb318) (o := .cells #[.int .i64 0, .int .i64 0, .int .i64 0] 50 (0, 0)) qz98) : gb318 ≠ gb319)); have n9_ := aM ((by rw [hg]; exact Nat.ne_of_gt (blk_lt (g := gb318) (o := .cells #[.int .i64 0, .int .i64 0, .int .i64 0] 50 (0, 0)) qz98) : gb319 ≠ gb318)); clear BK317 BK318 HB; have BK317 := n0_; have BK318 := n1_; have HB := n2_; have BK319 := n3_; have GW319 := n4_; have GE319 := n5_; have NB317_319 := n6_; have NB319_317 := n7_; have NB318_319 := n8_; have NB319_318 := n9_; clear n0_ n1_ n2_ n3_ n4_ n5_ n6_ n7_ n8_ n9_; clear hb hbox hg; have hnb5 := NB317_318.out; have hnc5 := NB318_317.out; have hnb6 := NB317_319.out; have hnc6 := NB319_317.out; have hcz7_0 : w4.cell? ⟨gb317, 0, none⟩ = some (.int .i64 a0_0) := (blk_cell BK317.out 0).trans rfl; have hcz7_1 : w4.cell? ⟨gb317, 1, none⟩ = some (.int .i64 a0_1) := (blk_cell BK317.out 1).trans rfl; have hcz7_2 : w4.cell? ⟨gb317, 2, none⟩ = some (.int .i64 a0_2) := (blk_cell BK317.out 2).trans rfl; have hfz7_0 := blk_frozen BK317.out 0; have hfz7_1 := blk_frozen BK317.out 1; have hfz7_2 := blk_frozen BK317.out 2; have hnb8 := NB319_318.out; have hnc8 := NB318_319.out; have hcz9_0 : w4.cell? ⟨gb319, 0, none⟩ = some (.int .i64 0) := (blk_cell BK319.out 0).trans rfl; have hcz9_1 : w4.cell? ⟨gb319, 1, none⟩ = some (.int .i64 0) := (blk_cell BK319.out 1).trans rfl; have hcz9_2 : w4.cell? ⟨gb319, 2, none⟩ = some (.int .i64 0) := (blk_cell BK319.out 2).trans rfl; have hfz9_0 := blk_frozen BK319.out 0; have hfz9_1 := blk_frozen BK319.out 1; have hfz9_2 := blk_frozen BK319.out 2; have hcz10_0 : w4.cell? ⟨gb318, 0, none⟩ = some (.int .i64 0) := (blk_cell BK318.out 0).trans rfl; have hcz10_1 : w4.cell? ⟨gb318, 1, none⟩ = some (.int .i64 0) := (blk_cell BK318.out 1).trans rfl; have hcz10_2 : w4.cell? ⟨gb318, 2, none⟩ = some (.int .i64 0) := (blk_cell BK318.out 2).trans rfl; have hfz10_0 := blk_frozen BK318.out 0; have hfz10_1 := blk_frozen BK318.out 1; have hfz10_2 := blk_frozen BK318.out 2))
 refine bodyPost_ret (results_cell_row rfl _ _ gb318 50 #[.int .i64 a0_0, .int .i64 a0_1, .int .i64 a0_2] (0, 0) _ rfl (by (with_reducible repeat (first | refine blk_drewN ?_ _ | refine blk_drew ?_ | refine blk_alloc ?_ _)); refine blk_put (cs := #[.int .i64 a0_0, .int .i64 a0_1, .int .i64 0]) ?_ 2 _ rfl; (with_reducible repeat (first | refine blk_drewN ?_ _ | refine blk_drew ?_ | refine blk_alloc ?_ _)); refine blk_put (cs := #[.int .i64 a0_0, .int .i64 0, .int .i64 0]) ?_ 1 _ rfl; (with_reducible repeat (first | refine blk_drewN ?_ _ | refine blk_drew ?_ | refine blk_alloc ?_ _)); refine blk_put (cs := #[.int .i64 0, .int .i64 0, .int .i64 0]) ?_ 0 _ rfl; (with_reducible repeat (first | refine blk_drewN ?_ _ | refine blk_drew ?_ | refine blk_alloc ?_ _)); refine blk_far ?_ NB318_319.out _; (with_reducible repeat (first | refine blk_drewN ?_ _ | refine blk_drew ?_ | refine blk_alloc ?_ _)); refine blk_far ?_ NB318_319.out _; (with_reducible repeat (first | refine blk_drewN ?_ _ | refine blk_drew ?_ | refine blk_alloc ?_ _)); refine blk_far ?_ NB318_319.out _; (with_reducible repeat (first | refine blk_drewN ?_ _ | refine blk_drew ?_ | refine blk_alloc ?_ _)); exact BK318.out) Try.underlying50 rfl (by kernel_rfl)) rfl ?_
 exact ⟨by first | rfl | (simp [errW_none, errW_some] <;> rfl) | (simp [*, errW_none, errW_some] <;> rfl), by repeat (first | (with_reducible first | exact HB.out | apply below_alloc | apply pw_below_drewN | apply below_drew1 | refine below_set ?_ GE317.out | refine below_set ?_ GE318.out | refine below_set ?_ GE319.out) | exact HB.out)⟩

end Go.Proofs.Yteajnkondkfmgaa.PFnExactHoldAll
