-- Made by a program of this session out of the translation. Lean checks it.
import Derived.Test.YteajnkondkfmgaaPFnExactTakeAllx0
import Derived.Test.YteajnkondkfmgaaPFnExactTakeAllx12
import Derived.Test.YteajnkondkfmgaaPFnExactTakeAllx13
namespace Go.Proofs.Yteajnkondkfmgaa.PFnExactTakeAll
open Go.RowKit Go.Proofs.YteajnkondkfmgaaW.PrintWords Go.Proofs.YteajnkondkfmgaaW.PrintLast Go.Proofs.YteajnkondkfmgaaW.PrintMore
attribute [local go_sem] max2_int min2_int max_two min_two max_three min_three max_four min_four   -- for this text's walks alone
set_option linter.unusedVariables false
set_option linter.unusedSimpArgs false

/-! ### spec_l5Put: function 63 -/
def spec_l5Put.f (k : Nat) (l : List S79) (a1 : Int) (a2_0 a2_1 a2_2 : Int) : Option (List S79) := (spec_l5Copy.f k l).bind fun o => (if 0 ≤ a1 then (if a1 < (o.length : Int) then ((spec_l5With.f k (rd_T79 o a1).f2 a2_0 a2_1 a2_2).bind fun y => some (o.set a1.toNat ⟨(rd_T79 o a1).f0, (rd_T79 o a1).f1, y⟩)) else none) else none)
theorem spec_l5Put.mono : ∀ a0 a1 a2 a3 a4 k, LeO (spec_l5Put.f k a0 a1 a2 a3 a4) (spec_l5Put.f (k + 1) a0 a1 a2 a3 a4) := by
 intro a0 a1 a2 a3 a4 k
 unfold spec_l5Put.f
 repeat' first
  | (with_reducible first | exact spec_l5Copy.mono _ _ | exact spec_l5With.mono _ _ _ _ _ | exact LeO.refl _ | exact LeO.none _ | refine LeO.ite ?_ ?_ | refine LeO.bind ?_ (fun _ => ?_))
def spec_l5Put.T2 : Bool × List (List Nat × List Nat) := (true, [([], []), ([0], [0]), ([], []), ([], []), ([3], [3]), ([], []), ([4, 5], [4, 5]), ([6], [6]), ([7], [7]), ([], []), ([8, 9], [8, 9]), ([1, 2, 0, 1, 2, 3, 4, 5, 6, 7, 8, 9, 10], [1, 2]), ([11, 0, 1, 2, 3, 4, 5, 6, 7, 8, 9, 10], [11]), ([12, 10, 10, 0, 1, 2, 3, 4, 5, 6, 7, 8, 9, 10], [10, 12])])
def spec_l5Put.B2 : List Nat := [0, 1, 0, 0, 8, 0, 56, 120, 248, 0, 1016, 2047, 4095, 8191]
theorem spec_l5Put.tab2 : rtab .any (opsOf Try.f63 2) = spec_l5Put.T2 := by kernel_rfl
theorem spec_l5Put.bits2 : waitsOk spec_l5Put.T2.2 spec_l5Put.B2 = true := by kernel_rfl
set_option maxHeartbeats 8000000 in
set_option maxRecDepth 100000 in
theorem spec_l5Put.calls (k : Nat) (A0_0 : Option Addr) (c0_0 : Nat) (l0_0 : List (S79)) (a1 : Int) (a2_0 : Int) (a2_1 : Int) (a2_2 : Int) (r : List (S79)) (w : World) (hr0_0 : Kd.C k79 w A0_0 l0_0.length l0_0) (hc0_0 : l0_0.length ≤ c0_0) (h : spec_l5Put.f k l0_0 a1 a2_0 a2_1 a2_2 = some r) :
  Calls Try.prog 63 #[.agg #[.slice A0_0 l0_0.length c0_0], .int .i64 a1, .agg #[.int .i64 a2_0, .int .i64 a2_1, .int .i64 a2_2]] w fun e w' => ∃ v0_ : Value, e = .returned (.agg #[v0_]) ∧ Kd.S k79 79 w' w.heap.size (fun _ => True) v0_ r ∧ Below w.heap.size w w' := by
 have hu26 := Try.underlying26
 have hu79 := Try.underlying79
 have hu72 := Try.underlying72
 have hu24 := Try.underlying24
 have hu77 := Try.underlying77
 unfold spec_l5Put.f at h
 obtain ⟨o, ho, h⟩ := Option.bind_eq_some_iff.mp h
 have ci0 : 0 ≤ a1 := Decidable.byContradiction fun hn => by rw [if_neg hn] at h; cases h
 have ci1 : a1 < (o.length : Int) := Decidable.byContradiction fun hn => by rw [if_pos ci0, if_neg hn] at h; cases h
 rw [if_pos ci0, if_pos ci1] at h
 obtain ⟨y, hy, h⟩ := Option.bind_eq_some_iff.mp h
 obtain rfl : _ = r := Option.some.inj h
 have Ho := aM ho
 have Hy := aM hy
 have HR := aM hr0_0
 have HC := aM hc0_0
 clear ho hy h hr0_0 hc0_0
 go_enter Try.func63, Try.ntmps63
 go_wp2_with (first
  | (go_at_call 62; refine (spec_l5Copy.calls k _ _ l0_0 o _ (Kd.C_alloc (Kd.C_alloc (Kd.C_alloc HR.out _) _) _) HC.out Ho.out).mono ?_; rintro e w1 ⟨v0, rfl, hS, hb⟩; obtain ⟨Ao, co, rfl⟩ := Kd.S_slice hS; have B5 := aM (blk_below (blk_alloc (blk_new1 w (.cells #[.slice A0_0 l0_0.length c0_0] 26) (.cells #[.int .i64 a2_0, .int .i64 a2_1, .int .i64 a2_2] 72)) (.cells #[.slice none 0 0] 26)) hb); have B6 := aM (blk_below (blk_new2 w (.cells #[.slice A0_0 l0_0.length c0_0] 26) (.cells #[.int .i64 a2_0, .int .i64 a2_1, .int .i64 a2_2] 72) (.cells #[.slice none 0 0] 26)) hb); have HB1 := aM (below_step (below_alloc (below_alloc (below_alloc (Below.refl w.heap.size w) _) _) _) hb); have HS := aM (show Kd.S k79 79 w1 (w.heap.size + 3) (fun k => k < w1.heap.size) (.slice Ao o.length co) o by refine Kd.S_mono (Kd.S_bound (ok := fun _ => True) ?_) (fun _ hk => hk.2.2.1); rw [show w.heap.size + 3 = (((w.alloc (.cells #[.slice A0_0 l0_0.length c0_0] 26)).alloc (.cells #[.int .i64 a2_0, .int .i64 a2_1, .int .i64 a2_2] 72)).alloc (.cells #[.slice none 0 0] 26)).heap.size by simp]; exact hS); have L6 := aM (blk_lt B6.out); clear hb hS))
 have hS := Kd.S_alloc HS.out (.cells #[.slice Ao o.length co] 26)
 have B7 := blk_new w1 (.cells #[.slice Ao o.length co] 26)
 replace B5 := blk_alloc B5.out (.cells #[.slice Ao o.length co] 26)
 replace B6 := blk_alloc B6.out (.cells #[.slice Ao o.length co] 26)
 have HB2 := below_alloc HB1.out (.cells #[.slice Ao o.length co] 26)
 clear HS HB1
 generalize w1.alloc (.cells #[.slice Ao o.length co] 26) = w2 at hS B5 B6 B7 HB2 ⊢
 obtain ⟨g, oki, A2, c2, e, hgb, hgl, x0, x1, x2, f0, f1, f2, hR2, hoki, hn, hH⟩ := S79_at hS a1 ci0 ci1
 cases e
 clear x0 x1 f0 f1 f2 hoki hH
 have HRr := aM (Kd.R_reads' hR2)
 have HGW := (Kd.S_R hS).1 g rfl
 have C7 : w2.cell? ⟨w1.heap.size, 0, none⟩ = some (.slice (some ⟨g, 0, none⟩) o.length co) := (blk_cell B7 0).trans rfl
 have C50 : w2.cell? ⟨w.heap.size + 1, 0, none⟩ = some (.int .i64 a2_0) := (blk_cell B5 0).trans rfl
 have C51 : w2.cell? ⟨w.heap.size + 1, 1, none⟩ = some (.int .i64 a2_1) := (blk_cell B5 1).trans rfl
 have C52 : w2.cell? ⟨w.heap.size + 1, 2, none⟩ = some (.int .i64 a2_2) := (blk_cell B5 2).trans rfl
 have p8 := eq_true ci0
 have q8 := eq_true ci1
 clear hR2
 refine start_ (n := 14) (S := fun w' => w'.cell? ⟨w1.heap.size, 0, none⟩ = some (.slice (some ⟨g, 0, none⟩) o.length co) ∧ w'.cell? ⟨w.heap.size + 1, 0, none⟩ = some (.int .i64 a2_0) ∧ w'.cell? ⟨w.heap.size + 1, 1, none⟩ = some (.int .i64 a2_1) ∧ w'.cell? ⟨w.heap.size + 1, 2, none⟩ = some (.int .i64 a2_2) ∧ w'.cell? ⟨g, a1.toNat * 3 + 2, none⟩ = some (.slice A2 (rd_T79 o a1).f2.length c2)) (ds := [13]) #[false, false, false, false, false, false, false, false, false, false, false, false, false, false] (by kernel_rfl) rfl rfl ⟨C7, C50, C51, C52, x2⟩ (fun hHeld => ?_); refine with_tabW spec_l5Put.tab2 spec_l5Put.bits2 (fun HT_ HW_ => ?_)
 refine pI_ 0 10 (bqz 14 1) ?_
 refine pI_ 2 12 (bqz 14 5) ?_
 refine pI_ 3 13 (bqz 14 13) ?_
 refine pI_ 5 15 (bqz 14 45) ?_
 refine tI5_ 1 11 (bqz 14 47) ?_
 refine tI5_ 4 14 (bqz 14 63) ?_
 refine pI_ 6 16 (bqz 14 127) ?_
 refine pI_ 7 17 (bqz 14 255) ?_
 refine tI5_ 8 18 (bqz 14 511) ?_
 refine tI5_ 9 19 (bqz 14 1023) ?_
 refine one_ (i := 10) (N := some 20) (bqz 14 2047) rfl rfl qzc (by decide) (fun K hK => ?_)
 refine goes_ Try.func95 (by kernel_rfl) rfl #[.slice A2 (rd_T79 o a1).f2.length c2, .agg #[.int .i64 a2_0, .int .i64 a2_1, .int .i64 a2_2]] (by rfl) rfl rfl qz56 ?_
 refine (spec_l5With.calls k _ _ (rd_T79 o a1).f2 a2_0 a2_1 a2_2 y _ (Kd.C_drew HRr.out.2.2) HRr.out.2.1 Hy.out).mono ?_
 rintro e w3 ⟨v0, rfl, ho8, hb⟩; obtain ⟨A8, c8, rfl⟩ := Kd.R_slice ho8
 refine ⟨_, rfl, ?_⟩
 refine hK.out _ _ ⟨pw_cell_below hb hHeld.1, pw_cell_below hb hHeld.2.1, pw_cell_below hb hHeld.2.2.1, pw_cell_below hb hHeld.2.2.2.1, pw_cell_below hb hHeld.2.2.2.2⟩ (fun hHeld => ?_)
 clear hK K
 refine norm_ (a' := ?_) ?_ ?_
 rotate_left
 {
 show Act.put _ (some 20) _ = _
 simp only [qzs]
 rfl
 }
 refine pI_ 11 21 (bqz 14 4095) ?_
 refine pI_ 12 22 (bqz 14 8191) ?_
 have hbz : Below w2.heap.size w2 w3 := below_then (below_drew (Below.refl _ _)) (Nat.le_refl _) hb
 have hS8 := Kd.S_below (Kd.S_mono (Kd.S_bound hS) (ok' := fun k => k < w2.heap.size) (fun k hk => hk.2.2.1)) hbz
 obtain ⟨g', oki', A2', c2', e', hgb', hgl', q0, q1, q2, f0, f1, f2, -, -, -, -⟩ := S79_at hS8 a1 ci0 ci1
 injection e' with e'; injection e' with e'; subst e'
 clear q0 q1 f0 f1
 refine last_ (i := 13) (N := none) (bqz 14 16383) rfl rfl qzc (by decide) (fun K hK => ?_)
 refine skip_ (w1 := ?_) (by rfl) rfl ?_ ?_
 rotate_left
 {
 go_simp
 rfl
 }
 refine hK.out _ _ ?_
 clear hK K
 refine done_ (done_of HT_.out (by kernel_rfl)) ?_
 have hP := S79_row hS8 (fun k hk hlt => Nat.lt_irrefl _ (Nat.lt_of_lt_of_le hlt hk)) ho8 (show w.heap.size + 3 ≤ w2.heap.size by have := L6.out; have := hgl; omega) a1 ci0 ci1 hgl
 replace HB2 := below_step HB2 hbz
 replace B6 := blk_below B6 hbz
 replace C7 := pw_cell_below hbz C7
 have C6 : w3.cell? ⟨w.heap.size + 1 + 1, 0, none⟩ = some (.slice none 0 0) := (blk_cell B6 0).trans rfl
 have F6 := blk_frozen B6 0
 have hl6 := L6.out
 have n1 : g ≠ w.heap.size + 1 + 1 := by omega
 have n2 : w.heap.size + 1 + 1 ≠ g := by omega
 have n3 : g < w1.heap.size := HGW
 have n4 : g ≠ w1.heap.size := Nat.ne_of_lt n3
 have n5 : w1.heap.size ≠ g := Nat.ne_of_gt n3
 clear hHeld q2 x2 C50 C51 C52 hS hS8 HGW
 go_wp2
 refine bodyPost_ret (results_cell_row rfl _ _ (w.heap.size + 1 + 1) 26 #[.slice (some ⟨g, 0, none⟩) o.length co] (0, 0) _ rfl (blk_put (cs := #[.slice none 0 0]) (blk_far B6 n2 _) 0 _ rfl) Try.underlying26 rfl (by kernel_rfl)) rfl ?_
 exact ⟨_, rfl, Kd.S_mono (ok' := fun _ => True) (Kd.S_lower (S_box hP.1 (show w.heap.size + 1 + 1 < w.heap.size + 3 by omega) (.slice (some ⟨g, 0, none⟩) o.length co)) (show w.heap.size ≤ w.heap.size + 3 by omega)) (fun _ _ => trivial), below_set (below_set HB2 (by omega)) (by omega)⟩

/-! ### spec_Hold: function 18 -/
def spec_Hold.f (k : Nat) (l0_0 : List (S79)) (a1 : Int) (a2 : Int) (a3 : Int) : Option ((List (S79)) × Int) := (spec_l5Call.f k l0_0 a1 a2 a3).bind fun q => if q.2.2.2.2 = 0 then (if wrap64 (q.2.2.1 - q.2.2.2.1) < a3 then ((spec_l5Copy.f k l0_0).bind fun t => some (t, 3)) else ((spec_l5Put.f k l0_0 q.1 q.2.1 q.2.2.1 (wrap64 (q.2.2.2.1 + a3))).bind fun t => some (t, 0))) else ((spec_l5Copy.f k l0_0).bind fun t => some (t, q.2.2.2.2))
theorem spec_Hold.mono : ∀ a0 a1 a2 a3 k, LeO (spec_Hold.f k a0 a1 a2 a3) (spec_Hold.f (k + 1) a0 a1 a2 a3) := by
 intro a0 a1 a2 a3 k
 unfold spec_Hold.f
 repeat' first
  | (with_reducible first | exact spec_l5Call.mono _ _ _ _ _ | exact spec_l5Copy.mono _ _ | exact spec_l5Put.mono _ _ _ _ _ _ | exact LeO.refl _ | exact LeO.none _ | refine LeO.ite ?_ ?_ | refine LeO.bind ?_ (fun _ => ?_))
set_option maxHeartbeats 8000000 in
set_option maxRecDepth 100000 in
theorem spec_Hold.calls (k : Nat) (A0_0 : Option Addr) (c0_0 : Nat) (l0_0 : List (S79)) (a1 : Int) (a2 : Int) (a3 : Int) (r1 : List (S79)) (r2 : Int) (w : World) (hr0_0 : Kd.C k79 w A0_0 l0_0.length l0_0) (hc0_0 : l0_0.length ≤ c0_0) (h : spec_Hold.f k l0_0 a1 a2 a3 = some (r1, r2)) :
  Calls Try.prog 18 #[.agg #[.slice A0_0 l0_0.length c0_0], .int .i64 a1, .int .i64 a2, .int .i64 a3] w fun e w' => ∃ v0_ : Value, e = .returned (.tuple #[.agg #[v0_], .int .i64 r2]) ∧ Kd.S k79 79 w' w.heap.size (fun _ => True) v0_ r1 ∧ Below w.heap.size w w' := by
 have hu26 := Try.underlying26
 have hu72 := Try.underlying72
 have hu24 := Try.underlying24
 have hu79 := Try.underlying79
 unfold spec_Hold.f at h
 obtain ⟨⟨t1, t2, t3, t4, t5⟩, hq, h⟩ := Option.bind_eq_some_iff.mp h
 have Hq := aM hq
 have HR := aM hr0_0
 have HC := aM hc0_0
 clear hq hr0_0 hc0_0
 dsimp only at h
 by_cases c1 : t5 = 0
 {
 subst c1
 rw [if_pos rfl] at h
 by_cases c2 : wrap64 (t3 - t4) < a3
 {
 rw [if_pos c2] at h
 have c2b := decide_eq_true c2
 obtain ⟨t6, h6, h⟩ := Option.bind_eq_some_iff.mp h
 have H6 := aM h6
 obtain ⟨rfl, rfl⟩ : t6 = r1 ∧ 3 = r2 := by simpa using h
 clear h h6 c2
 go_enter Try.func18, Try.ntmps18
 go_wp2_with (first
  | (go_at_call 61; refine (spec_l5Call.calls k _ _ l0_0 a1 a2 a3 t1 t2 t3 t4 0 _ (Kd.C_alloc (Kd.C_alloc HR.out _) _) HC.out Hq.out).mono ?_; rintro e w1 ⟨rfl, hb⟩; have B4 := aM (blk_below (blk_alloc (blk_new w (.cells #[.slice A0_0 l0_0.length c0_0] 26)) (.cells #[.slice none 0 0] 26)) hb); have B8 := aM (blk_below (blk_new1 w (.cells #[.slice A0_0 l0_0.length c0_0] 26) (.cells #[.slice none 0 0] 26)) hb); have HB1 := aM (below_step (below_alloc (below_alloc (Below.refl w.heap.size w) _) _) hb); have C4 : w1.cell? ⟨w.heap.size, 0, none⟩ = some (.slice A0_0 l0_0.length c0_0) := (blk_cell B4.out 0).trans rfl; have L4 := blk_lt B4.out; have L8 := blk_lt B8.out; have N8 := Nat.ne_of_lt L8; have N8' := Nat.ne_of_gt L8; have N4 := Nat.ne_of_lt L4; have N4' := Nat.ne_of_gt L4; clear hb)
  | (go_at_call 62; refine (spec_l5Copy.calls k _ _ l0_0 t6 _ (Kd.C_below HR.out (below_alloc HB1.out _)) HC.out H6.out).mono ?_; rintro e w2 ⟨v0, rfl, hS, hb⟩; obtain ⟨Ac, cc, rfl⟩ := Kd.S_slice hS; replace B8 := aM (blk_below (blk_alloc B8.out _) hb); have HB2 := aM (below_step (below_alloc HB1.out _) hb); have HS := aM (show Kd.S k79 79 w2 (w.heap.size + 2) (fun _ => True) (.slice Ac t6.length cc) t6 from Kd.S_lower hS (by rw [World.size_alloc]; omega)); have C8 : w2.cell? ⟨w.heap.size + 1, 0, none⟩ = some (.slice none 0 0) := (blk_cell B8.out 0).trans rfl; have F8 := blk_frozen B8.out 0; clear hb hS C4))
 refine bodyPost_ret (results_ct rfl _ _ (w.heap.size + 1) 26 #[.slice Ac t6.length cc] (0, 0) _ rfl (blk_put (cs := #[.slice none 0 0]) B8.out 0 _ rfl) Try.underlying26 rfl (by kernel_rfl)) rfl ?_
 exact ⟨_, rfl, Kd.S_lower (S_box HS.out (show w.heap.size + 1 < w.heap.size + 2 by omega) _) (by omega), below_set HB2.out (by omega)⟩
 }
 {
 rw [if_neg c2] at h
 have c2b := decide_eq_false c2
 obtain ⟨t6, h6, h⟩ := Option.bind_eq_some_iff.mp h
 have H6 := aM h6
 obtain ⟨rfl, rfl⟩ : t6 = r1 ∧ 0 = r2 := by simpa using h
 clear h h6 c2
 go_enter Try.func18, Try.ntmps18
 go_wp2_with (first
  | (go_at_call 61; refine (spec_l5Call.calls k _ _ l0_0 a1 a2 a3 t1 t2 t3 t4 0 _ (Kd.C_alloc (Kd.C_alloc HR.out _) _) HC.out Hq.out).mono ?_; rintro e w1 ⟨rfl, hb⟩; have B4 := aM (blk_below (blk_alloc (blk_new w (.cells #[.slice A0_0 l0_0.length c0_0] 26)) (.cells #[.slice none 0 0] 26)) hb); have B8 := aM (blk_below (blk_new1 w (.cells #[.slice A0_0 l0_0.length c0_0] 26) (.cells #[.slice none 0 0] 26)) hb); have HB1 := aM (below_step (below_alloc (below_alloc (Below.refl w.heap.size w) _) _) hb); have C4 : w1.cell? ⟨w.heap.size, 0, none⟩ = some (.slice A0_0 l0_0.length c0_0) := (blk_cell B4.out 0).trans rfl; have L4 := blk_lt B4.out; have L8 := blk_lt B8.out; have N8 := Nat.ne_of_lt L8; have N8' := Nat.ne_of_gt L8; have N4 := Nat.ne_of_lt L4; have N4' := Nat.ne_of_gt L4; clear hb)
  | (go_at_call 63; refine (spec_l5Put.calls k _ _ l0_0 t1 t2 t3 (wrap64 (t4 + a3)) t6 _ (Kd.C_below HR.out (below_alloc HB1.out _)) HC.out H6.out).mono ?_; rintro e w2 ⟨v0, rfl, hS, hb⟩; obtain ⟨Ac, cc, rfl⟩ := Kd.S_slice hS; replace B8 := aM (blk_below (blk_alloc B8.out _) hb); have HB2 := aM (below_step (below_alloc HB1.out _) hb); have HS := aM (show Kd.S k79 79 w2 (w.heap.size + 2) (fun _ => True) (.slice Ac t6.length cc) t6 from Kd.S_lower hS (by simp only [World.size_setCell, World.size_alloc]; omega)); have C8 : w2.cell? ⟨w.heap.size + 1, 0, none⟩ = some (.slice none 0 0) := (blk_cell B8.out 0).trans rfl; have F8 := blk_frozen B8.out 0; clear hb hS C4))
 refine bodyPost_ret (results_ct rfl _ _ (w.heap.size + 1) 26 #[.slice Ac t6.length cc] (0, 0) _ rfl (blk_put (cs := #[.slice none 0 0]) B8.out 0 _ rfl) Try.underlying26 rfl (by kernel_rfl)) rfl ?_
 exact ⟨_, rfl, Kd.S_lower (S_box HS.out (show w.heap.size + 1 < w.heap.size + 2 by omega) _) (by omega), below_set HB2.out (by omega)⟩
 }
 }
 {
 rw [if_neg c1] at h
 obtain ⟨t6, h6, h⟩ := Option.bind_eq_some_iff.mp h
 have H6 := aM h6
 obtain ⟨rfl, rfl⟩ : t6 = r1 ∧ t5 = r2 := by simpa using h
 have c1b : (t5 != 0) = true := by simpa using c1
 clear h h6 c1
 go_enter Try.func18, Try.ntmps18
 go_wp2_with (first
  | (go_at_call 61; refine (spec_l5Call.calls k _ _ l0_0 a1 a2 a3 t1 t2 t3 t4 t5 _ (Kd.C_alloc (Kd.C_alloc HR.out _) _) HC.out Hq.out).mono ?_; rintro e w1 ⟨rfl, hb⟩; have B4 := aM (blk_below (blk_alloc (blk_new w (.cells #[.slice A0_0 l0_0.length c0_0] 26)) (.cells #[.slice none 0 0] 26)) hb); have B8 := aM (blk_below (blk_new1 w (.cells #[.slice A0_0 l0_0.length c0_0] 26) (.cells #[.slice none 0 0] 26)) hb); have HB1 := aM (below_step (below_alloc (below_alloc (Below.refl w.heap.size w) _) _) hb); have C4 : w1.cell? ⟨w.heap.size, 0, none⟩ = some (.slice A0_0 l0_0.length c0_0) := (blk_cell B4.out 0).trans rfl; have L4 := blk_lt B4.out; have L8 := blk_lt B8.out; have N8 := Nat.ne_of_lt L8; have N8' := Nat.ne_of_gt L8; have N4 := Nat.ne_of_lt L4; have N4' := Nat.ne_of_gt L4; clear hb)
  | (go_at_call 62; refine (spec_l5Copy.calls k _ _ l0_0 t6 _ (Kd.C_below HR.out (below_alloc HB1.out _)) HC.out H6.out).mono ?_; rintro e w2 ⟨v0, rfl, hS, hb⟩; obtain ⟨Ac, cc, rfl⟩ := Kd.S_slice hS; replace B8 := aM (blk_below (blk_alloc B8.out _) hb); have HB2 := aM (below_step (below_alloc HB1.out _) hb); have HS := aM (show Kd.S k79 79 w2 (w.heap.size + 2) (fun _ => True) (.slice Ac t6.length cc) t6 from Kd.S_lower hS (by rw [World.size_alloc]; omega)); have C8 : w2.cell? ⟨w.heap.size + 1, 0, none⟩ = some (.slice none 0 0) := (blk_cell B8.out 0).trans rfl; have F8 := blk_frozen B8.out 0; clear hb hS C4))
 refine bodyPost_ret (results_ct rfl _ _ (w.heap.size + 1) 26 #[.slice Ac t6.length cc] (0, 0) _ rfl (blk_put (cs := #[.slice none 0 0]) B8.out 0 _ rfl) Try.underlying26 rfl (by kernel_rfl)) rfl ?_
 exact ⟨_, rfl, Kd.S_lower (S_box HS.out (show w.heap.size + 1 < w.heap.size + 2 by omega) _) (by omega), below_set HB2.out (by omega)⟩

 }
/-! ### spec_TakeOut: function 28 -/
def spec_TakeOut.f (k : Nat) (l0_0 : List (S79)) (a1 : Int) (a2 : Int) (a3 : Int) : Option ((List (S79)) × Int) := (spec_l5Call.f k l0_0 a1 a2 a3).bind fun q => if q.2.2.2.2 = 0 then (if q.2.2.2.1 < a3 then ((spec_l5Copy.f k l0_0).bind fun t => some (t, 3)) else ((spec_l5Put.f k l0_0 q.1 q.2.1 (wrap64 (q.2.2.1 - a3)) (wrap64 (q.2.2.2.1 - a3))).bind fun t => some (t, 0))) else ((spec_l5Copy.f k l0_0).bind fun t => some (t, q.2.2.2.2))
theorem spec_TakeOut.mono : ∀ a0 a1 a2 a3 k, LeO (spec_TakeOut.f k a0 a1 a2 a3) (spec_TakeOut.f (k + 1) a0 a1 a2 a3) := by
 intro a0 a1 a2 a3 k
 unfold spec_TakeOut.f
 repeat' first
  | (with_reducible first | exact spec_l5Call.mono _ _ _ _ _ | exact spec_l5Copy.mono _ _ | exact spec_l5Put.mono _ _ _ _ _ _ | exact LeO.refl _ | exact LeO.none _ | refine LeO.ite ?_ ?_ | refine LeO.bind ?_ (fun _ => ?_))
set_option maxHeartbeats 8000000 in
set_option maxRecDepth 100000 in
theorem spec_TakeOut.calls (k : Nat) (A0_0 : Option Addr) (c0_0 : Nat) (l0_0 : List (S79)) (a1 : Int) (a2 : Int) (a3 : Int) (r1 : List (S79)) (r2 : Int) (w : World) (hr0_0 : Kd.C k79 w A0_0 l0_0.length l0_0) (hc0_0 : l0_0.length ≤ c0_0) (h : spec_TakeOut.f k l0_0 a1 a2 a3 = some (r1, r2)) :
  Calls Try.prog 28 #[.agg #[.slice A0_0 l0_0.length c0_0], .int .i64 a1, .int .i64 a2, .int .i64 a3] w fun e w' => ∃ v0_ : Value, e = .returned (.tuple #[.agg #[v0_], .int .i64 r2]) ∧ Kd.S k79 79 w' w.heap.size (fun _ => True) v0_ r1 ∧ Below w.heap.size w w' := by
 have hu26 := Try.underlying26
 have hu72 := Try.underlying72
 have hu24 := Try.underlying24
 have hu79 := Try.underlying79
 unfold spec_TakeOut.f at h
 obtain ⟨⟨t1, t2, t3, t4, t5⟩, hq, h⟩ := Option.bind_eq_some_iff.mp h
 have Hq := aM hq
 have HR := aM hr0_0
 have HC := aM hc0_0
 clear hq hr0_0 hc0_0
 dsimp only at h
 by_cases c1 : t5 = 0
 {
 subst c1
 rw [if_pos rfl] at h
 by_cases c2 : t4 < a3
 {
 rw [if_pos c2] at h
 have c2b := decide_eq_true c2
 obtain ⟨t6, h6, h⟩ := Option.bind_eq_some_iff.mp h
 have H6 := aM h6
 obtain ⟨rfl, rfl⟩ : t6 = r1 ∧ 3 = r2 := by simpa using h
 clear h h6 c2
 go_enter Try.func28, Try.ntmps28
 go_wp2_with (first
  | (go_at_call 61; refine (spec_l5Call.calls k _ _ l0_0 a1 a2 a3 t1 t2 t3 t4 0 _ (Kd.C_alloc (Kd.C_alloc HR.out _) _) HC.out Hq.out).mono ?_; rintro e w1 ⟨rfl, hb⟩; have B4 := aM (blk_below (blk_alloc (blk_new w (.cells #[.slice A0_0 l0_0.length c0_0] 26)) (.cells #[.slice none 0 0] 26)) hb); have B8 := aM (blk_below (blk_new1 w (.cells #[.slice A0_0 l0_0.length c0_0] 26) (.cells #[.slice none 0 0] 26)) hb); have HB1 := aM (below_step (below_alloc (below_alloc (Below.refl w.heap.size w) _) _) hb); have C4 : w1.cell? ⟨w.heap.size, 0, none⟩ = some (.slice A0_0 l0_0.length c0_0) := (blk_cell B4.out 0).trans rfl; have L4 := blk_lt B4.out; have L8 := blk_lt B8.out; have N8 := Nat.ne_of_lt L8; have N8' := Nat.ne_of_gt L8; have N4 := Nat.ne_of_lt L4; have N4' := Nat.ne_of_gt L4; clear hb)
  | (go_at_call 62; refine (spec_l5Copy.calls k _ _ l0_0 t6 _ (Kd.C_below HR.out (below_alloc HB1.out _)) HC.out H6.out).mono ?_; rintro e w2 ⟨v0, rfl, hS, hb⟩; obtain ⟨Ac, cc, rfl⟩ := Kd.S_slice hS; replace B8 := aM (blk_below (blk_alloc B8.out _) hb); have HB2 := aM (below_step (below_alloc HB1.out _) hb); have HS := aM (show Kd.S k79 79 w2 (w.heap.size + 2) (fun _ => True) (.slice Ac t6.length cc) t6 from Kd.S_lower hS (by rw [World.size_alloc]; omega)); have C8 : w2.cell? ⟨w.heap.size + 1, 0, none⟩ = some (.slice none 0 0) := (blk_cell B8.out 0).trans rfl; have F8 := blk_frozen B8.out 0; clear hb hS C4))
 refine bodyPost_ret (results_ct rfl _ _ (w.heap.size + 1) 26 #[.slice Ac t6.length cc] (0, 0) _ rfl (blk_put (cs := #[.slice none 0 0]) B8.out 0 _ rfl) Try.underlying26 rfl (by kernel_rfl)) rfl ?_
 exact ⟨_, rfl, Kd.S_lower (S_box HS.out (show w.heap.size + 1 < w.heap.size + 2 by omega) _) (by omega), below_set HB2.out (by omega)⟩
 }
 {
 rw [if_neg c2] at h
 have c2b := decide_eq_false c2
 obtain ⟨t6, h6, h⟩ := Option.bind_eq_some_iff.mp h
 have H6 := aM h6
 obtain ⟨rfl, rfl⟩ : t6 = r1 ∧ 0 = r2 := by simpa using h
 clear h h6 c2
 go_enter Try.func28, Try.ntmps28
 go_wp2_with (first
  | (go_at_call 61; refine (spec_l5Call.calls k _ _ l0_0 a1 a2 a3 t1 t2 t3 t4 0 _ (Kd.C_alloc (Kd.C_alloc HR.out _) _) HC.out Hq.out).mono ?_; rintro e w1 ⟨rfl, hb⟩; have B4 := aM (blk_below (blk_alloc (blk_new w (.cells #[.slice A0_0 l0_0.length c0_0] 26)) (.cells #[.slice none 0 0] 26)) hb); have B8 := aM (blk_below (blk_new1 w (.cells #[.slice A0_0 l0_0.length c0_0] 26) (.cells #[.slice none 0 0] 26)) hb); have HB1 := aM (below_step (below_alloc (below_alloc (Below.refl w.heap.size w) _) _) hb); have C4 : w1.cell? ⟨w.heap.size, 0, none⟩ = some (.slice A0_0 l0_0.length c0_0) := (blk_cell B4.out 0).trans rfl; have L4 := blk_lt B4.out; have L8 := blk_lt B8.out; have N8 := Nat.ne_of_lt L8; have N8' := Nat.ne_of_gt L8; have N4 := Nat.ne_of_lt L4; have N4' := Nat.ne_of_gt L4; clear hb)
  | (go_at_call 63; refine (spec_l5Put.calls k _ _ l0_0 t1 t2 (wrap64 (t3 - a3)) (wrap64 (t4 - a3)) t6 _ (Kd.C_below HR.out (below_alloc HB1.out _)) HC.out H6.out).mono ?_; rintro e w2 ⟨v0, rfl, hS, hb⟩; obtain ⟨Ac, cc, rfl⟩ := Kd.S_slice hS; replace B8 := aM (blk_below (blk_alloc B8.out _) hb); have HB2 := aM (below_step (below_alloc HB1.out _) hb); have HS := aM (show Kd.S k79 79 w2 (w.heap.size + 2) (fun _ => True) (.slice Ac t6.length cc) t6 from Kd.S_lower hS (by simp only [World.size_setCell, World.size_alloc]; omega)); have C8 : w2.cell? ⟨w.heap.size + 1, 0, none⟩ = some (.slice none 0 0) := (blk_cell B8.out 0).trans rfl; have F8 := blk_frozen B8.out 0; clear hb hS C4))
 refine bodyPost_ret (results_ct rfl _ _ (w.heap.size + 1) 26 #[.slice Ac t6.length cc] (0, 0) _ rfl (blk_put (cs := #[.slice none 0 0]) B8.out 0 _ rfl) Try.underlying26 rfl (by kernel_rfl)) rfl ?_
 exact ⟨_, rfl, Kd.S_lower (S_box HS.out (show w.heap.size + 1 < w.heap.size + 2 by omega) _) (by omega), below_set HB2.out (by omega)⟩
 }
 }
 {
 rw [if_neg c1] at h
 obtain ⟨t6, h6, h⟩ := Option.bind_eq_some_iff.mp h
 have H6 := aM h6
 obtain ⟨rfl, rfl⟩ : t6 = r1 ∧ t5 = r2 := by simpa using h
 have c1b : (t5 != 0) = true := by simpa using c1
 clear h h6 c1
 go_enter Try.func28, Try.ntmps28
 go_wp2_with (first
  | (go_at_call 61; refine (spec_l5Call.calls k _ _ l0_0 a1 a2 a3 t1 t2 t3 t4 t5 _ (Kd.C_alloc (Kd.C_alloc HR.out _) _) HC.out Hq.out).mono ?_; rintro e w1 ⟨rfl, hb⟩; have B4 := aM (blk_below (blk_alloc (blk_new w (.cells #[.slice A0_0 l0_0.length c0_0] 26)) (.cells #[.slice none 0 0] 26)) hb); have B8 := aM (blk_below (blk_new1 w (.cells #[.slice A0_0 l0_0.length c0_0] 26) (.cells #[.slice none 0 0] 26)) hb); have HB1 := aM (below_step (below_alloc (below_alloc (Below.refl w.heap.size w) _) _) hb); have C4 : w1.cell? ⟨w.heap.size, 0, none⟩ = some (.slice A0_0 l0_0.length c0_0) := (blk_cell B4.out 0).trans rfl; have L4 := blk_lt B4.out; have L8 := blk_lt B8.out; have N8 := Nat.ne_of_lt L8; have N8' := Nat.ne_of_gt L8; have N4 := Nat.ne_of_lt L4; have N4' := Nat.ne_of_gt L4; clear hb)
  | (go_at_call 62; refine (spec_l5Copy.calls k _ _ l0_0 t6 _ (Kd.C_below HR.out (below_alloc HB1.out _)) HC.out H6.out).mono ?_; rintro e w2 ⟨v0, rfl, hS, hb⟩; obtain ⟨Ac, cc, rfl⟩ := Kd.S_slice hS; replace B8 := aM (blk_below (blk_alloc B8.out _) hb); have HB2 := aM (below_step (below_alloc HB1.out _) hb); have HS := aM (show Kd.S k79 79 w2 (w.heap.size + 2) (fun _ => True) (.slice Ac t6.length cc) t6 from Kd.S_lower hS (by rw [World.size_alloc]; omega)); have C8 : w2.cell? ⟨w.heap.size + 1, 0, none⟩ = some (.slice none 0 0) := (blk_cell B8.out 0).trans rfl; have F8 := blk_frozen B8.out 0; clear hb hS C4))
 refine bodyPost_ret (results_ct rfl _ _ (w.heap.size + 1) 26 #[.slice Ac t6.length cc] (0, 0) _ rfl (blk_put (cs := #[.slice none 0 0]) B8.out 0 _ rfl) Try.underlying26 rfl (by kernel_rfl)) rfl ?_
 exact ⟨_, rfl, Kd.S_lower (S_box HS.out (show w.heap.size + 1 < w.heap.size + 2 by omega) _) (by omega), below_set HB2.out (by omega)⟩

 }
/-! ### spec_Release: function 34 -/
def spec_Release.f (k : Nat) (l0_0 : List (S79)) (a1 : Int) (a2 : Int) (a3 : Int) : Option ((List (S79)) × Int) := (spec_l5Call.f k l0_0 a1 a2 a3).bind fun q => if q.2.2.2.2 = 0 then (if q.2.2.2.1 < a3 then ((spec_l5Copy.f k l0_0).bind fun t => some (t, 3)) else ((spec_l5Put.f k l0_0 q.1 q.2.1 q.2.2.1 (wrap64 (q.2.2.2.1 - a3))).bind fun t => some (t, 0))) else ((spec_l5Copy.f k l0_0).bind fun t => some (t, q.2.2.2.2))
theorem spec_Release.mono : ∀ a0 a1 a2 a3 k, LeO (spec_Release.f k a0 a1 a2 a3) (spec_Release.f (k + 1) a0 a1 a2 a3) := by
 intro a0 a1 a2 a3 k
 unfold spec_Release.f
 repeat' first
  | (with_reducible first | exact spec_l5Call.mono _ _ _ _ _ | exact spec_l5Copy.mono _ _ | exact spec_l5Put.mono _ _ _ _ _ _ | exact LeO.refl _ | exact LeO.none _ | refine LeO.ite ?_ ?_ | refine LeO.bind ?_ (fun _ => ?_))
set_option maxHeartbeats 8000000 in
set_option maxRecDepth 100000 in
theorem spec_Release.calls (k : Nat) (A0_0 : Option Addr) (c0_0 : Nat) (l0_0 : List (S79)) (a1 : Int) (a2 : Int) (a3 : Int) (r1 : List (S79)) (r2 : Int) (w : World) (hr0_0 : Kd.C k79 w A0_0 l0_0.length l0_0) (hc0_0 : l0_0.length ≤ c0_0) (h : spec_Release.f k l0_0 a1 a2 a3 = some (r1, r2)) :
  Calls Try.prog 34 #[.agg #[.slice A0_0 l0_0.length c0_0], .int .i64 a1, .int .i64 a2, .int .i64 a3] w fun e w' => ∃ v0_ : Value, e = .returned (.tuple #[.agg #[v0_], .int .i64 r2]) ∧ Kd.S k79 79 w' w.heap.size (fun _ => True) v0_ r1 ∧ Below w.heap.size w w' := by
 have hu26 := Try.underlying26
 have hu72 := Try.underlying72
 have hu24 := Try.underlying24
 have hu79 := Try.underlying79
 unfold spec_Release.f at h
 obtain ⟨⟨t1, t2, t3, t4, t5⟩, hq, h⟩ := Option.bind_eq_some_iff.mp h
 have Hq := aM hq
 have HR := aM hr0_0
 have HC := aM hc0_0
 clear hq hr0_0 hc0_0
 dsimp only at h
 by_cases c1 : t5 = 0
 {
 subst c1
 rw [if_pos rfl] at h
 by_cases c2 : t4 < a3
 {
 rw [if_pos c2] at h
 have c2b := decide_eq_true c2
 obtain ⟨t6, h6, h⟩ := Option.bind_eq_some_iff.mp h
 have H6 := aM h6
 obtain ⟨rfl, rfl⟩ : t6 = r1 ∧ 3 = r2 := by simpa using h
 clear h h6 c2
 go_enter Try.func34, Try.ntmps34
 go_wp2_with (first
  | (go_at_call 61; refine (spec_l5Call.calls k _ _ l0_0 a1 a2 a3 t1 t2 t3 t4 0 _ (Kd.C_alloc (Kd.C_alloc HR.out _) _) HC.out Hq.out).mono ?_; rintro e w1 ⟨rfl, hb⟩; have B4 := aM (blk_below (blk_alloc (blk_new w (.cells #[.slice A0_0 l0_0.length c0_0] 26)) (.cells #[.slice none 0 0] 26)) hb); have B8 := aM (blk_below (blk_new1 w (.cells #[.slice A0_0 l0_0.length c0_0] 26) (.cells #[.slice none 0 0] 26)) hb); have HB1 := aM (below_step (below_alloc (below_alloc (Below.refl w.heap.size w) _) _) hb); have C4 : w1.cell? ⟨w.heap.size, 0, none⟩ = some (.slice A0_0 l0_0.length c0_0) := (blk_cell B4.out 0).trans rfl; have L4 := blk_lt B4.out; have L8 := blk_lt B8.out; have N8 := Nat.ne_of_lt L8; have N8' := Nat.ne_of_gt L8; have N4 := Nat.ne_of_lt L4; have N4' := Nat.ne_of_gt L4; clear hb)
  | (go_at_call 62; refine (spec_l5Copy.calls k _ _ l0_0 t6 _ (Kd.C_below HR.out (below_alloc HB1.out _)) HC.out H6.out).mono ?_; rintro e w2 ⟨v0, rfl, hS, hb⟩; obtain ⟨Ac, cc, rfl⟩ := Kd.S_slice hS; replace B8 := aM (blk_below (blk_alloc B8.out _) hb); have HB2 := aM (below_step (below_alloc HB1.out _) hb); have HS := aM (show Kd.S k79 79 w2 (w.heap.size + 2) (fun _ => True) (.slice Ac t6.length cc) t6 from Kd.S_lower hS (by rw [World.size_alloc]; omega)); have C8 : w2.cell? ⟨w.heap.size + 1, 0, none⟩ = some (.slice none 0 0) := (blk_cell B8.out 0).trans rfl; have F8 := blk_frozen B8.out 0; clear hb hS C4))
 refine bodyPost_ret (results_ct rfl _ _ (w.heap.size + 1) 26 #[.slice Ac t6.length cc] (0, 0) _ rfl (blk_put (cs := #[.slice none 0 0]) B8.out 0 _ rfl) Try.underlying26 rfl (by kernel_rfl)) rfl ?_
 exact ⟨_, rfl, Kd.S_lower (S_box HS.out (show w.heap.size + 1 < w.heap.size + 2 by omega) _) (by omega), below_set HB2.out (by omega)⟩
 }
 {
 rw [if_neg c2] at h
 have c2b := decide_eq_false c2
 obtain ⟨t6, h6, h⟩ := Option.bind_eq_some_iff.mp h
 have H6 := aM h6
 obtain ⟨rfl, rfl⟩ : t6 = r1 ∧ 0 = r2 := by simpa using h
 clear h h6 c2
 go_enter Try.func34, Try.ntmps34
 go_wp2_with (first
  | (go_at_call 61; refine (spec_l5Call.calls k _ _ l0_0 a1 a2 a3 t1 t2 t3 t4 0 _ (Kd.C_alloc (Kd.C_alloc HR.out _) _) HC.out Hq.out).mono ?_; rintro e w1 ⟨rfl, hb⟩; have B4 := aM (blk_below (blk_alloc (blk_new w (.cells #[.slice A0_0 l0_0.length c0_0] 26)) (.cells #[.slice none 0 0] 26)) hb); have B8 := aM (blk_below (blk_new1 w (.cells #[.slice A0_0 l0_0.length c0_0] 26) (.cells #[.slice none 0 0] 26)) hb); have HB1 := aM (below_step (below_alloc (below_alloc (Below.refl w.heap.size w) _) _) hb); have C4 : w1.cell? ⟨w.heap.size, 0, none⟩ = some (.slice A0_0 l0_0.length c0_0) := (blk_cell B4.out 0).trans rfl; have L4 := blk_lt B4.out; have L8 := blk_lt B8.out; have N8 := Nat.ne_of_lt L8; have N8' := Nat.ne_of_gt L8; have N4 := Nat.ne_of_lt L4; have N4' := Nat.ne_of_gt L4; clear hb)
  | (go_at_call 63; refine (spec_l5Put.calls k _ _ l0_0 t1 t2 t3 (wrap64 (t4 - a3)) t6 _ (Kd.C_below HR.out (below_alloc HB1.out _)) HC.out H6.out).mono ?_; rintro e w2 ⟨v0, rfl, hS, hb⟩; obtain ⟨Ac, cc, rfl⟩ := Kd.S_slice hS; replace B8 := aM (blk_below (blk_alloc B8.out _) hb); have HB2 := aM (below_step (below_alloc HB1.out _) hb); have HS := aM (show Kd.S k79 79 w2 (w.heap.size + 2) (fun _ => True) (.slice Ac t6.length cc) t6 from Kd.S_lower hS (by simp only [World.size_setCell, World.size_alloc]; omega)); have C8 : w2.cell? ⟨w.heap.size + 1, 0, none⟩ = some (.slice none 0 0) := (blk_cell B8.out 0).trans rfl; have F8 := blk_frozen B8.out 0; clear hb hS C4))
 refine bodyPost_ret (results_ct rfl _ _ (w.heap.size + 1) 26 #[.slice Ac t6.length cc] (0, 0) _ rfl (blk_put (cs := #[.slice none 0 0]) B8.out 0 _ rfl) Try.underlying26 rfl (by kernel_rfl)) rfl ?_
 exact ⟨_, rfl, Kd.S_lower (S_box HS.out (show w.heap.size + 1 < w.heap.size + 2 by omega) _) (by omega), below_set HB2.out (by omega)⟩
 }
 }
 {
 rw [if_neg c1] at h
 obtain ⟨t6, h6, h⟩ := Option.bind_eq_some_iff.mp h
 have H6 := aM h6
 obtain ⟨rfl, rfl⟩ : t6 = r1 ∧ t5 = r2 := by simpa using h
 have c1b : (t5 != 0) = true := by simpa using c1
 clear h h6 c1
 go_enter Try.func34, Try.ntmps34
 go_wp2_with (first
  | (go_at_call 61; refine (spec_l5Call.calls k _ _ l0_0 a1 a2 a3 t1 t2 t3 t4 t5 _ (Kd.C_alloc (Kd.C_alloc HR.out _) _) HC.out Hq.out).mono ?_; rintro e w1 ⟨rfl, hb⟩; have B4 := aM (blk_below (blk_alloc (blk_new w (.cells #[.slice A0_0 l0_0.length c0_0] 26)) (.cells #[.slice none 0 0] 26)) hb); have B8 := aM (blk_below (blk_new1 w (.cells #[.slice A0_0 l0_0.length c0_0] 26) (.cells #[.slice none 0 0] 26)) hb); have HB1 := aM (below_step (below_alloc (below_alloc (Below.refl w.heap.size w) _) _) hb); have C4 : w1.cell? ⟨w.heap.size, 0, none⟩ = some (.slice A0_0 l0_0.length c0_0) := (blk_cell B4.out 0).trans rfl; have L4 := blk_lt B4.out; have L8 := blk_lt B8.out; have N8 := Nat.ne_of_lt L8; have N8' := Nat.ne_of_gt L8; have N4 := Nat.ne_of_lt L4; have N4' := Nat.ne_of_gt L4; clear hb)
  | (go_at_call 62; refine (spec_l5Copy.calls k _ _ l0_0 t6 _ (Kd.C_below HR.out (below_alloc HB1.out _)) HC.out H6.out).mono ?_; rintro e w2 ⟨v0, rfl, hS, hb⟩; obtain ⟨Ac, cc, rfl⟩ := Kd.S_slice hS; replace B8 := aM (blk_below (blk_alloc B8.out _) hb); have HB2 := aM (below_step (below_alloc HB1.out _) hb); have HS := aM (show Kd.S k79 79 w2 (w.heap.size + 2) (fun _ => True) (.slice Ac t6.length cc) t6 from Kd.S_lower hS (by rw [World.size_alloc]; omega)); have C8 : w2.cell? ⟨w.heap.size + 1, 0, none⟩ = some (.slice none 0 0) := (blk_cell B8.out 0).trans rfl; have F8 := blk_frozen B8.out 0; clear hb hS C4))
 refine bodyPost_ret (results_ct rfl _ _ (w.heap.size + 1) 26 #[.slice Ac t6.length cc] (0, 0) _ rfl (blk_put (cs := #[.slice none 0 0]) B8.out 0 _ rfl) Try.underlying26 rfl (by kernel_rfl)) rfl ?_
 exact ⟨_, rfl, Kd.S_lower (S_box HS.out (show w.heap.size + 1 < w.heap.size + 2 by omega) _) (by omega), below_set HB2.out (by omega)⟩

 }
/-! ### spec_l6Each: function 86 -/
def spec_l6Each.l0 : Nat → List (S50) → Int → Int → List (S79) → List (S79) → Option ((List (S79)) × Bool)
 | 0, _, _, _, _, _ => none
 | k + 1, x1, x2, x9, x306000, x311000 => if x9 < (x1.length : Int) then (if 0 ≤ x9 then (if x2 = 1 then ((spec_Hold.f k x311000 ((rd_T50 x1 x9).f0) ((rd_T50 x1 x9).f1) ((rd_T50 x1 x9).f2)).bind fun bt313 => (if bt313.2 = 0 then (spec_l6Each.l0 k x1 x2 (wrap64 (x9 + 1)) x306000 bt313.1) else ((spec_l5Copy.f k x306000).bind fun t317 => (some (t317, false))))) else (if x2 = 2 then ((spec_Release.f k x311000 ((rd_T50 x1 x9).f0) ((rd_T50 x1 x9).f1) ((rd_T50 x1 x9).f2)).bind fun bt320 => (if bt320.2 = 0 then (spec_l6Each.l0 k x1 x2 (wrap64 (x9 + 1)) x306000 bt320.1) else ((spec_l5Copy.f k x306000).bind fun t324 => (some (t324, false))))) else ((spec_TakeOut.f k x311000 ((rd_T50 x1 x9).f0) ((rd_T50 x1 x9).f1) ((rd_T50 x1 x9).f2)).bind fun bt327 => (if bt327.2 = 0 then (spec_l6Each.l0 k x1 x2 (wrap64 (x9 + 1)) x306000 bt327.1) else ((spec_l5Copy.f k x306000).bind fun t331 => (some (t331, false))))))) else (none)) else (some (x311000, true))
def spec_l6Each.f (k : Nat) (l0_0 : List (S79)) (l1 : List (S50)) (a2 : Int) : Option ((List (S79)) × Bool) := (spec_l5Copy.f k l0_0).bind fun t307 => (spec_l6Each.l0 k l1 a2 0 l0_0 t307)
theorem spec_l6Each.mono_l : ∀ k, (∀ y0 y1 y2 y3 y4, LeO (spec_l6Each.l0 k y0 y1 y2 y3 y4) (spec_l6Each.l0 (k + 1) y0 y1 y2 y3 y4))
 | 0 => fun _ _ _ _ _ r h => by simp [spec_l6Each.l0] at h
 | k + 1 => by
  have ih0 := spec_l6Each.mono_l k
  {
  intro y0 y1 y2 y3 y4
  unfold spec_l6Each.l0
  repeat' first
  | (with_reducible first | exact ih0 _ _ _ _ _ | exact spec_Hold.mono _ _ _ _ _ | exact spec_Release.mono _ _ _ _ _ | exact spec_TakeOut.mono _ _ _ _ _ | exact spec_l5Copy.mono _ _ | exact LeO.refl _ | exact LeO.none _ | refine LeO.ite ?_ ?_ | refine LeO.bind ?_ (fun _ => ?_))
  | exact ih0 _ _ _ _ _
  | exact spec_Hold.mono _ _ _ _ _
  | exact spec_Release.mono _ _ _ _ _
  | exact spec_TakeOut.mono _ _ _ _ _
  | exact spec_l5Copy.mono _ _
  | exact LeO.none _
  | refine LeO.ite ?_ ?_
  | refine LeO.bind ?_ (fun _ => ?_)
  }
theorem spec_l6Each.mono : ∀ a0 a1 a2 k, LeO (spec_l6Each.f k a0 a1 a2) (spec_l6Each.f (k + 1) a0 a1 a2) := by
 intro a0 a1 a2 k
 have ih0 := spec_l6Each.mono_l k
 unfold spec_l6Each.f
 repeat' first
  | (with_reducible first | exact ih0 _ _ _ _ _ | exact spec_Hold.mono _ _ _ _ _ | exact spec_Release.mono _ _ _ _ _ | exact spec_TakeOut.mono _ _ _ _ _ | exact spec_l5Copy.mono _ _ | exact LeO.refl _ | exact LeO.none _ | refine LeO.ite ?_ ?_ | refine LeO.bind ?_ (fun _ => ?_))
  | exact ih0 _ _ _ _ _
  | exact spec_Hold.mono _ _ _ _ _
  | exact spec_Release.mono _ _ _ _ _
  | exact spec_TakeOut.mono _ _ _ _ _
  | exact spec_l5Copy.mono _ _
  | exact LeO.none _
  | refine LeO.ite ?_ ?_
  | refine LeO.bind ?_ (fun _ => ?_)
set_option maxHeartbeats 8000000 in
set_option maxRecDepth 100000 in
theorem spec_l6Each.calls (k : Nat) (A0_0 : Option Addr) (c0_0 : Nat) (l0_0 : List (S79)) (A1 : Option Addr) (c1 : Nat) (l1 : List (S50)) (a2 : Int) (r1 : List (S79)) (r2 : Bool) (w : World) (hr0_0 : Kd.C k79 w A0_0 l0_0.length l0_0) (hc0_0 : l0_0.length ≤ c0_0) (hr1 : Kd.C k50 w A1 l1.length l1) (hc1 : l1.length ≤ c1) (h : spec_l6Each.f k l0_0 l1 a2 = some (r1, r2)) :
  Calls Try.prog 86 #[.agg #[.slice A0_0 l0_0.length c0_0], .slice A1 l1.length c1, .int .i64 a2] w fun e w' => ∃ v0_ : Value, e = .returned (.tuple #[.agg #[v0_], .bool r2]) ∧ Kd.S k79 79 w' w.heap.size (fun _ => True) v0_ r1 ∧ Below w.heap.size w w' := by
 have hu26 := Try.underlying26
 have hu50 := Try.underlying50
 have HR0_0 := aM hr0_0
 have HC0_0 := aM hc0_0
 clear hr0_0 hc0_0
 have HR1 := aM hr1
 have HC1 := aM hc1
 clear hr1 hc1
 have HB := aM (Below.refl w.heap.size w)
 have H : ((spec_l5Copy.f k l0_0).bind fun t307 => (spec_l6Each.l0 k l1 a2 0 l0_0 t307)) = some (r1, r2) := h
 clear h
 replace H := Option.bind_eq_some_iff.mp H
 obtain ⟨t307, A40, H⟩ := H
 replace H : (spec_l6Each.l0 k l1 a2 0 l0_0 t307) = some (r1, r2) := H
 have A4 := aM A40
 clear A40
 have H' := aM H
 clear H
 go_enter Try.func86, Try.ntmps86
 go_wp2_with (first | ((with_reducible refine gate_dst (N := 3) rfl ?_); refine bx_ 3 #[.slice A0_0 l0_0.length c0_0] 26 ?_; intro gb305 hg w5 hbox hb; have n0_ := aM (below_step qz1 hb); have n1_ := aM (hbox); have n2_ := aM ((by rw [hg]; exact (below_size qz1) : w.heap.size ≤ gb305)); have n3_ := aM ((by rw [hg]; exact (below_size qz1) : w.heap.size ≤ gb305)); clear HB; have HB := n0_; have BK305 := n1_; have GW305 := n2_; have GE305 := n3_; clear n0_ n1_ n2_ n3_; clear hb hbox hg) | ((with_reducible refine gate_dst (N := 6) rfl ?_); refine bx_ 6 #[.slice none 0 0] 26 ?_; intro gb306 hg w6 hbox hb; have n0_ := aM (blk_below (bk_ BK305.out) hb); have n1_ := aM (below_step qz45 hb); have n2_ := aM (hbox); have n3_ := aM ((by rw [hg]; exact (below_size qz45) : w.heap.size ≤ gb306)); have n4_ := aM ((by rw [hg]; exact (below_size qz45) : w.heap.size ≤ gb306)); have n5_ := aM ((by rw [hg]; exact Nat.ne_of_lt (blk_lt (bk_ BK305.out)) : gb305 ≠ gb306)); have n6_ := aM ((by rw [hg]; exact Nat.ne_of_gt (blk_lt (bk_ BK305.out)) : gb306 ≠ gb305)); clear BK305 HB; have BK305 := n0_; have HB := n1_; have BK306 := n2_; have GW306 := n3_; have GE306 := n4_; have NB305_306 := n5_; have NB306_305 := n6_; clear n0_ n1_ n2_ n3_ n4_ n5_ n6_; clear hb hbox hg; have hnb7 := NB305_306.out; have hnc7 := NB306_305.out; have hcz8_0 := bc0_ BK305.out; have hfz8_0 := blk_frozen BK305.out 0) | ((with_reducible refine gate_callee (f := 62) rfl ?_); refine goesL_ (some 13) rfl rfl Try.func62 (by kernel_rfl) rfl #[.agg #[.slice A0_0 l0_0.length c0_0]] rfl qz2 ?_; (with_reducible refine (spec_l5Copy.calls k _ _ l0_0 t307 _ ?side1 ?side2 A4.out).mono ?_); (case side1 => exact qz8); (case side2 => exact HC0_0.out); rintro e w9 ⟨v308, rfl, ho0, hb⟩; refine ⟨_, rfl, ?_⟩; have n0_ := aM (Kd.S_lower ho0 (below_size qz29)); have n1_ := aM (blk_below (bk_ BK305.out) hb); have n2_ := aM (blk_below (bk_ BK306.out) hb); have n3_ := aM (below_step qz29 hb); clear BK305 BK306 HB; have HO309 := n0_; have BK305 := n1_; have BK306 := n2_; have HB := n3_; clear n0_ n1_ n2_ n3_; (try clear hb); (try clear hb2); (try clear hk); (try clear hi); (try clear ho0)) | ((with_reducible refine gate_dst (N := 8) rfl ?_); refine bx_ 8 #[.slice none 0 0] 26 ?_; intro gb310 hg w10 hbox hb; have n0_ := aM (Kd.S_below (rs_ HO309.out) hb); have n1_ := aM (blk_below (bk_ BK305.out) hb); have n2_ := aM (blk_below (bk_ BK306.out) hb); have n3_ := aM (below_step qz29 hb); have n4_ := aM (hbox); have n5_ := aM ((by rw [hg]; exact (below_size qz29) : w.heap.size ≤ gb310)); have n6_ := aM ((by rw [hg]; exact (below_size qz29) : w.heap.size ≤ gb310)); have n7_ := aM ((by rw [hg]; exact Nat.ne_of_lt (blk_lt (bk_ BK305.out)) : gb305 ≠ gb310)); have n8_ := aM ((by rw [hg]; exact Nat.ne_of_gt (blk_lt (bk_ BK305.out)) : gb310 ≠ gb305)); have n9_ := aM ((by rw [hg]; exact Nat.ne_of_lt (blk_lt (bk_ BK306.out)) : gb306 ≠ gb310)); have n10_ := aM ((by rw [hg]; exact Nat.ne_of_gt (blk_lt (bk_ BK306.out)) : gb310 ≠ gb306)); clear HO309 BK305 BK306 HB; have HO309 := n0_; have BK305 := n1_; have BK306 := n2_; have HB := n3_; have BK310 := n4_; have GW310 := n5_; have GE310 := n6_; have NB305_310 := n7_; have NB310_305 := n8_; have NB306_310 := n9_; have NB310_306 := n10_; clear n0_ n1_ n2_ n3_ n4_ n5_ n6_ n7_ n8_ n9_ n10_; clear hb hbox hg; obtain ⟨Ao11, co11, eo11⟩ := Kd.S_slice HO309.out; subst eo11; have hnb12 := NB310_305.out; have hnc12 := NB305_310.out; have hnb13 := NB310_306.out; have hnc13 := NB306_310.out; have hcz14_0 := bc0_ BK310.out; have hfz14_0 := blk_frozen BK310.out 0))
 go_loopg [9] k (fun kq v9 w' => ∃ (x9_1 : Int) (x311000_1 : List (S79)) (u311000 : Value), v9 = .int .i64 x9_1 ∧ Aside0 (spec_l6Each.l0 kq l1 a2 x9_1 l0_0 x311000_1 = some (r1, r2)) ∧ Aside0 (kq ≤ k) ∧ Aside0 (Kd.S k79 79 w' w.heap.size (fun _ => True) u311000 x311000_1) ∧ Aside0 (w'.heap[gb305]? = some (.cells #[(.slice A0_0 l0_0.length c0_0)] 26 (0, 0))) ∧ Aside0 (w'.heap[gb306]? = some (.cells #[(.slice none 0 0)] 26 (0, 0))) ∧ Aside0 (w'.heap[gb310]? = some (.cells #[u311000] 26 (0, 0))) ∧ Aside0 (Below w.heap.size w w'))
 case atStart => exact ⟨(0), (t307), (.slice Ao11 t307.length co11), qz6, H', ⟨Nat.le_refl _⟩, ⟨by (with_reducible repeat (first | apply Kd.S_alloc | apply Kd.S_drewN | apply Kd.S_drew)); exact Kd.S_mono (Kd.S_far (p := ⟨gb310, 0, none⟩) (Kd.S_types HO309.out BK310.out (by decide)) (fun _ hk => hk.2) (.slice Ao11 t307.length co11)) (fun _ hk => trivial)⟩, ⟨by (with_reducible repeat (first | refine blk_drewN ?_ _ | refine blk_drew ?_ | refine blk_alloc ?_ _)); refine blk_far ?_ NB305_310.out _; exact bk_ BK305.out⟩, ⟨by (with_reducible repeat (first | refine blk_drewN ?_ _ | refine blk_drew ?_ | refine blk_alloc ?_ _)); refine blk_far ?_ NB306_310.out _; exact bk_ BK306.out⟩, ⟨by (with_reducible repeat (first | refine blk_drewN ?_ _ | refine blk_drew ?_ | refine blk_alloc ?_ _)); refine blk_put (cs := #[.slice none 0 0]) ?_ 0 _ rfl; exact bk_ BK310.out⟩, ⟨by repeat (first | (with_reducible first | exact HB.out | apply below_alloc | apply pw_below_drewN | apply below_drew1 | refine below_set ?_ GE305.out | refine below_set ?_ GE306.out | refine below_set ?_ GE310.out) | exact HB.out)⟩⟩
 case round =>
  clear H'
  try clear c1
  try clear p2
  try clear c6
  try clear c7
  try clear c8
  try clear c12
  try clear c13
  try clear hcz14_0
  try clear hcz8_0
  try clear hfz14_0
  try clear hfz8_0
  obtain ⟨x9_1, x311000_1, u311000, rfl, HA, HK1, HO_311000, BK305, BK306, BK310, HB⟩ := hrel
  cases gk with
  | zero => exact absurd HA.out (by simp [spec_l6Each.l0])
  | succ k1 =>
   have H := HA.out
   clear HA
   simp only [spec_l6Each.l0] at H
   by_cases c15 : x9_1 < (l1.length : Int)
   {
   rw [if_pos c15] at H
   have c15b0 := decide_eq_true c15
   clear c15
   by_cases c16 : 0 ≤ x9_1
   {
   rw [if_pos c16] at H
   have c16b0 := decide_eq_true c16
   clear c16
   by_cases c17 : a2 = 1
   {
   rw [if_pos c17] at H
   have c17b0 := beq_iff_eq.mpr c17
   have c17b1 := bne_eq_false_iff_eq.mpr c17
   clear c17
   replace H := Option.bind_eq_some_iff.mp H
   obtain ⟨⟨t313, t316⟩, A180, H⟩ := H
   replace H : (if t316 = 0 then (spec_l6Each.l0 k1 l1 a2 (wrap64 (x9_1 + 1)) l0_0 t313) else ((spec_l5Copy.f k1 l0_0).bind fun t317 => (some (t317, false)))) = some (r1, r2) := H
   have A18 := aM A180
   clear A180
   by_cases c19 : t316 = 0
   {
   rw [if_pos c19] at H
   have c19b0 := beq_iff_eq.mpr c19
   have c19b1 := bne_eq_false_iff_eq.mpr c19
   clear c19
   have H' := aM H
   clear H
   have p311 : 0 ≤ (x9_1 : Int) := of_decide_eq_true qz3
   have q311 : x9_1 < (l1.length : Int) := of_decide_eq_true qz3
   obtain ⟨ad311, e311, hx311_0, hx311_1, hx311_2⟩ := at_T50 HR1.out x9_1 p311 q311
   cases e311
   replace hx311_0 := pw_cell_below HB.out hx311_0
   replace hx311_1 := pw_cell_below HB.out hx311_1
   replace hx311_2 := pw_cell_below HB.out hx311_2
   replace p311 := eq_true p311
   replace q311 := eq_true q311
   go_wp2_with (first | ((with_reducible refine gate_dst (N := 10) rfl ?_); refine bx_ 10 #[.int .i64 0, .int .i64 0, .int .i64 0] 50 ?_; intro gb312 hg w20 hbox hb; have n0_ := aM (Kd.S_below (rs_ HO_311000.out) hb); have n1_ := aM (blk_below (bk_ BK305.out) hb); have n2_ := aM (blk_below (bk_ BK306.out) hb); have n3_ := aM (blk_below (bk_ BK310.out) hb); have n4_ := aM (below_step qz7 hb); have n5_ := aM (hbox); have n6_ := aM ((by rw [hg]; exact (below_size qz7) : w.heap.size ≤ gb312)); have n7_ := aM ((by rw [hg]; exact (below_size qz7) : w.heap.size ≤ gb312)); have n8_ := aM ((by rw [hg]; exact Nat.ne_of_lt (blk_lt (bk_ BK305.out)) : gb305 ≠ gb312)); have n9_ := aM ((by rw [hg]; exact Nat.ne_of_gt (blk_lt (bk_ BK305.out)) : gb312 ≠ gb305)); have n10_ := aM ((by rw [hg]; exact Nat.ne_of_lt (blk_lt (bk_ BK306.out)) : gb306 ≠ gb312)); have n11_ := aM ((by rw [hg]; exact Nat.ne_of_gt (blk_lt (bk_ BK306.out)) : gb312 ≠ gb306)); have n12_ := aM ((by rw [hg]; exact Nat.ne_of_lt (blk_lt (bk_ BK310.out)) : gb310 ≠ gb312)); have n13_ := aM ((by rw [hg]; exact Nat.ne_of_gt (blk_lt (bk_ BK310.out)) : gb312 ≠ gb310)); clear HO_311000 BK305 BK306 BK310 HB; have HO_311000 := n0_; have BK305 := n1_; have BK306 := n2_; have BK310 := n3_; have HB := n4_; have BK312 := n5_; have GW312 := n6_; have GE312 := n7_; have NB305_312 := n8_; have NB312_305 := n9_; have NB306_312 := n10_; have NB312_306 := n11_; have NB310_312 := n12_; have NB312_310 := n13_; clear n0_ n1_ n2_ n3_ n4_ n5_ n6_ n7_ n8_ n9_ n10_ n11_ n12_ n13_; clear hb hbox hg; have hnb21 := NB312_305.out; have hnc21 := NB305_312.out; have hnb22 := NB312_306.out; have hnc22 := NB306_312.out; have hnb23 := NB312_310.out; have hnc23 := NB310_312.out; obtain ⟨hcz24_0, hcz24_1, hcz24_2, hfz24_0, hfz24_1, hfz24_2⟩ := b6_ BK312.out; have hnb25 := NB310_305.out; have hnc25 := NB305_310.out; have hnb26 := NB310_306.out; have hnc26 := NB306_310.out; have hcz27_0 := bc0_ BK310.out; have hfz27_0 := blk_frozen BK310.out 0; obtain ⟨Ao28, co28, eo28⟩ := Kd.S_slice HO_311000.out; subst eo28) | ((with_reducible refine gate_callee (f := 18) rfl ?_); refine goesL_ (some 46) rfl rfl Try.func18 (by kernel_rfl) rfl #[.agg #[.slice Ao28 x311000_1.length co28], .int .i64 ((rd_T50 l1 x9_1).f0), .int .i64 ((rd_T50 l1 x9_1).f1), .int .i64 ((rd_T50 l1 x9_1).f2)] rfl qz2 ?_; (with_reducible refine (spec_Hold.calls k1 _ _ x311000_1 ((rd_T50 l1 x9_1).f0) ((rd_T50 l1 x9_1).f1) ((rd_T50 l1 x9_1).f2) t313 t316 _ ?side1 ?side2 A18.out).mono ?_); (case side1 => refine (Kd.S_reads' (e := 79) (base := w.heap.size) (ok := fun k_ => True) (n := x311000_1.length) (c := co28) ?_).2.2; exact (by (with_reducible repeat (first | apply Kd.S_alloc | apply Kd.S_drewN | apply Kd.S_drew)); exact (Kd.S_mono (Kd.S_far (p := ⟨gb312, 2, none⟩) (Kd.S_far (p := ⟨gb312, 1, none⟩) (Kd.S_far (p := ⟨gb312, 0, none⟩) (Kd.S_types HO_311000.out BK312.out (by decide)) (fun _ hk => hk.2) (.int .i64 ((rd_T50 l1 x9_1).f0))) (fun _ hk => hk.2) (.int .i64 ((rd_T50 l1 x9_1).f1))) (fun _ hk => hk.2) (.int .i64 ((rd_T50 l1 x9_1).f2))) (fun _ h_ => h_.1)))); (case side2 => exact (Kd.S_reads' HO_311000.out).2.1); rintro e w29 ⟨v314, rfl, ho0, hb⟩; refine ⟨_, rfl, ?_⟩; have n0_ := aM (Kd.S_elder' (by (with_reducible repeat (first | apply Kd.S_alloc | apply Kd.S_drewN | apply Kd.S_drew)); exact (Kd.S_mono (Kd.S_far (p := ⟨gb312, 2, none⟩) (Kd.S_far (p := ⟨gb312, 1, none⟩) (Kd.S_far (p := ⟨gb312, 0, none⟩) (Kd.S_types HO_311000.out BK312.out (by decide)) (fun _ hk => hk.2) (.int .i64 ((rd_T50 l1 x9_1).f0))) (fun _ hk => hk.2) (.int .i64 ((rd_T50 l1 x9_1).f1))) (fun _ hk => hk.2) (.int .i64 ((rd_T50 l1 x9_1).f2))) (fun _ h_ => h_.1))) (Kd.S_base ho0) hb); have n1_ := aM (Kd.S_lower (Kd.S_new' ho0 (Kd.S_lt (by (with_reducible repeat (first | apply Kd.S_alloc | apply Kd.S_drewN | apply Kd.S_drew)); exact (Kd.S_mono (Kd.S_far (p := ⟨gb312, 2, none⟩) (Kd.S_far (p := ⟨gb312, 1, none⟩) (Kd.S_far (p := ⟨gb312, 0, none⟩) (Kd.S_types HO_311000.out BK312.out (by decide)) (fun _ hk => hk.2) (.int .i64 ((rd_T50 l1 x9_1).f0))) (fun _ hk => hk.2) (.int .i64 ((rd_T50 l1 x9_1).f1))) (fun _ hk => hk.2) (.int .i64 ((rd_T50 l1 x9_1).f2))) (fun _ h_ => h_.1))))) (below_size qz5)); have n2_ := aM (blk_below (g := gb305) (o := .cells #[.slice A0_0 l0_0.length c0_0] 26 (0, 0)) qz10 hb); have n3_ := aM (blk_below (g := gb306) (o := .cells #[.slice none 0 0] 26 (0, 0)) qz11 hb); have n4_ := aM (blk_below (g := gb310) (o := .cells #[.slice Ao28 x311000_1.length co28] 26 (0, 0)) qz12 hb); have n5_ := aM (blk_below (g := gb312) (o := .cells #[.int .i64 ((rd_T50 l1 x9_1).f0), .int .i64 ((rd_T50 l1 x9_1).f1), .int .i64 ((rd_T50 l1 x9_1).f2)] 50 (0, 0)) (by (with_reducible repeat (first | refine blk_drewN ?_ _ | refine blk_drew ?_ | refine blk_alloc ?_ _)); refine blk_put (cs := #[.int .i64 ((rd_T50 l1 x9_1).f0), .int .i64 ((rd_T50 l1 x9_1).f1), .int .i64 0]) ?_ 2 _ rfl; (with_reducible repeat (first | refine blk_drewN ?_ _ | refine blk_drew ?_ | refine blk_alloc ?_ _)); refine blk_put (cs := #[.int .i64 ((rd_T50 l1 x9_1).f0), .int .i64 0, .int .i64 0]) ?_ 1 _ rfl; (with_reducible repeat (first | refine blk_drewN ?_ _ | refine blk_drew ?_ | refine blk_alloc ?_ _)); refine blk_put (cs := #[.int .i64 0, .int .i64 0, .int .i64 0]) ?_ 0 _ rfl; exact bk_ BK312.out) hb); have n6_ := aM (below_step qz5 hb); clear HO_311000 BK305 BK306 BK310 BK312 HB; have HO_311000 := n0_; have HO315 := n1_; have BK305 := n2_; have BK306 := n3_; have BK310 := n4_; have BK312 := n5_; have HB := n6_; clear n0_ n1_ n2_ n3_ n4_ n5_ n6_; (try clear hb); (try clear hb2); (try clear hk); (try clear hi); (try clear ho0); obtain ⟨Ao30, co30, eo30⟩ := Kd.S_slice HO315.out; subst eo30; have hcz31_0 := bc0_ BK310.out; have hfz31_0 := blk_frozen BK310.out 0))
   go_roundg k1
   case measure => have := HK1.out; omega
   case rel => exact ⟨(wrap64 (x9_1 + 1)), (t313), (.slice Ao30 t313.length co30), qz6, H', ⟨by have := HK1.out; omega⟩, ⟨by (with_reducible repeat (first | apply Kd.S_alloc | apply Kd.S_drewN | apply Kd.S_drew)); exact Kd.S_mono (Kd.S_far (p := ⟨gb310, 0, none⟩) (Kd.S_types HO315.out BK310.out (by decide)) (fun _ hk => hk.2) (.slice Ao30 t313.length co30)) (fun _ hk => trivial)⟩, ⟨by (with_reducible repeat (first | refine blk_drewN ?_ _ | refine blk_drew ?_ | refine blk_alloc ?_ _)); refine blk_far ?_ NB305_310.out _; exact bk_ BK305.out⟩, ⟨by (with_reducible repeat (first | refine blk_drewN ?_ _ | refine blk_drew ?_ | refine blk_alloc ?_ _)); refine blk_far ?_ NB306_310.out _; exact bk_ BK306.out⟩, ⟨by (with_reducible repeat (first | refine blk_drewN ?_ _ | refine blk_drew ?_ | refine blk_alloc ?_ _)); refine blk_put (cs := #[.slice Ao28 x311000_1.length co28]) ?_ 0 _ rfl; exact bk_ BK310.out⟩, ⟨by repeat (first | (with_reducible first | exact HB.out | apply below_alloc | apply pw_below_drewN | apply below_drew1 | refine below_set ?_ GE305.out | refine below_set ?_ GE306.out | refine below_set ?_ GE310.out | refine below_set ?_ GE312.out) | exact HB.out)⟩⟩
   }
   {
   rw [if_neg c19] at H
   have c19b0 := beq_eq_false_iff_ne.mpr c19
   have c19b1 := bne_iff_ne.mpr c19
   replace H := Option.bind_eq_some_iff.mp H
   obtain ⟨t317, A320, H⟩ := H
   replace H : (some (t317, false)) = some (r1, r2) := H
   have A32 := aM A320
   clear A320
   simp only [Option.some.injEq, Prod.mk.injEq] at H
   obtain ⟨rfl, rfl⟩ := H
   have p311 : 0 ≤ (x9_1 : Int) := of_decide_eq_true qz3
   have q311 : x9_1 < (l1.length : Int) := of_decide_eq_true qz3
   obtain ⟨ad311, e311, hx311_0, hx311_1, hx311_2⟩ := at_T50 HR1.out x9_1 p311 q311
   cases e311
   replace hx311_0 := pw_cell_below HB.out hx311_0
   replace hx311_1 := pw_cell_below HB.out hx311_1
   replace hx311_2 := pw_cell_below HB.out hx311_2
   replace p311 := eq_true p311
   replace q311 := eq_true q311
   go_wp2_with (first | ((with_reducible refine gate_dst (N := 10) rfl ?_); refine bx_ 10 #[.int .i64 0, .int .i64 0, .int .i64 0] 50 ?_; intro gb312 hg w33 hbox hb; have n0_ := aM (Kd.S_below (rs_ HO_311000.out) hb); have n1_ := aM (blk_below (bk_ BK305.out) hb); have n2_ := aM (blk_below (bk_ BK306.out) hb); have n3_ := aM (blk_below (bk_ BK310.out) hb); have n4_ := aM (below_step qz7 hb); have n5_ := aM (hbox); have n6_ := aM ((by rw [hg]; exact (below_size qz7) : w.heap.size ≤ gb312)); have n7_ := aM ((by rw [hg]; exact (below_size qz7) : w.heap.size ≤ gb312)); have n8_ := aM ((by rw [hg]; exact Nat.ne_of_lt (blk_lt (bk_ BK305.out)) : gb305 ≠ gb312)); have n9_ := aM ((by rw [hg]; exact Nat.ne_of_gt (blk_lt (bk_ BK305.out)) : gb312 ≠ gb305)); have n10_ := aM ((by rw [hg]; exact Nat.ne_of_lt (blk_lt (bk_ BK306.out)) : gb306 ≠ gb312)); have n11_ := aM ((by rw [hg]; exact Nat.ne_of_gt (blk_lt (bk_ BK306.out)) : gb312 ≠ gb306)); have n12_ := aM ((by rw [hg]; exact Nat.ne_of_lt (blk_lt (bk_ BK310.out)) : gb310 ≠ gb312)); have n13_ := aM ((by rw [hg]; exact Nat.ne_of_gt (blk_lt (bk_ BK310.out)) : gb312 ≠ gb310)); clear HO_311000 BK305 BK306 BK310 HB; have HO_311000 := n0_; have BK305 := n1_; have BK306 := n2_; have BK310 := n3_; have HB := n4_; have BK312 := n5_; have GW312 := n6_; have GE312 := n7_; have NB305_312 := n8_; have NB312_305 := n9_; have NB306_312 := n10_; have NB312_306 := n11_; have NB310_312 := n12_; have NB312_310 := n13_; clear n0_ n1_ n2_ n3_ n4_ n5_ n6_ n7_ n8_ n9_ n10_ n11_ n12_ n13_; clear hb hbox hg; have hnb34 := NB312_305.out; have hnc34 := NB305_312.out; have hnb35 := NB312_306.out; have hnc35 := NB306_312.out; have hnb36 := NB312_310.out; have hnc36 := NB310_312.out; obtain ⟨hcz37_0, hcz37_1, hcz37_2, hfz37_0, hfz37_1, hfz37_2⟩ := b6_ BK312.out; have hnb38 := NB310_305.out; have hnc38 := NB305_310.out; have hnb39 := NB310_306.out; have hnc39 := NB306_310.out; have hcz40_0 := bc0_ BK310.out; have hfz40_0 := blk_frozen BK310.out 0; obtain ⟨Ao41, co41, eo41⟩ := Kd.S_slice HO_311000.out; subst eo41) | ((with_reducible refine gate_callee (f := 18) rfl ?_); refine goesL_ (some 46) rfl rfl Try.func18 (by kernel_rfl) rfl #[.agg #[.slice Ao41 x311000_1.length co41], .int .i64 ((rd_T50 l1 x9_1).f0), .int .i64 ((rd_T50 l1 x9_1).f1), .int .i64 ((rd_T50 l1 x9_1).f2)] rfl qz2 ?_; (with_reducible refine (spec_Hold.calls k1 _ _ x311000_1 ((rd_T50 l1 x9_1).f0) ((rd_T50 l1 x9_1).f1) ((rd_T50 l1 x9_1).f2) t313 t316 _ ?side1 ?side2 A18.out).mono ?_); (case side1 => refine (Kd.S_reads' (e := 79) (base := w.heap.size) (ok := fun k_ => True) (n := x311000_1.length) (c := co41) ?_).2.2; exact (by (with_reducible repeat (first | apply Kd.S_alloc | apply Kd.S_drewN | apply Kd.S_drew)); exact (Kd.S_mono (Kd.S_far (p := ⟨gb312, 2, none⟩) (Kd.S_far (p := ⟨gb312, 1, none⟩) (Kd.S_far (p := ⟨gb312, 0, none⟩) (Kd.S_types HO_311000.out BK312.out (by decide)) (fun _ hk => hk.2) (.int .i64 ((rd_T50 l1 x9_1).f0))) (fun _ hk => hk.2) (.int .i64 ((rd_T50 l1 x9_1).f1))) (fun _ hk => hk.2) (.int .i64 ((rd_T50 l1 x9_1).f2))) (fun _ h_ => h_.1)))); (case side2 => exact (Kd.S_reads' HO_311000.out).2.1); rintro e w42 ⟨v314, rfl, ho0, hb⟩; refine ⟨_, rfl, ?_⟩; have n0_ := aM (Kd.S_elder' (by (with_reducible repeat (first | apply Kd.S_alloc | apply Kd.S_drewN | apply Kd.S_drew)); exact (Kd.S_mono (Kd.S_far (p := ⟨gb312, 2, none⟩) (Kd.S_far (p := ⟨gb312, 1, none⟩) (Kd.S_far (p := ⟨gb312, 0, none⟩) (Kd.S_types HO_311000.out BK312.out (by decide)) (fun _ hk => hk.2) (.int .i64 ((rd_T50 l1 x9_1).f0))) (fun _ hk => hk.2) (.int .i64 ((rd_T50 l1 x9_1).f1))) (fun _ hk => hk.2) (.int .i64 ((rd_T50 l1 x9_1).f2))) (fun _ h_ => h_.1))) (Kd.S_base ho0) hb); have n1_ := aM (Kd.S_lower (Kd.S_new' ho0 (Kd.S_lt (by (with_reducible repeat (first | apply Kd.S_alloc | apply Kd.S_drewN | apply Kd.S_drew)); exact (Kd.S_mono (Kd.S_far (p := ⟨gb312, 2, none⟩) (Kd.S_far (p := ⟨gb312, 1, none⟩) (Kd.S_far (p := ⟨gb312, 0, none⟩) (Kd.S_types HO_311000.out BK312.out (by decide)) (fun _ hk => hk.2) (.int .i64 ((rd_T50 l1 x9_1).f0))) (fun _ hk => hk.2) (.int .i64 ((rd_T50 l1 x9_1).f1))) (fun _ hk => hk.2) (.int .i64 ((rd_T50 l1 x9_1).f2))) (fun _ h_ => h_.1))))) (below_size qz5)); have n2_ := aM (blk_below (g := gb305) (o := .cells #[.slice A0_0 l0_0.length c0_0] 26 (0, 0)) qz10 hb); have n3_ := aM (blk_below (g := gb306) (o := .cells #[.slice none 0 0] 26 (0, 0)) qz11 hb); have n4_ := aM (blk_below (g := gb310) (o := .cells #[.slice Ao41 x311000_1.length co41] 26 (0, 0)) qz12 hb); have n5_ := aM (blk_below (g := gb312) (o := .cells #[.int .i64 ((rd_T50 l1 x9_1).f0), .int .i64 ((rd_T50 l1 x9_1).f1), .int .i64 ((rd_T50 l1 x9_1).f2)] 50 (0, 0)) (by (with_reducible repeat (first | refine blk_drewN ?_ _ | refine blk_drew ?_ | refine blk_alloc ?_ _)); refine blk_put (cs := #[.int .i64 ((rd_T50 l1 x9_1).f0), .int .i64 ((rd_T50 l1 x9_1).f1), .int .i64 0]) ?_ 2 _ rfl; (with_reducible repeat (first | refine blk_drewN ?_ _ | refine blk_drew ?_ | refine blk_alloc ?_ _)); refine blk_put (cs := #[.int .i64 ((rd_T50 l1 x9_1).f0), .int .i64 0, .int .i64 0]) ?_ 1 _ rfl; (with_reducible repeat (first | refine blk_drewN ?_ _ | refine blk_drew ?_ | refine blk_alloc ?_ _)); refine blk_put (cs := #[.int .i64 0, .int .i64 0, .int .i64 0]) ?_ 0 _ rfl; exact bk_ BK312.out) hb); have n6_ := aM (below_step qz5 hb); clear HO_311000 BK305 BK306 BK310 BK312 HB; have HO_311000 := n0_; have HO315 := n1_; have BK305 := n2_; have BK306 := n3_; have BK310 := n4_; have BK312 := n5_; have HB := n6_; clear n0_ n1_ n2_ n3_ n4_ n5_ n6_; (try clear hb); (try clear hb2); (try clear hk); (try clear hi); (try clear ho0); obtain ⟨Ao43, co43, eo43⟩ := Kd.S_slice HO315.out; subst eo43; have hcz44_0 := bc0_ BK310.out; have hfz44_0 := blk_frozen BK310.out 0; have hnb45 := NB305_306.out; have hnc45 := NB306_305.out; have hcz46_0 := bc0_ BK305.out; have hfz46_0 := blk_frozen BK305.out 0) | ((with_reducible refine gate_callee (f := 62) rfl ?_); refine goesL_ (some 65) rfl rfl Try.func62 (by kernel_rfl) rfl #[.agg #[.slice A0_0 l0_0.length c0_0]] rfl qz2 ?_; (with_reducible refine (spec_l5Copy.calls k1 _ _ l0_0 t317 _ ?side1 ?side2 A32.out).mono ?_); (case side1 => exact Kd.C_below HR0_0.out qz5); (case side2 => exact HC0_0.out); rintro e w47 ⟨v318, rfl, ho0, hb⟩; refine ⟨_, rfl, ?_⟩; have n0_ := aM (Kd.S_elder' (by (with_reducible repeat (first | apply Kd.S_alloc | apply Kd.S_drewN | apply Kd.S_drew)); exact (Kd.S_mono (Kd.S_far (p := ⟨gb310, 0, none⟩) (Kd.S_types HO_311000.out BK310.out (by decide)) (fun _ hk => hk.2) (.slice Ao43 t313.length co43)) (fun _ h_ => h_.1))) (Kd.S_base ho0) hb); have n1_ := aM (Kd.S_elder' (by (with_reducible repeat (first | apply Kd.S_alloc | apply Kd.S_drewN | apply Kd.S_drew)); exact (Kd.S_mono (Kd.S_far (p := ⟨gb310, 0, none⟩) (Kd.S_types HO315.out BK310.out (by decide)) (fun _ hk => hk.2) (.slice Ao43 t313.length co43)) (fun _ h_ => h_.1))) (Kd.S_base ho0) hb); have n2_ := aM (Kd.S_lower (Kd.S_new' (Kd.S_new' ho0 (Kd.S_lt (by (with_reducible repeat (first | apply Kd.S_alloc | apply Kd.S_drewN | apply Kd.S_drew)); exact (Kd.S_mono (Kd.S_far (p := ⟨gb310, 0, none⟩) (Kd.S_types HO_311000.out BK310.out (by decide)) (fun _ hk => hk.2) (.slice Ao43 t313.length co43)) (fun _ h_ => h_.1))))) (Kd.S_lt (by (with_reducible repeat (first | apply Kd.S_alloc | apply Kd.S_drewN | apply Kd.S_drew)); exact (Kd.S_mono (Kd.S_far (p := ⟨gb310, 0, none⟩) (Kd.S_types HO315.out BK310.out (by decide)) (fun _ hk => hk.2) (.slice Ao43 t313.length co43)) (fun _ h_ => h_.1))))) (below_size qz5)); have n3_ := aM (blk_below (g := gb305) (o := .cells #[.slice A0_0 l0_0.length c0_0] 26 (0, 0)) qz60 hb); have n4_ := aM (blk_below (g := gb306) (o := .cells #[.slice none 0 0] 26 (0, 0)) qz61 hb); have n5_ := aM (blk_below (g := gb310) (o := .cells #[.slice Ao43 t313.length co43] 26 (0, 0)) (by (with_reducible repeat (first | refine blk_drewN ?_ _ | refine blk_drew ?_ | refine blk_alloc ?_ _)); refine blk_put (cs := #[.slice Ao41 x311000_1.length co41]) ?_ 0 _ rfl; exact bk_ BK310.out) hb); have n6_ := aM (blk_below (g := gb312) (o := .cells #[.int .i64 ((rd_T50 l1 x9_1).f0), .int .i64 ((rd_T50 l1 x9_1).f1), .int .i64 ((rd_T50 l1 x9_1).f2)] 50 (0, 0)) qz62 hb); have n7_ := aM (below_step qz5 hb); clear HO_311000 HO315 BK305 BK306 BK310 BK312 HB; have HO_311000 := n0_; have HO315 := n1_; have HO319 := n2_; have BK305 := n3_; have BK306 := n4_; have BK310 := n5_; have BK312 := n6_; have HB := n7_; clear n0_ n1_ n2_ n3_ n4_ n5_ n6_ n7_; (try clear hb); (try clear hb2); (try clear hk); (try clear hi); (try clear ho0); obtain ⟨Ao48, co48, eo48⟩ := Kd.S_slice HO319.out; subst eo48; have hcz49_0 := bc0_ BK306.out; have hfz49_0 := blk_frozen BK306.out 0))
   refine bodyPost_ret (results_ct rfl _ _ gb306 26 #[.slice Ao48 t317.length co48] (0, 0) _ rfl (by (with_reducible repeat (first | refine blk_drewN ?_ _ | refine blk_drew ?_ | refine blk_alloc ?_ _)); refine blk_put (cs := #[.slice none 0 0]) ?_ 0 _ rfl; exact bk_ BK306.out) Try.underlying26 rfl (by kernel_rfl)) rfl ?_
   exact ⟨_, by first | rfl | (simp [errW_none, errW_some] <;> rfl) | (simp [*, errW_none, errW_some] <;> rfl), by (with_reducible repeat (first | apply Kd.S_alloc | apply Kd.S_drewN | apply Kd.S_drew)); exact Kd.S_mono (Kd.S_far (p := ⟨gb306, 0, none⟩) (Kd.S_types HO319.out BK306.out (by decide)) (fun _ hk => hk.2) (.slice Ao48 t317.length co48)) (fun _ hk => trivial), by repeat (first | (with_reducible first | exact HB.out | apply below_alloc | apply pw_below_drewN | apply below_drew1 | refine below_set ?_ GE305.out | refine below_set ?_ GE306.out | refine below_set ?_ GE310.out | refine below_set ?_ GE312.out) | exact HB.out)⟩
   }
   }
   {
   rw [if_neg c17] at H
   have c17b0 := beq_eq_false_iff_ne.mpr c17
   have c17b1 := bne_iff_ne.mpr c17
   by_cases c50 : a2 = 2
   {
   rw [if_pos c50] at H
   have c50b0 := beq_iff_eq.mpr c50
   have c50b1 := bne_eq_false_iff_eq.mpr c50
   clear c50
   replace H := Option.bind_eq_some_iff.mp H
   obtain ⟨⟨t320, t323⟩, A510, H⟩ := H
   replace H : (if t323 = 0 then (spec_l6Each.l0 k1 l1 a2 (wrap64 (x9_1 + 1)) l0_0 t320) else ((spec_l5Copy.f k1 l0_0).bind fun t324 => (some (t324, false)))) = some (r1, r2) := H
   have A51 := aM A510
   clear A510
   by_cases c52 : t323 = 0
   {
   rw [if_pos c52] at H
   have c52b0 := beq_iff_eq.mpr c52
   have c52b1 := bne_eq_false_iff_eq.mpr c52
   clear c52
   have H' := aM H
   clear H
   have p311 : 0 ≤ (x9_1 : Int) := of_decide_eq_true qz3
   have q311 : x9_1 < (l1.length : Int) := of_decide_eq_true qz3
   obtain ⟨ad311, e311, hx311_0, hx311_1, hx311_2⟩ := at_T50 HR1.out x9_1 p311 q311
   cases e311
   replace hx311_0 := pw_cell_below HB.out hx311_0
   replace hx311_1 := pw_cell_below HB.out hx311_1
   replace hx311_2 := pw_cell_below HB.out hx311_2
   replace p311 := eq_true p311
   replace q311 := eq_true q311
   go_wp2_with (first | ((with_reducible refine gate_dst (N := 10) rfl ?_); refine bx_ 10 #[.int .i64 0, .int .i64 0, .int .i64 0] 50 ?_; intro gb312 hg w53 hbox hb; have n0_ := aM (Kd.S_below (rs_ HO_311000.out) hb); have n1_ := aM (blk_below (bk_ BK305.out) hb); have n2_ := aM (blk_below (bk_ BK306.out) hb); have n3_ := aM (blk_below (bk_ BK310.out) hb); have n4_ := aM (below_step qz7 hb); have n5_ := aM (hbox); have n6_ := aM ((by rw [hg]; exact (below_size qz7) : w.heap.size ≤ gb312)); have n7_ := aM ((by rw [hg]; exact (below_size qz7) : w.heap.size ≤ gb312)); have n8_ := aM ((by rw [hg]; exact Nat.ne_of_lt (blk_lt (bk_ BK305.out)) : gb305 ≠ gb312)); have n9_ := aM ((by rw [hg]; exact Nat.ne_of_gt (blk_lt (bk_ BK305.out)) : gb312 ≠ gb305)); have n10_ := aM ((by rw [hg]; exact Nat.ne_of_lt (blk_lt (bk_ BK306.out)) : gb306 ≠ gb312)); have n11_ := aM ((by rw [hg]; exact Nat.ne_of_gt (blk_lt (bk_ BK306.out)) : gb312 ≠ gb306)); have n12_ := aM ((by rw [hg]; exact Nat.ne_of_lt (blk_lt (bk_ BK310.out)) : gb310 ≠ gb312)); have n13_ := aM ((by rw [hg]; exact Nat.ne_of_gt (blk_lt (bk_ BK310.out)) : gb312 ≠ gb310)); clear HO_311000 BK305 BK306 BK310 HB; have HO_311000 := n0_; have BK305 := n1_; have BK306 := n2_; have BK310 := n3_; have HB := n4_; have BK312 := n5_; have GW312 := n6_; have GE312 := n7_; have NB305_312 := n8_; have NB312_305 := n9_; have NB306_312 := n10_; have NB312_306 := n11_; have NB310_312 := n12_; have NB312_310 := n13_; clear n0_ n1_ n2_ n3_ n4_ n5_ n6_ n7_ n8_ n9_ n10_ n11_ n12_ n13_; clear hb hbox hg; have hnb54 := NB312_305.out; have hnc54 := NB305_312.out; have hnb55 := NB312_306.out; have hnc55 := NB306_312.out; have hnb56 := NB312_310.out; have hnc56 := NB310_312.out; obtain ⟨hcz57_0, hcz57_1, hcz57_2, hfz57_0, hfz57_1, hfz57_2⟩ := b6_ BK312.out; have hnb58 := NB310_305.out; have hnc58 := NB305_310.out; have hnb59 := NB310_306.out; have hnc59 := NB306_310.out; have hcz60_0 := bc0_ BK310.out; have hfz60_0 := blk_frozen BK310.out 0; obtain ⟨Ao61, co61, eo61⟩ := Kd.S_slice HO_311000.out; subst eo61) | ((with_reducible refine gate_callee (f := 34) rfl ?_); refine goesL_ (some 59) rfl rfl Try.func34 (by kernel_rfl) rfl #[.agg #[.slice Ao61 x311000_1.length co61], .int .i64 ((rd_T50 l1 x9_1).f0), .int .i64 ((rd_T50 l1 x9_1).f1), .int .i64 ((rd_T50 l1 x9_1).f2)] rfl qz2 ?_; (with_reducible refine (spec_Release.calls k1 _ _ x311000_1 ((rd_T50 l1 x9_1).f0) ((rd_T50 l1 x9_1).f1) ((rd_T50 l1 x9_1).f2) t320 t323 _ ?side1 ?side2 A51.out).mono ?_); (case side1 => refine (Kd.S_reads' (e := 79) (base := w.heap.size) (ok := fun k_ => True) (n := x311000_1.length) (c := co61) ?_).2.2; exact (by (with_reducible repeat (first | apply Kd.S_alloc | apply Kd.S_drewN | apply Kd.S_drew)); exact (Kd.S_mono (Kd.S_far (p := ⟨gb312, 2, none⟩) (Kd.S_far (p := ⟨gb312, 1, none⟩) (Kd.S_far (p := ⟨gb312, 0, none⟩) (Kd.S_types HO_311000.out BK312.out (by decide)) (fun _ hk => hk.2) (.int .i64 ((rd_T50 l1 x9_1).f0))) (fun _ hk => hk.2) (.int .i64 ((rd_T50 l1 x9_1).f1))) (fun _ hk => hk.2) (.int .i64 ((rd_T50 l1 x9_1).f2))) (fun _ h_ => h_.1)))); (case side2 => exact (Kd.S_reads' HO_311000.out).2.1); rintro e w62 ⟨v321, rfl, ho0, hb⟩; refine ⟨_, rfl, ?_⟩; have n0_ := aM (Kd.S_elder' (by (with_reducible repeat (first | apply Kd.S_alloc | apply Kd.S_drewN | apply Kd.S_drew)); exact (Kd.S_mono (Kd.S_far (p := ⟨gb312, 2, none⟩) (Kd.S_far (p := ⟨gb312, 1, none⟩) (Kd.S_far (p := ⟨gb312, 0, none⟩) (Kd.S_types HO_311000.out BK312.out (by decide)) (fun _ hk => hk.2) (.int .i64 ((rd_T50 l1 x9_1).f0))) (fun _ hk => hk.2) (.int .i64 ((rd_T50 l1 x9_1).f1))) (fun _ hk => hk.2) (.int .i64 ((rd_T50 l1 x9_1).f2))) (fun _ h_ => h_.1))) (Kd.S_base ho0) hb); have n1_ := aM (Kd.S_lower (Kd.S_new' ho0 (Kd.S_lt (by (with_reducible repeat (first | apply Kd.S_alloc | apply Kd.S_drewN | apply Kd.S_drew)); exact (Kd.S_mono (Kd.S_far (p := ⟨gb312, 2, none⟩) (Kd.S_far (p := ⟨gb312, 1, none⟩) (Kd.S_far (p := ⟨gb312, 0, none⟩) (Kd.S_types HO_311000.out BK312.out (by decide)) (fun _ hk => hk.2) (.int .i64 ((rd_T50 l1 x9_1).f0))) (fun _ hk => hk.2) (.int .i64 ((rd_T50 l1 x9_1).f1))) (fun _ hk => hk.2) (.int .i64 ((rd_T50 l1 x9_1).f2))) (fun _ h_ => h_.1))))) (below_size qz5)); have n2_ := aM (blk_below (g := gb305) (o := .cells #[.slice A0_0 l0_0.length c0_0] 26 (0, 0)) qz10 hb); have n3_ := aM (blk_below (g := gb306) (o := .cells #[.slice none 0 0] 26 (0, 0)) qz11 hb); have n4_ := aM (blk_below (g := gb310) (o := .cells #[.slice Ao61 x311000_1.length co61] 26 (0, 0)) qz12 hb); have n5_ := aM (blk_below (g := gb312) (o := .cells #[.int .i64 ((rd_T50 l1 x9_1).f0), .int .i64 ((rd_T50 l1 x9_1).f1), .int .i64 ((rd_T50 l1 x9_1).f2)] 50 (0, 0)) (by (with_reducible repeat (first | refine blk_drewN ?_ _ | refine blk_drew ?_ | refine blk_alloc ?_ _)); refine blk_put (cs := #[.int .i64 ((rd_T50 l1 x9_1).f0), .int .i64 ((rd_T50 l1 x9_1).f1), .int .i64 0]) ?_ 2 _ rfl; (with_reducible repeat (first | refine blk_drewN ?_ _ | refine blk_drew ?_ | refine blk_alloc ?_ _)); refine blk_put (cs := #[.int .i64 ((rd_T50 l1 x9_1).f0), .int .i64 0, .int .i64 0]) ?_ 1 _ rfl; (with_reducible repeat (first | refine blk_drewN ?_ _ | refine blk_drew ?_ | refine blk_alloc ?_ _)); refine blk_put (cs := #[.int .i64 0, .int .i64 0, .int .i64 0]) ?_ 0 _ rfl; exact bk_ BK312.out) hb); have n6_ := aM (below_step qz5 hb); clear HO_311000 BK305 BK306 BK310 BK312 HB; have HO_311000 := n0_; have HO322 := n1_; have BK305 := n2_; have BK306 := n3_; have BK310 := n4_; have BK312 := n5_; have HB := n6_; clear n0_ n1_ n2_ n3_ n4_ n5_ n6_; (try clear hb); (try clear hb2); (try clear hk); (try clear hi); (try clear ho0); obtain ⟨Ao63, co63, eo63⟩ := Kd.S_slice HO322.out; subst eo63; have hcz64_0 := bc0_ BK310.out; have hfz64_0 := blk_frozen BK310.out 0))
   go_roundg k1
   case measure => have := HK1.out; omega
   case rel => exact ⟨(wrap64 (x9_1 + 1)), (t320), (.slice Ao63 t320.length co63), qz6, H', ⟨by have := HK1.out; omega⟩, ⟨by (with_reducible repeat (first | apply Kd.S_alloc | apply Kd.S_drewN | apply Kd.S_drew)); exact Kd.S_mono (Kd.S_far (p := ⟨gb310, 0, none⟩) (Kd.S_types HO322.out BK310.out (by decide)) (fun _ hk => hk.2) (.slice Ao63 t320.length co63)) (fun _ hk => trivial)⟩, ⟨by (with_reducible repeat (first | refine blk_drewN ?_ _ | refine blk_drew ?_ | refine blk_alloc ?_ _)); refine blk_far ?_ NB305_310.out _; exact bk_ BK305.out⟩, ⟨by (with_reducible repeat (first | refine blk_drewN ?_ _ | refine blk_drew ?_ | refine blk_alloc ?_ _)); refine blk_far ?_ NB306_310.out _; exact bk_ BK306.out⟩, ⟨by (with_reducible repeat (first | refine blk_drewN ?_ _ | refine blk_drew ?_ | refine blk_alloc ?_ _)); refine blk_put (cs := #[.slice Ao61 x311000_1.length co61]) ?_ 0 _ rfl; exact bk_ BK310.out⟩, ⟨by repeat (first | (with_reducible first | exact HB.out | apply below_alloc | apply pw_below_drewN | apply below_drew1 | refine below_set ?_ GE305.out | refine below_set ?_ GE306.out | refine below_set ?_ GE310.out | refine below_set ?_ GE312.out) | exact HB.out)⟩⟩
   }
   {
   rw [if_neg c52] at H
   have c52b0 := beq_eq_false_iff_ne.mpr c52
   have c52b1 := bne_iff_ne.mpr c52
   replace H := Option.bind_eq_some_iff.mp H
   obtain ⟨t324, A650, H⟩ := H
   replace H : (some (t324, false)) = some (r1, r2) := H
   have A65 := aM A650
   clear A650
   simp only [Option.some.injEq, Prod.mk.injEq] at H
   obtain ⟨rfl, rfl⟩ := H
   have p311 : 0 ≤ (x9_1 : Int) := of_decide_eq_true qz3
   have q311 : x9_1 < (l1.length : Int) := of_decide_eq_true qz3
   obtain ⟨ad311, e311, hx311_0, hx311_1, hx311_2⟩ := at_T50 HR1.out x9_1 p311 q311
   cases e311
   replace hx311_0 := pw_cell_below HB.out hx311_0
   replace hx311_1 := pw_cell_below HB.out hx311_1
   replace hx311_2 := pw_cell_below HB.out hx311_2
   replace p311 := eq_true p311
   replace q311 := eq_true q311
   go_wp2_with (first | ((with_reducible refine gate_dst (N := 10) rfl ?_); refine bx_ 10 #[.int .i64 0, .int .i64 0, .int .i64 0] 50 ?_; intro gb312 hg w66 hbox hb; have n0_ := aM (Kd.S_below (rs_ HO_311000.out) hb); have n1_ := aM (blk_below (bk_ BK305.out) hb); have n2_ := aM (blk_below (bk_ BK306.out) hb); have n3_ := aM (blk_below (bk_ BK310.out) hb); have n4_ := aM (below_step qz7 hb); have n5_ := aM (hbox); have n6_ := aM ((by rw [hg]; exact (below_size qz7) : w.heap.size ≤ gb312)); have n7_ := aM ((by rw [hg]; exact (below_size qz7) : w.heap.size ≤ gb312)); have n8_ := aM ((by rw [hg]; exact Nat.ne_of_lt (blk_lt (bk_ BK305.out)) : gb305 ≠ gb312)); have n9_ := aM ((by rw [hg]; exact Nat.ne_of_gt (blk_lt (bk_ BK305.out)) : gb312 ≠ gb305)); have n10_ := aM ((by rw [hg]; exact Nat.ne_of_lt (blk_lt (bk_ BK306.out)) : gb306 ≠ gb312)); have n11_ := aM ((by rw [hg]; exact Nat.ne_of_gt (blk_lt (bk_ BK306.out)) : gb312 ≠ gb306)); have n12_ := aM ((by rw [hg]; exact Nat.ne_of_lt (blk_lt (bk_ BK310.out)) : gb310 ≠ gb312)); have n13_ := aM ((by rw [hg]; exact Nat.ne_of_gt (blk_lt (bk_ BK310.out)) : gb312 ≠ gb310)); clear HO_311000 BK305 BK306 BK310 HB; have HO_311000 := n0_; have BK305 := n1_; have BK306 := n2_; have BK310 := n3_; have HB := n4_; have BK312 := n5_; have GW312 := n6_; have GE312 := n7_; have NB305_312 := n8_; have NB312_305 := n9_; have NB306_312 := n10_; have NB312_306 := n11_; have NB310_312 := n12_; have NB312_310 := n13_; clear n0_ n1_ n2_ n3_ n4_ n5_ n6_ n7_ n8_ n9_ n10_ n11_ n12_ n13_; clear hb hbox hg; have hnb67 := NB312_305.out; have hnc67 := NB305_312.out; have hnb68 := NB312_306.out; have hnc68 := NB306_312.out; have hnb69 := NB312_310.out; have hnc69 := NB310_312.out; obtain ⟨hcz70_0, hcz70_1, hcz70_2, hfz70_0, hfz70_1, hfz70_2⟩ := b6_ BK312.out; have hnb71 := NB310_305.out; have hnc71 := NB305_310.out; have hnb72 := NB310_306.out; have hnc72 := NB306_310.out; have hcz73_0 := bc0_ BK310.out; have hfz73_0 := blk_frozen BK310.out 0; obtain ⟨Ao74, co74, eo74⟩ := Kd.S_slice HO_311000.out; subst eo74) | ((with_reducible refine gate_callee (f := 34) rfl ?_); refine goesL_ (some 59) rfl rfl Try.func34 (by kernel_rfl) rfl #[.agg #[.slice Ao74 x311000_1.length co74], .int .i64 ((rd_T50 l1 x9_1).f0), .int .i64 ((rd_T50 l1 x9_1).f1), .int .i64 ((rd_T50 l1 x9_1).f2)] rfl qz2 ?_; (with_reducible refine (spec_Release.calls k1 _ _ x311000_1 ((rd_T50 l1 x9_1).f0) ((rd_T50 l1 x9_1).f1) ((rd_T50 l1 x9_1).f2) t320 t323 _ ?side1 ?side2 A51.out).mono ?_); (case side1 => refine (Kd.S_reads' (e := 79) (base := w.heap.size) (ok := fun k_ => True) (n := x311000_1.length) (c := co74) ?_).2.2; exact (by (with_reducible repeat (first | apply Kd.S_alloc | apply Kd.S_drewN | apply Kd.S_drew)); exact (Kd.S_mono (Kd.S_far (p := ⟨gb312, 2, none⟩) (Kd.S_far (p := ⟨gb312, 1, none⟩) (Kd.S_far (p := ⟨gb312, 0, none⟩) (Kd.S_types HO_311000.out BK312.out (by decide)) (fun _ hk => hk.2) (.int .i64 ((rd_T50 l1 x9_1).f0))) (fun _ hk => hk.2) (.int .i64 ((rd_T50 l1 x9_1).f1))) (fun _ hk => hk.2) (.int .i64 ((rd_T50 l1 x9_1).f2))) (fun _ h_ => h_.1)))); (case side2 => exact (Kd.S_reads' HO_311000.out).2.1); rintro e w75 ⟨v321, rfl, ho0, hb⟩; refine ⟨_, rfl, ?_⟩; have n0_ := aM (Kd.S_elder' (by (with_reducible repeat (first | apply Kd.S_alloc | apply Kd.S_drewN | apply Kd.S_drew)); exact (Kd.S_mono (Kd.S_far (p := ⟨gb312, 2, none⟩) (Kd.S_far (p := ⟨gb312, 1, none⟩) (Kd.S_far (p := ⟨gb312, 0, none⟩) (Kd.S_types HO_311000.out BK312.out (by decide)) (fun _ hk => hk.2) (.int .i64 ((rd_T50 l1 x9_1).f0))) (fun _ hk => hk.2) (.int .i64 ((rd_T50 l1 x9_1).f1))) (fun _ hk => hk.2) (.int .i64 ((rd_T50 l1 x9_1).f2))) (fun _ h_ => h_.1))) (Kd.S_base ho0) hb); have n1_ := aM (Kd.S_lower (Kd.S_new' ho0 (Kd.S_lt (by (with_reducible repeat (first | apply Kd.S_alloc | apply Kd.S_drewN | apply Kd.S_drew)); exact (Kd.S_mono (Kd.S_far (p := ⟨gb312, 2, none⟩) (Kd.S_far (p := ⟨gb312, 1, none⟩) (Kd.S_far (p := ⟨gb312, 0, none⟩) (Kd.S_types HO_311000.out BK312.out (by decide)) (fun _ hk => hk.2) (.int .i64 ((rd_T50 l1 x9_1).f0))) (fun _ hk => hk.2) (.int .i64 ((rd_T50 l1 x9_1).f1))) (fun _ hk => hk.2) (.int .i64 ((rd_T50 l1 x9_1).f2))) (fun _ h_ => h_.1))))) (below_size qz5)); have n2_ := aM (blk_below (g := gb305) (o := .cells #[.slice A0_0 l0_0.length c0_0] 26 (0, 0)) qz10 hb); have n3_ := aM (blk_below (g := gb306) (o := .cells #[.slice none 0 0] 26 (0, 0)) qz11 hb); have n4_ := aM (blk_below (g := gb310) (o := .cells #[.slice Ao74 x311000_1.length co74] 26 (0, 0)) qz12 hb); have n5_ := aM (blk_below (g := gb312) (o := .cells #[.int .i64 ((rd_T50 l1 x9_1).f0), .int .i64 ((rd_T50 l1 x9_1).f1), .int .i64 ((rd_T50 l1 x9_1).f2)] 50 (0, 0)) (by (with_reducible repeat (first | refine blk_drewN ?_ _ | refine blk_drew ?_ | refine blk_alloc ?_ _)); refine blk_put (cs := #[.int .i64 ((rd_T50 l1 x9_1).f0), .int .i64 ((rd_T50 l1 x9_1).f1), .int .i64 0]) ?_ 2 _ rfl; (with_reducible repeat (first | refine blk_drewN ?_ _ | refine blk_drew ?_ | refine blk_alloc ?_ _)); refine blk_put (cs := #[.int .i64 ((rd_T50 l1 x9_1).f0), .int .i64 0, .int .i64 0]) ?_ 1 _ rfl; (with_reducible repeat (first | refine blk_drewN ?_ _ | refine blk_drew ?_ | refine blk_alloc ?_ _)); refine blk_put (cs := #[.int .i64 0, .int .i64 0, .int .i64 0]) ?_ 0 _ rfl; exact bk_ BK312.out) hb); have n6_ := aM (below_step qz5 hb); clear HO_311000 BK305 BK306 BK310 BK312 HB; have HO_311000 := n0_; have HO322 := n1_; have BK305 := n2_; have BK306 := n3_; have BK310 := n4_; have BK312 := n5_; have HB := n6_; clear n0_ n1_ n2_ n3_ n4_ n5_ n6_; (try clear hb); (try clear hb2); (try clear hk); (try clear hi); (try clear ho0); obtain ⟨Ao76, co76, eo76⟩ := Kd.S_slice HO322.out; subst eo76; have hcz77_0 := bc0_ BK310.out; have hfz77_0 := blk_frozen BK310.out 0; have hnb78 := NB305_306.out; have hnc78 := NB306_305.out; have hcz79_0 := bc0_ BK305.out; have hfz79_0 := blk_frozen BK305.out 0) | ((with_reducible refine gate_callee (f := 62) rfl ?_); refine goesL_ (some 65) rfl rfl Try.func62 (by kernel_rfl) rfl #[.agg #[.slice A0_0 l0_0.length c0_0]] rfl qz2 ?_; (with_reducible refine (spec_l5Copy.calls k1 _ _ l0_0 t324 _ ?side1 ?side2 A65.out).mono ?_); (case side1 => exact Kd.C_below HR0_0.out qz5); (case side2 => exact HC0_0.out); rintro e w80 ⟨v325, rfl, ho0, hb⟩; refine ⟨_, rfl, ?_⟩; have n0_ := aM (Kd.S_elder' (by (with_reducible repeat (first | apply Kd.S_alloc | apply Kd.S_drewN | apply Kd.S_drew)); exact (Kd.S_mono (Kd.S_far (p := ⟨gb310, 0, none⟩) (Kd.S_types HO_311000.out BK310.out (by decide)) (fun _ hk => hk.2) (.slice Ao76 t320.length co76)) (fun _ h_ => h_.1))) (Kd.S_base ho0) hb); have n1_ := aM (Kd.S_elder' (by (with_reducible repeat (first | apply Kd.S_alloc | apply Kd.S_drewN | apply Kd.S_drew)); exact (Kd.S_mono (Kd.S_far (p := ⟨gb310, 0, none⟩) (Kd.S_types HO322.out BK310.out (by decide)) (fun _ hk => hk.2) (.slice Ao76 t320.length co76)) (fun _ h_ => h_.1))) (Kd.S_base ho0) hb); have n2_ := aM (Kd.S_lower (Kd.S_new' (Kd.S_new' ho0 (Kd.S_lt (by (with_reducible repeat (first | apply Kd.S_alloc | apply Kd.S_drewN | apply Kd.S_drew)); exact (Kd.S_mono (Kd.S_far (p := ⟨gb310, 0, none⟩) (Kd.S_types HO_311000.out BK310.out (by decide)) (fun _ hk => hk.2) (.slice Ao76 t320.length co76)) (fun _ h_ => h_.1))))) (Kd.S_lt (by (with_reducible repeat (first | apply Kd.S_alloc | apply Kd.S_drewN | apply Kd.S_drew)); exact (Kd.S_mono (Kd.S_far (p := ⟨gb310, 0, none⟩) (Kd.S_types HO322.out BK310.out (by decide)) (fun _ hk => hk.2) (.slice Ao76 t320.length co76)) (fun _ h_ => h_.1))))) (below_size qz5)); have n3_ := aM (blk_below (g := gb305) (o := .cells #[.slice A0_0 l0_0.length c0_0] 26 (0, 0)) qz60 hb); have n4_ := aM (blk_below (g := gb306) (o := .cells #[.slice none 0 0] 26 (0, 0)) qz61 hb); have n5_ := aM (blk_below (g := gb310) (o := .cells #[.slice Ao76 t320.length co76] 26 (0, 0)) (by (with_reducible repeat (first | refine blk_drewN ?_ _ | refine blk_drew ?_ | refine blk_alloc ?_ _)); refine blk_put (cs := #[.slice Ao74 x311000_1.length co74]) ?_ 0 _ rfl; exact bk_ BK310.out) hb); have n6_ := aM (blk_below (g := gb312) (o := .cells #[.int .i64 ((rd_T50 l1 x9_1).f0), .int .i64 ((rd_T50 l1 x9_1).f1), .int .i64 ((rd_T50 l1 x9_1).f2)] 50 (0, 0)) qz62 hb); have n7_ := aM (below_step qz5 hb); clear HO_311000 HO322 BK305 BK306 BK310 BK312 HB; have HO_311000 := n0_; have HO322 := n1_; have HO326 := n2_; have BK305 := n3_; have BK306 := n4_; have BK310 := n5_; have BK312 := n6_; have HB := n7_; clear n0_ n1_ n2_ n3_ n4_ n5_ n6_ n7_; (try clear hb); (try clear hb2); (try clear hk); (try clear hi); (try clear ho0); obtain ⟨Ao81, co81, eo81⟩ := Kd.S_slice HO326.out; subst eo81; have hcz82_0 := bc0_ BK306.out; have hfz82_0 := blk_frozen BK306.out 0))
   refine bodyPost_ret (results_ct rfl _ _ gb306 26 #[.slice Ao81 t324.length co81] (0, 0) _ rfl (by (with_reducible repeat (first | refine blk_drewN ?_ _ | refine blk_drew ?_ | refine blk_alloc ?_ _)); refine blk_put (cs := #[.slice none 0 0]) ?_ 0 _ rfl; exact bk_ BK306.out) Try.underlying26 rfl (by kernel_rfl)) rfl ?_
   exact ⟨_, by first | rfl | (simp [errW_none, errW_some] <;> rfl) | (simp [*, errW_none, errW_some] <;> rfl), by (with_reducible repeat (first | apply Kd.S_alloc | apply Kd.S_drewN | apply Kd.S_drew)); exact Kd.S_mono (Kd.S_far (p := ⟨gb306, 0, none⟩) (Kd.S_types HO326.out BK306.out (by decide)) (fun _ hk => hk.2) (.slice Ao81 t324.length co81)) (fun _ hk => trivial), by repeat (first | (with_reducible first | exact HB.out | apply below_alloc | apply pw_below_drewN | apply below_drew1 | refine below_set ?_ GE305.out | refine below_set ?_ GE306.out | refine below_set ?_ GE310.out | refine below_set ?_ GE312.out) | exact HB.out)⟩
   }
   }
   {
   rw [if_neg c50] at H
   have c50b0 := beq_eq_false_iff_ne.mpr c50
   have c50b1 := bne_iff_ne.mpr c50
   replace H := Option.bind_eq_some_iff.mp H
   obtain ⟨⟨t327, t330⟩, A830, H⟩ := H
   replace H : (if t330 = 0 then (spec_l6Each.l0 k1 l1 a2 (wrap64 (x9_1 + 1)) l0_0 t327) else ((spec_l5Copy.f k1 l0_0).bind fun t331 => (some (t331, false)))) = some (r1, r2) := H
   have A83 := aM A830
   clear A830
   by_cases c84 : t330 = 0
   {
   rw [if_pos c84] at H
   have c84b0 := beq_iff_eq.mpr c84
   have c84b1 := bne_eq_false_iff_eq.mpr c84
   clear c84
   have H' := aM H
   clear H
   have p311 : 0 ≤ (x9_1 : Int) := of_decide_eq_true qz3
   have q311 : x9_1 < (l1.length : Int) := of_decide_eq_true qz3
   obtain ⟨ad311, e311, hx311_0, hx311_1, hx311_2⟩ := at_T50 HR1.out x9_1 p311 q311
   cases e311
   replace hx311_0 := pw_cell_below HB.out hx311_0
   replace hx311_1 := pw_cell_below HB.out hx311_1
   replace hx311_2 := pw_cell_below HB.out hx311_2
   replace p311 := eq_true p311
   replace q311 := eq_true q311
   go_wp2_with (first | ((with_reducible refine gate_dst (N := 10) rfl ?_); refine bx_ 10 #[.int .i64 0, .int .i64 0, .int .i64 0] 50 ?_; intro gb312 hg w85 hbox hb; have n0_ := aM (Kd.S_below (rs_ HO_311000.out) hb); have n1_ := aM (blk_below (bk_ BK305.out) hb); have n2_ := aM (blk_below (bk_ BK306.out) hb); have n3_ := aM (blk_below (bk_ BK310.out) hb); have n4_ := aM (below_step qz7 hb); have n5_ := aM (hbox); have n6_ := aM ((by rw [hg]; exact (below_size qz7) : w.heap.size ≤ gb312)); have n7_ := aM ((by rw [hg]; exact (below_size qz7) : w.heap.size ≤ gb312)); have n8_ := aM ((by rw [hg]; exact Nat.ne_of_lt (blk_lt (bk_ BK305.out)) : gb305 ≠ gb312)); have n9_ := aM ((by rw [hg]; exact Nat.ne_of_gt (blk_lt (bk_ BK305.out)) : gb312 ≠ gb305)); have n10_ := aM ((by rw [hg]; exact Nat.ne_of_lt (blk_lt (bk_ BK306.out)) : gb306 ≠ gb312)); have n11_ := aM ((by rw [hg]; exact Nat.ne_of_gt (blk_lt (bk_ BK306.out)) : gb312 ≠ gb306)); have n12_ := aM ((by rw [hg]; exact Nat.ne_of_lt (blk_lt (bk_ BK310.out)) : gb310 ≠ gb312)); have n13_ := aM ((by rw [hg]; exact Nat.ne_of_gt (blk_lt (bk_ BK310.out)) : gb312 ≠ gb310)); clear HO_311000 BK305 BK306 BK310 HB; have HO_311000 := n0_; have BK305 := n1_; have BK306 := n2_; have BK310 := n3_; have HB := n4_; have BK312 := n5_; have GW312 := n6_; have GE312 := n7_; have NB305_312 := n8_; have NB312_305 := n9_; have NB306_312 := n10_; have NB312_306 := n11_; have NB310_312 := n12_; have NB312_310 := n13_; clear n0_ n1_ n2_ n3_ n4_ n5_ n6_ n7_ n8_ n9_ n10_ n11_ n12_ n13_; clear hb hbox hg; have hnb86 := NB312_305.out; have hnc86 := NB305_312.out; have hnb87 := NB312_306.out; have hnc87 := NB306_312.out; have hnb88 := NB312_310.out; have hnc88 := NB310_312.out; obtain ⟨hcz89_0, hcz89_1, hcz89_2, hfz89_0, hfz89_1, hfz89_2⟩ := b6_ BK312.out; have hnb90 := NB310_305.out; have hnc90 := NB305_310.out; have hnb91 := NB310_306.out; have hnc91 := NB306_310.out; have hcz92_0 := bc0_ BK310.out; have hfz92_0 := blk_frozen BK310.out 0; obtain ⟨Ao93, co93, eo93⟩ := Kd.S_slice HO_311000.out; subst eo93) | ((with_reducible refine gate_callee (f := 28) rfl ?_); refine goesL_ (some 33) rfl rfl Try.func28 (by kernel_rfl) rfl #[.agg #[.slice Ao93 x311000_1.length co93], .int .i64 ((rd_T50 l1 x9_1).f0), .int .i64 ((rd_T50 l1 x9_1).f1), .int .i64 ((rd_T50 l1 x9_1).f2)] rfl qz2 ?_; (with_reducible refine (spec_TakeOut.calls k1 _ _ x311000_1 ((rd_T50 l1 x9_1).f0) ((rd_T50 l1 x9_1).f1) ((rd_T50 l1 x9_1).f2) t327 t330 _ ?side1 ?side2 A83.out).mono ?_); (case side1 => refine (Kd.S_reads' (e := 79) (base := w.heap.size) (ok := fun k_ => True) (n := x311000_1.length) (c := co93) ?_).2.2; exact (by (with_reducible repeat (first | apply Kd.S_alloc | apply Kd.S_drewN | apply Kd.S_drew)); exact (Kd.S_mono (Kd.S_far (p := ⟨gb312, 2, none⟩) (Kd.S_far (p := ⟨gb312, 1, none⟩) (Kd.S_far (p := ⟨gb312, 0, none⟩) (Kd.S_types HO_311000.out BK312.out (by decide)) (fun _ hk => hk.2) (.int .i64 ((rd_T50 l1 x9_1).f0))) (fun _ hk => hk.2) (.int .i64 ((rd_T50 l1 x9_1).f1))) (fun _ hk => hk.2) (.int .i64 ((rd_T50 l1 x9_1).f2))) (fun _ h_ => h_.1)))); (case side2 => exact (Kd.S_reads' HO_311000.out).2.1); rintro e w94 ⟨v328, rfl, ho0, hb⟩; refine ⟨_, rfl, ?_⟩; have n0_ := aM (Kd.S_elder' (by (with_reducible repeat (first | apply Kd.S_alloc | apply Kd.S_drewN | apply Kd.S_drew)); exact (Kd.S_mono (Kd.S_far (p := ⟨gb312, 2, none⟩) (Kd.S_far (p := ⟨gb312, 1, none⟩) (Kd.S_far (p := ⟨gb312, 0, none⟩) (Kd.S_types HO_311000.out BK312.out (by decide)) (fun _ hk => hk.2) (.int .i64 ((rd_T50 l1 x9_1).f0))) (fun _ hk => hk.2) (.int .i64 ((rd_T50 l1 x9_1).f1))) (fun _ hk => hk.2) (.int .i64 ((rd_T50 l1 x9_1).f2))) (fun _ h_ => h_.1))) (Kd.S_base ho0) hb); have n1_ := aM (Kd.S_lower (Kd.S_new' ho0 (Kd.S_lt (by (with_reducible repeat (first | apply Kd.S_alloc | apply Kd.S_drewN | apply Kd.S_drew)); exact (Kd.S_mono (Kd.S_far (p := ⟨gb312, 2, none⟩) (Kd.S_far (p := ⟨gb312, 1, none⟩) (Kd.S_far (p := ⟨gb312, 0, none⟩) (Kd.S_types HO_311000.out BK312.out (by decide)) (fun _ hk => hk.2) (.int .i64 ((rd_T50 l1 x9_1).f0))) (fun _ hk => hk.2) (.int .i64 ((rd_T50 l1 x9_1).f1))) (fun _ hk => hk.2) (.int .i64 ((rd_T50 l1 x9_1).f2))) (fun _ h_ => h_.1))))) (below_size qz5)); have n2_ := aM (blk_below (g := gb305) (o := .cells #[.slice A0_0 l0_0.length c0_0] 26 (0, 0)) qz10 hb); have n3_ := aM (blk_below (g := gb306) (o := .cells #[.slice none 0 0] 26 (0, 0)) qz11 hb); have n4_ := aM (blk_below (g := gb310) (o := .cells #[.slice Ao93 x311000_1.length co93] 26 (0, 0)) qz12 hb); have n5_ := aM (blk_below (g := gb312) (o := .cells #[.int .i64 ((rd_T50 l1 x9_1).f0), .int .i64 ((rd_T50 l1 x9_1).f1), .int .i64 ((rd_T50 l1 x9_1).f2)] 50 (0, 0)) (by (with_reducible repeat (first | refine blk_drewN ?_ _ | refine blk_drew ?_ | refine blk_alloc ?_ _)); refine blk_put (cs := #[.int .i64 ((rd_T50 l1 x9_1).f0), .int .i64 ((rd_T50 l1 x9_1).f1), .int .i64 0]) ?_ 2 _ rfl; (with_reducible repeat (first | refine blk_drewN ?_ _ | refine blk_drew ?_ | refine blk_alloc ?_ _)); refine blk_put (cs := #[.int .i64 ((rd_T50 l1 x9_1).f0), .int .i64 0, .int .i64 0]) ?_ 1 _ rfl; (with_reducible repeat (first | refine blk_drewN ?_ _ | refine blk_drew ?_ | refine blk_alloc ?_ _)); refine blk_put (cs := #[.int .i64 0, .int .i64 0, .int .i64 0]) ?_ 0 _ rfl; exact bk_ BK312.out) hb); have n6_ := aM (below_step qz5 hb); clear HO_311000 BK305 BK306 BK310 BK312 HB; have HO_311000 := n0_; have HO329 := n1_; have BK305 := n2_; have BK306 := n3_; have BK310 := n4_; have BK312 := n5_; have HB := n6_; clear n0_ n1_ n2_ n3_ n4_ n5_ n6_; (try clear hb); (try clear hb2); (try clear hk); (try clear hi); (try clear ho0); obtain ⟨Ao95, co95, eo95⟩ := Kd.S_slice HO329.out; subst eo95; have hcz96_0 := bc0_ BK310.out; have hfz96_0 := blk_frozen BK310.out 0))
   go_roundg k1
   case measure => have := HK1.out; omega
   case rel => exact ⟨(wrap64 (x9_1 + 1)), (t327), (.slice Ao95 t327.length co95), qz6, H', ⟨by have := HK1.out; omega⟩, ⟨by (with_reducible repeat (first | apply Kd.S_alloc | apply Kd.S_drewN | apply Kd.S_drew)); exact Kd.S_mono (Kd.S_far (p := ⟨gb310, 0, none⟩) (Kd.S_types HO329.out BK310.out (by decide)) (fun _ hk => hk.2) (.slice Ao95 t327.length co95)) (fun _ hk => trivial)⟩, ⟨by (with_reducible repeat (first | refine blk_drewN ?_ _ | refine blk_drew ?_ | refine blk_alloc ?_ _)); refine blk_far ?_ NB305_310.out _; exact bk_ BK305.out⟩, ⟨by (with_reducible repeat (first | refine blk_drewN ?_ _ | refine blk_drew ?_ | refine blk_alloc ?_ _)); refine blk_far ?_ NB306_310.out _; exact bk_ BK306.out⟩, ⟨by (with_reducible repeat (first | refine blk_drewN ?_ _ | refine blk_drew ?_ | refine blk_alloc ?_ _)); refine blk_put (cs := #[.slice Ao93 x311000_1.length co93]) ?_ 0 _ rfl; exact bk_ BK310.out⟩, ⟨by repeat (first | (with_reducible first | exact HB.out | apply below_alloc | apply pw_below_drewN | apply below_drew1 | refine below_set ?_ GE305.out | refine below_set ?_ GE306.out | refine below_set ?_ GE310.out | refine below_set ?_ GE312.out) | exact HB.out)⟩⟩
   }
   {
   rw [if_neg c84] at H
   have c84b0 := beq_eq_false_iff_ne.mpr c84
   have c84b1 := bne_iff_ne.mpr c84
   replace H := Option.bind_eq_some_iff.mp H
   obtain ⟨t331, A970, H⟩ := H
   replace H : (some (t331, false)) = some (r1, r2) := H
   have A97 := aM A970
   clear A970
   simp only [Option.some.injEq, Prod.mk.injEq] at H
   obtain ⟨rfl, rfl⟩ := H
   have p311 : 0 ≤ (x9_1 : Int) := of_decide_eq_true qz3
   have q311 : x9_1 < (l1.length : Int) := of_decide_eq_true qz3
   obtain ⟨ad311, e311, hx311_0, hx311_1, hx311_2⟩ := at_T50 HR1.out x9_1 p311 q311
   cases e311
   replace hx311_0 := pw_cell_below HB.out hx311_0
   replace hx311_1 := pw_cell_below HB.out hx311_1
   replace hx311_2 := pw_cell_below HB.out hx311_2
   replace p311 := eq_true p311
   replace q311 := eq_true q311
   go_wp2_with (first | ((with_reducible refine gate_dst (N := 10) rfl ?_); refine bx_ 10 #[.int .i64 0, .int .i64 0, .int .i64 0] 50 ?_; intro gb312 hg w98 hbox hb; have n0_ := aM (Kd.S_below (rs_ HO_311000.out) hb); have n1_ := aM (blk_below (bk_ BK305.out) hb); have n2_ := aM (blk_below (bk_ BK306.out) hb); have n3_ := aM (blk_below (bk_ BK310.out) hb); have n4_ := aM (below_step qz7 hb); have n5_ := aM (hbox); have n6_ := aM ((by rw [hg]; exact (below_size qz7) : w.heap.size ≤ gb312)); have n7_ := aM ((by rw [hg]; exact (below_size qz7) : w.heap.size ≤ gb312)); have n8_ := aM ((by rw [hg]; exact Nat.ne_of_lt (blk_lt (bk_ BK305.out)) : gb305 ≠ gb312)); have n9_ := aM ((by rw [hg]; exact Nat.ne_of_gt (blk_lt (bk_ BK305.out)) : gb312 ≠ gb305)); have n10_ := aM ((by rw [hg]; exact Nat.ne_of_lt (blk_lt (bk_ BK306.out)) : gb306 ≠ gb312)); have n11_ := aM ((by rw [hg]; exact Nat.ne_of_gt (blk_lt (bk_ BK306.out)) : gb312 ≠ gb306)); have n12_ := aM ((by rw [hg]; exact Nat.ne_of_lt (blk_lt (bk_ BK310.out)) : gb310 ≠ gb312)); have n13_ := aM ((by rw [hg]; exact Nat.ne_of_gt (blk_lt (bk_ BK310.out)) : gb312 ≠ gb310)); clear HO_311000 BK305 BK306 BK310 HB; have HO_311000 := n0_; have BK305 := n1_; have BK306 := n2_; have BK310 := n3_; have HB := n4_; have BK312 := n5_; have GW312 := n6_; have GE312 := n7_; have NB305_312 := n8_; have NB312_305 := n9_; have NB306_312 := n10_; have NB312_306 := n11_; have NB310_312 := n12_; have NB312_310 := n13_; clear n0_ n1_ n2_ n3_ n4_ n5_ n6_ n7_ n8_ n9_ n10_ n11_ n12_ n13_; clear hb hbox hg; have hnb99 := NB312_305.out; have hnc99 := NB305_312.out; have hnb100 := NB312_306.out; have hnc100 := NB306_312.out; have hnb101 := NB312_310.out; have hnc101 := NB310_312.out; obtain ⟨hcz102_0, hcz102_1, hcz102_2, hfz102_0, hfz102_1, hfz102_2⟩ := b6_ BK312.out; have hnb103 := NB310_305.out; have hnc103 := NB305_310.out; have hnb104 := NB310_306.out; have hnc104 := NB306_310.out; have hcz105_0 := bc0_ BK310.out; have hfz105_0 := blk_frozen BK310.out 0; obtain ⟨Ao106, co106, eo106⟩ := Kd.S_slice HO_311000.out; subst eo106) | ((with_reducible refine gate_callee (f := 28) rfl ?_); refine goesL_ (some 33) rfl rfl Try.func28 (by kernel_rfl) rfl #[.agg #[.slice Ao106 x311000_1.length co106], .int .i64 ((rd_T50 l1 x9_1).f0), .int .i64 ((rd_T50 l1 x9_1).f1), .int .i64 ((rd_T50 l1 x9_1).f2)] rfl qz2 ?_; (with_reducible refine (spec_TakeOut.calls k1 _ _ x311000_1 ((rd_T50 l1 x9_1).f0) ((rd_T50 l1 x9_1).f1) ((rd_T50 l1 x9_1).f2) t327 t330 _ ?side1 ?side2 A83.out).mono ?_); (case side1 => refine (Kd.S_reads' (e := 79) (base := w.heap.size) (ok := fun k_ => True) (n := x311000_1.length) (c := co106) ?_).2.2; exact (by (with_reducible repeat (first | apply Kd.S_alloc | apply Kd.S_drewN | apply Kd.S_drew)); exact (Kd.S_mono (Kd.S_far (p := ⟨gb312, 2, none⟩) (Kd.S_far (p := ⟨gb312, 1, none⟩) (Kd.S_far (p := ⟨gb312, 0, none⟩) (Kd.S_types HO_311000.out BK312.out (by decide)) (fun _ hk => hk.2) (.int .i64 ((rd_T50 l1 x9_1).f0))) (fun _ hk => hk.2) (.int .i64 ((rd_T50 l1 x9_1).f1))) (fun _ hk => hk.2) (.int .i64 ((rd_T50 l1 x9_1).f2))) (fun _ h_ => h_.1)))); (case side2 => exact (Kd.S_reads' HO_311000.out).2.1); rintro e w107 ⟨v328, rfl, ho0, hb⟩; refine ⟨_, rfl, ?_⟩; have n0_ := aM (Kd.S_elder' (by (with_reducible repeat (first | apply Kd.S_alloc | apply Kd.S_drewN | apply Kd.S_drew)); exact (Kd.S_mono (Kd.S_far (p := ⟨gb312, 2, none⟩) (Kd.S_far (p := ⟨gb312, 1, none⟩) (Kd.S_far (p := ⟨gb312, 0, none⟩) (Kd.S_types HO_311000.out BK312.out (by decide)) (fun _ hk => hk.2) (.int .i64 ((rd_T50 l1 x9_1).f0))) (fun _ hk => hk.2) (.int .i64 ((rd_T50 l1 x9_1).f1))) (fun _ hk => hk.2) (.int .i64 ((rd_T50 l1 x9_1).f2))) (fun _ h_ => h_.1))) (Kd.S_base ho0) hb); have n1_ := aM (Kd.S_lower (Kd.S_new' ho0 (Kd.S_lt (by (with_reducible repeat (first | apply Kd.S_alloc | apply Kd.S_drewN | apply Kd.S_drew)); exact (Kd.S_mono (Kd.S_far (p := ⟨gb312, 2, none⟩) (Kd.S_far (p := ⟨gb312, 1, none⟩) (Kd.S_far (p := ⟨gb312, 0, none⟩) (Kd.S_types HO_311000.out BK312.out (by decide)) (fun _ hk => hk.2) (.int .i64 ((rd_T50 l1 x9_1).f0))) (fun _ hk => hk.2) (.int .i64 ((rd_T50 l1 x9_1).f1))) (fun _ hk => hk.2) (.int .i64 ((rd_T50 l1 x9_1).f2))) (fun _ h_ => h_.1))))) (below_size qz5)); have n2_ := aM (blk_below (g := gb305) (o := .cells #[.slice A0_0 l0_0.length c0_0] 26 (0, 0)) qz10 hb); have n3_ := aM (blk_below (g := gb306) (o := .cells #[.slice none 0 0] 26 (0, 0)) qz11 hb); have n4_ := aM (blk_below (g := gb310) (o := .cells #[.slice Ao106 x311000_1.length co106] 26 (0, 0)) qz12 hb); have n5_ := aM (blk_below (g := gb312) (o := .cells #[.int .i64 ((rd_T50 l1 x9_1).f0), .int .i64 ((rd_T50 l1 x9_1).f1), .int .i64 ((rd_T50 l1 x9_1).f2)] 50 (0, 0)) (by (with_reducible repeat (first | refine blk_drewN ?_ _ | refine blk_drew ?_ | refine blk_alloc ?_ _)); refine blk_put (cs := #[.int .i64 ((rd_T50 l1 x9_1).f0), .int .i64 ((rd_T50 l1 x9_1).f1), .int .i64 0]) ?_ 2 _ rfl; (with_reducible repeat (first | refine blk_drewN ?_ _ | refine blk_drew ?_ | refine blk_alloc ?_ _)); refine blk_put (cs := #[.int .i64 ((rd_T50 l1 x9_1).f0), .int .i64 0, .int .i64 0]) ?_ 1 _ rfl; (with_reducible repeat (first | refine blk_drewN ?_ _ | refine blk_drew ?_ | refine blk_alloc ?_ _)); refine blk_put (cs := #[.int .i64 0, .int .i64 0, .int .i64 0]) ?_ 0 _ rfl; exact bk_ BK312.out) hb); have n6_ := aM (below_step qz5 hb); clear HO_311000 BK305 BK306 BK310 BK312 HB; have HO_311000 := n0_; have HO329 := n1_; have BK305 := n2_; have BK306 := n3_; have BK310 := n4_; have BK312 := n5_; have HB := n6_; clear n0_ n1_ n2_ n3_ n4_ n5_ n6_; (try clear hb); (try clear hb2); (try clear hk); (try clear hi); (try clear ho0); obtain ⟨Ao108, co108, eo108⟩ := Kd.S_slice HO329.out; subst eo108; have hcz109_0 := bc0_ BK310.out; have hfz109_0 := blk_frozen BK310.out 0; have hnb110 := NB305_306.out; have hnc110 := NB306_305.out; have hcz111_0 := bc0_ BK305.out; have hfz111_0 := blk_frozen BK305.out 0) | ((with_reducible refine gate_callee (f := 62) rfl ?_); refine goesL_ (some 65) rfl rfl Try.func62 (by kernel_rfl) rfl #[.agg #[.slice A0_0 l0_0.length c0_0]] rfl qz2 ?_; (with_reducible refine (spec_l5Copy.calls k1 _ _ l0_0 t331 _ ?side1 ?side2 A97.out).mono ?_); (case side1 => exact Kd.C_below HR0_0.out qz5); (case side2 => exact HC0_0.out); rintro e w112 ⟨v332, rfl, ho0, hb⟩; refine ⟨_, rfl, ?_⟩; have n0_ := aM (Kd.S_elder' (by (with_reducible repeat (first | apply Kd.S_alloc | apply Kd.S_drewN | apply Kd.S_drew)); exact (Kd.S_mono (Kd.S_far (p := ⟨gb310, 0, none⟩) (Kd.S_types HO_311000.out BK310.out (by decide)) (fun _ hk => hk.2) (.slice Ao108 t327.length co108)) (fun _ h_ => h_.1))) (Kd.S_base ho0) hb); have n1_ := aM (Kd.S_elder' (by (with_reducible repeat (first | apply Kd.S_alloc | apply Kd.S_drewN | apply Kd.S_drew)); exact (Kd.S_mono (Kd.S_far (p := ⟨gb310, 0, none⟩) (Kd.S_types HO329.out BK310.out (by decide)) (fun _ hk => hk.2) (.slice Ao108 t327.length co108)) (fun _ h_ => h_.1))) (Kd.S_base ho0) hb); have n2_ := aM (Kd.S_lower (Kd.S_new' (Kd.S_new' ho0 (Kd.S_lt (by (with_reducible repeat (first | apply Kd.S_alloc | apply Kd.S_drewN | apply Kd.S_drew)); exact (Kd.S_mono (Kd.S_far (p := ⟨gb310, 0, none⟩) (Kd.S_types HO_311000.out BK310.out (by decide)) (fun _ hk => hk.2) (.slice Ao108 t327.length co108)) (fun _ h_ => h_.1))))) (Kd.S_lt (by (with_reducible repeat (first | apply Kd.S_alloc | apply Kd.S_drewN | apply Kd.S_drew)); exact (Kd.S_mono (Kd.S_far (p := ⟨gb310, 0, none⟩) (Kd.S_types HO329.out BK310.out (by decide)) (fun _ hk => hk.2) (.slice Ao108 t327.length co108)) (fun _ h_ => h_.1))))) (below_size qz5)); have n3_ := aM (blk_below (g := gb305) (o := .cells #[.slice A0_0 l0_0.length c0_0] 26 (0, 0)) qz60 hb); have n4_ := aM (blk_below (g := gb306) (o := .cells #[.slice none 0 0] 26 (0, 0)) qz61 hb); have n5_ := aM (blk_below (g := gb310) (o := .cells #[.slice Ao108 t327.length co108] 26 (0, 0)) (by (with_reducible repeat (first | refine blk_drewN ?_ _ | refine blk_drew ?_ | refine blk_alloc ?_ _)); refine blk_put (cs := #[.slice Ao106 x311000_1.length co106]) ?_ 0 _ rfl; exact bk_ BK310.out) hb); have n6_ := aM (blk_below (g := gb312) (o := .cells #[.int .i64 ((rd_T50 l1 x9_1).f0), .int .i64 ((rd_T50 l1 x9_1).f1), .int .i64 ((rd_T50 l1 x9_1).f2)] 50 (0, 0)) qz62 hb); have n7_ := aM (below_step qz5 hb); clear HO_311000 HO329 BK305 BK306 BK310 BK312 HB; have HO_311000 := n0_; have HO329 := n1_; have HO333 := n2_; have BK305 := n3_; have BK306 := n4_; have BK310 := n5_; have BK312 := n6_; have HB := n7_; clear n0_ n1_ n2_ n3_ n4_ n5_ n6_ n7_; (try clear hb); (try clear hb2); (try clear hk); (try clear hi); (try clear ho0); obtain ⟨Ao113, co113, eo113⟩ := Kd.S_slice HO333.out; subst eo113; have hcz114_0 := bc0_ BK306.out; have hfz114_0 := blk_frozen BK306.out 0))
   refine bodyPost_ret (results_ct rfl _ _ gb306 26 #[.slice Ao113 t331.length co113] (0, 0) _ rfl (by (with_reducible repeat (first | refine blk_drewN ?_ _ | refine blk_drew ?_ | refine blk_alloc ?_ _)); refine blk_put (cs := #[.slice none 0 0]) ?_ 0 _ rfl; exact bk_ BK306.out) Try.underlying26 rfl (by kernel_rfl)) rfl ?_
   exact ⟨_, by first | rfl | (simp [errW_none, errW_some] <;> rfl) | (simp [*, errW_none, errW_some] <;> rfl), by (with_reducible repeat (first | apply Kd.S_alloc | apply Kd.S_drewN | apply Kd.S_drew)); exact Kd.S_mono (Kd.S_far (p := ⟨gb306, 0, none⟩) (Kd.S_types HO333.out BK306.out (by decide)) (fun _ hk => hk.2) (.slice Ao113 t331.length co113)) (fun _ hk => trivial), by repeat (first | (with_reducible first | exact HB.out | apply below_alloc | apply pw_below_drewN | apply below_drew1 | refine below_set ?_ GE305.out | refine below_set ?_ GE306.out | refine below_set ?_ GE310.out | refine below_set ?_ GE312.out) | exact HB.out)⟩
   }
   }
   }
   }
   {
   rw [if_neg c16] at H
   exact absurd H (by simp)
   }
   }
   {
   rw [if_neg c15] at H
   have c15b0 := decide_eq_false c15
   clear c15
   simp only [Option.some.injEq, Prod.mk.injEq] at H
   obtain ⟨rfl, rfl⟩ := H
   have hnb115 := NB310_305.out
   have hnc115 := NB305_310.out
   have hnb116 := NB310_306.out
   have hnc116 := NB306_310.out
   have hcz117_0 := bc0_ BK310.out
   have hfz117_0 := blk_frozen BK310.out 0
   obtain ⟨Ao118, co118, eo118⟩ := Kd.S_slice HO_311000.out
   subst eo118
   have hnb119 := NB306_305.out
   have hnc119 := NB305_306.out
   have hcz120_0 := bc0_ BK306.out
   have hfz120_0 := blk_frozen BK306.out 0
   go_wp2
   refine bodyPost_ret (results_ct rfl _ _ gb306 26 #[.slice Ao118 x311000_1.length co118] (0, 0) _ rfl (by (with_reducible repeat (first | refine blk_drewN ?_ _ | refine blk_drew ?_ | refine blk_alloc ?_ _)); refine blk_put (cs := #[.slice none 0 0]) ?_ 0 _ rfl; exact bk_ BK306.out) Try.underlying26 rfl (by kernel_rfl)) rfl ?_
   exact ⟨_, by first | rfl | (simp [errW_none, errW_some] <;> rfl) | (simp [*, errW_none, errW_some] <;> rfl), by (with_reducible repeat (first | apply Kd.S_alloc | apply Kd.S_drewN | apply Kd.S_drew)); exact Kd.S_mono (Kd.S_far (p := ⟨gb306, 0, none⟩) (Kd.S_types HO_311000.out BK306.out (by decide)) (fun _ hk => hk.2) (.slice Ao118 x311000_1.length co118)) (fun _ hk => trivial), by repeat (first | (with_reducible first | exact HB.out | apply below_alloc | apply pw_below_drewN | apply below_drew1 | refine below_set ?_ GE305.out | refine below_set ?_ GE306.out | refine below_set ?_ GE310.out) | exact HB.out)⟩

   }
/-! ### spec_TakeAll: function 52 -/
def spec_TakeAll.f (k : Nat) (l0_0 : List (S79)) (l1 : List (S50)) : Option ((List (S79)) × Bool) := (spec_l6Each.f k l0_0 l1 3).bind fun bt336 => (some (bt336.1, bt336.2))
theorem spec_TakeAll.mono : ∀ a0 a1 k, LeO (spec_TakeAll.f k a0 a1) (spec_TakeAll.f (k + 1) a0 a1) := by
 intro a0 a1 k
 unfold spec_TakeAll.f
 repeat' first
  | (with_reducible first | exact spec_l6Each.mono _ _ _ _ | exact LeO.refl _ | exact LeO.none _ | refine LeO.ite ?_ ?_ | refine LeO.bind ?_ (fun _ => ?_))
  | exact spec_l6Each.mono _ _ _ _
  | exact LeO.none _
  | refine LeO.ite ?_ ?_
  | refine LeO.bind ?_ (fun _ => ?_)
set_option maxHeartbeats 8000000 in
set_option maxRecDepth 100000 in
theorem spec_TakeAll.calls (k : Nat) (A0_0 : Option Addr) (c0_0 : Nat) (l0_0 : List (S79)) (A1 : Option Addr) (c1 : Nat) (l1 : List (S50)) (r1 : List (S79)) (r2 : Bool) (w : World) (hr0_0 : Kd.C k79 w A0_0 l0_0.length l0_0) (hc0_0 : l0_0.length ≤ c0_0) (hr1 : Kd.C k50 w A1 l1.length l1) (hc1 : l1.length ≤ c1) (h : spec_TakeAll.f k l0_0 l1 = some (r1, r2)) :
  Calls Try.prog 52 #[.agg #[.slice A0_0 l0_0.length c0_0], .slice A1 l1.length c1] w fun e w' => ∃ v0_ : Value, e = .returned (.tuple #[.agg #[v0_], .bool r2]) ∧ Kd.S k79 79 w' w.heap.size (fun _ => True) v0_ r1 ∧ Below w.heap.size w w' := by
 have hu26 := Try.underlying26
 have HR0_0 := aM hr0_0
 have HC0_0 := aM hc0_0
 clear hr0_0 hc0_0
 have HR1 := aM hr1
 have HC1 := aM hc1
 clear hr1 hc1
 have HB := aM (Below.refl w.heap.size w)
 have H : ((spec_l6Each.f k l0_0 l1 3).bind fun bt336 => (some (bt336.1, bt336.2))) = some (r1, r2) := h
 clear h
 replace H := Option.bind_eq_some_iff.mp H
 obtain ⟨⟨t336, t339⟩, A30, H⟩ := H
 replace H : (some (t336, t339)) = some (r1, r2) := H
 have A3 := aM A30
 clear A30
 simp only [Option.some.injEq, Prod.mk.injEq] at H
 obtain ⟨rfl, rfl⟩ := H
 go_enter Try.func52, Try.ntmps52
 go_wp2_with (first | ((with_reducible refine gate_dst (N := 2) rfl ?_); refine bx_ 2 #[.slice A0_0 l0_0.length c0_0] 26 ?_; intro gb334 hg w4 hbox hb; have n0_ := aM (below_step qz1 hb); have n1_ := aM (hbox); have n2_ := aM ((by rw [hg]; exact (below_size qz1) : w.heap.size ≤ gb334)); have n3_ := aM ((by rw [hg]; exact (below_size qz1) : w.heap.size ≤ gb334)); clear HB; have HB := n0_; have BK334 := n1_; have GW334 := n2_; have GE334 := n3_; clear n0_ n1_ n2_ n3_; clear hb hbox hg) | ((with_reducible refine gate_dst (N := 4) rfl ?_); refine bx_ 4 #[.slice none 0 0] 26 ?_; intro gb335 hg w5 hbox hb; have n0_ := aM (blk_below (bk_ BK334.out) hb); have n1_ := aM (below_step qz46 hb); have n2_ := aM (hbox); have n3_ := aM ((by rw [hg]; exact (below_size qz46) : w.heap.size ≤ gb335)); have n4_ := aM ((by rw [hg]; exact (below_size qz46) : w.heap.size ≤ gb335)); have n5_ := aM ((by rw [hg]; exact Nat.ne_of_lt (blk_lt (bk_ BK334.out)) : gb334 ≠ gb335)); have n6_ := aM ((by rw [hg]; exact Nat.ne_of_gt (blk_lt (bk_ BK334.out)) : gb335 ≠ gb334)); clear BK334 HB; have BK334 := n0_; have HB := n1_; have BK335 := n2_; have GW335 := n3_; have GE335 := n4_; have NB334_335 := n5_; have NB335_334 := n6_; clear n0_ n1_ n2_ n3_ n4_ n5_ n6_; clear hb hbox hg; have hnb6 := NB334_335.out; have hnc6 := NB335_334.out; have hcz7_0 := bc0_ BK334.out; have hfz7_0 := blk_frozen BK334.out 0) | ((with_reducible refine gate_callee (f := 86) rfl ?_); refine goesL_ (some 8) rfl rfl Try.func86 (by kernel_rfl) rfl #[.agg #[.slice A0_0 l0_0.length c0_0], .slice A1 l1.length c1, .int .i64 3] rfl qz2 ?_; (with_reducible refine (spec_l6Each.calls k _ _ l0_0 _ _ l1 3 t336 t339 _ ?side1 ?side2 ?side3 ?side4 A3.out).mono ?_); (case side1 => exact qz8); (case side2 => exact HC0_0.out); (case side3 => repeat (first | exact (Kd.C_below HR1.out HB.out) | (with_reducible refine Kd.C_alloc ?_ _) | (with_reducible refine Kd.C_drewN ?_ _) | (with_reducible refine Kd.C_drew ?_))); (case side4 => exact HC1.out); rintro e w8 ⟨v337, rfl, ho0, hb⟩; refine ⟨_, rfl, ?_⟩; have n0_ := aM (Kd.S_lower ho0 (below_size qz66)); have n1_ := aM (blk_below (bk_ BK334.out) hb); have n2_ := aM (blk_below (bk_ BK335.out) hb); have n3_ := aM (below_step qz66 hb); clear BK334 BK335 HB; have HO338 := n0_; have BK334 := n1_; have BK335 := n2_; have HB := n3_; clear n0_ n1_ n2_ n3_; (try clear hb); (try clear hb2); (try clear hk); (try clear hi); (try clear ho0); obtain ⟨Ao9, co9, eo9⟩ := Kd.S_slice HO338.out; subst eo9; have hcz10_0 := bc0_ BK335.out; have hfz10_0 := blk_frozen BK335.out 0))
 refine bodyPost_ret (results_ct rfl _ _ gb335 26 #[.slice Ao9 t336.length co9] (0, 0) _ rfl (by (with_reducible repeat (first | refine blk_drewN ?_ _ | refine blk_drew ?_ | refine blk_alloc ?_ _)); refine blk_put (cs := #[.slice none 0 0]) ?_ 0 _ rfl; exact bk_ BK335.out) Try.underlying26 rfl (by kernel_rfl)) rfl ?_
 exact ⟨_, by first | rfl | (simp [errW_none, errW_some] <;> rfl) | (simp [*, errW_none, errW_some] <;> rfl), by (with_reducible repeat (first | apply Kd.S_alloc | apply Kd.S_drewN | apply Kd.S_drew)); exact Kd.S_mono (Kd.S_far (p := ⟨gb335, 0, none⟩) (Kd.S_types HO338.out BK335.out (by decide)) (fun _ hk => hk.2) (.slice Ao9 t336.length co9)) (fun _ hk => trivial), by repeat (first | (with_reducible first | exact HB.out | apply below_alloc | apply pw_below_drewN | apply below_drew1 | refine below_set ?_ GE334.out | refine below_set ?_ GE335.out) | exact HB.out)⟩

end Go.Proofs.Yteajnkondkfmgaa.PFnExactTakeAll
