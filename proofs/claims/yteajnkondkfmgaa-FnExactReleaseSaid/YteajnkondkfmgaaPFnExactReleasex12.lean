-- Made by a program of this session out of the translation. Lean checks it.
import Derived.Test.YteajnkondkfmgaaPFnExactReleasex0
import Derived.Test.YteajnkondkfmgaaPFnExactReleasex4
import Derived.Test.YteajnkondkfmgaaPFnExactReleasex5
import Derived.Test.YteajnkondkfmgaaPFnExactReleasex7
import Derived.Test.YteajnkondkfmgaaPFnExactReleasex10
import Derived.Test.YteajnkondkfmgaaPFnExactReleasex11
namespace Go.Proofs.Yteajnkondkfmgaa.PFnExactRelease
open Go.RowKit Go.Proofs.YteajnkondkfmgaaW.PrintWords Go.Proofs.YteajnkondkfmgaaW.PrintLast Go.Proofs.YteajnkondkfmgaaW.PrintMore
attribute [local go_sem] max2_int min2_int max_two min_two max_three min_three max_four min_four   -- for this text's walks alone
set_option linter.unusedVariables false
set_option linter.unusedSimpArgs false

/-! ### spec_l5Put: function 63 -/
def spec_l5Put.f (k : Nat) (l : List S79) (a1 : Int) (a2_0 a2_1 a2_2 : Int) : Option (List S79) := (spec_l5Copy.f k l).bind fun o => (if 0 ≤ a1 then (if a1 < (o.length : Int) then ((spec_l5With.f k (rd_T79 o a1).f2 a2_0 a2_1 a2_2).bind fun y => some (o.set a1.toNat ⟨(rd_T79 o a1).f0, (rd_T79 o a1).f1, y⟩)) else none) else none)
theorem spec_l5Put.mono : ∀ a0 a1 a2 a3 a4 k, LeO (spec_l5Put.f k a0 a1 a2 a3 a4) (spec_l5Put.f (k + 1) a0 a1 a2 a3 a4) := by
  intro a0 a1 a2 a3 a4 k
  unfold spec_l5Put.f
  repeat' first
      | (with_reducible exact spec_l5Copy.mono _ _)
      | (with_reducible exact spec_l5With.mono _ _ _ _ _)
      | (with_reducible exact LeO.refl _)
      | (with_reducible exact LeO.none _)
      | (with_reducible refine LeO.ite ?_ ?_)
      | (with_reducible refine LeO.bind ?_ (fun _ => ?_))
def spec_l5Put.T2 : Bool × List (List Nat × List Nat) := (true, [([], []), ([0], [0]), ([], []), ([], []), ([3], [3]), ([], []), ([4, 5], [4, 5]), ([6], [6]), ([7], [7]), ([], []), ([8, 9], [8, 9]), ([1, 2, 0, 1, 2, 3, 4, 5, 6, 7, 8, 9, 10], [1, 2]), ([11, 0, 1, 2, 3, 4, 5, 6, 7, 8, 9, 10], [11]), ([12, 10, 10, 0, 1, 2, 3, 4, 5, 6, 7, 8, 9, 10], [10, 12])])
def spec_l5Put.B2 : List Nat := [0, 1, 0, 0, 8, 0, 56, 120, 248, 0, 1016, 2047, 4095, 8191]
theorem spec_l5Put.tab2 : rtab .any (opsOf Try.f63 2) = spec_l5Put.T2 := by kernel_rfl
theorem spec_l5Put.bits2 : waitsOk spec_l5Put.T2.2 spec_l5Put.B2 = true := by kernel_rfl
set_option maxHeartbeats 8000000 in
set_option maxRecDepth 100000 in
theorem spec_l5Put.calls (k : Nat) (A0_0 : Option Addr) (c0_0 : Nat) (l0_0 : List (S79)) (a1 : Int) (a2_0 : Int) (a2_1 : Int) (a2_2 : Int) (r : List (S79)) (w : World) (hr0_0 : Kd.C k79 w A0_0 l0_0.length l0_0) (hc0_0 : l0_0.length ≤ c0_0) (h : spec_l5Put.f k l0_0 a1 a2_0 a2_1 a2_2 = some r) :
    Calls Try.prog 63 #[.agg #[.slice A0_0 l0_0.length c0_0], .int .i64 a1, .agg #[.int .i64 a2_0, .int .i64 a2_1, .int .i64 a2_2]] w fun e w' => ∃ v0_ : Value, e = .returned (.agg #[v0_]) ∧ Kd.S k79 79 w' w.heap.size (fun _ => True) v0_ r ∧ Below w.heap.size w w' := by
  have hu26 := Try.underlying26
  have hu79 := Try.underlying79
  have hu72 := Try.underlying72
  have hu24 := Try.underlying24
  have hu77 := Try.underlying77
  unfold spec_l5Put.f at h
  obtain ⟨o, ho, h⟩ := Option.bind_eq_some_iff.mp h
  have ci0 : 0 ≤ a1 := Decidable.byContradiction fun hn => by rw [if_neg hn] at h; cases h
  have ci1 : a1 < (o.length : Int) := Decidable.byContradiction fun hn => by rw [if_pos ci0, if_neg hn] at h; cases h
  rw [if_pos ci0, if_pos ci1] at h
  obtain ⟨y, hy, h⟩ := Option.bind_eq_some_iff.mp h
  obtain rfl : _ = r := Option.some.inj h
  have Ho := Aside0.mk ho
  have Hy := Aside0.mk hy
  have HR := Aside0.mk hr0_0
  have HC := Aside0.mk hc0_0
  clear ho hy h hr0_0 hc0_0
  go_enter Try.func63, Try.ntmps63
  go_wp2_with (first
    | (go_at_call 62; refine (spec_l5Copy.calls k _ _ l0_0 o _ (Kd.C_alloc (Kd.C_alloc (Kd.C_alloc HR.out _) _) _) HC.out Ho.out).mono ?_; rintro e w1 ⟨v0, rfl, hS, hb⟩; obtain ⟨Ao, co, rfl⟩ := Kd.S_slice hS; have B5 := Aside0.mk (blk_below (blk_alloc (blk_new1 w (.cells #[.slice A0_0 l0_0.length c0_0] 26) (.cells #[.int .i64 a2_0, .int .i64 a2_1, .int .i64 a2_2] 72)) (.cells #[.slice none 0 0] 26)) hb); have B6 := Aside0.mk (blk_below (blk_new2 w (.cells #[.slice A0_0 l0_0.length c0_0] 26) (.cells #[.int .i64 a2_0, .int .i64 a2_1, .int .i64 a2_2] 72) (.cells #[.slice none 0 0] 26)) hb); have HB1 := Aside0.mk (below_step (below_alloc (below_alloc (below_alloc (Below.refl w.heap.size w) _) _) _) hb); have HS := Aside0.mk (show Kd.S k79 79 w1 (w.heap.size + 3) (fun k => k < w1.heap.size) (.slice Ao o.length co) o by refine Kd.S_mono (Kd.S_bound (ok := fun _ => True) ?_) (fun _ hk => hk.2.2.1); rw [show w.heap.size + 3 = (((w.alloc (.cells #[.slice A0_0 l0_0.length c0_0] 26)).alloc (.cells #[.int .i64 a2_0, .int .i64 a2_1, .int .i64 a2_2] 72)).alloc (.cells #[.slice none 0 0] 26)).heap.size by simp]; exact hS); have L6 := Aside0.mk (blk_lt B6.out); clear hb hS))
  have hS := Kd.S_alloc HS.out (.cells #[.slice Ao o.length co] 26)
  have B7 := blk_new w1 (.cells #[.slice Ao o.length co] 26)
  replace B5 := blk_alloc B5.out (.cells #[.slice Ao o.length co] 26)
  replace B6 := blk_alloc B6.out (.cells #[.slice Ao o.length co] 26)
  have HB2 := below_alloc HB1.out (.cells #[.slice Ao o.length co] 26)
  clear HS HB1
  generalize w1.alloc (.cells #[.slice Ao o.length co] 26) = w2 at hS B5 B6 B7 HB2 ⊢
  obtain ⟨g, oki, A2, c2, e, hgb, hgl, x0, x1, x2, f0, f1, f2, hR2, hoki, hn, hH⟩ := S79_at hS a1 ci0 ci1
  cases e
  clear x0 x1 f0 f1 f2 hoki hH
  have HRr := Aside0.mk (Kd.R_reads' hR2)
  have HGW := (Kd.S_R hS).1 g rfl
  have C7 : w2.cell? ⟨w1.heap.size, 0, none⟩ = some (.slice (some ⟨g, 0, none⟩) o.length co) := (blk_cell B7 0).trans rfl
  have C50 : w2.cell? ⟨w.heap.size + 1, 0, none⟩ = some (.int .i64 a2_0) := (blk_cell B5 0).trans rfl
  have C51 : w2.cell? ⟨w.heap.size + 1, 1, none⟩ = some (.int .i64 a2_1) := (blk_cell B5 1).trans rfl
  have C52 : w2.cell? ⟨w.heap.size + 1, 2, none⟩ = some (.int .i64 a2_2) := (blk_cell B5 2).trans rfl
  have p8 := eq_true ci0
  have q8 := eq_true ci1
  clear hR2
  refine start_ (n := 14) (S := fun w' => w'.cell? ⟨w1.heap.size, 0, none⟩ = some (.slice (some ⟨g, 0, none⟩) o.length co) ∧ w'.cell? ⟨w.heap.size + 1, 0, none⟩ = some (.int .i64 a2_0) ∧ w'.cell? ⟨w.heap.size + 1, 1, none⟩ = some (.int .i64 a2_1) ∧ w'.cell? ⟨w.heap.size + 1, 2, none⟩ = some (.int .i64 a2_2) ∧ w'.cell? ⟨g, a1.toNat * 3 + 2, none⟩ = some (.slice A2 (rd_T79 o a1).f2.length c2)) (ds := [13]) #[false, false, false, false, false, false, false, false, false, false, false, false, false, false] (by kernel_rfl) rfl rfl ⟨C7, C50, C51, C52, x2⟩ (fun hHeld => ?_); refine with_tabW spec_l5Put.tab2 spec_l5Put.bits2 (fun HT_ HW_ => ?_)
  refine pure_ (i := 0) (N := some 10) (v := ?_) (a' := ?_) (bqz 14 1) rfl rfl qza qzd (Or.inl ⟨by rfl, ?_⟩) ?_ ?_
  rotate_left
  {
  intro w'
  go_simp
  with_reducible rfl
  }
  rotate_left
  {
  simp only [qzs]
  rfl
  }
  refine pure_ (i := 2) (N := some 12) (v := ?_) (a' := ?_) (bqz 14 5) rfl rfl qza qzd (Or.inl ⟨by rfl, ?_⟩) ?_ ?_
  rotate_left
  {
  intro w'
  go_simp
  with_reducible rfl
  }
  rotate_left
  {
  simp only [qzs]
  rfl
  }
  refine pure_ (i := 3) (N := some 13) (v := ?_) (a' := ?_) (bqz 14 13) rfl rfl qza qzd (Or.inl ⟨by rfl, ?_⟩) ?_ ?_
  rotate_left
  {
  intro w'
  go_simp
  with_reducible rfl
  }
  rotate_left
  {
  simp only [qzs]
  rfl
  }
  refine pure_ (i := 5) (N := some 15) (v := ?_) (a' := ?_) (bqz 14 45) rfl rfl qza qzd (Or.inl ⟨by rfl, ?_⟩) ?_ ?_
  rotate_left
  {
  intro w'
  go_simp
  with_reducible rfl
  }
  rotate_left
  {
  simp only [qzs]
  rfl
  }
  refine take_ (i := 1) (N := some 11) (v := ?_) (a' := ?_) (bqz 14 47) rfl rfl qzb qzd (Or.inl ⟨by rfl, ?_⟩) hHeld ?_ ?_
  rotate_left
  {
  rintro w' ⟨s0, s1, s2, s3, s4⟩
  go_simp
  with_reducible rfl
  }
  rotate_left
  {
  simp only [qzs]
  rfl
  }
  refine take_ (i := 4) (N := some 14) (v := ?_) (a' := ?_) (bqz 14 63) rfl rfl qzb qzd (Or.inl ⟨by rfl, ?_⟩) hHeld ?_ ?_
  rotate_left
  {
  rintro w' ⟨s0, s1, s2, s3, s4⟩
  go_simp
  with_reducible rfl
  }
  rotate_left
  {
  simp only [qzs]
  rfl
  }
  refine pure_ (i := 6) (N := some 16) (v := ?_) (a' := ?_) (bqz 14 127) rfl rfl qza qzd (Or.inl ⟨by rfl, ?_⟩) ?_ ?_
  rotate_left
  {
  intro w'
  go_simp
  with_reducible rfl
  }
  rotate_left
  {
  simp only [qzs]
  rfl
  }
  refine pure_ (i := 7) (N := some 17) (v := ?_) (a' := ?_) (bqz 14 255) rfl rfl qza qzd (Or.inl ⟨by rfl, ?_⟩) ?_ ?_
  rotate_left
  {
  intro w'
  go_simp
  with_reducible rfl
  }
  rotate_left
  {
  simp only [qzs]
  rfl
  }
  refine take_ (i := 8) (N := some 18) (v := ?_) (a' := ?_) (bqz 14 511) rfl rfl qzb qzd (Or.inl ⟨by rfl, ?_⟩) hHeld ?_ ?_
  rotate_left
  {
  rintro w' ⟨s0, s1, s2, s3, s4⟩
  go_simp
  with_reducible rfl
  }
  rotate_left
  {
  simp only [qzs]
  rfl
  }
  refine take_ (i := 9) (N := some 19) (v := ?_) (a' := ?_) (bqz 14 1023) rfl rfl qzb qzd (Or.inl ⟨by rfl, ?_⟩) hHeld ?_ ?_
  rotate_left
  {
  rintro w' ⟨s0, s1, s2, s3, s4⟩
  go_simp
  with_reducible rfl
  }
  rotate_left
  {
  simp only [qzs]
  rfl
  }
  refine one_ (i := 10) (N := some 20) (bqz 14 2047) rfl rfl qzc (by decide) (fun K hK => ?_)
  refine goes_ Try.func95 (by kernel_rfl) rfl #[.slice A2 (rd_T79 o a1).f2.length c2, .agg #[.int .i64 a2_0, .int .i64 a2_1, .int .i64 a2_2]] (by rfl) rfl rfl (by (try simp only [List.map_toArray, List.map_cons, List.map_nil]); first | done | rfl) ?_
  refine (spec_l5With.calls k _ _ (rd_T79 o a1).f2 a2_0 a2_1 a2_2 y _ (Kd.C_drew HRr.out.2.2) HRr.out.2.1 Hy.out).mono ?_
  rintro e w3 ⟨v0, rfl, ho8, hb⟩; obtain ⟨A8, c8, rfl⟩ := Kd.R_slice ho8
  refine ⟨_, rfl, ?_⟩
  refine hK.out _ _ ⟨pw_cell_below hb hHeld.1, pw_cell_below hb hHeld.2.1, pw_cell_below hb hHeld.2.2.1, pw_cell_below hb hHeld.2.2.2.1, pw_cell_below hb hHeld.2.2.2.2⟩ (fun hHeld => ?_)
  clear hK K
  refine norm_ (a' := ?_) ?_ ?_
  rotate_left
  {
  show Act.put _ (some 20) _ = _
  simp only [qzs]
  rfl
  }
  refine pure_ (i := 11) (N := some 21) (v := ?_) (a' := ?_) (bqz 14 4095) rfl rfl qza qzd (Or.inl ⟨by rfl, ?_⟩) ?_ ?_
  rotate_left
  {
  intro w'
  go_simp
  with_reducible rfl
  }
  rotate_left
  {
  simp only [qzs]
  rfl
  }
  refine pure_ (i := 12) (N := some 22) (v := ?_) (a' := ?_) (bqz 14 8191) rfl rfl qza qzd (Or.inl ⟨by rfl, ?_⟩) ?_ ?_
  rotate_left
  {
  intro w'
  go_simp
  with_reducible rfl
  }
  rotate_left
  {
  simp only [qzs]
  rfl
  }
  have hbz : Below w2.heap.size w2 w3 := below_then (below_drew (Below.refl _ _)) (Nat.le_refl _) hb
  have hS8 := Kd.S_below (Kd.S_mono (Kd.S_bound hS) (ok' := fun k => k < w2.heap.size) (fun k hk => hk.2.2.1)) hbz
  obtain ⟨g', oki', A2', c2', e', hgb', hgl', q0, q1, q2, f0, f1, f2, -, -, -, -⟩ := S79_at hS8 a1 ci0 ci1
  injection e' with e'; injection e' with e'; subst e'
  clear q0 q1 f0 f1
  refine last_ (i := 13) (N := none) (bqz 14 16383) rfl rfl qzc (by decide) (fun K hK => ?_)
  refine skip_ (w1 := ?_) (by rfl) rfl ?_ ?_
  rotate_left
  {
  go_simp
  rfl
  }
  refine hK.out _ _ ?_
  clear hK K
  refine done_ (done_of HT_.out (by kernel_rfl)) ?_
  have hP := S79_row hS8 (fun k hk hlt => Nat.lt_irrefl _ (Nat.lt_of_lt_of_le hlt hk)) ho8 (show w.heap.size + 3 ≤ w2.heap.size by have := L6.out; have := hgl; omega) a1 ci0 ci1 hgl
  replace HB2 := below_step HB2 hbz
  replace B6 := blk_below B6 hbz
  replace C7 := pw_cell_below hbz C7
  have C6 : w3.cell? ⟨w.heap.size + 1 + 1, 0, none⟩ = some (.slice none 0 0) := (blk_cell B6 0).trans rfl
  have F6 := blk_frozen B6 0
  have hl6 := L6.out
  have n1 : g ≠ w.heap.size + 1 + 1 := by omega
  have n2 : w.heap.size + 1 + 1 ≠ g := by omega
  have n3 : g < w1.heap.size := HGW
  have n4 : g ≠ w1.heap.size := Nat.ne_of_lt n3
  have n5 : w1.heap.size ≠ g := Nat.ne_of_gt n3
  clear hHeld q2 x2 C50 C51 C52 hS hS8 HGW
  go_wp2
  refine bodyPost_ret (results_cell_row rfl _ _ (w.heap.size + 1 + 1) 26 #[.slice (some ⟨g, 0, none⟩) o.length co] (0, 0) _ rfl (blk_put (cs := #[.slice none 0 0]) (blk_far B6 n2 _) 0 _ rfl) Try.underlying26 rfl (by kernel_rfl)) rfl ?_
  exact ⟨_, rfl, Kd.S_mono (ok' := fun _ => True) (Kd.S_lower (S_box hP.1 (show w.heap.size + 1 + 1 < w.heap.size + 3 by omega) (.slice (some ⟨g, 0, none⟩) o.length co)) (show w.heap.size ≤ w.heap.size + 3 by omega)) (fun _ _ => trivial), below_set (below_set HB2 (by omega)) (by omega)⟩

/-! ### spec_Release: function 34 -/
def spec_Release.f (k : Nat) (l0_0 : List (S79)) (a1 : Int) (a2 : Int) (a3 : Int) : Option ((List (S79)) × Int) := (spec_l5Call.f k l0_0 a1 a2 a3).bind fun q => if q.2.2.2.2 = 0 then (if q.2.2.2.1 < a3 then ((spec_l5Copy.f k l0_0).bind fun t => some (t, 3)) else ((spec_l5Put.f k l0_0 q.1 q.2.1 q.2.2.1 (wrap64 (q.2.2.2.1 - a3))).bind fun t => some (t, 0))) else ((spec_l5Copy.f k l0_0).bind fun t => some (t, q.2.2.2.2))
theorem spec_Release.mono : ∀ a0 a1 a2 a3 k, LeO (spec_Release.f k a0 a1 a2 a3) (spec_Release.f (k + 1) a0 a1 a2 a3) := by
  intro a0 a1 a2 a3 k
  unfold spec_Release.f
  repeat' first
      | (with_reducible exact spec_l5Call.mono _ _ _ _ _)
      | (with_reducible exact spec_l5Copy.mono _ _)
      | (with_reducible exact spec_l5Put.mono _ _ _ _ _ _)
      | (with_reducible exact LeO.refl _)
      | (with_reducible exact LeO.none _)
      | (with_reducible refine LeO.ite ?_ ?_)
      | (with_reducible refine LeO.bind ?_ (fun _ => ?_))
set_option maxHeartbeats 8000000 in
set_option maxRecDepth 100000 in
theorem spec_Release.calls (k : Nat) (A0_0 : Option Addr) (c0_0 : Nat) (l0_0 : List (S79)) (a1 : Int) (a2 : Int) (a3 : Int) (r1 : List (S79)) (r2 : Int) (w : World) (hr0_0 : Kd.C k79 w A0_0 l0_0.length l0_0) (hc0_0 : l0_0.length ≤ c0_0) (h : spec_Release.f k l0_0 a1 a2 a3 = some (r1, r2)) :
    Calls Try.prog 34 #[.agg #[.slice A0_0 l0_0.length c0_0], .int .i64 a1, .int .i64 a2, .int .i64 a3] w fun e w' => ∃ v0_ : Value, e = .returned (.tuple #[.agg #[v0_], .int .i64 r2]) ∧ Kd.S k79 79 w' w.heap.size (fun _ => True) v0_ r1 ∧ Below w.heap.size w w' := by
  have hu26 := Try.underlying26
  have hu72 := Try.underlying72
  have hu24 := Try.underlying24
  have hu79 := Try.underlying79
  unfold spec_Release.f at h
  obtain ⟨⟨t1, t2, t3, t4, t5⟩, hq, h⟩ := Option.bind_eq_some_iff.mp h
  have Hq := Aside0.mk hq
  have HR := Aside0.mk hr0_0
  have HC := Aside0.mk hc0_0
  clear hq hr0_0 hc0_0
  dsimp only at h
  by_cases c1 : t5 = 0
  {
  subst c1
  rw [if_pos rfl] at h
  by_cases c2 : t4 < a3
  {
  rw [if_pos c2] at h
  have c2b := decide_eq_true c2
  obtain ⟨t6, h6, h⟩ := Option.bind_eq_some_iff.mp h
  have H6 := Aside0.mk h6
  obtain ⟨rfl, rfl⟩ : t6 = r1 ∧ 3 = r2 := by simpa using h
  clear h h6 c2
  go_enter Try.func34, Try.ntmps34
  go_wp2_with (first
    | (go_at_call 61; refine (spec_l5Call.calls k _ _ l0_0 a1 a2 a3 t1 t2 t3 t4 0 _ (Kd.C_alloc (Kd.C_alloc HR.out _) _) HC.out Hq.out).mono ?_; rintro e w1 ⟨rfl, hb⟩; have B4 := Aside0.mk (blk_below (blk_alloc (blk_new w (.cells #[.slice A0_0 l0_0.length c0_0] 26)) (.cells #[.slice none 0 0] 26)) hb); have B8 := Aside0.mk (blk_below (blk_new1 w (.cells #[.slice A0_0 l0_0.length c0_0] 26) (.cells #[.slice none 0 0] 26)) hb); have HB1 := Aside0.mk (below_step (below_alloc (below_alloc (Below.refl w.heap.size w) _) _) hb); have C4 : w1.cell? ⟨w.heap.size, 0, none⟩ = some (.slice A0_0 l0_0.length c0_0) := (blk_cell B4.out 0).trans rfl; have L4 := blk_lt B4.out; have L8 := blk_lt B8.out; have N8 := Nat.ne_of_lt L8; have N8' := Nat.ne_of_gt L8; have N4 := Nat.ne_of_lt L4; have N4' := Nat.ne_of_gt L4; clear hb)
    | (go_at_call 62; refine (spec_l5Copy.calls k _ _ l0_0 t6 _ (Kd.C_below HR.out (below_alloc HB1.out _)) HC.out H6.out).mono ?_; rintro e w2 ⟨v0, rfl, hS, hb⟩; obtain ⟨Ac, cc, rfl⟩ := Kd.S_slice hS; replace B8 := Aside0.mk (blk_below (blk_alloc B8.out _) hb); have HB2 := Aside0.mk (below_step (below_alloc HB1.out _) hb); have HS := Aside0.mk (show Kd.S k79 79 w2 (w.heap.size + 2) (fun _ => True) (.slice Ac t6.length cc) t6 from Kd.S_lower hS (by rw [World.size_alloc]; omega)); have C8 : w2.cell? ⟨w.heap.size + 1, 0, none⟩ = some (.slice none 0 0) := (blk_cell B8.out 0).trans rfl; have F8 := blk_frozen B8.out 0; clear hb hS C4))
  refine bodyPost_ret (results_ct rfl _ _ (w.heap.size + 1) 26 #[.slice Ac t6.length cc] (0, 0) _ rfl (blk_put (cs := #[.slice none 0 0]) B8.out 0 _ rfl) Try.underlying26 rfl (by kernel_rfl)) rfl ?_
  exact ⟨_, rfl, Kd.S_lower (S_box HS.out (show w.heap.size + 1 < w.heap.size + 2 by omega) _) (by omega), below_set HB2.out (by omega)⟩
  }
  {
  rw [if_neg c2] at h
  have c2b := decide_eq_false c2
  obtain ⟨t6, h6, h⟩ := Option.bind_eq_some_iff.mp h
  have H6 := Aside0.mk h6
  obtain ⟨rfl, rfl⟩ : t6 = r1 ∧ 0 = r2 := by simpa using h
  clear h h6 c2
  go_enter Try.func34, Try.ntmps34
  go_wp2_with (first
    | (go_at_call 61; refine (spec_l5Call.calls k _ _ l0_0 a1 a2 a3 t1 t2 t3 t4 0 _ (Kd.C_alloc (Kd.C_alloc HR.out _) _) HC.out Hq.out).mono ?_; rintro e w1 ⟨rfl, hb⟩; have B4 := Aside0.mk (blk_below (blk_alloc (blk_new w (.cells #[.slice A0_0 l0_0.length c0_0] 26)) (.cells #[.slice none 0 0] 26)) hb); have B8 := Aside0.mk (blk_below (blk_new1 w (.cells #[.slice A0_0 l0_0.length c0_0] 26) (.cells #[.slice none 0 0] 26)) hb); have HB1 := Aside0.mk (below_step (below_alloc (below_alloc (Below.refl w.heap.size w) _) _) hb); have C4 : w1.cell? ⟨w.heap.size, 0, none⟩ = some (.slice A0_0 l0_0.length c0_0) := (blk_cell B4.out 0).trans rfl; have L4 := blk_lt B4.out; have L8 := blk_lt B8.out; have N8 := Nat.ne_of_lt L8; have N8' := Nat.ne_of_gt L8; have N4 := Nat.ne_of_lt L4; have N4' := Nat.ne_of_gt L4; clear hb)
    | (go_at_call 63; refine (spec_l5Put.calls k _ _ l0_0 t1 t2 t3 (wrap64 (t4 - a3)) t6 _ (Kd.C_below HR.out (below_alloc HB1.out _)) HC.out H6.out).mono ?_; rintro e w2 ⟨v0, rfl, hS, hb⟩; obtain ⟨Ac, cc, rfl⟩ := Kd.S_slice hS; replace B8 := Aside0.mk (blk_below (blk_alloc B8.out _) hb); have HB2 := Aside0.mk (below_step (below_alloc HB1.out _) hb); have HS := Aside0.mk (show Kd.S k79 79 w2 (w.heap.size + 2) (fun _ => True) (.slice Ac t6.length cc) t6 from Kd.S_lower hS (by simp only [World.size_setCell, World.size_alloc]; omega)); have C8 : w2.cell? ⟨w.heap.size + 1, 0, none⟩ = some (.slice none 0 0) := (blk_cell B8.out 0).trans rfl; have F8 := blk_frozen B8.out 0; clear hb hS C4))
  refine bodyPost_ret (results_ct rfl _ _ (w.heap.size + 1) 26 #[.slice Ac t6.length cc] (0, 0) _ rfl (blk_put (cs := #[.slice none 0 0]) B8.out 0 _ rfl) Try.underlying26 rfl (by kernel_rfl)) rfl ?_
  exact ⟨_, rfl, Kd.S_lower (S_box HS.out (show w.heap.size + 1 < w.heap.size + 2 by omega) _) (by omega), below_set HB2.out (by omega)⟩
  }
  }
  {
  rw [if_neg c1] at h
  obtain ⟨t6, h6, h⟩ := Option.bind_eq_some_iff.mp h
  have H6 := Aside0.mk h6
  obtain ⟨rfl, rfl⟩ : t6 = r1 ∧ t5 = r2 := by simpa using h
  have c1b : (t5 != 0) = true := by simpa using c1
  clear h h6 c1
  go_enter Try.func34, Try.ntmps34
  go_wp2_with (first
    | (go_at_call 61; refine (spec_l5Call.calls k _ _ l0_0 a1 a2 a3 t1 t2 t3 t4 t5 _ (Kd.C_alloc (Kd.C_alloc HR.out _) _) HC.out Hq.out).mono ?_; rintro e w1 ⟨rfl, hb⟩; have B4 := Aside0.mk (blk_below (blk_alloc (blk_new w (.cells #[.slice A0_0 l0_0.length c0_0] 26)) (.cells #[.slice none 0 0] 26)) hb); have B8 := Aside0.mk (blk_below (blk_new1 w (.cells #[.slice A0_0 l0_0.length c0_0] 26) (.cells #[.slice none 0 0] 26)) hb); have HB1 := Aside0.mk (below_step (below_alloc (below_alloc (Below.refl w.heap.size w) _) _) hb); have C4 : w1.cell? ⟨w.heap.size, 0, none⟩ = some (.slice A0_0 l0_0.length c0_0) := (blk_cell B4.out 0).trans rfl; have L4 := blk_lt B4.out; have L8 := blk_lt B8.out; have N8 := Nat.ne_of_lt L8; have N8' := Nat.ne_of_gt L8; have N4 := Nat.ne_of_lt L4; have N4' := Nat.ne_of_gt L4; clear hb)
    | (go_at_call 62; refine (spec_l5Copy.calls k _ _ l0_0 t6 _ (Kd.C_below HR.out (below_alloc HB1.out _)) HC.out H6.out).mono ?_; rintro e w2 ⟨v0, rfl, hS, hb⟩; obtain ⟨Ac, cc, rfl⟩ := Kd.S_slice hS; replace B8 := Aside0.mk (blk_below (blk_alloc B8.out _) hb); have HB2 := Aside0.mk (below_step (below_alloc HB1.out _) hb); have HS := Aside0.mk (show Kd.S k79 79 w2 (w.heap.size + 2) (fun _ => True) (.slice Ac t6.length cc) t6 from Kd.S_lower hS (by rw [World.size_alloc]; omega)); have C8 : w2.cell? ⟨w.heap.size + 1, 0, none⟩ = some (.slice none 0 0) := (blk_cell B8.out 0).trans rfl; have F8 := blk_frozen B8.out 0; clear hb hS C4))
  refine bodyPost_ret (results_ct rfl _ _ (w.heap.size + 1) 26 #[.slice Ac t6.length cc] (0, 0) _ rfl (blk_put (cs := #[.slice none 0 0]) B8.out 0 _ rfl) Try.underlying26 rfl (by kernel_rfl)) rfl ?_
  exact ⟨_, rfl, Kd.S_lower (S_box HS.out (show w.heap.size + 1 < w.heap.size + 2 by omega) _) (by omega), below_set HB2.out (by omega)⟩

  }
/-! ### laws_FnExactRelease: function 7 -/
def laws_FnExactRelease.f (k : Nat) (l : List S117) (a1 a2 a3 : Int) : Option Bool :=
  (laws_szStock.f k l 1048576).bind fun t => if t < 0 then some true else
    (laws_toStock.f k l).bind fun x => (spec_Release.f k x a1 a2 a3).bind fun w0 => (impl_Release.f k x a1 a2 a3).bind fun g =>
    (laws_eqStock.f k g.1 w0.1).bind fun e1 => (laws_eqStock.f k x x).bind fun e2 => (laws_markStock.f k x 1).bind fun m1 => (laws_markStock.f k g.1 1).bind fun m2 => (laws_heldStock.f k m2.2 1).bind fun q =>
      if e1 = true ∧ g.2 = w0.2 ∧ e2 = true ∧ ¬ m1.1 < 0 ∧ ¬ q < 0 ∧ q = m2.1 then some true else none
theorem laws_FnExactRelease.mono : ∀ l a1 a2 a3 k, LeO (laws_FnExactRelease.f k l a1 a2 a3) (laws_FnExactRelease.f (k + 1) l a1 a2 a3) := by
  intro l a1 a2 a3 k
  unfold laws_FnExactRelease.f
  repeat' first
      | (with_reducible exact laws_szStock.mono _ _ _)
      | (with_reducible exact laws_toStock.mono _ _)
      | (with_reducible exact spec_Release.mono _ _ _ _ _)
      | (with_reducible exact impl_Release.mono _ _ _ _ _)
      | (with_reducible exact laws_eqStock.mono _ _ _)
      | (with_reducible exact laws_markStock.mono _ _ _)
      | (with_reducible exact laws_heldStock.mono _ _ _)
      | (with_reducible exact LeO.refl _)
      | (with_reducible exact LeO.none _)
      | (with_reducible refine LeO.ite ?_ ?_)
      | (with_reducible refine LeO.bind ?_ (fun _ => ?_))
def laws_FnExactRelease.T10 : Bool × List (List Nat × List Nat) := (true, [([], []), ([], []), ([1], [1]), ([0, 2, 2], [0, 2]), ([3], [3])])
def laws_FnExactRelease.B10 : List Nat := [0, 0, 2, 7, 15]
theorem laws_FnExactRelease.tab10 : rtab .any (opsOf Try.f7 10) = laws_FnExactRelease.T10 := by kernel_rfl
theorem laws_FnExactRelease.bits10 : waitsOk laws_FnExactRelease.T10.2 laws_FnExactRelease.B10 = true := by kernel_rfl
set_option maxHeartbeats 8000000 in
set_option maxRecDepth 100000 in
theorem laws_FnExactRelease.calls (k : Nat) (A0_0 : Option Addr) (c0_0 : Nat) (l0_0 : List S117) (a1 a2 a3 : Int) (r : Bool) (w : World) (hr0_0 : Kd.C k117 w A0_0 l0_0.length l0_0) (hc0_0 : l0_0.length ≤ c0_0) (hT : r = true) (h : laws_FnExactRelease.f k l0_0 a1 a2 a3 = some r) :
    Calls Try.prog 7 #[.agg #[.slice A0_0 l0_0.length c0_0], .int .i64 a1, .int .i64 a2, .int .i64 a3] w fun e w' => e = .returned (.bool r) ∧ Below w.heap.size w w' := by
  subst hT
  have hu36 := Try.underlying36
  have hu26 := Try.underlying26
  unfold laws_FnExactRelease.f at h
  replace h := Option.bind_eq_some_iff.mp h
  obtain ⟨t, ht, h⟩ := h
  have HT := Aside0.mk ht
  have HR := Aside0.mk hr0_0
  have HC := Aside0.mk hc0_0
  have HB := Aside0.mk (Below.refl w.heap.size w)
  clear ht hr0_0 hc0_0
  by_cases c1 : t < 0
  {
  have c1b := decide_eq_true c1
  clear h c1
  go_enter Try.func7, Try.ntmps7
  go_wp2_with (first
    | (go_at_call 29; refine (laws_szStock.calls k _ _ l0_0 1048576 t _ (Kd.C_alloc HR.out _) HC.out HT.out).mono ?_; rintro e w1 ⟨rfl, hb⟩; replace HB := Aside0.mk (below_step (below_alloc HB.out _) hb); clear hb))
  go_ret
  exact ⟨rfl, HB.out⟩
  }
  rw [if_neg c1] at h
  have c1b := decide_eq_false c1
  clear c1
  replace h := Option.bind_eq_some_iff.mp h
  obtain ⟨x, hx, h⟩ := h
  replace h := Option.bind_eq_some_iff.mp h
  obtain ⟨⟨v1, v2⟩, hv, h⟩ := h
  replace h := Option.bind_eq_some_iff.mp h
  obtain ⟨⟨g1, g2⟩, hg, h⟩ := h
  replace h := Option.bind_eq_some_iff.mp h
  obtain ⟨e1, he1, h⟩ := h
  replace h := Option.bind_eq_some_iff.mp h
  obtain ⟨e2, he2, h⟩ := h
  replace h := Option.bind_eq_some_iff.mp h
  obtain ⟨⟨m1, x'⟩, hm1, h⟩ := h
  replace h := Option.bind_eq_some_iff.mp h
  obtain ⟨⟨m2, g'⟩, hm2, h⟩ := h
  replace h := Option.bind_eq_some_iff.mp h
  obtain ⟨q, hq, h⟩ := h
  dsimp only at h he1 hm2 hq
  have hall : e1 = true ∧ g2 = v2 ∧ e2 = true ∧ ¬ m1 < 0 ∧ ¬ q < 0 ∧ q = m2 := Decidable.byContradiction fun hn => by rw [if_neg hn] at h; cases h
  clear h
  obtain ⟨rfl, rfl, rfl, c2, c3, rfl⟩ := hall
  have c2b := decide_eq_false c2
  have c3b := decide_eq_false c3
  have HX0 := Aside0.mk hx
  have HV := Aside0.mk hv
  have HG0 := Aside0.mk hg
  have HE1 := Aside0.mk he1
  have HE2 := Aside0.mk he2
  have HM1 := Aside0.mk hm1
  have HM2 := Aside0.mk hm2
  have HQ := Aside0.mk hq
  clear c2 c3 hx hv hg he1 he2 hm1 hm2 hq
  have ST0 := Aside0.mk trivial
  go_enter Try.func7, Try.ntmps7
  go_wp2_with (first
    | (go_at_call 29; have hst := ST0; clear hst ST0; refine (laws_szStock.calls k _ _ l0_0 1048576 t _ (Kd.C_alloc HR.out _) HC.out HT.out).mono ?_; rintro e w0 ⟨rfl, hb⟩; have C4 : w0.cell? ⟨w.heap.size, 0, none⟩ = some (.slice A0_0 l0_0.length c0_0) := (blk_cell (blk_below (blk_new w (.cells #[.slice A0_0 l0_0.length c0_0] 36)) hb) 0).trans rfl; have L4 := blk_lt (blk_below (blk_new w (.cells #[.slice A0_0 l0_0.length c0_0] 36)) hb); replace HB := Aside0.mk (below_step (below_alloc HB.out _) hb); clear hb; have ST1 := Aside0.mk trivial)
    | (go_at_call 30; have hst := ST1; clear hst ST1; refine (laws_toStock.calls k _ _ l0_0 x _ (Kd.C_below HR.out HB.out) HC.out HX0.out).mono ?_; rintro e w1 ⟨v0, rfl, hS, hU⟩; obtain ⟨A1, c1, rfl⟩ := Kd.S_slice hS; replace C4 := pw_cell_below hU C4; replace L4 := Nat.lt_of_lt_of_le L4 (below_size hU); replace HB := Aside0.mk (below_step HB.out hU); have HS1 := Aside0.mk (Kd.S_reads' hS); clear hS hU; have ST2 := Aside0.mk trivial)
    | (go_at_call 34; have hst := ST2; clear hst ST2; refine (spec_Release.calls k _ _ x a1 a2 a3 v1 g2 _ HS1.out.2.2 HS1.out.2.1 HV.out).mono ?_; rintro e w2 ⟨v0, rfl, hS, hU⟩; obtain ⟨A2, c2, rfl⟩ := Kd.S_slice hS; replace C4 := pw_cell_below hU C4; replace L4 := Nat.lt_of_lt_of_le L4 (below_size hU); replace HB := Aside0.mk (below_step HB.out hU); have HN := Aside0.mk (Kd.S_old hS (Below.refl _ _)); clear hS hU HS1; have HZ4 := Aside0.mk L4; have ST3 := Aside0.mk trivial)
    | (go_at_call 30; have hst := ST3; clear hst ST3; refine (laws_toStock.calls k _ _ l0_0 x _ (Kd.C_below HR.out (below_alloc HB.out _)) HC.out HX0.out).mono ?_; rintro e w3 ⟨v0, rfl, hS, hb⟩; obtain ⟨A3, c3, rfl⟩ := Kd.S_slice hS; have hU := below_step (below_alloc (Below.refl w2.heap.size w2) _) hb; have C10 : w3.cell? ⟨w2.heap.size, 0, none⟩ = some (.slice A2 v1.length c2) := (blk_cell (blk_below (blk_new w2 (.cells #[.slice A2 v1.length c2] 26)) hb) 0).trans rfl; have L10 := blk_lt (blk_below (blk_new w2 (.cells #[.slice A2 v1.length c2] 26)) hb); replace C4 := pw_cell_below hU C4; replace L4 := Nat.lt_of_lt_of_le L4 (below_size hU); replace HN := Aside0.mk (Kd.S_below HN.out hU); replace HB := Aside0.mk (below_step HB.out hU); have HX := Aside0.mk (show Kd.S k79 79 w3 (w2.heap.size + 1) (fun k => w2.heap.size + 1 ≤ k ∧ k < w3.heap.size) (.slice A3 x.length c3) x by have h9 := Kd.S_mono (ok' := fun k => (w2.alloc (.cells #[.slice A2 v1.length c2] 26)).heap.size ≤ k ∧ k < w3.heap.size) (Kd.S_bound hS) (fun k hk => ⟨hk.2.1, hk.2.2.1⟩); rw [World.size_alloc] at h9; exact h9); clear hS hU hb; have ST4 := Aside0.mk trivial)
    | (go_at_call 20; have hst := ST4; clear hst ST4; refine (impl_Release.calls k _ _ x a1 a2 a3 g1 g2 _ (Kd.S_reads' (Kd.S_alloc HX.out _)).2.2 (Kd.S_reads' HX.out).2.1 HG0.out).mono ?_; rintro e w4 ⟨v0, rfl, hS, hb⟩; obtain ⟨A4, c4, rfl⟩ := Kd.S_slice hS; have hU := below_step (below_alloc (Below.refl w3.heap.size w3) _) hb; have C12 : w4.cell? ⟨w3.heap.size, 0, none⟩ = some (.slice A3 x.length c3) := (blk_cell (blk_below (blk_new w3 (.cells #[.slice A3 x.length c3] 26)) hb) 0).trans rfl; have L12 := blk_lt (blk_below (blk_new w3 (.cells #[.slice A3 x.length c3] 26)) hb); have Z3 := Aside0.mk (show w.heap.size < w2.heap.size ∧ w2.heap.size < w3.heap.size ∧ w3.heap.size < w4.heap.size from ⟨HZ4.out, L10, L12⟩); replace C4 := pw_cell_below hU C4; replace L4 := Nat.lt_of_lt_of_le L4 (below_size hU); replace C10 := pw_cell_below hU C10; replace L10 := Nat.lt_of_lt_of_le L10 (below_size hU); replace HN := Aside0.mk (Kd.S_below HN.out hU); replace HX := Aside0.mk (Kd.S_below HX.out hU); replace HB := Aside0.mk (below_step HB.out hU); have HG := Aside0.mk (show Kd.S k79 79 w4 (w3.heap.size + 1) (fun k => w3.heap.size + 1 ≤ k ∧ k < w4.heap.size) (.slice A4 g1.length c4) g1 by have h9 := Kd.S_mono (ok' := fun k => (w3.alloc (.cells #[.slice A3 x.length c3] 26)).heap.size ≤ k ∧ k < w4.heap.size) (Kd.S_bound hS) (fun k hk => ⟨hk.2.1, hk.2.2.1⟩); rw [World.size_alloc] at h9; exact h9); clear hS hU hb; have ST5 := Aside0.mk trivial)
    | (go_at_call 31; have hst := ST5; clear hst ST5; refine (laws_eqStock.calls k _ _ g1 _ _ v1 true _ (Kd.S_reads' (Kd.S_alloc HG.out _)).2.2 (Kd.S_reads' HG.out).2.1 (Kd.S_reads' (Kd.S_alloc HN.out _)).2.2 (Kd.S_reads' HN.out).2.1 HE1.out).mono ?_; rintro e w5 ⟨rfl, hb⟩; have hU := below_step (below_alloc (Below.refl w4.heap.size w4) _) hb; have C13 : w5.cell? ⟨w4.heap.size, 0, none⟩ = some (.slice A4 g1.length c4) := (blk_cell (blk_below (blk_new w4 (.cells #[.slice A4 g1.length c4] 26)) hb) 0).trans rfl; have L13 := blk_lt (blk_below (blk_new w4 (.cells #[.slice A4 g1.length c4] 26)) hb); replace C4 := pw_cell_below hU C4; replace L4 := Nat.lt_of_lt_of_le L4 (below_size hU); replace C10 := pw_cell_below hU C10; replace L10 := Nat.lt_of_lt_of_le L10 (below_size hU); replace C12 := pw_cell_below hU C12; replace L12 := Nat.lt_of_lt_of_le L12 (below_size hU); replace HN := Aside0.mk (Kd.S_below HN.out hU); replace HX := Aside0.mk (Kd.S_below HX.out hU); replace HG := Aside0.mk (Kd.S_below HG.out hU); replace HB := Aside0.mk (below_step HB.out hU); clear hU hb; have ST6 := Aside0.mk trivial))
  refine start_ (n := 5) (S := fun w' => w'.cell? ⟨w3.heap.size, 0, none⟩ = some (.slice A3 x.length c3) ∧ w'.cell? ⟨w.heap.size, 0, none⟩ = some (.slice A0_0 l0_0.length c0_0)) (ds := []) #[false, false, false, false, false] (by kernel_rfl) rfl rfl ⟨C12, C4⟩ (fun hHeld => ?_); refine with_tabW laws_FnExactRelease.tab10 laws_FnExactRelease.bits10 (fun HT_ HW_ => ?_)
  refine take_ (i := 0) (N := some 53) (v := ?_) (a' := ?_) #[true, false, false, false, false] rfl rfl qzb qzd (Or.inl ⟨by rfl, ?_⟩) hHeld ?_ ?_
  rotate_left
  {
  rintro w' ⟨s0, s1⟩
  go_simp
  with_reducible rfl
  }
  rotate_left
  {
  simp only [qzs]
  rfl
  }
  refine take_ (i := 1) (N := some 54) (v := ?_) (a' := ?_) #[true, true, false, false, false] rfl rfl qzb qzd (Or.inl ⟨by rfl, ?_⟩) hHeld ?_ ?_
  rotate_left
  {
  rintro w' ⟨s0, s1⟩
  go_simp
  with_reducible rfl
  }
  rotate_left
  {
  simp only [qzs]
  rfl
  }
  refine one_ (i := 2) (N := some 55) #[true, true, true, false, false] rfl rfl qzc (by decide) (fun K hK => ?_)
  refine goes_ Try.func30 (by kernel_rfl) rfl #[.agg #[.slice A0_0 l0_0.length c0_0]] (by rfl) rfl rfl (by (try simp only [List.map_toArray, List.map_cons, List.map_nil]); first | done | rfl) ?_
  refine (laws_toStock.calls k _ _ l0_0 x _ (Kd.C_below HR.out (below_drew HB.out)) HC.out HX0.out).mono ?_
  rintro e w6 ⟨v0, rfl, hS, hb⟩; obtain ⟨A6, c6, rfl⟩ := Kd.S_slice hS
  refine ⟨_, rfl, ?_⟩
  refine hK.out _ _ ⟨pw_cell_below hb hHeld.1, pw_cell_below hb hHeld.2⟩ (fun hHeld => ?_)
  clear hK K
  refine norm_ (a' := ?_) ?_ ?_
  rotate_left
  {
  show Act.put _ (some 55) _ = _
  simp only [qzs]
  rfl
  }
  have hU := below_step (below_drew (Below.refl w5.heap.size w5)) hb
  clear hb
  replace C4 := pw_cell_below hU C4
  replace L4 := Nat.lt_of_lt_of_le L4 (below_size hU)
  replace C10 := pw_cell_below hU C10
  replace L10 := Nat.lt_of_lt_of_le L10 (below_size hU)
  replace C12 := pw_cell_below hU C12
  replace L12 := Nat.lt_of_lt_of_le L12 (below_size hU)
  replace C13 := pw_cell_below hU C13
  replace L13 := Nat.lt_of_lt_of_le L13 (below_size hU)
  replace HN := Aside0.mk (Kd.S_below HN.out hU)
  replace HX := Aside0.mk (Kd.S_below HX.out hU)
  replace HG := Aside0.mk (Kd.S_below HG.out hU)
  replace HB := Aside0.mk (below_step HB.out hU)
  clear hU
  refine one_ (i := 3) (N := some 56) #[true, true, true, true, false] rfl rfl qzc (by decide) (fun K hK => ?_)
  refine goes_ Try.func31 (by kernel_rfl) rfl #[.agg #[.slice A3 x.length c3], .agg #[.slice A6 x.length c6]] (by rfl) rfl rfl (by (try simp only [List.map_toArray, List.map_cons, List.map_nil]); first | done | rfl) ?_
  refine (laws_eqStock.calls k _ _ x _ _ x true _ (Kd.S_reads' HX.out).2.2 (Kd.S_reads' HX.out).2.1 (Kd.S_reads' hS).2.2 (Kd.S_reads' hS).2.1 HE2.out).mono ?_
  rintro e w7 ⟨rfl, hb⟩
  refine ⟨_, rfl, ?_⟩
  refine hK.out _ _ ⟨pw_cell_below hb hHeld.1, pw_cell_below hb hHeld.2⟩ (fun hHeld => ?_)
  clear hK K
  refine norm_ (a' := ?_) ?_ ?_
  rotate_left
  {
  show Act.put _ (some 56) _ = _
  simp only [qzs]
  rfl
  }
  refine pure_ (i := 4) (N := some 57) (v := ?_) (a' := ?_) #[true, true, true, true, true] rfl rfl qza qzd (Or.inl ⟨by rfl, ?_⟩) ?_ ?_
  rotate_left
  {
  intro w'
  go_simp
  with_reducible rfl
  }
  rotate_left
  {
  simp only [qzs]
  rfl
  }
  refine done_ (done_of HT_.out (by kernel_rfl)) ?_
  clear hHeld HT_ HW_ hS
  have hU := hb
  clear hb
  replace C4 := pw_cell_below hU C4
  replace L4 := Nat.lt_of_lt_of_le L4 (below_size hU)
  replace C10 := pw_cell_below hU C10
  replace L10 := Nat.lt_of_lt_of_le L10 (below_size hU)
  replace C12 := pw_cell_below hU C12
  replace L12 := Nat.lt_of_lt_of_le L12 (below_size hU)
  replace C13 := pw_cell_below hU C13
  replace L13 := Nat.lt_of_lt_of_le L13 (below_size hU)
  replace HN := Aside0.mk (Kd.S_below HN.out hU)
  replace HX := Aside0.mk (Kd.S_below HX.out hU)
  replace HG := Aside0.mk (Kd.S_below HG.out hU)
  replace HB := Aside0.mk (below_step HB.out hU)
  clear hU
  go_wp2_with (first
    | (go_at_call 32; have hst := ST6; clear hst ST6; refine (laws_markStock.calls k (fun k => w2.heap.size + 1 ≤ k ∧ k < w3.heap.size) _ x 1 m1 x' w _ HB.out (Kd.S_lower HX.out (show w.heap.size ≤ w2.heap.size + 1 by have := Z3.out; omega)) HM1.out).mono ?_; rintro e w8 ⟨rfl, hS, hB, hk⟩; replace C4 := cell_kept C4 hk (by have := Z3.out; intro h; have h : _ ∧ _ := h; (try simp only at h); omega); replace L4 := Nat.lt_of_lt_of_le L4 hk.1; replace C10 := cell_kept C10 hk (by have := Z3.out; intro h; have h : _ ∧ _ := h; (try simp only at h); omega); replace L10 := Nat.lt_of_lt_of_le L10 hk.1; replace C12 := cell_kept C12 hk (by have := Z3.out; intro h; have h : _ ∧ _ := h; (try simp only at h); omega); replace L12 := Nat.lt_of_lt_of_le L12 hk.1; replace C13 := cell_kept C13 hk (by have := Z3.out; intro h; have h : _ ∧ _ := h; (try simp only at h); omega); replace L13 := Nat.lt_of_lt_of_le L13 hk.1; replace HN := Aside0.mk (Kd.S_kept HN.out hk (by have := Z3.out; intro k_ h1 h2; have h1 : _ ∧ _ := h1; have h2 : _ ∧ _ := h2; (try simp only at h1 h2); omega)); replace HG := Aside0.mk (Kd.S_kept HG.out hk (by have := Z3.out; intro k_ h1 h2; have h1 : _ ∧ _ := h1; have h2 : _ ∧ _ := h2; (try simp only at h1 h2); omega)); replace HB := Aside0.mk hB; clear HX hS hB hk; have ST7 := Aside0.mk trivial)
    | (go_at_call 31; have hst := ST7; clear hst ST7; refine (laws_eqStock.calls k _ _ g1 _ _ v1 true _ (Kd.S_reads' HG.out).2.2 (Kd.S_reads' HG.out).2.1 (Kd.S_reads' HN.out).2.2 (Kd.S_reads' HN.out).2.1 HE1.out).mono ?_; rintro e w9 ⟨rfl, hU⟩; replace C4 := pw_cell_below hU C4; replace L4 := Nat.lt_of_lt_of_le L4 (below_size hU); replace C10 := pw_cell_below hU C10; replace L10 := Nat.lt_of_lt_of_le L10 (below_size hU); replace C12 := pw_cell_below hU C12; replace L12 := Nat.lt_of_lt_of_le L12 (below_size hU); replace C13 := pw_cell_below hU C13; replace L13 := Nat.lt_of_lt_of_le L13 (below_size hU); replace HN := Aside0.mk (Kd.S_below HN.out hU); replace HG := Aside0.mk (Kd.S_below HG.out hU); replace HB := Aside0.mk (below_step HB.out hU); clear hU; have ST8 := Aside0.mk trivial)
    | (go_at_call 32; have hst := ST8; clear hst ST8; refine (laws_markStock.calls k (fun k => w3.heap.size + 1 ≤ k ∧ k < w4.heap.size) _ g1 1 q g' w _ HB.out (Kd.S_lower HG.out (show w.heap.size ≤ w3.heap.size + 1 by have := Z3.out; omega)) HM2.out).mono ?_; rintro e w10 ⟨rfl, hS, hB, hk⟩; replace C4 := cell_kept C4 hk (by have := Z3.out; intro h; have h : _ ∧ _ := h; (try simp only at h); omega); replace L4 := Nat.lt_of_lt_of_le L4 hk.1; replace C10 := cell_kept C10 hk (by have := Z3.out; intro h; have h : _ ∧ _ := h; (try simp only at h); omega); replace L10 := Nat.lt_of_lt_of_le L10 hk.1; replace C12 := cell_kept C12 hk (by have := Z3.out; intro h; have h : _ ∧ _ := h; (try simp only at h); omega); replace L12 := Nat.lt_of_lt_of_le L12 hk.1; replace C13 := cell_kept C13 hk (by have := Z3.out; intro h; have h : _ ∧ _ := h; (try simp only at h); omega); replace L13 := Nat.lt_of_lt_of_le L13 hk.1; replace HN := Aside0.mk (Kd.S_kept HN.out hk (by have := Z3.out; intro k_ h1 h2; have h1 : _ ∧ _ := h1; have h2 : _ ∧ _ := h2; (try simp only at h1 h2); omega)); replace HB := Aside0.mk hB; replace HG := Aside0.mk hS; clear hS hB hk; have hl9 := Aside0.mk (Kd.S_reads' HG.out).1; have ST9 := Aside0.mk trivial)
    | (go_at_call 33; have hst := ST9; clear hst ST9; have e9 := hl9.out; have h9 := Kd.S_reads' HG.out; rw [e9] at h9; rw [e9]; refine (laws_heldStock.calls k _ _ g' 1 q _ h9.2.2 h9.2.1 HQ.out).mono ?_; rw [← e9]; rintro e w11 ⟨rfl, hU⟩; clear h9 e9; replace C4 := pw_cell_below hU C4; replace L4 := Nat.lt_of_lt_of_le L4 (below_size hU); replace C10 := pw_cell_below hU C10; replace L10 := Nat.lt_of_lt_of_le L10 (below_size hU); replace C12 := pw_cell_below hU C12; replace L12 := Nat.lt_of_lt_of_le L12 (below_size hU); replace C13 := pw_cell_below hU C13; replace L13 := Nat.lt_of_lt_of_le L13 (below_size hU); replace HN := Aside0.mk (Kd.S_below HN.out hU); replace HG := Aside0.mk (Kd.S_below HG.out hU); replace HB := Aside0.mk (below_step HB.out hU); clear hU; have ST10 := Aside0.mk trivial)
    | (go_at_call 30; have hst := ST10; clear hst ST10; refine (laws_toStock.calls k _ _ l0_0 x _ (Kd.C_below HR.out HB.out) HC.out HX0.out).mono ?_; rintro e w12 ⟨v0, rfl, hS, hU⟩; obtain ⟨A12, c12, rfl⟩ := Kd.S_slice hS; replace C4 := pw_cell_below hU C4; replace L4 := Nat.lt_of_lt_of_le L4 (below_size hU); replace C10 := pw_cell_below hU C10; replace L10 := Nat.lt_of_lt_of_le L10 (below_size hU); replace C12 := pw_cell_below hU C12; replace L12 := Nat.lt_of_lt_of_le L12 (below_size hU); replace C13 := pw_cell_below hU C13; replace L13 := Nat.lt_of_lt_of_le L13 (below_size hU); replace HN := Aside0.mk (Kd.S_below HN.out hU); replace HG := Aside0.mk (Kd.S_below HG.out hU); replace HB := Aside0.mk (below_step HB.out hU); have HS1 := Aside0.mk (Kd.S_reads' hS); clear hS hU; have ST11 := Aside0.mk trivial)
    | (go_at_call 20; have hst := ST11; clear hst ST11; refine (impl_Release.calls k _ _ x a1 a2 a3 g1 g2 _ HS1.out.2.2 HS1.out.2.1 HG0.out).mono ?_; rintro e w13 ⟨v0, rfl, hS, hU⟩; obtain ⟨A13, c13, rfl⟩ := Kd.S_slice hS; replace C4 := pw_cell_below hU C4; replace L4 := Nat.lt_of_lt_of_le L4 (below_size hU); replace C10 := pw_cell_below hU C10; replace L10 := Nat.lt_of_lt_of_le L10 (below_size hU); replace C12 := pw_cell_below hU C12; replace L12 := Nat.lt_of_lt_of_le L12 (below_size hU); replace C13 := pw_cell_below hU C13; replace L13 := Nat.lt_of_lt_of_le L13 (below_size hU); replace HN := Aside0.mk (Kd.S_below HN.out hU); replace HG := Aside0.mk (Kd.S_below HG.out hU); replace HB := Aside0.mk (below_step HB.out hU); have HH := Aside0.mk hS; clear hS hU HS1; have ST12 := Aside0.mk trivial)
    | (go_at_call 31; have hst := ST12; clear hst ST12; refine (laws_eqStock.calls k _ _ g1 _ _ v1 true _ (Kd.S_reads' (Kd.S_alloc HH.out _)).2.2 (Kd.S_reads' HH.out).2.1 (Kd.S_reads' (Kd.S_alloc HN.out _)).2.2 (Kd.S_reads' HN.out).2.1 HE1.out).mono ?_; rintro e w14 ⟨rfl, hb⟩; have hU := below_step (below_alloc (Below.refl w13.heap.size w13) _) hb; replace C4 := pw_cell_below hU C4; replace L4 := Nat.lt_of_lt_of_le L4 (below_size hU); replace C10 := pw_cell_below hU C10; replace L10 := Nat.lt_of_lt_of_le L10 (below_size hU); replace C12 := pw_cell_below hU C12; replace L12 := Nat.lt_of_lt_of_le L12 (below_size hU); replace C13 := pw_cell_below hU C13; replace L13 := Nat.lt_of_lt_of_le L13 (below_size hU); replace HN := Aside0.mk (Kd.S_below HN.out hU); replace HG := Aside0.mk (Kd.S_below HG.out hU); replace HH := Aside0.mk (Kd.S_below HH.out hU); replace HB := Aside0.mk (below_step HB.out hU); clear hU hb; have ST13 := Aside0.mk trivial)
    | (go_at_call 33; have hst := ST13; clear hst ST13; have e9 := hl9.out; have h9 := Kd.S_reads' HG.out; rw [e9] at h9; rw [e9]; refine (laws_heldStock.calls k _ _ g' 1 q _ h9.2.2 h9.2.1 HQ.out).mono ?_; rw [← e9]; rintro e w15 ⟨rfl, hU⟩; clear h9 e9; replace C4 := pw_cell_below hU C4; replace L4 := Nat.lt_of_lt_of_le L4 (below_size hU); replace C10 := pw_cell_below hU C10; replace L10 := Nat.lt_of_lt_of_le L10 (below_size hU); replace C12 := pw_cell_below hU C12; replace L12 := Nat.lt_of_lt_of_le L12 (below_size hU); replace C13 := pw_cell_below hU C13; replace L13 := Nat.lt_of_lt_of_le L13 (below_size hU); replace HN := Aside0.mk (Kd.S_below HN.out hU); replace HG := Aside0.mk (Kd.S_below HG.out hU); replace HH := Aside0.mk (Kd.S_below HH.out hU); replace HB := Aside0.mk (below_step HB.out hU); clear hU; have ST14 := Aside0.mk trivial))
  go_ret
  exact ⟨rfl, HB.out⟩

end Go.Proofs.Yteajnkondkfmgaa.PFnExactRelease
