-- Made by a program of this session out of the translation. Lean checks it.
import Derived.Test.YteajnkondkfmgaaPFnEachx0
namespace Go.Proofs.Yteajnkondkfmgaa.PFnEach
open Go.RowKit Go.Proofs.YteajnkondkfmgaaW.PrintWords Go.Proofs.YteajnkondkfmgaaW.PrintLast Go.Proofs.YteajnkondkfmgaaW.PrintMore
attribute [local go_sem] max2_int min2_int max_two min_two max_three min_three max_four min_four   -- for this text's walks alone
set_option linter.unusedVariables false
set_option linter.unusedSimpArgs false

/-! ### spec_l5Copy: function 62 -/
def spec_l5Copy.l0 : Nat → Int → List (S79) → List (S79) → Option ((List (S79)))
 | 0, _, _, _ => none
 | k + 1, x4, x300000, x302000 => if x4 < (x300000.length : Int) then (if 0 ≤ x4 then ((some (([] : List (S72)) : List (S72))).bind fun y304 => (if y304.length + ((rd_T79 x300000 x4).f2).length < 5864062014805 then (if x302000.length < 3518437208883 then (spec_l5Copy.l0 k (wrap64 (x4 + 1)) x300000 (x302000 ++ [(⟨(rd_T79 x300000 x4).f0, (rd_T79 x300000 x4).f1, (y304 ++ ((rd_T79 x300000 x4).f2))⟩ : S79)])) else (none)) else (none))) else (none)) else (some x302000)
def spec_l5Copy.f (k : Nat) (l0_0 : List (S79)) : Option ((List (S79))) := spec_l5Copy.l0 k 0 l0_0 ([] : List (S79))
theorem spec_l5Copy.mono_l : ∀ k, (∀ y0 y1 y2, LeO (spec_l5Copy.l0 k y0 y1 y2) (spec_l5Copy.l0 (k + 1) y0 y1 y2))
 | 0 => fun _ _ _ r h => by simp [spec_l5Copy.l0] at h
 | k + 1 => by
  have ih0 := spec_l5Copy.mono_l k
  {
  intro y0 y1 y2
  unfold spec_l5Copy.l0
  exact qL
  }
theorem spec_l5Copy.mono : ∀ a0 k, LeO (spec_l5Copy.f k a0) (spec_l5Copy.f (k + 1) a0) := by
 intro a0 k
 have ih0 := spec_l5Copy.mono_l k
 unfold spec_l5Copy.f
 exact qL
def spec_l5Copy.T6 : Bool × List (List Nat × List Nat) := (true, [([], []), ([0], [0]), ([], []), ([2], [2]), ([], []), ([4], [4]), ([], []), ([], []), ([7], [7]), ([6, 8], [6, 8]), ([3, 5, 9], [3, 5, 9]), ([10], [10]), ([1, 11, 9], [1, 11]), ([0, 1, 2, 3, 4, 5, 6, 7, 8, 9, 10, 11, 12], []), ([13, 12, 12, 0, 1, 2, 3, 4, 5, 6, 7, 8, 9, 10, 11, 12], [12, 13])])
def spec_l5Copy.B6 : List Nat := [0, 1, 0, 4, 0, 16, 0, 0, 128, 448, 1020, 2044, 4095, 8191, 16383]
theorem spec_l5Copy.tab6 : rtab .any (opsOf Try.f62 6) = spec_l5Copy.T6 := by kernel_rfl
theorem spec_l5Copy.bits6 : waitsOk spec_l5Copy.T6.2 spec_l5Copy.B6 = true := by kernel_rfl
set_option maxHeartbeats 8000000 in
set_option maxRecDepth 100000 in
theorem spec_l5Copy.calls (k : Nat) (A0_0 : Option Addr) (c0_0 : Nat) (l0_0 : List (S79)) (r : List (S79)) (w : World) (hr0_0 : Kd.C k79 w A0_0 l0_0.length l0_0) (hc0_0 : l0_0.length ≤ c0_0) (h : spec_l5Copy.f k l0_0 = some r) :
  Calls Try.prog 62 #[.agg #[.slice A0_0 l0_0.length c0_0]] w fun e w' => ∃ v0_ : Value, e = .returned (.agg #[v0_]) ∧ Kd.S k79 79 w' w.heap.size (fun _ => True) v0_ r ∧ Below w.heap.size w w' := by
 have hu26 := Try.underlying26
 have hu79 := Try.underlying79
 have HR0_0 := aM hr0_0
 have HC0_0 := aM hc0_0
 clear hr0_0 hc0_0
 have HB := aM (Below.refl w.heap.size w)
 have H : (spec_l5Copy.l0 k 0 l0_0 ([] : List (S79))) = some r := h
 clear h
 have H' := aM H
 clear H
 go_enter Try.func62, Try.ntmps62
 go_wp2_with (first | ((with_reducible refine gate_dst (N := 1) rfl ?_); refine bx_ 1 #[.slice A0_0 l0_0.length c0_0] 26 ?_; intro gb299 hg w2 hbox hb; have BK299 := aM (hbox); have GW299 := aM (bz_ w hg qz1); have GE299 := GW299; replace HB := bS_ hb; clear hb hbox hg) | ((with_reducible refine gate_dst (N := 2) rfl ?_); refine bx_ 2 #[.slice none 0 0] 26 ?_; intro gb300 hg w3 hbox hb; have BK300 := aM (hbox); have GW300 := aM (bz_ w hg qz1); have GE300 := GW300; replace HB := bS_ hb; obtain ⟨NB299_300, NB300_299⟩ := nb_ hg (bk_ BK299.out); replace BK299 := bB_ BK299 hb; clear hb hbox hg) | ((with_reducible refine gate_dst (N := 3) rfl ?_); refine bx_ 3 #[.slice none 0 0] 26 ?_; intro gb301 hg w4 hbox hb; have BK301 := aM (hbox); have GW301 := aM (bz_ w hg qz1); have GE301 := GW301; replace HB := bS_ hb; obtain ⟨NB299_301, NB301_299⟩ := nb_ hg (bk_ BK299.out); replace BK299 := bB_ BK299 hb; obtain ⟨NB300_301, NB301_300⟩ := nb_ hg (bk_ BK300.out); replace BK300 := bB_ BK300 hb; clear hb hbox hg; have hnb5 := NB301_299.out; have hnc5 := NB299_301.out; have hnb6 := NB301_300.out; have hnc6 := NB300_301.out; obtain ⟨hcz7_0, hfz7_0⟩ := bf_ BK301.out))
 go_loopg [4] k (fun kq v4 w' => ∃ (x4_1 : Int) (x302000_1 : List (S79)) (u302000 : Value), v4 = .int .i64 x4_1 ∧ Aside0 (spec_l5Copy.l0 kq x4_1 l0_0 x302000_1 = some r) ∧ Aside0 (kq ≤ k) ∧ Aside0 (Kd.S k79 79 w' w.heap.size (fun _ => True) u302000 x302000_1) ∧ Aside0 (w'.heap[gb299]? = some (.cells #[(.slice A0_0 l0_0.length c0_0)] 26 (0, 0))) ∧ Aside0 (w'.heap[gb300]? = some (.cells #[(.slice none 0 0)] 26 (0, 0))) ∧ Aside0 (w'.heap[gb301]? = some (.cells #[u302000] 26 (0, 0))) ∧ Aside0 (Below w.heap.size w w'))
 case atStart => exact ⟨(0), (([] : List (S79))), (.slice none 0 0), qz5, H', ⟨Nat.le_refl _⟩, ⟨by first | exact Kd.S_nil _ _ _ _ _ | exact Kd.N_nil _ _ _ _ _ | exact Kd.V_nil _ _ _ _ _ | exact Kd.Q_nil _ _ _ _ _ | exact Kd.R_nil _ _ _ _ _⟩, ⟨by (with_reducible repeat (first | refine blk_drewN ?_ _ | refine blk_drew ?_ | refine blk_alloc ?_ _)); refine blk_far ?_ NB299_301.out _; exact bk_ BK299.out⟩, ⟨by (with_reducible repeat (first | refine blk_drewN ?_ _ | refine blk_drew ?_ | refine blk_alloc ?_ _)); refine blk_far ?_ NB300_301.out _; exact bk_ BK300.out⟩, ⟨by (with_reducible repeat (first | refine blk_drewN ?_ _ | refine blk_drew ?_ | refine blk_alloc ?_ _)); refine blk_put (cs := #[.slice none 0 0]) ?_ 0 _ rfl; exact bk_ BK301.out⟩, ⟨qz1⟩⟩
 case round =>
  clear H'
  try clear p2
  try clear c5
  try clear c6
  try clear hcz7_0 hfz7_0
  obtain ⟨x4_1, x302000_1, u302000, rfl, HA, HK1, HO_302000, BK299, BK300, BK301, HB⟩ := hrel
  cases gk with
  | zero => exact absurd HA.out (by simp [spec_l5Copy.l0])
  | succ k1 =>
   have H := HA.out
   clear HA
   simp only [spec_l5Copy.l0] at H
   by_cases c8 : x4_1 < (l0_0.length : Int)
   {
   rw [if_pos c8] at H
   have c8b0 := decide_eq_true c8
   clear c8
   by_cases c9 : 0 ≤ x4_1
   {
   rw [if_pos c9] at H
   have c9b0 := decide_eq_true c9
   clear c9
   obtain ⟨y304, hy304⟩ : ∃ y_ : List (S72), y_ = (([] : List (S72))) := ⟨_, rfl⟩
   replace H : (if y304.length + ((rd_T79 l0_0 x4_1).f2).length < 5864062014805 then (if x302000_1.length < 3518437208883 then (spec_l5Copy.l0 k1 (wrap64 (x4_1 + 1)) l0_0 (x302000_1 ++ [(⟨(rd_T79 l0_0 x4_1).f0, (rd_T79 l0_0 x4_1).f1, (y304 ++ ((rd_T79 l0_0 x4_1).f2))⟩ : S79)])) else (none)) else (none)) = some r := by first | (rw [hy304]; with_reducible exact H) | (have H2_ := (Option.bind_some _ _).symm.trans H; rw [hy304]; with_reducible exact H2_) | (have H2_ := (Option.bind_some _ _).symm.trans H; with_reducible exact H2_) | with_reducible exact H | (rw [hy304]; exact H) | exact H
   have Ny304 := aM hy304
   clear hy304
   by_cases c10 : y304.length + ((rd_T79 l0_0 x4_1).f2).length < 5864062014805
   {
   rw [if_pos c10] at H
   have LMc10 := aM c10
   clear c10
   obtain ⟨y307, hy307⟩ : ∃ y_ : List (S72), y_ = (y304 ++ ((rd_T79 l0_0 x4_1).f2)) := ⟨_, rfl⟩
   replace H : (if x302000_1.length < 3518437208883 then (spec_l5Copy.l0 k1 (wrap64 (x4_1 + 1)) l0_0 (x302000_1 ++ [(⟨(rd_T79 l0_0 x4_1).f0, (rd_T79 l0_0 x4_1).f1, y307⟩ : S79)])) else (none)) = some r := by first | (rw [hy307]; with_reducible exact H) | (have H2_ := (Option.bind_some _ _).symm.trans H; rw [hy307]; with_reducible exact H2_) | (have H2_ := (Option.bind_some _ _).symm.trans H; with_reducible exact H2_) | with_reducible exact H | (rw [hy307]; exact H) | exact H
   have Ny307 := aM hy307
   clear hy307
   by_cases c11 : x302000_1.length < 3518437208883
   {
   rw [if_pos c11] at H
   have LMc11 := aM c11
   clear c11
   obtain ⟨y310, hy310⟩ : ∃ y_ : List (S79), y_ = (x302000_1 ++ [(⟨(rd_T79 l0_0 x4_1).f0, (rd_T79 l0_0 x4_1).f1, y307⟩ : S79)]) := ⟨_, rfl⟩
   replace H : (spec_l5Copy.l0 k1 (wrap64 (x4_1 + 1)) l0_0 y310) = some r := by first | (rw [hy310]; with_reducible exact H) | (have H2_ := (Option.bind_some _ _).symm.trans H; rw [hy310]; with_reducible exact H2_) | (have H2_ := (Option.bind_some _ _).symm.trans H; with_reducible exact H2_) | with_reducible exact H | (rw [hy310]; exact H) | exact H
   have Ny310 := aM hy310
   clear hy310
   have H' := aM H
   clear H
   have hnb12 := NB299_300.out
   have hnc12 := NB300_299.out
   have hnb13 := NB299_301.out
   have hnc13 := NB301_299.out
   obtain ⟨hcz14_0, hfz14_0⟩ := bf_ BK299.out
   have p302 : 0 ≤ (x4_1 : Int) := dt_
   have q302 : x4_1 < (l0_0.length : Int) := dt_
   obtain ⟨ad302, A302_2, c302_2, e302, hx302_0, hx302_1, hx302_2, hl302_2, hi302_2⟩ := at_T79 HR0_0.out x4_1 p302 q302
   cases e302
   replace hx302_0 := cB_ hx302_0
   replace hx302_1 := cB_ hx302_1
   replace hx302_2 := cB_ hx302_2
   have HR302_2 := aM hi302_2
   have HC302_2 := aM hl302_2
   clear hi302_2 hl302_2
   replace p302 := eq_true p302
   replace q302 := eq_true q302
   try go_wp2_with (first | ((with_reducible refine gate_dst (N := 5) rfl ?_); refine bx_ 5 #[.int .i64 0, .int .i64 0, .slice none 0 0] 79 ?_; intro gb303 hg w15 hbox hb; replace HO_302000 := aM (Kd.S_below (Kd.S_elderB (rs_ HO_302000.out) gb303 (Nat.le_of_eq hg.symm)) hb); have BK303 := aM (hbox); have GW303 := aM (bz_ w hg qz1); have GE303 := GW303; replace HB := bS_ hb; obtain ⟨NB299_303, NB303_299⟩ := nb_ hg (bk_ BK299.out); replace BK299 := bB_ BK299 hb; obtain ⟨NB300_303, NB303_300⟩ := nb_ hg (bk_ BK300.out); replace BK300 := bB_ BK300 hb; obtain ⟨NB301_303, NB303_301⟩ := nb_ hg (bk_ BK301.out); replace BK301 := bB_ BK301 hb; clear hb hbox hg; have hnb16 := NB303_299.out; have hnc16 := NB299_303.out; have hnb17 := NB303_300.out; have hnc17 := NB300_303.out; have hnb18 := NB303_301.out; have hnc18 := NB301_303.out; obtain ⟨hcz19_0, hcz19_1, hcz19_2, hfz19_0, hfz19_1, hfz19_2⟩ := b6_ BK303.out))
   generalize hq_ : (((w15.setCell ⟨gb303, 0, none⟩ (.int .i64 ((rd_T79 l0_0 x4_1).f0))).setCell ⟨gb303, 1, none⟩ (.int .i64 ((rd_T79 l0_0 x4_1).f1))).setCell ⟨gb303, 2, none⟩ (.slice A302_2 ((rd_T79 l0_0 x4_1).f2).length c302_2)) = w20
   replace HO_302000 : Aside0 (Kd.S k79 79 w20 w.heap.size (fun k_ => k_ ≠ gb303) u302000 x302000_1) := ⟨by rw [← hq_]; exact (by (with_reducible repeat (first | apply Kd.S_alloc | apply Kd.S_drewN | apply Kd.S_drew)); exact Kd.S_mono (Kd.S_far (p := ⟨gb303, 2, none⟩) (Kd.S_far (p := ⟨gb303, 1, none⟩) (Kd.S_far (p := ⟨gb303, 0, none⟩) (Kd.S_mono HO_302000.out (fun k_ hk => (⟨hk, hk.2⟩ : _ ∧ k_ ≠ gb303))) (fun _ hk => hk.2) (.int .i64 ((rd_T79 l0_0 x4_1).f0))) (fun _ hk => hk.2) (.int .i64 ((rd_T79 l0_0 x4_1).f1))) (fun _ hk => hk.2) (.slice A302_2 ((rd_T79 l0_0 x4_1).f2).length c302_2)) (fun _ hk => hk.1.2))⟩
   replace BK299 : Aside0 (w20.heap[gb299]? = some (.cells #[.slice (some ad302) l0_0.length c0_0] 26 (0, 0))) := ⟨by rw [← hq_]; exact (bk2_ BK299.out)⟩
   replace BK300 : Aside0 (w20.heap[gb300]? = some (.cells #[.slice none 0 0] 26 (0, 0))) := ⟨by rw [← hq_]; exact (bk2_ BK300.out)⟩
   replace BK301 : Aside0 (w20.heap[gb301]? = some (.cells #[u302000] 26 (0, 0))) := ⟨by rw [← hq_]; exact (bk2_ BK301.out)⟩
   replace BK303 : Aside0 (w20.heap[gb303]? = some (.cells #[.int .i64 ((rd_T79 l0_0 x4_1).f0), .int .i64 ((rd_T79 l0_0 x4_1).f1), .slice A302_2 ((rd_T79 l0_0 x4_1).f2).length c302_2] 79 (0, 0))) := ⟨by rw [← hq_]; exact (by (with_reducible repeat (first | refine blk_drewN ?_ _ | refine blk_drew ?_ | refine blk_alloc ?_ _)); refine blk_put (cs := #[.int .i64 ((rd_T79 l0_0 x4_1).f0), .int .i64 ((rd_T79 l0_0 x4_1).f1), .slice none 0 0]) ?_ 2 _ rfl; (with_reducible repeat (first | refine blk_drewN ?_ _ | refine blk_drew ?_ | refine blk_alloc ?_ _)); refine blk_put (cs := #[.int .i64 ((rd_T79 l0_0 x4_1).f0), .int .i64 0, .slice none 0 0]) ?_ 1 _ rfl; (with_reducible repeat (first | refine blk_drewN ?_ _ | refine blk_drew ?_ | refine blk_alloc ?_ _)); refine blk_put (cs := #[.int .i64 0, .int .i64 0, .slice none 0 0]) ?_ 0 _ rfl; exact bk_ BK303.out)⟩
   replace HB : Aside0 (Below w.heap.size w w20) := ⟨by rw [← hq_]; exact qz1⟩
   clear hq_
   replace HO_302000 := aM (Kd.S_drew HO_302000.out)
   replace BK299 := aM (blk_drew BK299.out)
   replace BK300 := aM (blk_drew BK300.out)
   replace BK301 := aM (blk_drew BK301.out)
   replace BK303 := aM (blk_drew BK303.out)
   replace HB := aM (below_drew1 HB.out)
   refine start_ (n := 15) (S := fun w' => w'.cell? ⟨gb301, 0, none⟩ = some (u302000) ∧ w'.cell? ⟨gb303, 0, none⟩ = some (.int .i64 ((rd_T79 l0_0 x4_1).f0)) ∧ w'.cell? ⟨gb303, 1, none⟩ = some (.int .i64 ((rd_T79 l0_0 x4_1).f1)) ∧ w'.cell? ⟨gb303, 2, none⟩ = some (.slice A302_2 ((rd_T79 l0_0 x4_1).f2).length c302_2)) (ds := [14]) #[false, false, false, false, false, false, false, false, false, false, false, false, false, false, false] (by kernel_rfl) rfl rfl ⟨(blk_cell BK301.out 0).trans rfl, (blk_cell BK303.out 0).trans rfl, (blk_cell BK303.out 1).trans rfl, (blk_cell BK303.out 2).trans rfl⟩ (fun hHeld => ?_); refine with_tabW spec_l5Copy.tab6 spec_l5Copy.bits6 (fun HT_ HW_ => ?_)
   generalize w20.drew = w21 at HO_302000 BK299 BK300 BK301 BK303 HB hHeld ⊢
   refine pI_ 0 19 (bqz 15 1) ?_
   refine jI_ 2 21 ?_
   refine jI_ 4 23 ?_
   refine jI_ 7 26 ?_
   refine sI4_ 1 20 ?_
   refine sI4_ 3 22 ?_
   refine sI4_ 5 24 ?_
   refine sI4_ 8 27 ?_
   refine one_ (i := 6) (N := some 25) (bqz 15 511) rfl rfl qzc (by decide) (fun K hK => ?_)
   refine Kd.R_lit_step k72 _ 72 ?hg (N := 25) ?hd (xs := ([] : List (S72))) (inner := []) (ok := fun _ => True) (okp := fun _ => True) ?hr ?hp (fun _ hk => hk) trivial (Below.refl _ _) (Nat.le_refl _) (by simp) ?_; (case hd => rfl); (case hg => rfl); (case hr => exact qz23); (case hp => exact (Reps.none _ _))
   intro v305 w22 ho23 hb hg_ hnew_
   clear hg_ hnew_
   (first | rw [← Ny304.out] at ho23 | (simp only [Int.reduceToNat] at ho23; rw [← Ny304.out] at ho23))
   replace HO_302000 := aM (Kd.S_elder' (rs_ HO_302000.out) (Kd.R_base ho23) hb)
   have HO306 := aM (Kd.R_lower ho23 (below_size qz1))
   replace BK299 := bB_ BK299 hb
   replace BK300 := bB_ BK300 hb
   replace BK301 := bB_ BK301 hb
   replace BK303 := bB_ BK303 hb
   replace HB := bS_ hb
   clear hb ho23
   refine hK.out _ _ ⟨(blk_cell BK301.out 0).trans rfl, (blk_cell BK303.out 0).trans rfl, (blk_cell BK303.out 1).trans rfl, (blk_cell BK303.out 2).trans rfl⟩ (fun hHeld => ?_)
   clear hK K
   refine nm_ 25 ?_
   refine one_ (i := 9) (N := some 28) (bqz 15 1023) rfl rfl qzc (by decide) (fun K hK => ?_)
   refine Kd.R_append_rows_step k72 (w0 := w) w.heap.size (by rfl) (.tmp 25) (.tmp 27) 77 72 (.agg #[(.int .i64 0), (.int .i64 0), (.int .i64 0)]) 24 rfl Try.underlying77 info72 rfl (by decide) (by omega) v305 y304 ((rd_T79 l0_0 x4_1).f2) _ _ _ (fun _ => True) (fun _ => False) rfl rfl ?aO ?aR (fun _ _ h => h) (fun _ h => h.elim) ?aF ?aB ?aS ?aL ?_
   (case aR => repeat (first | exact (Kd.C_below HR302_2.out HB.out) | (with_reducible refine Kd.C_alloc ?_ _) | (with_reducible refine Kd.C_drewN ?_ _) | (with_reducible refine Kd.C_drew ?_)))
   (case aB => exact qz1)
   (case aF => exact (fun _ _ => trivial))
   (case aO => exact (rr_ HO306.out))
   (case aS => exact qz46)
   (case aL => have := LMc10.out; omega)
   intro v308 w24 ho hb hg hat
   rw [← Ny307.out] at ho
   replace HO_302000 := aM (Kd.S_after (ok := (fun k_ => k_ ≠ gb303)) (rs_ HO_302000.out) hg hat)
   replace BK299 := aM (blk_grown (bk_ BK299.out) hg (Kd.R_ne HO306.out BK299.out (by decide)))
   replace BK300 := aM (blk_grown (bk_ BK300.out) hg (Kd.R_ne HO306.out BK300.out (by decide)))
   replace BK301 := aM (blk_grown (bk_ BK301.out) hg (Kd.R_ne HO306.out BK301.out (by decide)))
   replace BK303 := aM (blk_grown (bk_ BK303.out) hg (Kd.R_ne HO306.out BK303.out (by decide)))
   replace HB := aM (hb)
   have HO309 := aM (ho)
   clear HO306 ho hb hg hat
   obtain ⟨Ao25, co25, eo25⟩ := Kd.R_slice HO309.out
   (first | subst eo25 | (injection eo25 with f1_ f2_ f3_; have f4_ := f1_.symm; have f5_ := f3_.symm; clear f1_ f2_ f3_; subst f4_; subst f5_))
   refine hK.out _ _ ⟨(blk_cell BK301.out 0).trans rfl, (blk_cell BK303.out 0).trans rfl, (blk_cell BK303.out 1).trans rfl, (blk_cell BK303.out 2).trans rfl⟩ (fun hHeld => ?_)
   clear hK K
   refine nm_ 28 ?_
   refine pI_ 10 29 (bqz 15 2047) ?_
   refine one_ (i := 11) (N := some 30) (bqz 15 4095) rfl rfl qzc (by decide) (fun K hK => ?_)
   refine value_ (w1 := ?_) (v := ?_) (by rfl) rfl ?_ ?_
   rotate_left 2
   {
   go_simp
   constructor
   {
   rfl
   }
   {
   rfl
   }
   }
   refine hK.out _ _ ⟨(blk_cell (blk_alloc BK301.out _) 0).trans rfl, (blk_cell (blk_alloc BK303.out _) 0).trans rfl, (blk_cell (blk_alloc BK303.out _) 1).trans rfl, (blk_cell (blk_alloc BK303.out _) 2).trans rfl⟩ (fun hHeld => ?_)
   clear hK K
   refine nm_ 30 ?_
   refine one_ (i := 12) (N := some 31) (bqz 15 8191) rfl rfl qzc (by decide) (fun K hK => ?_)
   refine Kd.S_append_step k79 (w0 := w) w.heap.size (by rfl) (.tmp 20) (.tmp 30) 24 79 (.agg #[(.int .i64 0), (.int .i64 0), (.slice none 0 0)]) 40 rfl Try.underlying24 info79 rfl (by decide) (by omega) u302000 x302000_1 (⟨(rd_T79 l0_0 x4_1).f0, (rd_T79 l0_0 x4_1).f1, y307⟩ : S79) [.int .i64 ((rd_T79 l0_0 x4_1).f0), .int .i64 ((rd_T79 l0_0 x4_1).f1), .slice Ao25 y307.length co25] (fun k_ => k_ ≠ gb303) (fun k_ => some k_ = (.slice Ao25 y307.length co25 : Value).ownBlock) rfl rfl ?aP (fun k_ hk_ => ((Kd.R_mono (ok' := fun k_ => ((fun k_ => k_ ≠ gb303)) k_ ∧ some k_ ≠ (u302000 : Value).ownBlock) (Kd.R_types (Kd.R_apart' (HO309.out) (Kd.S_typed HO_302000.out) (by decide)) BK303.out (by decide)) (fun k_ hk => ⟨hk.2, hk.1.2⟩))).1 k_ hk_.symm) ?aF ?aO ?aB ?aS ?aL ?_
   (case aP => exact k79_mkM _ _ _ (⟨(rd_T79 l0_0 x4_1).f0, (rd_T79 l0_0 x4_1).f1, y307⟩ : S79) (Kd.R_mono (Kd.R_tight rfl (Kd.R_mono (ok' := fun k_ => ((fun k_ => k_ ≠ gb303)) k_ ∧ some k_ ≠ (u302000 : Value).ownBlock) (Kd.R_types (Kd.R_apart' (HO309.out) (Kd.S_typed HO_302000.out) (by decide)) BK303.out (by decide)) (fun k_ hk => ⟨hk.2, hk.1.2⟩))) (fun _ h_ => h_)))
   (case aB => exact qz1)
   (case aF => exact (fun k_ hk => Kd.freshB (bk_ BK303.out) k_ hk))
   (case aO => exact (by (with_reducible repeat (first | apply Kd.S_alloc | apply Kd.S_drewN | apply Kd.S_drew)); exact Kd.S_mono HO_302000.out (fun k_ hk => ⟨hk.1, fun e_ => hk.2 e_⟩)))
   (case aS => exact qz46)
   (case aL => have := LMc11.out; omega)
   intro v311 w26 ho hb hg hat
   rw [← Ny310.out] at ho
   replace BK299 := aM (blk_grown (bk_ BK299.out) hg (Kd.S_ne HO_302000.out BK299.out (by decide)))
   replace BK300 := aM (blk_grown (bk_ BK300.out) hg (Kd.S_ne HO_302000.out BK300.out (by decide)))
   replace BK301 := aM (blk_grown (bk_ BK301.out) hg (Kd.S_ne HO_302000.out BK301.out (by decide)))
   replace BK303 := aM (blk_grown (bk_ BK303.out) hg (Kd.S_away HO_302000.out (fun _ hk => hk.1)))
   replace HB := aM (hb)
   have HO312 := aM (ho)
   clear HO_302000 HO309 ho hb hg hat
   obtain ⟨Ao27, co27, eo27⟩ := Kd.S_slice HO312.out
   (first | subst eo27 | (injection eo27 with f1_ f2_ f3_; have f4_ := f1_.symm; have f5_ := f3_.symm; clear f1_ f2_ f3_; subst f4_; subst f5_))
   refine hK.out _ _ ⟨(blk_cell BK301.out 0).trans rfl, (blk_cell BK303.out 0).trans rfl, (blk_cell BK303.out 1).trans rfl, (blk_cell BK303.out 2).trans rfl⟩ (fun hHeld => ?_)
   clear hK K
   refine nm_ 31 ?_
   refine pI_ 13 32 (bqz 15 16383) ?_
   refine last_ (i := 14) (N := none) (bqz 15 32767) rfl rfl qzc (by decide) (fun K hK => ?_)
   have hs28 : w26.cell? ⟨gb301, 0, none⟩ = some (u302000) := (blk_cell BK301.out 0).trans rfl
   have hfs28 := blk_frozen BK301.out 0
   have hns28_0 := NB299_301.out
   have hns28_1 := NB300_301.out
   have hns28_3 := NB303_301.out
   have hms28_0 := NB301_299.out
   have hms28_1 := NB301_300.out
   have hms28_3 := NB301_303.out
   refine sk_ ?_
   refine hK.out _ _ ?_
   clear hK K
   refine done_ (done_of HT_.out (by kernel_rfl)) ?_
   try go_wp2
   go_roundg k1
   case measure => have := HK1.out; omega
   case rel => exact ⟨(wrap64 (x4_1 + 1)), (y310), (.slice Ao27 y310.length co27), qz5, H', ⟨by have := HK1.out; omega⟩, ⟨by (with_reducible repeat (first | apply Kd.S_alloc | apply Kd.S_drewN | apply Kd.S_drew)); exact Kd.S_mono (Kd.S_far (p := ⟨gb301, 0, none⟩) (Kd.S_types HO312.out BK301.out (by decide)) (fun _ hk => hk.2) (.slice Ao27 y310.length co27)) (fun _ hk => trivial)⟩, ⟨by (with_reducible repeat (first | refine blk_drewN ?_ _ | refine blk_drew ?_ | refine blk_alloc ?_ _)); refine blk_far ?_ NB299_301.out _; exact bk_ BK299.out⟩, ⟨by (with_reducible repeat (first | refine blk_drewN ?_ _ | refine blk_drew ?_ | refine blk_alloc ?_ _)); refine blk_far ?_ NB300_301.out _; exact bk_ BK300.out⟩, ⟨by (with_reducible repeat (first | refine blk_drewN ?_ _ | refine blk_drew ?_ | refine blk_alloc ?_ _)); refine blk_put (cs := #[u302000]) ?_ 0 _ rfl; exact bk_ BK301.out⟩, ⟨qz1⟩⟩
   }
   {
   exact an_ c11 H
   }
   }
   {
   exact an_ c10 H
   }
   }
   {
   exact an_ c9 H
   }
   }
   {
   rw [if_neg c8] at H
   have c8b0 := decide_eq_false c8
   clear c8
   obtain rfl := Option.some.inj H
   simp only [Option.some.injEq, Prod.mk.injEq] at H
   obtain ⟨rfl⟩ := H
   have hnb29 := NB299_300.out
   have hnc29 := NB300_299.out
   have hnb30 := NB299_301.out
   have hnc30 := NB301_299.out
   obtain ⟨hcz31_0, hfz31_0⟩ := bf_ BK299.out
   have hnb32 := NB301_300.out
   have hnc32 := NB300_301.out
   obtain ⟨hcz33_0, hfz33_0⟩ := bf_ BK301.out
   obtain ⟨Ao34, co34, eo34⟩ := Kd.S_slice HO_302000.out
   subst eo34
   obtain ⟨hcz35_0, hfz35_0⟩ := bf_ BK300.out
   go_wp2
   refine bodyPost_ret (results_cell_row rfl _ _ gb300 26 #[.slice Ao34 x302000_1.length co34] (0, 0) _ rfl (by (with_reducible repeat (first | refine blk_drewN ?_ _ | refine blk_drew ?_ | refine blk_alloc ?_ _)); refine blk_put (cs := #[.slice none 0 0]) ?_ 0 _ rfl; exact bk_ BK300.out) Try.underlying26 rfl (by kernel_rfl)) rfl ?_
   exact ⟨_, qzw, by (with_reducible repeat (first | apply Kd.S_alloc | apply Kd.S_drewN | apply Kd.S_drew)); exact Kd.S_mono (Kd.S_far (p := ⟨gb300, 0, none⟩) (Kd.S_types HO_302000.out BK300.out (by decide)) (fun _ hk => hk.2) (.slice Ao34 x302000_1.length co34)) (fun _ hk => trivial), qz1⟩

   }
end Go.Proofs.Yteajnkondkfmgaa.PFnEach
