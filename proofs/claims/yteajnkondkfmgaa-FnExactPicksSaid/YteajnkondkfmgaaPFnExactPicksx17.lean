-- Made by a program of this session out of the translation. Lean checks it.
import Derived.Test.YteajnkondkfmgaaPFnExactPicksx0
import Derived.Test.YteajnkondkfmgaaPFnExactPicksx1
import Derived.Test.YteajnkondkfmgaaPFnExactPicksx3
import Derived.Test.YteajnkondkfmgaaPFnExactPicksx8
import Derived.Test.YteajnkondkfmgaaPFnExactPicksx9
import Derived.Test.YteajnkondkfmgaaPFnExactPicksx15
import Derived.Test.YteajnkondkfmgaaPFnExactPicksx16
namespace Go.Proofs.Yteajnkondkfmgaa.PFnExactPicks
open Go.RowKit Go.Proofs.YteajnkondkfmgaaW.PrintWords Go.Proofs.YteajnkondkfmgaaW.PrintLast Go.Proofs.YteajnkondkfmgaaW.PrintMore
attribute [local go_sem] max2_int min2_int max_two min_two max_three min_three max_four min_four   -- for this text's walks alone
set_option linter.unusedVariables false
set_option linter.unusedSimpArgs false

/-! ### laws_FnExactPicks: function 14 -/
def laws_FnExactPicks.f (k : Nat) (l : List S117) (l1 : List S108) : Option Bool :=
 (laws_szStock.f k l 1048576).bind fun t => if t < 0 then some true else (laws_szItemS.f l1 t).bind fun t' => if t' < 0 then some true else
  (laws_toStock.f k l).bind fun x => (laws_toItemS.f k l1).bind fun y => (spec_Picks.f k x y).bind fun w0 => (impl_Picks.f k x y).bind fun g =>
  (laws_eqPickS.f k g.1 w0.1).bind fun e1 => (laws_eqStock.f k x x).bind fun e2 => (laws_eqItemS.f k y y).bind fun e3 => (laws_markStock.f k x 1).bind fun m1 => (laws_markItemS.f k y m1.1).bind fun m3 => (laws_markPickS.f k g.1 1).bind fun m2 => (laws_heldPickS.f k m2.2 1).bind fun q =>
   if e1 = true ∧ g.2 = w0.2 ∧ e2 = true ∧ e3 = true ∧ ¬ m3.1 < 0 ∧ ¬ q < 0 ∧ q = m2.1 then some true else none
theorem laws_FnExactPicks.mono : ∀ l l1 k, LeO (laws_FnExactPicks.f k l l1) (laws_FnExactPicks.f (k + 1) l l1) := by
 intro l l1 k
 unfold laws_FnExactPicks.f
 repeat' first
  | (with_reducible first | exact laws_szStock.mono _ _ _ | exact laws_toStock.mono _ _ | exact laws_toItemS.mono _ _ | exact spec_Picks.mono _ _ _ | exact impl_Picks.mono _ _ _ | exact laws_eqPickS.mono _ _ _ | exact laws_eqStock.mono _ _ _ | exact laws_eqItemS.mono _ _ _ | exact laws_markStock.mono _ _ _ | exact laws_markItemS.mono _ _ _ | exact laws_markPickS.mono _ _ _ | exact laws_heldPickS.mono _ _ _ | exact LeO.refl _ | exact LeO.none _ | refine LeO.ite ?_ ?_ | refine LeO.bind ?_ (fun _ => ?_))
def laws_FnExactPicks.T14 : Bool × List (List Nat × List Nat) := (true, [([], []), ([], []), ([1], [1]), ([0, 2, 2], [0, 2]), ([3], [3])])
def laws_FnExactPicks.B14 : List Nat := [0, 0, 2, 7, 15]
theorem laws_FnExactPicks.tab14 : rtab .any (opsOf Try.f14 14) = laws_FnExactPicks.T14 := by kernel_rfl
theorem laws_FnExactPicks.bits14 : waitsOk laws_FnExactPicks.T14.2 laws_FnExactPicks.B14 = true := by kernel_rfl
set_option maxHeartbeats 8000000 in
set_option maxRecDepth 100000 in
theorem laws_FnExactPicks.calls (k : Nat) (A0_0 : Option Addr) (c0_0 : Nat) (l0_0 : List S117) (A1 : Option Addr) (c1 : Nat) (l1 : List S108) (r : Bool) (w : World) (hr0_0 : Kd.C k117 w A0_0 l0_0.length l0_0) (hc0_0 : l0_0.length ≤ c0_0) (hr1 : Kd.C k108 w A1 l1.length l1) (hc1 : l1.length ≤ c1) (hT : r = true) (h : laws_FnExactPicks.f k l0_0 l1 = some r) :
  Calls Try.prog 14 #[.agg #[.slice A0_0 l0_0.length c0_0], .slice A1 l1.length c1] w fun e w' => e = .returned (.bool r) ∧ Below w.heap.size w w' := by
 subst hT
 have hu36 := Try.underlying36
 have hu26 := Try.underlying26
 unfold laws_FnExactPicks.f at h
 replace h := Option.bind_eq_some_iff.mp h
 obtain ⟨t, ht, h⟩ := h
 have HT := aM ht
 have HR := aM hr0_0
 have HC := aM hc0_0
 have HR1 := aM hr1
 have HC1 := aM hc1
 have HB := aM (Below.refl w.heap.size w)
 clear ht hr0_0 hc0_0 hr1 hc1
 by_cases c1 : t < 0
 {
 have c1b := decide_eq_true c1
 clear h c1
 go_enter Try.func14, Try.ntmps14
 go_wp2_with (first
  | (go_at_call 29; refine (laws_szStock.calls k _ _ l0_0 1048576 t _ (Kd.C_alloc HR.out _) HC.out HT.out).mono ?_; rintro e w1 ⟨rfl, hb⟩; replace HB := aM (below_step (below_alloc HB.out _) hb); clear hb))
 go_ret
 exact ⟨rfl, HB.out⟩
 }
 rw [if_neg c1] at h
 have c1b := decide_eq_false c1
 clear c1
 replace h := Option.bind_eq_some_iff.mp h
 obtain ⟨t', ht', h⟩ := h
 have HT' := aM ht'
 clear ht'
 by_cases c4 : t' < 0
 {
 have c4b := decide_eq_true c4
 clear h c4
 go_enter Try.func14, Try.ntmps14
 go_wp2_with (first
  | (go_at_call 29; refine (laws_szStock.calls k _ _ l0_0 1048576 t _ (Kd.C_alloc HR.out _) HC.out HT.out).mono ?_; rintro e w1 ⟨rfl, hb⟩; replace HB := aM (below_step (below_alloc HB.out _) hb); clear hb)
  | (go_at_call 53; refine (laws_szItemS.calls _ _ l1 t t' _ (Kd.C_below HR1.out HB.out) HC1.out HT'.out).mono ?_; rintro e w2 ⟨rfl, ⟨nd, rfl⟩⟩; replace HB := aM (pw_below_drewN HB.out nd)))
 go_ret
 exact ⟨rfl, HB.out⟩
 }
 rw [if_neg c4] at h
 have c4b := decide_eq_false c4
 clear c4
 replace h := Option.bind_eq_some_iff.mp h
 obtain ⟨x, hx, h⟩ := h
 replace h := Option.bind_eq_some_iff.mp h
 obtain ⟨y, hy, h⟩ := h
 replace h := Option.bind_eq_some_iff.mp h
 obtain ⟨⟨v1, v2⟩, hv, h⟩ := h
 replace h := Option.bind_eq_some_iff.mp h
 obtain ⟨⟨g1, g2⟩, hg, h⟩ := h
 replace h := Option.bind_eq_some_iff.mp h
 obtain ⟨e1, he1, h⟩ := h
 replace h := Option.bind_eq_some_iff.mp h
 obtain ⟨e2, he2, h⟩ := h
 replace h := Option.bind_eq_some_iff.mp h
 obtain ⟨e3, he3, h⟩ := h
 replace h := Option.bind_eq_some_iff.mp h
 obtain ⟨⟨m1, x'⟩, hm1, h⟩ := h
 replace h := Option.bind_eq_some_iff.mp h
 obtain ⟨⟨m3, y'⟩, hm3, h⟩ := h
 replace h := Option.bind_eq_some_iff.mp h
 obtain ⟨⟨m2, g'⟩, hm2, h⟩ := h
 replace h := Option.bind_eq_some_iff.mp h
 obtain ⟨q, hq, h⟩ := h
 dsimp only at h he1 hm2 hm3 hq
 have hall : e1 = true ∧ g2 = v2 ∧ e2 = true ∧ e3 = true ∧ ¬ m3 < 0 ∧ ¬ q < 0 ∧ q = m2 := Decidable.byContradiction fun hn => by rw [if_neg hn] at h; cases h
 clear h
 obtain ⟨rfl, rfl, rfl, rfl, c2, c3, rfl⟩ := hall
 have c2b := decide_eq_false c2
 have c3b := decide_eq_false c3
 have HX0 := aM hx
 have HY0 := aM hy
 have HV := aM hv
 have HG0 := aM hg
 have HE1 := aM he1
 have HE2 := aM he2
 have HE3 := aM he3
 have HM1 := aM hm1
 have HM3 := aM hm3
 have HM2 := aM hm2
 have HQ := aM hq
 clear c2 c3 hx hy hv hg he1 he2 he3 hm1 hm3 hm2 hq
 have ST0 := aM trivial
 go_enter Try.func14, Try.ntmps14
 go_wp2_with (first
  | (go_at_call 29; have hst := ST0; clear hst ST0; refine (laws_szStock.calls k _ _ l0_0 1048576 t _ (Kd.C_alloc HR.out _) HC.out HT.out).mono ?_; rintro e w0 ⟨rfl, hb⟩; have C4 : w0.cell? ⟨w.heap.size, 0, none⟩ = some (.slice A0_0 l0_0.length c0_0) := (blk_cell (blk_below (blk_new w (.cells #[.slice A0_0 l0_0.length c0_0] 36)) hb) 0).trans rfl; have L4 := blk_lt (blk_below (blk_new w (.cells #[.slice A0_0 l0_0.length c0_0] 36)) hb); replace HB := aM (below_step (below_alloc HB.out _) hb); clear hb; have ST1 := aM trivial)
  | (go_at_call 53; have hst := ST1; clear hst ST1; refine (laws_szItemS.calls _ _ l1 t t' _ (Kd.C_below HR1.out HB.out) HC1.out HT'.out).mono ?_; rintro e w00 ⟨rfl, ⟨nd, rfl⟩⟩; have hU := pw_below_drewN (Below.refl w0.heap.size w0) nd; replace C4 := pw_cell_below hU C4; replace L4 := Nat.lt_of_lt_of_le L4 (below_size hU); replace HB := aM (below_step HB.out hU); clear hU; generalize w0.drewN nd = w01 at C4 L4 HB ⊢; have ST2 := aM trivial)
  | (go_at_call 30; have hst := ST2; clear hst ST2; refine (laws_toStock.calls k _ _ l0_0 x _ (Kd.C_below HR.out HB.out) HC.out HX0.out).mono ?_; rintro e w1 ⟨v0, rfl, hS, hU⟩; obtain ⟨A1x, c1x, rfl⟩ := Kd.S_slice hS; replace C4 := pw_cell_below hU C4; replace L4 := Nat.lt_of_lt_of_le L4 (below_size hU); replace HB := aM (below_step HB.out hU); have HS1 := aM hS; clear hS hU; have ST3 := aM trivial)
  | (go_at_call 55; have hst := ST3; clear hst ST3; refine (laws_toItemS.calls k _ _ l1 y _ (Kd.C_below HR1.out HB.out) HC1.out HY0.out).mono ?_; rintro e w1y ⟨v0, rfl, hS, hU⟩; obtain ⟨A1y, c1y, rfl⟩ := Kd.R_slice hS; replace C4 := pw_cell_below hU C4; replace L4 := Nat.lt_of_lt_of_le L4 (below_size hU); replace HS1 := aM (Kd.S_below HS1.out hU); replace HB := aM (below_step HB.out hU); have HS2 := aM (Kd.R_reads' hS); clear hS hU; have ST4 := aM trivial)
  | (go_at_call 54; have hst := ST4; clear hst ST4; refine (spec_Picks.calls k _ _ x _ _ y v1 g2 _ (Kd.S_reads' HS1.out).2.2 (Kd.S_reads' HS1.out).2.1 HS2.out.2.2 HS2.out.2.1 HV.out).mono ?_; rintro e w2 ⟨v0, rfl, hS, hU⟩; obtain ⟨A2, c2, rfl⟩ := Kd.R_slice hS; replace C4 := pw_cell_below hU C4; replace L4 := Nat.lt_of_lt_of_le L4 (below_size hU); replace HS1 := aM (Kd.S_below HS1.out hU); replace HB := aM (below_step HB.out hU); have HN := aM (Kd.R_mono (ok' := fun k => 0 ≤ k ∧ k < w2.heap.size) (Kd.R_bound hS) (fun k hk => ⟨Nat.zero_le k, hk.2.2.1⟩)); clear hS hU HS1 HS2; have HZ4 := aM L4; have ST5 := aM trivial)
  | (go_at_call 30; have hst := ST5; clear hst ST5; refine (laws_toStock.calls k _ _ l0_0 x _ (Kd.C_below HR.out HB.out) HC.out HX0.out).mono ?_; rintro e w3 ⟨v0, rfl, hS, hU⟩; obtain ⟨A3, c3, rfl⟩ := Kd.S_slice hS; have HZ6 := aM (below_size hU); replace C4 := pw_cell_below hU C4; replace L4 := Nat.lt_of_lt_of_le L4 (below_size hU); replace HN := aM (Kd.R_below HN.out hU); replace HB := aM (below_step HB.out hU); have HX := aM (Kd.S_mono (ok' := fun k => w2.heap.size ≤ k ∧ k < w3.heap.size) (Kd.S_bound hS) (fun k hk => ⟨hk.2.1, hk.2.2.1⟩)); clear hS hU; have ST6 := aM trivial)
  | (go_at_call 55; have hst := ST6; clear hst ST6; refine (laws_toItemS.calls k _ _ l1 y _ (Kd.C_below HR1.out (below_alloc HB.out _)) HC1.out HY0.out).mono ?_; rintro e w3y ⟨v0, rfl, hS, hb⟩; obtain ⟨A3y, c3y, rfl⟩ := Kd.R_slice hS; have hU := below_step (below_alloc (Below.refl w3.heap.size w3) _) hb; have C8 : w3y.cell? ⟨w3.heap.size, 0, none⟩ = some (.slice A3 x.length c3) := (blk_cell (blk_below (blk_new w3 (.cells #[.slice A3 x.length c3] 26)) hb) 0).trans rfl; have L8 := blk_lt (blk_below (blk_new w3 (.cells #[.slice A3 x.length c3] 26)) hb); replace C4 := pw_cell_below hU C4; replace L4 := Nat.lt_of_lt_of_le L4 (below_size hU); replace HN := aM (Kd.R_below HN.out hU); replace HX := aM (Kd.S_below HX.out hU); replace HB := aM (below_step HB.out hU); have HY := aM (show Kd.R k48 48 w3y (w3.heap.size + 1) (fun k => w3.heap.size + 1 ≤ k ∧ k < w3y.heap.size) (.slice A3y y.length c3y) y by have h9 := Kd.R_mono (ok' := fun k => (w3.alloc (.cells #[.slice A3 x.length c3] 26)).heap.size ≤ k ∧ k < w3y.heap.size) (Kd.R_bound hS) (fun k hk => ⟨hk.2.1, hk.2.2.1⟩); rw [World.size_alloc] at h9; exact h9); clear hS hU hb; have ST7 := aM trivial)
  | (go_at_call 36; have hst := ST7; clear hst ST7; refine (impl_Picks.calls k _ _ x _ _ y g1 g2 _ (Kd.S_reads' HX.out).2.2 (Kd.S_reads' HX.out).2.1 (Kd.R_reads' HY.out).2.2 (Kd.R_reads' HY.out).2.1 HG0.out).mono ?_; rintro e w4 ⟨v0, rfl, hS, hU⟩; obtain ⟨A4, c4, rfl⟩ := Kd.R_slice hS; have Z3 := aM (show w.heap.size < w2.heap.size ∧ w2.heap.size ≤ w3.heap.size ∧ w3.heap.size < w3y.heap.size ∧ w3y.heap.size ≤ w4.heap.size from ⟨HZ4.out, HZ6.out, L8, below_size hU⟩); replace C4 := pw_cell_below hU C4; replace L4 := Nat.lt_of_lt_of_le L4 (below_size hU); replace C8 := pw_cell_below hU C8; replace L8 := Nat.lt_of_lt_of_le L8 (below_size hU); replace HN := aM (Kd.R_below HN.out hU); replace HX := aM (Kd.S_below HX.out hU); replace HY := aM (Kd.R_below HY.out hU); replace HB := aM (below_step HB.out hU); have HG := aM (Kd.R_mono (ok' := fun k => w3y.heap.size ≤ k ∧ k < w4.heap.size) (Kd.R_bound hS) (fun k hk => ⟨hk.2.1, hk.2.2.1⟩)); clear hS hU; have ST8 := aM trivial)
  | (go_at_call 49; have hst := ST8; clear hst ST8; refine (laws_eqPickS.calls k _ _ g1 _ _ v1 true _ (Kd.R_reads' HG.out).2.2 (Kd.R_reads' HG.out).2.1 (Kd.R_reads' HN.out).2.2 (Kd.R_reads' HN.out).2.1 HE1.out).mono ?_; rintro e w5 ⟨rfl, hU⟩; replace C4 := pw_cell_below hU C4; replace L4 := Nat.lt_of_lt_of_le L4 (below_size hU); replace C8 := pw_cell_below hU C8; replace L8 := Nat.lt_of_lt_of_le L8 (below_size hU); replace HN := aM (Kd.R_below HN.out hU); replace HX := aM (Kd.S_below HX.out hU); replace HY := aM (Kd.R_below HY.out hU); replace HG := aM (Kd.R_below HG.out hU); replace HB := aM (below_step HB.out hU); clear hU; have ST9 := aM trivial))
 refine start_ (n := 5) (S := fun w' => w'.cell? ⟨w3.heap.size, 0, none⟩ = some (.slice A3 x.length c3) ∧ w'.cell? ⟨w.heap.size, 0, none⟩ = some (.slice A0_0 l0_0.length c0_0)) (ds := []) #[false, false, false, false, false] (by kernel_rfl) rfl rfl ⟨C8, C4⟩ (fun hHeld => ?_); refine with_tabW laws_FnExactPicks.tab14 laws_FnExactPicks.bits14 (fun HT_ HW_ => ?_)
 refine tI2_ 0 54 #[true, false, false, false, false] ?_
 refine tI2_ 1 55 #[true, true, false, false, false] ?_
 refine one_ (i := 2) (N := some 56) #[true, true, true, false, false] rfl rfl qzc (by decide) (fun K hK => ?_)
 refine goes_ Try.func30 (by kernel_rfl) rfl #[.agg #[.slice A0_0 l0_0.length c0_0]] (by rfl) rfl rfl qz67 ?_
 refine (laws_toStock.calls k _ _ l0_0 x _ (Kd.C_below HR.out (below_drew HB.out)) HC.out HX0.out).mono ?_
 rintro e w6 ⟨v0, rfl, hS, hb⟩; obtain ⟨A6, c6, rfl⟩ := Kd.S_slice hS
 refine ⟨_, rfl, ?_⟩
 refine hK.out _ _ ⟨pw_cell_below hb hHeld.1, pw_cell_below hb hHeld.2⟩ (fun hHeld => ?_)
 clear hK K
 refine norm_ (a' := ?_) ?_ ?_
 rotate_left
 {
 show Act.put _ (some 56) _ = _
 simp only [qzs]
 rfl
 }
 have hU := below_step (below_drew (Below.refl w5.heap.size w5)) hb
 clear hb
 replace C4 := pw_cell_below hU C4
 replace L4 := Nat.lt_of_lt_of_le L4 (below_size hU)
 replace C8 := pw_cell_below hU C8
 replace L8 := Nat.lt_of_lt_of_le L8 (below_size hU)
 replace HN := aM (Kd.R_below HN.out hU)
 replace HX := aM (Kd.S_below HX.out hU)
 replace HY := aM (Kd.R_below HY.out hU)
 replace HG := aM (Kd.R_below HG.out hU)
 replace HB := aM (below_step HB.out hU)
 clear hU
 refine one_ (i := 3) (N := some 57) #[true, true, true, true, false] rfl rfl qzc (by decide) (fun K hK => ?_)
 refine goes_ Try.func31 (by kernel_rfl) rfl #[.agg #[.slice A3 x.length c3], .agg #[.slice A6 x.length c6]] (by rfl) rfl rfl qz67 ?_
 refine (laws_eqStock.calls k _ _ x _ _ x true _ (Kd.S_reads' HX.out).2.2 (Kd.S_reads' HX.out).2.1 (Kd.S_reads' hS).2.2 (Kd.S_reads' hS).2.1 HE2.out).mono ?_
 rintro e w7 ⟨rfl, hb⟩
 refine ⟨_, rfl, ?_⟩
 refine hK.out _ _ ⟨pw_cell_below hb hHeld.1, pw_cell_below hb hHeld.2⟩ (fun hHeld => ?_)
 clear hK K
 refine norm_ (a' := ?_) ?_ ?_
 rotate_left
 {
 show Act.put _ (some 57) _ = _
 simp only [qzs]
 rfl
 }
 refine pI_ 4 58 #[true, true, true, true, true] ?_
 refine done_ (done_of HT_.out (by kernel_rfl)) ?_
 clear hHeld HT_ HW_ hS
 have hU := hb
 clear hb
 replace C4 := pw_cell_below hU C4
 replace L4 := Nat.lt_of_lt_of_le L4 (below_size hU)
 replace C8 := pw_cell_below hU C8
 replace L8 := Nat.lt_of_lt_of_le L8 (below_size hU)
 replace HN := aM (Kd.R_below HN.out hU)
 replace HX := aM (Kd.S_below HX.out hU)
 replace HY := aM (Kd.R_below HY.out hU)
 replace HG := aM (Kd.R_below HG.out hU)
 replace HB := aM (below_step HB.out hU)
 clear hU
 go_wp2_with (first
  | (go_at_call 55; have hst := ST9; clear hst ST9; refine (laws_toItemS.calls k _ _ l1 y _ (Kd.C_below HR1.out HB.out) HC1.out HY0.out).mono ?_; rintro e w7y ⟨v0, rfl, hS, hU⟩; obtain ⟨A7y, c7y, rfl⟩ := Kd.R_slice hS; replace C4 := pw_cell_below hU C4; replace L4 := Nat.lt_of_lt_of_le L4 (below_size hU); replace C8 := pw_cell_below hU C8; replace L8 := Nat.lt_of_lt_of_le L8 (below_size hU); replace HN := aM (Kd.R_below HN.out hU); replace HX := aM (Kd.S_below HX.out hU); replace HY := aM (Kd.R_below HY.out hU); replace HG := aM (Kd.R_below HG.out hU); replace HB := aM (below_step HB.out hU); have HS2 := aM (Kd.R_reads' hS); clear hS hU; have ST10 := aM trivial)
  | (go_at_call 56; have hst := ST10; clear hst ST10; refine (laws_eqItemS.calls k _ _ y _ _ y true _ (Kd.R_reads' HY.out).2.2 (Kd.R_reads' HY.out).2.1 HS2.out.2.2 HS2.out.2.1 HE3.out).mono ?_; rintro e w7z ⟨rfl, hU⟩; replace C4 := pw_cell_below hU C4; replace L4 := Nat.lt_of_lt_of_le L4 (below_size hU); replace C8 := pw_cell_below hU C8; replace L8 := Nat.lt_of_lt_of_le L8 (below_size hU); replace HN := aM (Kd.R_below HN.out hU); replace HX := aM (Kd.S_below HX.out hU); replace HY := aM (Kd.R_below HY.out hU); replace HG := aM (Kd.R_below HG.out hU); replace HB := aM (below_step HB.out hU); clear hU HS2; have ST11 := aM trivial)
  | (go_at_call 32; have hst := ST11; clear hst ST11; refine (laws_markStock.calls k (fun k => w2.heap.size ≤ k ∧ k < w3.heap.size) _ x 1 m1 x' w _ HB.out (Kd.S_lower HX.out (show w.heap.size ≤ w2.heap.size by have := Z3.out; omega)) HM1.out).mono ?_; rintro e w8 ⟨rfl, hS, hB, hk⟩; replace C4 := cell_kept C4 hk (by have := Z3.out; intro h; have h : _ ∧ _ := h; (try simp only at h); omega); replace L4 := Nat.lt_of_lt_of_le L4 hk.1; replace C8 := cell_kept C8 hk (by have := Z3.out; intro h; have h : _ ∧ _ := h; (try simp only at h); omega); replace L8 := Nat.lt_of_lt_of_le L8 hk.1; replace HN := aM (Kd.R_kept HN.out hk (by have := Z3.out; intro k_ h1 h2; have h1 : _ ∧ _ := h1; have h2 : _ ∧ _ := h2; (try simp only at h1 h2); omega)); replace HY := aM (Kd.R_kept HY.out hk (by have := Z3.out; intro k_ h1 h2; have h1 : _ ∧ _ := h1; have h2 : _ ∧ _ := h2; (try simp only at h1 h2); omega)); replace HG := aM (Kd.R_kept HG.out hk (by have := Z3.out; intro k_ h1 h2; have h1 : _ ∧ _ := h1; have h2 : _ ∧ _ := h2; (try simp only at h1 h2); omega)); replace HB := aM hB; clear HX hS hB hk; have ST12 := aM trivial)
  | (go_at_call 57; have hst := ST12; clear hst ST12; refine (laws_markItemS.calls k (fun k => w3.heap.size + 1 ≤ k ∧ k < w3y.heap.size) _ y m1 m3 y' w _ HB.out (Kd.R_lower HY.out (show w.heap.size ≤ w3.heap.size + 1 by have := Z3.out; omega)) HM3.out).mono ?_; rintro e w8y ⟨rfl, hS, hB, hk⟩; replace C4 := cell_kept C4 hk (by have := Z3.out; intro h; have h : _ ∧ _ := h; (try simp only at h); omega); replace L4 := Nat.lt_of_lt_of_le L4 hk.1; replace C8 := cell_kept C8 hk (by have := Z3.out; intro h; have h : _ ∧ _ := h; (try simp only at h); omega); replace L8 := Nat.lt_of_lt_of_le L8 hk.1; replace HN := aM (Kd.R_kept HN.out hk (by have := Z3.out; intro k_ h1 h2; have h1 : _ ∧ _ := h1; have h2 : _ ∧ _ := h2; (try simp only at h1 h2); omega)); replace HG := aM (Kd.R_kept HG.out hk (by have := Z3.out; intro k_ h1 h2; have h1 : _ ∧ _ := h1; have h2 : _ ∧ _ := h2; (try simp only at h1 h2); omega)); replace HB := aM hB; clear HY hS hB hk; have ST13 := aM trivial)
  | (go_at_call 49; have hst := ST13; clear hst ST13; refine (laws_eqPickS.calls k _ _ g1 _ _ v1 true _ (Kd.R_reads' HG.out).2.2 (Kd.R_reads' HG.out).2.1 (Kd.R_reads' HN.out).2.2 (Kd.R_reads' HN.out).2.1 HE1.out).mono ?_; rintro e w9 ⟨rfl, hU⟩; replace C4 := pw_cell_below hU C4; replace L4 := Nat.lt_of_lt_of_le L4 (below_size hU); replace C8 := pw_cell_below hU C8; replace L8 := Nat.lt_of_lt_of_le L8 (below_size hU); replace HN := aM (Kd.R_below HN.out hU); replace HG := aM (Kd.R_below HG.out hU); replace HB := aM (below_step HB.out hU); clear hU; have ST14 := aM trivial)
  | (go_at_call 50; have hst := ST14; clear hst ST14; refine (laws_markPickS.calls k (fun k => w3y.heap.size ≤ k ∧ k < w4.heap.size) _ g1 1 q g' w _ HB.out (Kd.R_lower HG.out (show w.heap.size ≤ w3y.heap.size by have := Z3.out; omega)) HM2.out).mono ?_; rintro e w10 ⟨rfl, hS, hB, hk⟩; replace C4 := cell_kept C4 hk (by have := Z3.out; intro h; have h : _ ∧ _ := h; (try simp only at h); omega); replace L4 := Nat.lt_of_lt_of_le L4 hk.1; replace C8 := cell_kept C8 hk (by have := Z3.out; intro h; have h : _ ∧ _ := h; (try simp only at h); omega); replace L8 := Nat.lt_of_lt_of_le L8 hk.1; replace HN := aM (Kd.R_kept HN.out hk (by have := Z3.out; intro k_ h1 h2; have h1 : _ ∧ _ := h1; have h2 : _ ∧ _ := h2; (try simp only at h1 h2); omega)); replace HB := aM hB; replace HG := aM hS; clear hS hB hk; have hl9 := aM (Kd.R_reads' HG.out).1; have ST15 := aM trivial)
  | (go_at_call 58; have hst := ST15; clear hst ST15; have e9 := hl9.out; have h9 := Kd.R_reads' HG.out; rw [e9] at h9; rw [e9]; refine (laws_heldPickS.calls k _ _ g' 1 q _ h9.2.2 h9.2.1 HQ.out).mono ?_; rw [← e9]; rintro e wz ⟨rfl, ⟨nd, rfl⟩⟩; clear h9 e9; have hU := pw_below_drewN (Below.refl w10.heap.size w10) nd; replace C4 := pw_cell_below hU C4; replace L4 := Nat.lt_of_lt_of_le L4 (below_size hU); replace C8 := pw_cell_below hU C8; replace L8 := Nat.lt_of_lt_of_le L8 (below_size hU); replace HN := aM (Kd.R_below HN.out hU); replace HG := aM (Kd.R_below HG.out hU); replace HB := aM (below_step HB.out hU); clear hU; generalize w10.drewN nd = w11 at C4 L4 C8 L8 HN HG HB ⊢; have ST16 := aM trivial)
  | (go_at_call 30; have hst := ST16; clear hst ST16; refine (laws_toStock.calls k _ _ l0_0 x _ (Kd.C_below HR.out HB.out) HC.out HX0.out).mono ?_; rintro e w12 ⟨v0, rfl, hS, hU⟩; obtain ⟨A12, c12, rfl⟩ := Kd.S_slice hS; replace C4 := pw_cell_below hU C4; replace L4 := Nat.lt_of_lt_of_le L4 (below_size hU); replace C8 := pw_cell_below hU C8; replace L8 := Nat.lt_of_lt_of_le L8 (below_size hU); replace HN := aM (Kd.R_below HN.out hU); replace HG := aM (Kd.R_below HG.out hU); replace HB := aM (below_step HB.out hU); have HS1 := aM hS; clear hS hU; have ST17 := aM trivial)
  | (go_at_call 55; have hst := ST17; clear hst ST17; refine (laws_toItemS.calls k _ _ l1 y _ (Kd.C_below HR1.out HB.out) HC1.out HY0.out).mono ?_; rintro e w12y ⟨v0, rfl, hS, hU⟩; obtain ⟨A12y, c12y, rfl⟩ := Kd.R_slice hS; replace C4 := pw_cell_below hU C4; replace L4 := Nat.lt_of_lt_of_le L4 (below_size hU); replace C8 := pw_cell_below hU C8; replace L8 := Nat.lt_of_lt_of_le L8 (below_size hU); replace HN := aM (Kd.R_below HN.out hU); replace HG := aM (Kd.R_below HG.out hU); replace HS1 := aM (Kd.S_below HS1.out hU); replace HB := aM (below_step HB.out hU); have HS2 := aM (Kd.R_reads' hS); clear hS hU; have ST18 := aM trivial)
  | (go_at_call 36; have hst := ST18; clear hst ST18; refine (impl_Picks.calls k _ _ x _ _ y g1 g2 _ (Kd.S_reads' HS1.out).2.2 (Kd.S_reads' HS1.out).2.1 HS2.out.2.2 HS2.out.2.1 HG0.out).mono ?_; rintro e w13 ⟨v0, rfl, hS, hU⟩; obtain ⟨A13, c13, rfl⟩ := Kd.R_slice hS; replace C4 := pw_cell_below hU C4; replace L4 := Nat.lt_of_lt_of_le L4 (below_size hU); replace C8 := pw_cell_below hU C8; replace L8 := Nat.lt_of_lt_of_le L8 (below_size hU); replace HN := aM (Kd.R_below HN.out hU); replace HG := aM (Kd.R_below HG.out hU); replace HS1 := aM (Kd.S_below HS1.out hU); replace HB := aM (below_step HB.out hU); have HH := aM hS; clear hS hU HS1 HS2; have ST19 := aM trivial)
  | (go_at_call 49; have hst := ST19; clear hst ST19; refine (laws_eqPickS.calls k _ _ g1 _ _ v1 true _ (Kd.R_reads' HH.out).2.2 (Kd.R_reads' HH.out).2.1 (Kd.R_reads' HN.out).2.2 (Kd.R_reads' HN.out).2.1 HE1.out).mono ?_; rintro e w14 ⟨rfl, hU⟩; replace C4 := pw_cell_below hU C4; replace L4 := Nat.lt_of_lt_of_le L4 (below_size hU); replace C8 := pw_cell_below hU C8; replace L8 := Nat.lt_of_lt_of_le L8 (below_size hU); replace HN := aM (Kd.R_below HN.out hU); replace HG := aM (Kd.R_below HG.out hU); replace HH := aM (Kd.R_below HH.out hU); replace HB := aM (below_step HB.out hU); clear hU; have ST20 := aM trivial)
  | (go_at_call 58; have hst := ST20; clear hst ST20; have e9 := hl9.out; have h9 := Kd.R_reads' HG.out; rw [e9] at h9; rw [e9]; refine (laws_heldPickS.calls k _ _ g' 1 q _ h9.2.2 h9.2.1 HQ.out).mono ?_; rw [← e9]; rintro e wz ⟨rfl, ⟨nd, rfl⟩⟩; clear h9 e9; have hU := pw_below_drewN (Below.refl w14.heap.size w14) nd; replace C4 := pw_cell_below hU C4; replace L4 := Nat.lt_of_lt_of_le L4 (below_size hU); replace C8 := pw_cell_below hU C8; replace L8 := Nat.lt_of_lt_of_le L8 (below_size hU); replace HN := aM (Kd.R_below HN.out hU); replace HG := aM (Kd.R_below HG.out hU); replace HH := aM (Kd.R_below HH.out hU); replace HB := aM (below_step HB.out hU); clear hU; generalize w14.drewN nd = w15 at C4 L4 C8 L8 HN HG HH HB ⊢; have ST21 := aM trivial))
 go_ret
 exact ⟨rfl, HB.out⟩

end Go.Proofs.Yteajnkondkfmgaa.PFnExactPicks
