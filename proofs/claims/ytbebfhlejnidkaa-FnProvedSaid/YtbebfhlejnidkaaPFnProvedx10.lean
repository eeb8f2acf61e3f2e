-- Made by a program of this session out of the translation. Lean checks it.
import Derived.Test.YtbebfhlejnidkaaPFnProvedx0
namespace Go.Proofs.Ytbebfhlejnidkaa.PFnProved
open Go.RowKit Go.Proofs.YtbebfhlejnidkaaW.PrintWords Go.Proofs.YtbebfhlejnidkaaW.PrintLast Go.Proofs.YtbebfhlejnidkaaW.PrintMore
attribute [local go_sem] max2_int min2_int max_two min_two max_three min_three max_four min_four   -- for this text's walks alone
set_option linter.unusedVariables false
set_option linter.unusedSimpArgs false

/-! ### spec_l4Without: function 36 -/
def spec_l4Without.l0 : Nat → List (List Int) → Int → List (List Int) → Int → Option ((List (List Int)))
 | 0, _, _, _, _ => none
 | k + 1, x0, x1, x5, x6 => if x6 < (x0.length : Int) then ((some (([] : List Int) : List Int)).bind fun y352 => (if 0 ≤ x6 then (if 0 ≤ x1 then (if x1 ≤ ((rd_L1 x0 x6).length : Int) then (if y352.length + ((rd_L1 x0 x6).take (x1 : Int).toNat).length < 17592186044416 then ((some (y352 ++ ((rd_L1 x0 x6).take (x1 : Int).toNat) : List Int)).bind fun y357 => (if 0 ≤ (wrap64 (x1 + 1)) then (if (wrap64 (x1 + 1)) ≤ ((rd_L1 x0 x6).length : Int) then (if y357.length + ((rd_L1 x0 x6).drop ((wrap64 (x1 + 1)) : Int).toNat).length < 17592186044416 then (if x5.length < 5864062014805 then (spec_l4Without.l0 k x0 x1 (x5 ++ [(y357 ++ ((rd_L1 x0 x6).drop ((wrap64 (x1 + 1)) : Int).toNat))]) (wrap64 (x6 + 1))) else (none)) else (none)) else (none)) else (none))) else (none)) else (none)) else (none)) else (none))) else (some x5)
def spec_l4Without.f (k : Nat) (l0 : List (List Int)) (a1 : Int) : Option ((List (List Int))) := spec_l4Without.l0 k l0 a1 (([] : List (List Int))) 1
theorem spec_l4Without.mono_l : ∀ k, (∀ y0 y1 y2 y3, LeO (spec_l4Without.l0 k y0 y1 y2 y3) (spec_l4Without.l0 (k + 1) y0 y1 y2 y3))
 | 0 => fun _ _ _ _ r h => by simp [spec_l4Without.l0] at h
 | k + 1 => by
  have ih0 := spec_l4Without.mono_l k
  {
  intro y0 y1 y2 y3
  unfold spec_l4Without.l0
  exact qL
  }
theorem spec_l4Without.mono : ∀ a0 a1 k, LeO (spec_l4Without.f k a0 a1) (spec_l4Without.f (k + 1) a0 a1) := by
 intro a0 a1 k
 have ih0 := spec_l4Without.mono_l k
 unfold spec_l4Without.f
 exact qL
def spec_l4Without.T5 : Bool × List (List Nat × List Nat) := (true, [([], []), ([], []), ([], []), ([], []), ([2, 3], [2, 3]), ([4], [4]), ([], []), ([5, 6], [5, 6]), ([1, 7], [1, 7]), ([], []), ([], []), ([9, 10], [9, 10]), ([11], [11]), ([], []), ([13], [13]), ([12, 14], [12, 14]), ([8, 15, 8], [8, 15]), ([16], [16]), ([0, 17, 16], [0, 17]), ([18, 18, 0, 1, 2, 3, 4, 5, 6, 7, 8, 9, 10, 11, 12, 13, 14, 15, 16, 17, 18], [0, 18])])
def spec_l4Without.B5 : List Nat := [0, 0, 0, 0, 12, 28, 0, 124, 254, 0, 0, 1536, 3584, 0, 8192, 32256, 65534, 131070, 262143, 524287]
theorem spec_l4Without.tab5 : rtab .any (opsOf Try.f36 5) = spec_l4Without.T5 := by kernel_rfl
theorem spec_l4Without.bits5 : waitsOk spec_l4Without.T5.2 spec_l4Without.B5 = true := by kernel_rfl
set_option maxHeartbeats 8000000 in
set_option maxRecDepth 100000 in
theorem spec_l4Without.calls (k : Nat) (A0 : Option Addr) (c0 : Nat) (l0 : List (List Int)) (a1 : Int) (r : List (List Int)) (w : World) (hr0 : Kd.C (Kd.slice 3 (Kd.int .i64)) w A0 l0.length l0) (hc0 : l0.length ≤ c0) (h : spec_l4Without.f k l0 a1 = some r) :
  Calls Try.prog 36 #[.slice A0 l0.length c0, .int .i64 a1] w fun e w' => ∃ v0_ : Value, e = .returned (v0_) ∧ Kd.S (Kd.slice 3 (Kd.int .i64)) 24 w' w.heap.size (fun _ => True) v0_ r ∧ Below w.heap.size w w' := by
 have HR0 := aM hr0
 have HC0 := aM hc0
 clear hr0 hc0
 have HB := aM (Below.refl w.heap.size w)
 have H : (spec_l4Without.l0 k l0 a1 (([] : List (List Int))) 1) = some r := h
 clear h
 obtain ⟨y349, hy349⟩ : ∃ y_ : List (List Int), y_ = (([] : List (List Int))) := ⟨_, rfl⟩
 replace H : (spec_l4Without.l0 k l0 a1 y349 1) = some r := by first | (rw [hy349]; with_reducible exact H) | (have H2_ := (Option.bind_some _ _).symm.trans H; rw [hy349]; with_reducible exact H2_) | (have H2_ := (Option.bind_some _ _).symm.trans H; with_reducible exact H2_) | with_reducible exact H | (rw [hy349]; exact H) | exact H
 have Ny349 := aM hy349
 clear hy349
 have H' := aM H
 clear H
 go_enter Try.func36, Try.ntmps36
 go_wp2_with (first | ((with_reducible refine gate_dst (N := 7) rfl ?_); refine Kd.S_lit (Kd.slice 3 (Kd.int .i64)) _ 24 ?hg (N := 7) ?hd (xs := ([] : List (List Int))) (inner := []) (ok := fun _ => True) (okp := fun _ => True) ?hr ?hp (fun _ hk => hk) trivial (Below.refl _ _) (Nat.le_refl _) (by simp) ?_; (case hd => rfl); (case hg => rfl); (case hr => exact qz11); (case hp => exact (Reps.none _ _)); intro v350 w3 ho4 hb hg_ hnew_; clear hg_ hnew_; (first | rw [← Ny349.out] at ho4 | (simp only [Int.reduceToNat] at ho4; rw [← Ny349.out] at ho4)); have HO351 := aM (Kd.S_lower ho4 (below_size qz1)); replace HB := bS_ hb; clear hb ho4))
 go_loopg [5, 6] k (fun kq v5 v6 w' => ∃ (x5_1 : List (List Int)) (x6_1 : Int), v6 = .int .i64 x6_1 ∧ Aside0 (spec_l4Without.l0 kq l0 a1 x5_1 x6_1 = some r) ∧ Aside0 (kq ≤ k) ∧ Aside0 (Kd.S (Kd.slice 3 (Kd.int .i64)) 24 w' w.heap.size (fun _ => True) v5 x5_1) ∧ Aside0 (Below w.heap.size w w'))
 case atStart => exact ⟨(y349), (1), qz5, H', ⟨Nat.le_refl _⟩, ⟨rs_ HO351.out⟩, ⟨qz1⟩⟩
 case round =>
  clear H'
  try clear p2
  try clear c3
  obtain ⟨x5_1, x6_1, rfl, HA, HK1, HO_5, HB⟩ := hrel
  cases gk with
  | zero => exact absurd HA.out (by simp [spec_l4Without.l0])
  | succ k1 =>
   have H := HA.out
   clear HA
   simp only [spec_l4Without.l0] at H
   by_cases c5 : x6_1 < (l0.length : Int)
   {
   rw [if_pos c5] at H
   have c5b0 := decide_eq_true c5
   clear c5
   obtain ⟨y352, hy352⟩ : ∃ y_ : List Int, y_ = (([] : List Int)) := ⟨_, rfl⟩
   replace H : (if 0 ≤ x6_1 then (if 0 ≤ a1 then (if a1 ≤ ((rd_L1 l0 x6_1).length : Int) then (if y352.length + ((rd_L1 l0 x6_1).take (a1 : Int).toNat).length < 17592186044416 then ((some (y352 ++ ((rd_L1 l0 x6_1).take (a1 : Int).toNat) : List Int)).bind fun y357 => (if 0 ≤ (wrap64 (a1 + 1)) then (if (wrap64 (a1 + 1)) ≤ ((rd_L1 l0 x6_1).length : Int) then (if y357.length + ((rd_L1 l0 x6_1).drop ((wrap64 (a1 + 1)) : Int).toNat).length < 17592186044416 then (if x5_1.length < 5864062014805 then (spec_l4Without.l0 k1 l0 a1 (x5_1 ++ [(y357 ++ ((rd_L1 l0 x6_1).drop ((wrap64 (a1 + 1)) : Int).toNat))]) (wrap64 (x6_1 + 1))) else (none)) else (none)) else (none)) else (none))) else (none)) else (none)) else (none)) else (none)) = some r := by first | (rw [hy352]; with_reducible exact H) | (have H2_ := (Option.bind_some _ _).symm.trans H; rw [hy352]; with_reducible exact H2_) | (have H2_ := (Option.bind_some _ _).symm.trans H; with_reducible exact H2_) | with_reducible exact H | (rw [hy352]; exact H) | exact H
   have Ny352 := aM hy352
   clear hy352
   by_cases c6 : 0 ≤ x6_1
   {
   rw [if_pos c6] at H
   have c6b0 := decide_eq_true c6
   clear c6
   by_cases c7 : 0 ≤ a1
   {
   rw [if_pos c7] at H
   have c7b0 := eq_true c7
   have c7b1 := decide_eq_true c7
   clear c7
   by_cases c8 : a1 ≤ ((rd_L1 l0 x6_1).length : Int)
   {
   rw [if_pos c8] at H
   have c8b0 := eq_true c8
   have c8b1 := decide_eq_true c8
   clear c8
   by_cases c9 : y352.length + ((rd_L1 l0 x6_1).take (a1 : Int).toNat).length < 17592186044416
   {
   rw [if_pos c9] at H
   have LMc9 := aM c9
   clear c9
   obtain ⟨y357, hy357⟩ : ∃ y_ : List Int, y_ = (y352 ++ ((rd_L1 l0 x6_1).take (a1 : Int).toNat)) := ⟨_, rfl⟩
   replace H : (if 0 ≤ (wrap64 (a1 + 1)) then (if (wrap64 (a1 + 1)) ≤ ((rd_L1 l0 x6_1).length : Int) then (if y357.length + ((rd_L1 l0 x6_1).drop ((wrap64 (a1 + 1)) : Int).toNat).length < 17592186044416 then (if x5_1.length < 5864062014805 then (spec_l4Without.l0 k1 l0 a1 (x5_1 ++ [(y357 ++ ((rd_L1 l0 x6_1).drop ((wrap64 (a1 + 1)) : Int).toNat))]) (wrap64 (x6_1 + 1))) else (none)) else (none)) else (none)) else (none)) = some r := by first | (rw [hy357]; with_reducible exact H) | (have H2_ := (Option.bind_some _ _).symm.trans H; rw [hy357]; with_reducible exact H2_) | (have H2_ := (Option.bind_some _ _).symm.trans H; with_reducible exact H2_) | with_reducible exact H | (rw [hy357]; exact H) | exact H
   have Ny357 := aM hy357
   clear hy357
   obtain ⟨ji10, hji10⟩ : ∃ j_ : Int, (wrap64 (a1 + 1)) = j_ := ⟨_, rfl⟩
   replace H : (if 0 ≤ (ji10) then (if (ji10) ≤ ((rd_L1 l0 x6_1).length : Int) then (if y357.length + ((rd_L1 l0 x6_1).drop ((ji10) : Int).toNat).length < 17592186044416 then (if x5_1.length < 5864062014805 then (spec_l4Without.l0 k1 l0 a1 (x5_1 ++ [(y357 ++ ((rd_L1 l0 x6_1).drop ((ji10) : Int).toNat))]) (wrap64 (x6_1 + 1))) else (none)) else (none)) else (none)) else (none)) = some r := by first | (rw [hji10] at H; exact H) | (simp only [hji10] at H ⊢; exact H)
   have hji10w : (IntKind.i64.wrap (a1 + 1)) = ji10 := (i64_w _).trans hji10
   by_cases c11 : 0 ≤ (ji10)
   {
   rw [if_pos c11] at H
   have c11b0 := eq_true c11
   have c11b1 := decide_eq_true c11
   clear c11
   by_cases c12 : (ji10) ≤ ((rd_L1 l0 x6_1).length : Int)
   {
   rw [if_pos c12] at H
   have c12b0 := eq_true c12
   have c12b1 := decide_eq_true c12
   clear c12
   by_cases c13 : y357.length + ((rd_L1 l0 x6_1).drop ((ji10) : Int).toNat).length < 17592186044416
   {
   rw [if_pos c13] at H
   have LMc13 := aM c13
   clear c13
   obtain ⟨y362, hy362⟩ : ∃ y_ : List Int, y_ = (y357 ++ ((rd_L1 l0 x6_1).drop ((ji10) : Int).toNat)) := ⟨_, rfl⟩
   replace H : (if x5_1.length < 5864062014805 then (spec_l4Without.l0 k1 l0 a1 (x5_1 ++ [y362]) (wrap64 (x6_1 + 1))) else (none)) = some r := by first | (rw [hy362]; with_reducible exact H) | (have H2_ := (Option.bind_some _ _).symm.trans H; rw [hy362]; with_reducible exact H2_) | (have H2_ := (Option.bind_some _ _).symm.trans H; with_reducible exact H2_) | with_reducible exact H | (rw [hy362]; exact H) | exact H
   have Ny362 := aM hy362
   clear hy362
   by_cases c14 : x5_1.length < 5864062014805
   {
   rw [if_pos c14] at H
   have LMc14 := aM c14
   clear c14
   obtain ⟨y365, hy365⟩ : ∃ y_ : List (List Int), y_ = (x5_1 ++ [y362]) := ⟨_, rfl⟩
   replace H : (spec_l4Without.l0 k1 l0 a1 y365 (wrap64 (x6_1 + 1))) = some r := by first | (rw [hy365]; with_reducible exact H) | (have H2_ := (Option.bind_some _ _).symm.trans H; rw [hy365]; with_reducible exact H2_) | (have H2_ := (Option.bind_some _ _).symm.trans H; with_reducible exact H2_) | with_reducible exact H | (rw [hy365]; exact H) | exact H
   have Ny365 := aM hy365
   clear hy365
   have H' := aM H
   clear H
   try go_wp2
   replace HO_5 := aM (Kd.S_drew HO_5.out)
   replace HB := aM (below_drew1 HB.out)
   have p355 : 0 ≤ (x6_1 : Int) := dt_
   have q355 : x6_1 < (l0.length : Int) := dt_
   obtain ⟨ad355, A355_0, c355_0, e355, hx355_0, hl355_0, hi355_0⟩ := at_L1 HR0.out x6_1 p355 q355
   have hw355_0 := hx355_0
   cases e355
   replace hx355_0 := cB_ hx355_0
   have HR355_0 := aM hi355_0
   have HC355_0 := aM hl355_0
   clear hi355_0 hl355_0
   replace p355 := eq_true p355
   replace q355 := eq_true q355
   obtain ⟨i016, hi016, _, hsz16, _⟩ := info_parts info3
   obtain ⟨hcut16, hA16, hC16⟩ := print_take_of (P := Try.prog) (Value.int .i64) 0 24 3 .i64 Try.underlying24 hi016 hsz16 A355_0 c355_0 (rd_L1 l0 x6_1) a1 (dt_) (dt_) HC355_0.out
   have HR356 := aM (Kd.C_of_reads (h1 := fun _ => rfl) (hA16 _ (Kd.reads_of_C HR355_0.out)))
   have HC356 := aM hC16
   clear hA16 hC16 hi016 hsz16
   have p360 : 0 ≤ (x6_1 : Int) := dt_
   have q360 : x6_1 < (l0.length : Int) := dt_
   obtain ⟨ad360, A360_0, c360_0, e360, hx360_0, hl360_0, hi360_0⟩ := at_L1 HR0.out x6_1 p360 q360
   have hw360_0 := hx360_0
   obtain rfl : ad355 = ad360 := (by injection e360)
   replace hx360_0 := cB_ hx360_0
   have HR360_0 := aM hi360_0
   have HC360_0 := aM hl360_0
   clear hi360_0 hl360_0
   replace p360 := eq_true p360
   replace q360 := eq_true q360
   have ea_ := Option.some.inj (hx355_0.symm.trans hx360_0)
   injection ea_ with ea_ en_ ec_
   subst ea_
   subst ec_
   clear en_
   obtain ⟨i017, hi017, _, hsz17, _⟩ := info_parts info3
   obtain ⟨A17, hcut17, hA17, hC17⟩ := print_drop_of (P := Try.prog) (Value.int .i64) 0 24 3 .i64 Try.underlying24 hi017 hsz17 A355_0 c355_0 (rd_L1 l0 x6_1) (ji10) (dt_) (dt_) HC360_0.out
   have HR361 := aM (Kd.C_of_reads (h1 := fun _ => rfl) (hA17 _ (Kd.reads_of_C HR360_0.out)))
   have HC361 := aM hC17
   clear hA17 hC17 hi017 hsz17
   refine start_ (n := 20) (S := fun w' => w'.cell? (ad355.add (x6_1).toNat) = some (.slice A355_0 (rd_L1 l0 x6_1).length c355_0) ∧ w'.cell? (ad355.add (x6_1).toNat) = some (.slice A355_0 (rd_L1 l0 x6_1).length c355_0)) (ds := []) #[false, false, false, false, false, false, false, false, false, false, false, false, false, false, false, false, false, false, false, false] (by kernel_rfl) rfl rfl ⟨(cB_ hw355_0), (cB_ hw360_0)⟩ (fun hHeld => ?_); refine with_tabW spec_l4Without.tab5 spec_l4Without.bits5 (fun HT_ HW_ => ?_)
   generalize wr.drew = w15 at HO_5 HB HR355_0 HR356 HR360_0 HR361 hx355_0 hx360_0 hHeld ⊢
   refine pI_ 0 14 (bqz 20 1) ?_
   refine jI_ 2 16 ?_
   refine jI_ 3 17 ?_
   refine jI_ 4 18 ?_
   refine jI_ 6 20 ?_
   refine jI_ 9 23 ?_
   refine jI_ 10 24 ?_
   refine jI_ 11 25 ?_
   refine jI_ 13 27 ?_
   refine jI_ 14 28 ?_
   refine sI2_ 5 19 ?_
   refine jI_ 7 21 ?_
   refine sI2_ 12 26 ?_
   refine jI_ 15 29 ?_
   refine one_ (i := 1) (N := some 15) (bqz 20 65279) rfl rfl qzc (by decide) (fun K hK => ?_)
   refine Kd.R_lit_step (Kd.int .i64) _ 3 ?hg (N := 15) ?hd (xs := ([] : List Int)) (inner := []) (ok := fun _ => True) (okp := fun _ => True) ?hr ?hp (fun _ hk => hk) trivial (Below.refl _ _) (Nat.le_refl _) (by simp) ?_; (case hd => rfl); (case hg => rfl); (case hr => exact qz11); (case hp => exact (Reps.none _ _))
   intro v353 w18 ho19 hb hg_ hnew_
   clear hg_ hnew_
   (first | rw [← Ny352.out] at ho19 | (simp only [Int.reduceToNat] at ho19; rw [← Ny352.out] at ho19))
   replace HO_5 := aM (Kd.S_elder' (rs_ HO_5.out) (Kd.R_base ho19) hb)
   have HO354 := aM (Kd.R_lower ho19 (below_size qz1))
   replace HB := bS_ hb
   clear hb ho19
   refine hK.out _ _ ⟨(cB_ hw355_0), (cB_ hw360_0)⟩ (fun hHeld => ?_)
   clear hK K
   refine nm_ 15 ?_
   refine one_ (i := 8) (N := some 22) (bqz 20 65535) rfl rfl qzc (by decide) (fun K hK => ?_)
   refine Kd.R_append_rows_step (Kd.int .i64) (w0 := w) w.heap.size (by rfl) (.tmp 15) (.tmp 21) 24 3 (.int .i64 0) 8 rfl Try.underlying24 info3 rfl (by decide) (by omega) v353 y352 ((rd_L1 l0 x6_1).take (a1 : Int).toNat) _ _ _ (fun _ => True) (fun _ => False) rfl rfl ?aO ?aR (fun _ _ h => h) (fun _ h => h.elim) ?aF ?aB ?aS ?aL ?_
   (case aR => first | (have e_ : ((rd_L1 l0 x6_1).take (a1 : Int).toNat).length = a1.toNat := (by rw [List.length_take]; have h_ : (a1 : Int) ≤ ((rd_L1 l0 x6_1).length : Int) := dt_; omega); have h_ := (Kd.C_below HR356.out HB.out); rw [e_] at h_; exact h_) | (rw [← show ((rd_L1 l0 x6_1).take (a1 : Int).toNat).length = a1.toNat from (by rw [List.length_take]; have h_ : (a1 : Int) ≤ ((rd_L1 l0 x6_1).length : Int) := dt_; omega)]; repeat (first | exact (Kd.C_below HR356.out HB.out) | (with_reducible refine Kd.C_alloc ?_ _) | (with_reducible refine Kd.C_drewN ?_ _) | (with_reducible refine Kd.C_drew ?_))) | (repeat (first | exact (Kd.C_below HR356.out HB.out) | (with_reducible refine Kd.C_alloc ?_ _) | (with_reducible refine Kd.C_drewN ?_ _) | (with_reducible refine Kd.C_drew ?_))))
   (case aB => exact qz1)
   (case aF => exact (fun _ _ => trivial))
   (case aO => exact (rr_ HO354.out))
   (case aS => exact (below_size qz1))
   (case aL => have := LMc9.out; have hlx_ := (show ((rd_L1 l0 x6_1).take (a1 : Int).toNat).length = a1.toNat from (by rw [List.length_take]; have h_ : (a1 : Int) ≤ ((rd_L1 l0 x6_1).length : Int) := dt_; omega)); omega)
   intro v358 w20 ho hb hg hat
   rw [← Ny357.out] at ho
   replace HO_5 := aM (Kd.S_after (ok := (fun _ => True)) (rs_ HO_5.out) hg hat)
   replace HB := aM (hb)
   have HO359 := aM (ho)
   clear HO354 ho hb hg hat
   refine hK.out _ _ ⟨(cB_ hw355_0), (cB_ hw360_0)⟩ (fun hHeld => ?_)
   clear hK K
   refine nm_ 22 ?_
   refine one_ (i := 16) (N := some 30) (bqz 20 131071) rfl rfl qzc (by decide) (fun K hK => ?_)
   refine Kd.R_append_rows_step (Kd.int .i64) (w0 := w) w.heap.size (by rfl) (.tmp 22) (.tmp 29) 24 3 (.int .i64 0) 8 rfl Try.underlying24 info3 rfl (by decide) (by omega) v358 y357 ((rd_L1 l0 x6_1).drop ((ji10) : Int).toNat) _ _ _ (fun _ => True) (fun _ => False) rfl rfl ?aO ?aR (fun _ _ h => h) (fun _ h => h.elim) ?aF ?aB ?aS ?aL ?_
   (case aR => first | (rw [← show ((rd_L1 l0 x6_1).drop ((ji10) : Int).toNat).length = ((rd_L1 l0 x6_1).length - (ji10).toNat) from List.length_drop]; repeat (first | exact (Kd.C_below HR361.out HB.out) | (with_reducible refine Kd.C_alloc ?_ _) | (with_reducible refine Kd.C_drewN ?_ _) | (with_reducible refine Kd.C_drew ?_))) | (repeat (first | exact (Kd.C_below HR361.out HB.out) | (with_reducible refine Kd.C_alloc ?_ _) | (with_reducible refine Kd.C_drewN ?_ _) | (with_reducible refine Kd.C_drew ?_))))
   (case aB => exact qz1)
   (case aF => exact (fun _ _ => trivial))
   (case aO => exact (rr_ HO359.out))
   (case aS => exact (below_size qz1))
   (case aL => have := LMc13.out; have hlx_ := (show ((rd_L1 l0 x6_1).drop ((ji10) : Int).toNat).length = ((rd_L1 l0 x6_1).length - (ji10).toNat) from List.length_drop); omega)
   intro v363 w21 ho hb hg hat
   rw [← Ny362.out] at ho
   replace HO_5 := aM (Kd.S_after (ok := (fun _ => True)) (rs_ HO_5.out) hg hat)
   replace HB := aM (hb)
   have HO364 := aM (ho)
   clear HO359 ho hb hg hat
   obtain ⟨Ao23, co23, eo23⟩ := Kd.R_slice HO364.out
   (first | subst eo23 | (injection eo23 with f1_ f2_ f3_; have f4_ := f1_.symm; have f5_ := f3_.symm; clear f1_ f2_ f3_; subst f4_; subst f5_))
   refine hK.out _ _ ⟨(cB_ hw355_0), (cB_ hw360_0)⟩ (fun hHeld => ?_)
   clear hK K
   refine nm_ 30 ?_
   refine one_ (i := 17) (N := some 31) (bqz 20 262143) rfl rfl qzc (by decide) (fun K hK => ?_)
   refine value_ (w1 := ?_) (v := ?_) (by rfl) rfl ?_ ?_
   rotate_left 2
   {
   go_simp
   constructor
   {
   rfl
   }
   {
   rfl
   }
   }
   refine hK.out _ _ ⟨(World.cell?_alloc_lt _ _ _ (World.block_lt_of_cell? _ _ ((cB_ hw355_0)))).trans ((cB_ hw355_0)), (World.cell?_alloc_lt _ _ _ (World.block_lt_of_cell? _ _ ((cB_ hw360_0)))).trans ((cB_ hw360_0))⟩ (fun hHeld => ?_)
   clear hK K
   refine nm_ 31 ?_
   refine one_ (i := 18) (N := some 32) (bqz 20 524287) rfl rfl qzc (by decide) (fun K hK => ?_)
   refine Kd.S_append_step (Kd.slice 3 (Kd.int .i64)) (w0 := w) w.heap.size (by rfl) (.tmp 14) (.tmp 31) 22 24 (.slice none 0 0) 24 rfl Try.underlying22 info24 rfl (by decide) (by omega) u5 x5_1 y362 [.slice Ao23 y362.length co23] (fun _ => True) (fun k_ => some k_ = (.slice Ao23 y362.length co23 : Value).ownBlock) rfl rfl ?aP (fun k_ hk_ => ((Kd.R_mono (ok' := fun k_ => ((fun _ => True)) k_ ∧ some k_ ≠ (u5 : Value).ownBlock) (Kd.R_apart' (HO364.out) (Kd.S_typed HO_5.out) (by decide)) (fun k_ hk => ⟨trivial, hk.2⟩))).1 k_ hk_.symm) ?aF ?aO ?aB ?aS ?aL ?_
   (case aP => exact Kd.M_row (Kd.R_mono (Kd.R_tight rfl (Kd.R_mono (ok' := fun k_ => ((fun _ => True)) k_ ∧ some k_ ≠ (u5 : Value).ownBlock) (Kd.R_apart' (HO364.out) (Kd.S_typed HO_5.out) (by decide)) (fun k_ hk => ⟨trivial, hk.2⟩))) (fun _ h_ => h_)))
   (case aB => exact qz1)
   (case aF => exact (fun _ _ => trivial))
   (case aO => exact (by (with_reducible repeat (first | apply Kd.S_alloc | apply Kd.S_drewN | apply Kd.S_drew)); exact Kd.S_mono HO_5.out (fun k_ hk => ⟨trivial, fun e_ => hk.2 e_⟩)))
   (case aS => exact (below_size qz1))
   (case aL => have := LMc14.out; omega)
   intro v366 w22 ho hb hg hat
   rw [← Ny365.out] at ho
   replace HB := aM (hb)
   have HO367 := aM (ho)
   clear HO_5 HO364 ho hb hg hat
   refine hK.out _ _ ⟨(cB_ hw355_0), (cB_ hw360_0)⟩ (fun hHeld => ?_)
   clear hK K
   refine nm_ 32 ?_
   refine pI_ 19 5 (bqz 20 1048575) ?_
   refine done_ (done_of HT_.out (by kernel_rfl)) ?_
   try go_wp2
   go_roundg k1
   case measure => have := HK1.out; omega
   case rel => exact ⟨(y365), (wrap64 (x6_1 + 1)), qz5, H', ⟨by have := HK1.out; omega⟩, ⟨rm_ HO367.out⟩, ⟨qz1⟩⟩
   }
   {
   exact an_ c14 H
   }
   }
   {
   exact an_ c13 H
   }
   }
   {
   exact an_ c12 H
   }
   }
   {
   exact an_ c11 H
   }
   }
   {
   exact an_ c9 H
   }
   }
   {
   exact an_ c8 H
   }
   }
   {
   exact an_ c7 H
   }
   }
   {
   exact an_ c6 H
   }
   }
   {
   rw [if_neg c5] at H
   have c5b0 := decide_eq_false c5
   clear c5
   obtain rfl := Option.some.inj H
   simp only [Option.some.injEq, Prod.mk.injEq] at H
   obtain ⟨rfl⟩ := H
   go_wp2
   go_ret
   exact ⟨_, qzw, by (with_reducible repeat (first | apply Kd.S_alloc | apply Kd.S_drewN | apply Kd.S_drew)); exact HO_5.out, qz1⟩

   }
end Go.Proofs.Ytbebfhlejnidkaa.PFnProved
