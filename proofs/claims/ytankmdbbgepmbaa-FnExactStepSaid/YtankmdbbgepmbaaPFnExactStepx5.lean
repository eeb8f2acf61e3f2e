-- Made by a program of this session out of the translation. Lean checks it.
import Derived.Test.YtankmdbbgepmbaaPFnExactStepx0
namespace Go.Proofs.Ytankmdbbgepmbaa.PFnExactStep
open Go.RowKit Go.Proofs.YtankmdbbgepmbaaW.PrintWords Go.Proofs.YtankmdbbgepmbaaW.PrintLast Go.Proofs.YtankmdbbgepmbaaW.PrintMore
attribute [local go_sem] max2_int min2_int max_two min_two max_three min_three max_four min_four   -- for this text's walks alone
set_option linter.unusedVariables false
set_option linter.unusedSimpArgs false

/-! ### spec_Turns: function 15 -/
mutual
def spec_Turns.l0 : Nat → List (S37) → List Int → Int → Option (List Int)
 | 0, _, _, _ => none
 | k + 1, x0, x3, x4 => if x4 < (x0.length : Int) then (if x3.length < 17592186044416 then (spec_Turns.l1 k x0 (x3 ++ [x4]) x4 (x3.length : Int)) else (none)) else (some x3)
def spec_Turns.l1 : Nat → List (S37) → List Int → Int → Int → Option (List Int)
 | 0, _, _, _, _ => none
 | k + 1, x0, x3, x4, x5 => if x5 > 0 then (if 0 ≤ (wrap64 (x5 - 1)) then (if (wrap64 (x5 - 1)) < (x3.length : Int) then (if 0 ≤ (rd x3 (wrap64 (x5 - 1))) then (if (rd x3 (wrap64 (x5 - 1))) < (x0.length : Int) then (if 0 ≤ x4 then (if x4 < (x0.length : Int) then (if ((rd_T37 x0 (rd x3 (wrap64 (x5 - 1)))).f4) < ((rd_T37 x0 x4).f4) then (if 0 ≤ x5 then (if x5 < (x3.length : Int) then (spec_Turns.l1 k x0 (x3.set (x5 : Int).toNat (rd x3 (wrap64 (x5 - 1)))) x4 (wrap64 (x5 - 1))) else (none)) else (none)) else (if ((rd_T37 x0 (rd x3 (wrap64 (x5 - 1)))).f4) = ((rd_T37 x0 x4).f4) then (if ((rd_T37 x0 (rd x3 (wrap64 (x5 - 1)))).f0) > ((rd_T37 x0 x4).f0) then (if 0 ≤ x5 then (if x5 < (x3.length : Int) then (spec_Turns.l1 k x0 (x3.set (x5 : Int).toNat (rd x3 (wrap64 (x5 - 1)))) x4 (wrap64 (x5 - 1))) else (none)) else (none)) else (if 0 ≤ x5 then (if x5 < (x3.length : Int) then (spec_Turns.l0 k x0 (x3.set (x5 : Int).toNat x4) (wrap64 (x4 + 1))) else (none)) else (none))) else (if 0 ≤ x5 then (if x5 < (x3.length : Int) then (spec_Turns.l0 k x0 (x3.set (x5 : Int).toNat x4) (wrap64 (x4 + 1))) else (none)) else (none)))) else (none)) else (none)) else (none)) else (none)) else (none)) else (none)) else (if 0 ≤ x5 then (if x5 < (x3.length : Int) then (spec_Turns.l0 k x0 (x3.set (x5 : Int).toNat x4) (wrap64 (x4 + 1))) else (none)) else (none))
end
def spec_Turns.f (k : Nat) (l0 : List (S37)) : Option (List Int) := spec_Turns.l0 k l0 (([] : List Int)) 0
theorem spec_Turns.mono_l : ∀ k, (∀ y0 y1 y2, LeO (spec_Turns.l0 k y0 y1 y2) (spec_Turns.l0 (k + 1) y0 y1 y2)) ∧ (∀ y0 y1 y2 y3, LeO (spec_Turns.l1 k y0 y1 y2 y3) (spec_Turns.l1 (k + 1) y0 y1 y2 y3))
 | 0 => ⟨fun _ _ _ r h => by simp [spec_Turns.l0] at h, fun _ _ _ _ r h => by simp [spec_Turns.l1] at h⟩
 | k + 1 => by
  obtain ⟨ih0, ih1⟩ := spec_Turns.mono_l k
  refine ⟨?_, ?_⟩
  {
  intro y0 y1 y2
  unfold spec_Turns.l0
  exact qL
  }
  {
  intro y0 y1 y2 y3
  unfold spec_Turns.l1
  exact qL
  }
theorem spec_Turns.mono : ∀ a0 k, LeO (spec_Turns.f k a0) (spec_Turns.f (k + 1) a0) := by
 intro a0 k
 obtain ⟨ih0, ih1⟩ := spec_Turns.mono_l k
 unfold spec_Turns.f
 exact qL
set_option maxHeartbeats 8000000 in
set_option maxRecDepth 100000 in
theorem spec_Turns.calls (k : Nat) (A0 : Option Addr) (c0 : Nat) (l0 : List (S37)) (r : List Int) (w : World) (hr0 : Kd.C k37 w A0 l0.length l0) (hc0 : l0.length ≤ c0) (h : spec_Turns.f k l0 = some r) :
  Calls Try.prog 15 #[.slice A0 l0.length c0] w fun e w' => ∃ v0_ : Value, e = .returned (v0_) ∧ Kd.R (Kd.int .i64) 3 w' w.heap.size (fun _ => True) v0_ r ∧ Below w.heap.size w w' := by
 have HR0 := aM hr0
 have HC0 := aM hc0
 clear hr0 hc0
 have HB := aM (Below.refl w.heap.size w)
 have H : (spec_Turns.l0 k l0 (([] : List Int)) 0) = some r := h
 clear h
 obtain ⟨y167, hy167⟩ : ∃ y_ : List Int, y_ = (([] : List Int)) := ⟨_, rfl⟩
 replace H : (spec_Turns.l0 k l0 y167 0) = some r := by first | (rw [hy167]; with_reducible exact H) | (have H2_ := (Option.bind_some _ _).symm.trans H; rw [hy167]; with_reducible exact H2_) | (have H2_ := (Option.bind_some _ _).symm.trans H; with_reducible exact H2_) | with_reducible exact H | (rw [hy167]; exact H) | exact H
 have Ny167 := aM hy167
 clear hy167
 have H' := aM H
 clear H
 go_enter Try.func15, Try.ntmps15
 go_wp2_with (first | ((with_reducible refine gate_dst (N := 6) rfl ?_); refine Kd.R_lit (Kd.int .i64) _ 3 ?hg (N := 6) ?hd (xs := ([] : List Int)) (inner := []) (ok := fun _ => True) (okp := fun _ => True) ?hr ?hp (fun _ hk => hk) trivial (Below.refl _ _) (Nat.le_refl _) (by simp) ?_; (case hd => rfl); (case hg => rfl); (case hr => exact qz6); (case hp => exact (Reps.none _ _)); intro v168 w2 ho3 hb hg_ hnew_; clear hg_ hnew_; (first | rw [← Ny167.out] at ho3 | (simp only [Int.reduceToNat] at ho3; rw [← Ny167.out] at ho3)); have HO169 := aM (Kd.R_lower ho3 (below_size qz1)); replace HB := bS_ hb; clear hb ho3))
 repeat (go_quiet (first | ((with_reducible refine gate_dst (N := 6) rfl ?_); refine Kd.R_lit (Kd.int .i64) _ 3 ?hg (N := 6) ?hd (xs := ([] : List Int)) (inner := []) (ok := fun _ => True) (okp := fun _ => True) ?hr ?hp (fun _ hk => hk) trivial (Below.refl _ _) (Nat.le_refl _) (by simp) ?_; (case hd => rfl); (case hg => rfl); (case hr => exact qz6); (case hp => exact (Reps.none _ _)); intro v168 w2 ho3 hb hg_ hnew_; clear hg_ hnew_; (first | rw [← Ny167.out] at ho3 | (simp only [Int.reduceToNat] at ho3; rw [← Ny167.out] at ho3)); have HO169 := aM (Kd.R_lower ho3 (below_size qz1)); replace HB := bS_ hb; clear hb ho3)); try go_wp2_with (first | ((with_reducible refine gate_dst (N := 6) rfl ?_); refine Kd.R_lit (Kd.int .i64) _ 3 ?hg (N := 6) ?hd (xs := ([] : List Int)) (inner := []) (ok := fun _ => True) (okp := fun _ => True) ?hr ?hp (fun _ hk => hk) trivial (Below.refl _ _) (Nat.le_refl _) (by simp) ?_; (case hd => rfl); (case hg => rfl); (case hr => exact qz6); (case hp => exact (Reps.none _ _)); intro v168 w2 ho3 hb hg_ hnew_; clear hg_ hnew_; (first | rw [← Ny167.out] at ho3 | (simp only [Int.reduceToNat] at ho3; rw [← Ny167.out] at ho3)); have HO169 := aM (Kd.R_lower ho3 (below_size qz1)); replace HB := bS_ hb; clear hb ho3)))
 go_loopg [3, 4] k (fun kq v3 v4 w' => ∃ (x3_1 : List Int) (x4_1 : Int), v4 = .int .i64 x4_1 ∧ Aside0 (spec_Turns.l0 kq l0 x3_1 x4_1 = some r) ∧ Aside0 (kq ≤ k) ∧ Aside0 (Kd.R (Kd.int .i64) 3 w' w.heap.size (fun _ => True) v3 x3_1) ∧ Aside0 (Below w.heap.size w w'))
 case atStart => exact ⟨(y167), (0), qz4, H', ⟨Nat.le_refl _⟩, ⟨rr_ HO169.out⟩, ⟨qz1⟩⟩
 case round =>
  clear H'
  try clear c1
  try clear p2
  obtain ⟨x3_1, x4_1, rfl, HA, HK1, HO_3, HB⟩ := hrel
  cases gk with
  | zero => exact absurd HA.out (by simp [spec_Turns.l0])
  | succ k1 =>
   have H := HA.out
   clear HA
   simp only [spec_Turns.l0] at H
   by_cases c4 : x4_1 < (l0.length : Int)
   {
   rw [if_pos c4] at H
   have c4b0 := decide_eq_true c4
   clear c4
   by_cases c5 : x3_1.length < 17592186044416
   {
   rw [if_pos c5] at H
   have LMc5 := aM c5
   clear c5
   obtain ⟨y170, hy170⟩ : ∃ y_ : List Int, y_ = (x3_1 ++ [x4_1]) := ⟨_, rfl⟩
   replace H : (spec_Turns.l1 k1 l0 y170 x4_1 (x3_1.length : Int)) = some r := by first | (rw [hy170]; with_reducible exact H) | (have H2_ := (Option.bind_some _ _).symm.trans H; rw [hy170]; with_reducible exact H2_) | (have H2_ := (Option.bind_some _ _).symm.trans H; with_reducible exact H2_) | with_reducible exact H | (rw [hy170]; exact H) | exact H
   have Ny170 := aM hy170
   clear hy170
   have H' := aM H
   clear H
   obtain ⟨Ao6, co6, eo6⟩ := Kd.R_slice HO_3.out
   subst eo6
   go_wp2_with (first | ((with_reducible refine gate_builtin (b := .append) (xs := #[.tmp 15, .tmp 17]) rfl ?_); at_builtin; refine Kd.R_append (Kd.int .i64) (w0 := w) w.heap.size rfl (.tmp 15) (.tmp 17) 24 3 (.int .i64 0) 8 rfl Try.underlying24 info3 rfl (by decide) (by omega) (.slice Ao6 x3_1.length co6) x3_1 x4_1 [.int .i64 x4_1] (fun _ => True) (fun _ => False) rfl rfl ?aP (fun _ hk => hk.elim) ?aF ?aO ?aB ?aS ?aL ?_; (case aP => exact rfl); (case aB => exact qz1); (case aF => exact qz9); (case aO => exact (rr_ HO_3.out)); (case aS => exact qz19); (case aL => have := LMc5.out; omega); intro v171 w7 ho hb hg hat; rw [← Ny170.out] at ho; replace HB := aM (hb); have HO172 := aM (ho); clear HO_3; clear ho hb hg hat))
   repeat (go_quiet (first | ((with_reducible refine gate_builtin (b := .append) (xs := #[.tmp 15, .tmp 17]) rfl ?_); at_builtin; refine Kd.R_append (Kd.int .i64) (w0 := w) w.heap.size rfl (.tmp 15) (.tmp 17) 24 3 (.int .i64 0) 8 rfl Try.underlying24 info3 rfl (by decide) (by omega) (.slice Ao6 x3_1.length co6) x3_1 x4_1 [.int .i64 x4_1] (fun _ => True) (fun _ => False) rfl rfl ?aP (fun _ hk => hk.elim) ?aF ?aO ?aB ?aS ?aL ?_; (case aP => exact rfl); (case aB => exact qz1); (case aF => exact qz9); (case aO => exact (rr_ HO_3.out)); (case aS => exact qz19); (case aL => have := LMc5.out; omega); intro v171 w7 ho hb hg hat; rw [← Ny170.out] at ho; replace HB := aM (hb); have HO172 := aM (ho); clear HO_3; clear ho hb hg hat)); try go_wp2_with (first | ((with_reducible refine gate_builtin (b := .append) (xs := #[.tmp 15, .tmp 17]) rfl ?_); at_builtin; refine Kd.R_append (Kd.int .i64) (w0 := w) w.heap.size rfl (.tmp 15) (.tmp 17) 24 3 (.int .i64 0) 8 rfl Try.underlying24 info3 rfl (by decide) (by omega) (.slice Ao6 x3_1.length co6) x3_1 x4_1 [.int .i64 x4_1] (fun _ => True) (fun _ => False) rfl rfl ?aP (fun _ hk => hk.elim) ?aF ?aO ?aB ?aS ?aL ?_; (case aP => exact rfl); (case aB => exact qz1); (case aF => exact qz9); (case aO => exact (rr_ HO_3.out)); (case aS => exact qz19); (case aL => have := LMc5.out; omega); intro v171 w7 ho hb hg hat; rw [← Ny170.out] at ho; replace HB := aM (hb); have HO172 := aM (ho); clear HO_3; clear ho hb hg hat)))
   go_loopg [5] k1 (fun kq v5 w' => ∃ (x3_2 : List Int) (x5_2 : Int), v5 = .int .i64 x5_2 ∧ Aside0 (spec_Turns.l1 kq l0 x3_2 x4_1 x5_2 = some r) ∧ Aside0 (kq ≤ k1) ∧ Aside0 (Kd.R (Kd.int .i64) 3 w' w.heap.size (fun _ => True) v171 x3_2) ∧ Aside0 (Below w.heap.size w w'))
   case atStart => exact ⟨(y170), ((x3_1.length : Int)), qz4, H', ⟨Nat.le_refl _⟩, ⟨rr_ HO172.out⟩, ⟨qz1⟩⟩
   case round =>
    clear H'
    try clear c1
    try clear p2
    try clear c4
    try clear c4b0
    try clear c5
    obtain ⟨x3_2, x5_2, rfl, HA, HK2, HO_3, HB⟩ := hrel
    cases gk with
    | zero => exact absurd HA.out (by simp [spec_Turns.l1])
    | succ k2 =>
     have H := HA.out
     clear HA
     simp only [spec_Turns.l1] at H
     by_cases c8 : x5_2 > 0
     {
     rw [if_pos c8] at H
     have c8b0 := decide_eq_true c8
     clear c8
     obtain ⟨ji9, hji9⟩ : ∃ j_ : Int, (wrap64 (x5_2 - 1)) = j_ := ⟨_, rfl⟩
     replace H : (if 0 ≤ (ji9) then (if (ji9) < (x3_2.length : Int) then (if 0 ≤ (rd x3_2 (ji9)) then (if (rd x3_2 (ji9)) < (l0.length : Int) then (if 0 ≤ x4_1 then (if x4_1 < (l0.length : Int) then (if ((rd_T37 l0 (rd x3_2 (ji9))).f4) < ((rd_T37 l0 x4_1).f4) then (if 0 ≤ x5_2 then (if x5_2 < (x3_2.length : Int) then (spec_Turns.l1 k2 l0 (x3_2.set (x5_2 : Int).toNat (rd x3_2 (ji9))) x4_1 ji9) else (none)) else (none)) else (if ((rd_T37 l0 (rd x3_2 (ji9))).f4) = ((rd_T37 l0 x4_1).f4) then (if ((rd_T37 l0 (rd x3_2 (ji9))).f0) > ((rd_T37 l0 x4_1).f0) then (if 0 ≤ x5_2 then (if x5_2 < (x3_2.length : Int) then (spec_Turns.l1 k2 l0 (x3_2.set (x5_2 : Int).toNat (rd x3_2 (ji9))) x4_1 ji9) else (none)) else (none)) else (if 0 ≤ x5_2 then (if x5_2 < (x3_2.length : Int) then (spec_Turns.l0 k2 l0 (x3_2.set (x5_2 : Int).toNat x4_1) (wrap64 (x4_1 + 1))) else (none)) else (none))) else (if 0 ≤ x5_2 then (if x5_2 < (x3_2.length : Int) then (spec_Turns.l0 k2 l0 (x3_2.set (x5_2 : Int).toNat x4_1) (wrap64 (x4_1 + 1))) else (none)) else (none)))) else (none)) else (none)) else (none)) else (none)) else (none)) else (none)) = some r := by first | (rw [hji9] at H; exact H) | (simp only [hji9] at H ⊢; exact H)
     have hji9w : (IntKind.i64.wrap (x5_2 - 1)) = ji9 := (i64_w _).trans hji9
     by_cases c10 : 0 ≤ (ji9)
     {
     rw [if_pos c10] at H
     have c10b0 := decide_eq_true c10
     clear c10
     by_cases c11 : (ji9) < (x3_2.length : Int)
     {
     rw [if_pos c11] at H
     have c11b0 := decide_eq_true c11
     clear c11
     by_cases c12 : 0 ≤ (rd x3_2 (ji9))
     {
     rw [if_pos c12] at H
     have c12b0 := decide_eq_true c12
     clear c12
     by_cases c13 : (rd x3_2 (ji9)) < (l0.length : Int)
     {
     rw [if_pos c13] at H
     have c13b0 := decide_eq_true c13
     clear c13
     by_cases c14 : 0 ≤ x4_1
     {
     rw [if_pos c14] at H
     have c14b0 := decide_eq_true c14
     clear c14
     by_cases c15 : x4_1 < (l0.length : Int)
     {
     rw [if_pos c15] at H
     have c15b0 := decide_eq_true c15
     clear c15
     by_cases c16 : ((rd_T37 l0 (rd x3_2 (ji9))).f4) < ((rd_T37 l0 x4_1).f4)
     {
     rw [if_pos c16] at H
     have c16b0 := decide_eq_true c16
     clear c16
     by_cases c17 : 0 ≤ x5_2
     {
     rw [if_pos c17] at H
     have c17b0 := decide_eq_true c17
     clear c17
     by_cases c18 : x5_2 < (x3_2.length : Int)
     {
     rw [if_pos c18] at H
     have c18b0 := decide_eq_true c18
     clear c18
     obtain ⟨y177, hy177⟩ : ∃ y_ : List Int, y_ = (x3_2.set (x5_2 : Int).toNat (rd x3_2 (ji9))) := ⟨_, rfl⟩
     replace H : (spec_Turns.l1 k2 l0 y177 x4_1 ji9) = some r := by first | (rw [hy177]; with_reducible exact H) | (have H2_ := (Option.bind_some _ _).symm.trans H; rw [hy177]; with_reducible exact H2_) | (have H2_ := (Option.bind_some _ _).symm.trans H; with_reducible exact H2_) | with_reducible exact H | (rw [hy177]; exact H) | exact H
     have Ny177 := aM hy177
     clear hy177
     have H' := aM H
     clear H
     obtain ⟨Ao20, co20, eo20⟩ := Kd.R_slice HO_3.out
     subst eo20
     have p173 : 0 ≤ ((ji9) : Int) := dt_
     have q173 : (ji9) < (x3_2.length : Int) := dt_
     obtain ⟨ad173, e173, hx173_0⟩ := Kd.at_int (Kd.R_reads' HO_3.out).2.2 (ji9) p173 q173
     cases e173
     replace p173 := eq_true p173
     replace q173 := eq_true q173
     have p174 : 0 ≤ ((rd x3_2 (ji9)) : Int) := dt_
     have q174 : (rd x3_2 (ji9)) < (l0.length : Int) := dt_
     obtain ⟨ad174, e174, hx174_0, hx174_1, hx174_2, hx174_3, hx174_4⟩ := at_T37 HR0.out (rd x3_2 (ji9)) p174 q174
     cases e174
     replace hx174_0 := cB_ hx174_0
     replace hx174_1 := cB_ hx174_1
     replace hx174_2 := cB_ hx174_2
     replace hx174_3 := cB_ hx174_3
     replace hx174_4 := cB_ hx174_4
     replace p174 := eq_true p174
     replace q174 := eq_true q174
     have p175 : 0 ≤ (x4_1 : Int) := dt_
     have q175 : x4_1 < (l0.length : Int) := dt_
     obtain ⟨ad175, e175, hx175_0, hx175_1, hx175_2, hx175_3, hx175_4⟩ := at_T37 HR0.out x4_1 p175 q175
     obtain rfl : ad174 = ad175 := (by injection e175)
     replace hx175_0 := cB_ hx175_0
     replace hx175_1 := cB_ hx175_1
     replace hx175_2 := cB_ hx175_2
     replace hx175_3 := cB_ hx175_3
     replace hx175_4 := cB_ hx175_4
     replace p175 := eq_true p175
     replace q175 := eq_true q175
     have p176 : 0 ≤ ((ji9) : Int) := dt_
     have q176 : (ji9) < (x3_2.length : Int) := dt_
     obtain ⟨ad176, e176, hx176_0⟩ := Kd.at_int (Kd.R_reads' HO_3.out).2.2 (ji9) p176 q176
     obtain rfl : ad173 = ad176 := (by injection e176)
     replace p176 := eq_true p176
     replace q176 := eq_true q176
     have p19 : 0 ≤ (x5_2 : Int) := dt_
     have q19 : (x5_2 : Int) < ((x3_2.length : Int) : Int) := dt_
     obtain ⟨go19, co19, eo19, gb19, gl19, cl19, HG19⟩ := Kd.R_form HO_3.out (by omega)
     (first | cases eo19 | (injection eo19 with ea_ en_ ec_; (first | subst ea_ | (injection ea_ with ea_; subst ea_)); subst ec_; clear en_))
     have GB19 := aM gb19
     have GG19 := aM HG19
     clear gb19 gl19 HG19
     (first | simp only [add_plain] at hx173_0 | skip)
     (first | simp only [add_plain] at hx176_0 | skip)
     obtain ⟨hx19_0, hf19_0⟩ := Kd.R_celln 0 HO_3.out (x5_2 : Int) p19 q19
     replace p19 := eq_true p19
     replace q19 := eq_true q19
     obtain ⟨hy21_, hz21_⟩ := Kd.R_celln 0 HO_3.out (x5_2 : Int) (dt_) (dt_)
     have HP21 := Kd.R_putg HO_3.out (x5_2 : Int) (rd x3_2 (ji9))
     go_wp2_with (first | ((with_reducible refine gate_store (t := 3) (p := 79) rfl ?_); (try (rw [drewN_self wr]; generalize hq_ : World.drewN wr _ = wr; replace HO_3 := aM (Kd.R_at hq_ HO_3.out); replace HB := aM (below_at hq_ HB.out); clear hq_; (try (obtain ⟨hy21_, hz21_⟩ := Kd.R_celln 0 HO_3.out (x5_2 : Int) (dt_) (dt_))); (try (have HP21 := Kd.R_putg HO_3.out (x5_2 : Int) (rd x3_2 (ji9)))))); refine store_event (t := 3) (p := 79) (v := ?vo_w22) (w1 := (wr.setCell ⟨go19, (x5_2 : Int).toNat, none⟩ (.int .i64 (rd x3_2 (ji9))))) ?hg ?ho ?hn ?hr ?_; (case ho => rfl); (case hg => rfl); (case hn => rfl); (case hr => exact qz6); intro w22 hw; have hg : wr.grownBy w22 (some go19) := (by rw [hw]; exact HP21.2); have hp_ : Kd.R (Kd.int .i64) 3 w22 w.heap.size (fun _ => True) (.slice (some ⟨go19, 0, none⟩) x3_2.length co20) y177 := (by rw [hw, Ny177.out]; exact HP21.1); clear HP21; replace HO_3 := aM (hp_); replace HB := aM ((by rw [hw]; exact below_set (HB.out) GB19.out : Below w.heap.size w w22)); clear hg hw hp_))
     repeat (go_quiet (first | ((with_reducible refine gate_store (t := 3) (p := 79) rfl ?_); (try (rw [drewN_self wr]; generalize hq_ : World.drewN wr _ = wr; replace HO_3 := aM (Kd.R_at hq_ HO_3.out); replace HB := aM (below_at hq_ HB.out); clear hq_; (try (obtain ⟨hy21_, hz21_⟩ := Kd.R_celln 0 HO_3.out (x5_2 : Int) (dt_) (dt_))); (try (have HP21 := Kd.R_putg HO_3.out (x5_2 : Int) (rd x3_2 (ji9)))))); refine store_event (t := 3) (p := 79) (v := ?vo_w22) (w1 := (wr.setCell ⟨go19, (x5_2 : Int).toNat, none⟩ (.int .i64 (rd x3_2 (ji9))))) ?hg ?ho ?hn ?hr ?_; (case ho => rfl); (case hg => rfl); (case hn => rfl); (case hr => exact qz6); intro w22 hw; have hg : wr.grownBy w22 (some go19) := (by rw [hw]; exact HP21.2); have hp_ : Kd.R (Kd.int .i64) 3 w22 w.heap.size (fun _ => True) (.slice (some ⟨go19, 0, none⟩) x3_2.length co20) y177 := (by rw [hw, Ny177.out]; exact HP21.1); clear HP21; replace HO_3 := aM (hp_); replace HB := aM ((by rw [hw]; exact below_set (HB.out) GB19.out : Below w.heap.size w w22)); clear hg hw hp_)); try go_wp2_with (first | ((with_reducible refine gate_store (t := 3) (p := 79) rfl ?_); (try (rw [drewN_self wr]; generalize hq_ : World.drewN wr _ = wr; replace HO_3 := aM (Kd.R_at hq_ HO_3.out); replace HB := aM (below_at hq_ HB.out); clear hq_; (try (obtain ⟨hy21_, hz21_⟩ := Kd.R_celln 0 HO_3.out (x5_2 : Int) (dt_) (dt_))); (try (have HP21 := Kd.R_putg HO_3.out (x5_2 : Int) (rd x3_2 (ji9)))))); refine store_event (t := 3) (p := 79) (v := ?vo_w22) (w1 := (wr.setCell ⟨go19, (x5_2 : Int).toNat, none⟩ (.int .i64 (rd x3_2 (ji9))))) ?hg ?ho ?hn ?hr ?_; (case ho => rfl); (case hg => rfl); (case hn => rfl); (case hr => exact qz6); intro w22 hw; have hg : wr.grownBy w22 (some go19) := (by rw [hw]; exact HP21.2); have hp_ : Kd.R (Kd.int .i64) 3 w22 w.heap.size (fun _ => True) (.slice (some ⟨go19, 0, none⟩) x3_2.length co20) y177 := (by rw [hw, Ny177.out]; exact HP21.1); clear HP21; replace HO_3 := aM (hp_); replace HB := aM ((by rw [hw]; exact below_set (HB.out) GB19.out : Below w.heap.size w w22)); clear hg hw hp_)))
     go_roundg k2
     case measure => have := HK1.out; have := HK2.out; omega
     case rel => exact ⟨(y177), (ji9), (by first | rfl | (simp; done) | (simp only [← hji9] <;> (first | rfl | simp)) | (simp [*]; done)), H', ⟨by have := HK1.out; have := HK2.out; omega⟩, ⟨rm_ HO_3.out⟩, ⟨qz1⟩⟩
     }
     {
     exact an_ c18 H
     }
     }
     {
     exact an_ c17 H
     }
     }
     {
     rw [if_neg c16] at H
     have c16b0 := decide_eq_false c16
     clear c16
     by_cases c23 : ((rd_T37 l0 (rd x3_2 (ji9))).f4) = ((rd_T37 l0 x4_1).f4)
     {
     rw [if_pos c23] at H
     have c23b0 := beq_iff_eq.mpr c23
     have c23b1 := bne_eq_false_iff_eq.mpr c23
     clear c23
     by_cases c24 : ((rd_T37 l0 (rd x3_2 (ji9))).f0) > ((rd_T37 l0 x4_1).f0)
     {
     rw [if_pos c24] at H
     have c24b0 := decide_eq_true c24
     clear c24
     by_cases c25 : 0 ≤ x5_2
     {
     rw [if_pos c25] at H
     have c25b0 := decide_eq_true c25
     clear c25
     by_cases c26 : x5_2 < (x3_2.length : Int)
     {
     rw [if_pos c26] at H
     have c26b0 := decide_eq_true c26
     clear c26
     obtain ⟨y185, hy185⟩ : ∃ y_ : List Int, y_ = (x3_2.set (x5_2 : Int).toNat (rd x3_2 (ji9))) := ⟨_, rfl⟩
     replace H : (spec_Turns.l1 k2 l0 y185 x4_1 ji9) = some r := by first | (rw [hy185]; with_reducible exact H) | (have H2_ := (Option.bind_some _ _).symm.trans H; rw [hy185]; with_reducible exact H2_) | (have H2_ := (Option.bind_some _ _).symm.trans H; with_reducible exact H2_) | with_reducible exact H | (rw [hy185]; exact H) | exact H
     have Ny185 := aM hy185
     clear hy185
     have H' := aM H
     clear H
     obtain ⟨Ao28, co28, eo28⟩ := Kd.R_slice HO_3.out
     subst eo28
     have p173 : 0 ≤ ((ji9) : Int) := dt_
     have q173 : (ji9) < (x3_2.length : Int) := dt_
     obtain ⟨ad173, e173, hx173_0⟩ := Kd.at_int (Kd.R_reads' HO_3.out).2.2 (ji9) p173 q173
     cases e173
     replace p173 := eq_true p173
     replace q173 := eq_true q173
     have p174 : 0 ≤ ((rd x3_2 (ji9)) : Int) := dt_
     have q174 : (rd x3_2 (ji9)) < (l0.length : Int) := dt_
     obtain ⟨ad174, e174, hx174_0, hx174_1, hx174_2, hx174_3, hx174_4⟩ := at_T37 HR0.out (rd x3_2 (ji9)) p174 q174
     cases e174
     replace hx174_0 := cB_ hx174_0
     replace hx174_1 := cB_ hx174_1
     replace hx174_2 := cB_ hx174_2
     replace hx174_3 := cB_ hx174_3
     replace hx174_4 := cB_ hx174_4
     replace p174 := eq_true p174
     replace q174 := eq_true q174
     have p175 : 0 ≤ (x4_1 : Int) := dt_
     have q175 : x4_1 < (l0.length : Int) := dt_
     obtain ⟨ad175, e175, hx175_0, hx175_1, hx175_2, hx175_3, hx175_4⟩ := at_T37 HR0.out x4_1 p175 q175
     obtain rfl : ad174 = ad175 := (by injection e175)
     replace hx175_0 := cB_ hx175_0
     replace hx175_1 := cB_ hx175_1
     replace hx175_2 := cB_ hx175_2
     replace hx175_3 := cB_ hx175_3
     replace hx175_4 := cB_ hx175_4
     replace p175 := eq_true p175
     replace q175 := eq_true q175
     have p178 : 0 ≤ ((ji9) : Int) := dt_
     have q178 : (ji9) < (x3_2.length : Int) := dt_
     obtain ⟨ad178, e178, hx178_0⟩ := Kd.at_int (Kd.R_reads' HO_3.out).2.2 (ji9) p178 q178
     obtain rfl : ad173 = ad178 := (by injection e178)
     replace p178 := eq_true p178
     replace q178 := eq_true q178
     have p179 : 0 ≤ ((rd x3_2 (ji9)) : Int) := dt_
     have q179 : (rd x3_2 (ji9)) < (l0.length : Int) := dt_
     obtain ⟨ad179, e179, hx179_0, hx179_1, hx179_2, hx179_3, hx179_4⟩ := at_T37 HR0.out (rd x3_2 (ji9)) p179 q179
     obtain rfl : ad174 = ad179 := (by injection e179)
     replace hx179_0 := cB_ hx179_0
     replace hx179_1 := cB_ hx179_1
     replace hx179_2 := cB_ hx179_2
     replace hx179_3 := cB_ hx179_3
     replace hx179_4 := cB_ hx179_4
     replace p179 := eq_true p179
     replace q179 := eq_true q179
     have p180 : 0 ≤ (x4_1 : Int) := dt_
     have q180 : x4_1 < (l0.length : Int) := dt_
     obtain ⟨ad180, e180, hx180_0, hx180_1, hx180_2, hx180_3, hx180_4⟩ := at_T37 HR0.out x4_1 p180 q180
     obtain rfl : ad174 = ad180 := (by injection e180)
     replace hx180_0 := cB_ hx180_0
     replace hx180_1 := cB_ hx180_1
     replace hx180_2 := cB_ hx180_2
     replace hx180_3 := cB_ hx180_3
     replace hx180_4 := cB_ hx180_4
     replace p180 := eq_true p180
     replace q180 := eq_true q180
     have p181 : 0 ≤ ((ji9) : Int) := dt_
     have q181 : (ji9) < (x3_2.length : Int) := dt_
     obtain ⟨ad181, e181, hx181_0⟩ := Kd.at_int (Kd.R_reads' HO_3.out).2.2 (ji9) p181 q181
     obtain rfl : ad173 = ad181 := (by injection e181)
     replace p181 := eq_true p181
     replace q181 := eq_true q181
     have p182 : 0 ≤ ((rd x3_2 (ji9)) : Int) := dt_
     have q182 : (rd x3_2 (ji9)) < (l0.length : Int) := dt_
     obtain ⟨ad182, e182, hx182_0, hx182_1, hx182_2, hx182_3, hx182_4⟩ := at_T37 HR0.out (rd x3_2 (ji9)) p182 q182
     obtain rfl : ad174 = ad182 := (by injection e182)
     replace hx182_0 := cB_ hx182_0
     replace hx182_1 := cB_ hx182_1
     replace hx182_2 := cB_ hx182_2
     replace hx182_3 := cB_ hx182_3
     replace hx182_4 := cB_ hx182_4
     replace p182 := eq_true p182
     replace q182 := eq_true q182
     have p183 : 0 ≤ (x4_1 : Int) := dt_
     have q183 : x4_1 < (l0.length : Int) := dt_
     obtain ⟨ad183, e183, hx183_0, hx183_1, hx183_2, hx183_3, hx183_4⟩ := at_T37 HR0.out x4_1 p183 q183
     obtain rfl : ad174 = ad183 := (by injection e183)
     replace hx183_0 := cB_ hx183_0
     replace hx183_1 := cB_ hx183_1
     replace hx183_2 := cB_ hx183_2
     replace hx183_3 := cB_ hx183_3
     replace hx183_4 := cB_ hx183_4
     replace p183 := eq_true p183
     replace q183 := eq_true q183
     have p184 : 0 ≤ ((ji9) : Int) := dt_
     have q184 : (ji9) < (x3_2.length : Int) := dt_
     obtain ⟨ad184, e184, hx184_0⟩ := Kd.at_int (Kd.R_reads' HO_3.out).2.2 (ji9) p184 q184
     obtain rfl : ad173 = ad184 := (by injection e184)
     replace p184 := eq_true p184
     replace q184 := eq_true q184
     have p27 : 0 ≤ (x5_2 : Int) := dt_
     have q27 : (x5_2 : Int) < ((x3_2.length : Int) : Int) := dt_
     obtain ⟨go27, co27, eo27, gb27, gl27, cl27, HG27⟩ := Kd.R_form HO_3.out (by omega)
     (first | cases eo27 | (injection eo27 with ea_ en_ ec_; (first | subst ea_ | (injection ea_ with ea_; subst ea_)); subst ec_; clear en_))
     have GB27 := aM gb27
     have GG27 := aM HG27
     clear gb27 gl27 HG27
     (first | simp only [add_plain] at hx173_0 | skip)
     (first | simp only [add_plain] at hx178_0 | skip)
     (first | simp only [add_plain] at hx181_0 | skip)
     (first | simp only [add_plain] at hx184_0 | skip)
     obtain ⟨hx27_0, hf27_0⟩ := Kd.R_celln 0 HO_3.out (x5_2 : Int) p27 q27
     replace p27 := eq_true p27
     replace q27 := eq_true q27
     obtain ⟨hy29_, hz29_⟩ := Kd.R_celln 0 HO_3.out (x5_2 : Int) (dt_) (dt_)
     have HP29 := Kd.R_putg HO_3.out (x5_2 : Int) (rd x3_2 (ji9))
     go_wp2_with (first | ((with_reducible refine gate_store (t := 3) (p := 79) rfl ?_); (try (rw [drewN_self wr]; generalize hq_ : World.drewN wr _ = wr; replace HO_3 := aM (Kd.R_at hq_ HO_3.out); replace HB := aM (below_at hq_ HB.out); clear hq_; (try (obtain ⟨hy29_, hz29_⟩ := Kd.R_celln 0 HO_3.out (x5_2 : Int) (dt_) (dt_))); (try (have HP29 := Kd.R_putg HO_3.out (x5_2 : Int) (rd x3_2 (ji9)))))); refine store_event (t := 3) (p := 79) (v := ?vo_w30) (w1 := (wr.setCell ⟨go27, (x5_2 : Int).toNat, none⟩ (.int .i64 (rd x3_2 (ji9))))) ?hg ?ho ?hn ?hr ?_; (case ho => rfl); (case hg => rfl); (case hn => rfl); (case hr => exact qz6); intro w30 hw; have hg : wr.grownBy w30 (some go27) := (by rw [hw]; exact HP29.2); have hp_ : Kd.R (Kd.int .i64) 3 w30 w.heap.size (fun _ => True) (.slice (some ⟨go27, 0, none⟩) x3_2.length co28) y185 := (by rw [hw, Ny185.out]; exact HP29.1); clear HP29; replace HO_3 := aM (hp_); replace HB := aM ((by rw [hw]; exact below_set (HB.out) GB27.out : Below w.heap.size w w30)); clear hg hw hp_))
     repeat (go_quiet (first | ((with_reducible refine gate_store (t := 3) (p := 79) rfl ?_); (try (rw [drewN_self wr]; generalize hq_ : World.drewN wr _ = wr; replace HO_3 := aM (Kd.R_at hq_ HO_3.out); replace HB := aM (below_at hq_ HB.out); clear hq_; (try (obtain ⟨hy29_, hz29_⟩ := Kd.R_celln 0 HO_3.out (x5_2 : Int) (dt_) (dt_))); (try (have HP29 := Kd.R_putg HO_3.out (x5_2 : Int) (rd x3_2 (ji9)))))); refine store_event (t := 3) (p := 79) (v := ?vo_w30) (w1 := (wr.setCell ⟨go27, (x5_2 : Int).toNat, none⟩ (.int .i64 (rd x3_2 (ji9))))) ?hg ?ho ?hn ?hr ?_; (case ho => rfl); (case hg => rfl); (case hn => rfl); (case hr => exact qz6); intro w30 hw; have hg : wr.grownBy w30 (some go27) := (by rw [hw]; exact HP29.2); have hp_ : Kd.R (Kd.int .i64) 3 w30 w.heap.size (fun _ => True) (.slice (some ⟨go27, 0, none⟩) x3_2.length co28) y185 := (by rw [hw, Ny185.out]; exact HP29.1); clear HP29; replace HO_3 := aM (hp_); replace HB := aM ((by rw [hw]; exact below_set (HB.out) GB27.out : Below w.heap.size w w30)); clear hg hw hp_)); try go_wp2_with (first | ((with_reducible refine gate_store (t := 3) (p := 79) rfl ?_); (try (rw [drewN_self wr]; generalize hq_ : World.drewN wr _ = wr; replace HO_3 := aM (Kd.R_at hq_ HO_3.out); replace HB := aM (below_at hq_ HB.out); clear hq_; (try (obtain ⟨hy29_, hz29_⟩ := Kd.R_celln 0 HO_3.out (x5_2 : Int) (dt_) (dt_))); (try (have HP29 := Kd.R_putg HO_3.out (x5_2 : Int) (rd x3_2 (ji9)))))); refine store_event (t := 3) (p := 79) (v := ?vo_w30) (w1 := (wr.setCell ⟨go27, (x5_2 : Int).toNat, none⟩ (.int .i64 (rd x3_2 (ji9))))) ?hg ?ho ?hn ?hr ?_; (case ho => rfl); (case hg => rfl); (case hn => rfl); (case hr => exact qz6); intro w30 hw; have hg : wr.grownBy w30 (some go27) := (by rw [hw]; exact HP29.2); have hp_ : Kd.R (Kd.int .i64) 3 w30 w.heap.size (fun _ => True) (.slice (some ⟨go27, 0, none⟩) x3_2.length co28) y185 := (by rw [hw, Ny185.out]; exact HP29.1); clear HP29; replace HO_3 := aM (hp_); replace HB := aM ((by rw [hw]; exact below_set (HB.out) GB27.out : Below w.heap.size w w30)); clear hg hw hp_)))
     go_roundg k2
     case measure => have := HK1.out; have := HK2.out; omega
     case rel => exact ⟨(y185), (ji9), (by first | rfl | (simp; done) | (simp only [← hji9] <;> (first | rfl | simp)) | (simp [*]; done)), H', ⟨by have := HK1.out; have := HK2.out; omega⟩, ⟨rm_ HO_3.out⟩, ⟨qz1⟩⟩
     }
     {
     exact an_ c26 H
     }
     }
     {
     exact an_ c25 H
     }
     }
     {
     rw [if_neg c24] at H
     have c24b0 := decide_eq_false c24
     clear c24
     by_cases c31 : 0 ≤ x5_2
     {
     rw [if_pos c31] at H
     have c31b0 := decide_eq_true c31
     clear c31
     by_cases c32 : x5_2 < (x3_2.length : Int)
     {
     rw [if_pos c32] at H
     have c32b0 := decide_eq_true c32
     clear c32
     obtain ⟨y186, hy186⟩ : ∃ y_ : List Int, y_ = (x3_2.set (x5_2 : Int).toNat x4_1) := ⟨_, rfl⟩
     replace H : (spec_Turns.l0 k2 l0 y186 (wrap64 (x4_1 + 1))) = some r := by first | (rw [hy186]; with_reducible exact H) | (have H2_ := (Option.bind_some _ _).symm.trans H; rw [hy186]; with_reducible exact H2_) | (have H2_ := (Option.bind_some _ _).symm.trans H; with_reducible exact H2_) | with_reducible exact H | (rw [hy186]; exact H) | exact H
     have Ny186 := aM hy186
     clear hy186
     have H' := aM H
     clear H
     obtain ⟨Ao34, co34, eo34⟩ := Kd.R_slice HO_3.out
     subst eo34
     have p173 : 0 ≤ ((ji9) : Int) := dt_
     have q173 : (ji9) < (x3_2.length : Int) := dt_
     obtain ⟨ad173, e173, hx173_0⟩ := Kd.at_int (Kd.R_reads' HO_3.out).2.2 (ji9) p173 q173
     cases e173
     replace p173 := eq_true p173
     replace q173 := eq_true q173
     have p174 : 0 ≤ ((rd x3_2 (ji9)) : Int) := dt_
     have q174 : (rd x3_2 (ji9)) < (l0.length : Int) := dt_
     obtain ⟨ad174, e174, hx174_0, hx174_1, hx174_2, hx174_3, hx174_4⟩ := at_T37 HR0.out (rd x3_2 (ji9)) p174 q174
     cases e174
     replace hx174_0 := cB_ hx174_0
     replace hx174_1 := cB_ hx174_1
     replace hx174_2 := cB_ hx174_2
     replace hx174_3 := cB_ hx174_3
     replace hx174_4 := cB_ hx174_4
     replace p174 := eq_true p174
     replace q174 := eq_true q174
     have p175 : 0 ≤ (x4_1 : Int) := dt_
     have q175 : x4_1 < (l0.length : Int) := dt_
     obtain ⟨ad175, e175, hx175_0, hx175_1, hx175_2, hx175_3, hx175_4⟩ := at_T37 HR0.out x4_1 p175 q175
     obtain rfl : ad174 = ad175 := (by injection e175)
     replace hx175_0 := cB_ hx175_0
     replace hx175_1 := cB_ hx175_1
     replace hx175_2 := cB_ hx175_2
     replace hx175_3 := cB_ hx175_3
     replace hx175_4 := cB_ hx175_4
     replace p175 := eq_true p175
     replace q175 := eq_true q175
     have p178 : 0 ≤ ((ji9) : Int) := dt_
     have q178 : (ji9) < (x3_2.length : Int) := dt_
     obtain ⟨ad178, e178, hx178_0⟩ := Kd.at_int (Kd.R_reads' HO_3.out).2.2 (ji9) p178 q178
     obtain rfl : ad173 = ad178 := (by injection e178)
     replace p178 := eq_true p178
     replace q178 := eq_true q178
     have p179 : 0 ≤ ((rd x3_2 (ji9)) : Int) := dt_
     have q179 : (rd x3_2 (ji9)) < (l0.length : Int) := dt_
     obtain ⟨ad179, e179, hx179_0, hx179_1, hx179_2, hx179_3, hx179_4⟩ := at_T37 HR0.out (rd x3_2 (ji9)) p179 q179
     obtain rfl : ad174 = ad179 := (by injection e179)
     replace hx179_0 := cB_ hx179_0
     replace hx179_1 := cB_ hx179_1
     replace hx179_2 := cB_ hx179_2
     replace hx179_3 := cB_ hx179_3
     replace hx179_4 := cB_ hx179_4
     replace p179 := eq_true p179
     replace q179 := eq_true q179
     have p180 : 0 ≤ (x4_1 : Int) := dt_
     have q180 : x4_1 < (l0.length : Int) := dt_
     obtain ⟨ad180, e180, hx180_0, hx180_1, hx180_2, hx180_3, hx180_4⟩ := at_T37 HR0.out x4_1 p180 q180
     obtain rfl : ad174 = ad180 := (by injection e180)
     replace hx180_0 := cB_ hx180_0
     replace hx180_1 := cB_ hx180_1
     replace hx180_2 := cB_ hx180_2
     replace hx180_3 := cB_ hx180_3
     replace hx180_4 := cB_ hx180_4
     replace p180 := eq_true p180
     replace q180 := eq_true q180
     have p181 : 0 ≤ ((ji9) : Int) := dt_
     have q181 : (ji9) < (x3_2.length : Int) := dt_
     obtain ⟨ad181, e181, hx181_0⟩ := Kd.at_int (Kd.R_reads' HO_3.out).2.2 (ji9) p181 q181
     obtain rfl : ad173 = ad181 := (by injection e181)
     replace p181 := eq_true p181
     replace q181 := eq_true q181
     have p182 : 0 ≤ ((rd x3_2 (ji9)) : Int) := dt_
     have q182 : (rd x3_2 (ji9)) < (l0.length : Int) := dt_
     obtain ⟨ad182, e182, hx182_0, hx182_1, hx182_2, hx182_3, hx182_4⟩ := at_T37 HR0.out (rd x3_2 (ji9)) p182 q182
     obtain rfl : ad174 = ad182 := (by injection e182)
     replace hx182_0 := cB_ hx182_0
     replace hx182_1 := cB_ hx182_1
     replace hx182_2 := cB_ hx182_2
     replace hx182_3 := cB_ hx182_3
     replace hx182_4 := cB_ hx182_4
     replace p182 := eq_true p182
     replace q182 := eq_true q182
     have p183 : 0 ≤ (x4_1 : Int) := dt_
     have q183 : x4_1 < (l0.length : Int) := dt_
     obtain ⟨ad183, e183, hx183_0, hx183_1, hx183_2, hx183_3, hx183_4⟩ := at_T37 HR0.out x4_1 p183 q183
     obtain rfl : ad174 = ad183 := (by injection e183)
     replace hx183_0 := cB_ hx183_0
     replace hx183_1 := cB_ hx183_1
     replace hx183_2 := cB_ hx183_2
     replace hx183_3 := cB_ hx183_3
     replace hx183_4 := cB_ hx183_4
     replace p183 := eq_true p183
     replace q183 := eq_true q183
     have p33 : 0 ≤ (x5_2 : Int) := dt_
     have q33 : (x5_2 : Int) < ((x3_2.length : Int) : Int) := dt_
     obtain ⟨go33, co33, eo33, gb33, gl33, cl33, HG33⟩ := Kd.R_form HO_3.out (by omega)
     (first | cases eo33 | (injection eo33 with ea_ en_ ec_; (first | subst ea_ | (injection ea_ with ea_; subst ea_)); subst ec_; clear en_))
     have GB33 := aM gb33
     have GG33 := aM HG33
     clear gb33 gl33 HG33
     (first | simp only [add_plain] at hx173_0 | skip)
     (first | simp only [add_plain] at hx178_0 | skip)
     (first | simp only [add_plain] at hx181_0 | skip)
     obtain ⟨hx33_0, hf33_0⟩ := Kd.R_celln 0 HO_3.out (x5_2 : Int) p33 q33
     replace p33 := eq_true p33
     replace q33 := eq_true q33
     obtain ⟨hy35_, hz35_⟩ := Kd.R_celln 0 HO_3.out (x5_2 : Int) (dt_) (dt_)
     have HP35 := Kd.R_putg HO_3.out (x5_2 : Int) x4_1
     go_wp2_with (first | ((with_reducible refine gate_store (t := 3) (p := 85) rfl ?_); (try (rw [drewN_self wr]; generalize hq_ : World.drewN wr _ = wr; replace HO_3 := aM (Kd.R_at hq_ HO_3.out); replace HB := aM (below_at hq_ HB.out); clear hq_; (try (obtain ⟨hy35_, hz35_⟩ := Kd.R_celln 0 HO_3.out (x5_2 : Int) (dt_) (dt_))); (try (have HP35 := Kd.R_putg HO_3.out (x5_2 : Int) x4_1)))); refine store_event (t := 3) (p := 85) (v := ?vo_w36) (w1 := (wr.setCell ⟨go33, (x5_2 : Int).toNat, none⟩ (.int .i64 x4_1))) ?hg ?ho ?hn ?hr ?_; (case ho => rfl); (case hg => rfl); (case hn => rfl); (case hr => exact qz6); intro w36 hw; have hg : wr.grownBy w36 (some go33) := (by rw [hw]; exact HP35.2); have hp_ : Kd.R (Kd.int .i64) 3 w36 w.heap.size (fun _ => True) (.slice (some ⟨go33, 0, none⟩) x3_2.length co34) y186 := (by rw [hw, Ny186.out]; exact HP35.1); clear HP35; replace HO_3 := aM (hp_); replace HB := aM ((by rw [hw]; exact below_set (HB.out) GB33.out : Below w.heap.size w w36)); clear hg hw hp_))
     repeat (go_quiet (first | ((with_reducible refine gate_store (t := 3) (p := 85) rfl ?_); (try (rw [drewN_self wr]; generalize hq_ : World.drewN wr _ = wr; replace HO_3 := aM (Kd.R_at hq_ HO_3.out); replace HB := aM (below_at hq_ HB.out); clear hq_; (try (obtain ⟨hy35_, hz35_⟩ := Kd.R_celln 0 HO_3.out (x5_2 : Int) (dt_) (dt_))); (try (have HP35 := Kd.R_putg HO_3.out (x5_2 : Int) x4_1)))); refine store_event (t := 3) (p := 85) (v := ?vo_w36) (w1 := (wr.setCell ⟨go33, (x5_2 : Int).toNat, none⟩ (.int .i64 x4_1))) ?hg ?ho ?hn ?hr ?_; (case ho => rfl); (case hg => rfl); (case hn => rfl); (case hr => exact qz6); intro w36 hw; have hg : wr.grownBy w36 (some go33) := (by rw [hw]; exact HP35.2); have hp_ : Kd.R (Kd.int .i64) 3 w36 w.heap.size (fun _ => True) (.slice (some ⟨go33, 0, none⟩) x3_2.length co34) y186 := (by rw [hw, Ny186.out]; exact HP35.1); clear HP35; replace HO_3 := aM (hp_); replace HB := aM ((by rw [hw]; exact below_set (HB.out) GB33.out : Below w.heap.size w w36)); clear hg hw hp_)); try go_wp2_with (first | ((with_reducible refine gate_store (t := 3) (p := 85) rfl ?_); (try (rw [drewN_self wr]; generalize hq_ : World.drewN wr _ = wr; replace HO_3 := aM (Kd.R_at hq_ HO_3.out); replace HB := aM (below_at hq_ HB.out); clear hq_; (try (obtain ⟨hy35_, hz35_⟩ := Kd.R_celln 0 HO_3.out (x5_2 : Int) (dt_) (dt_))); (try (have HP35 := Kd.R_putg HO_3.out (x5_2 : Int) x4_1)))); refine store_event (t := 3) (p := 85) (v := ?vo_w36) (w1 := (wr.setCell ⟨go33, (x5_2 : Int).toNat, none⟩ (.int .i64 x4_1))) ?hg ?ho ?hn ?hr ?_; (case ho => rfl); (case hg => rfl); (case hn => rfl); (case hr => exact qz6); intro w36 hw; have hg : wr.grownBy w36 (some go33) := (by rw [hw]; exact HP35.2); have hp_ : Kd.R (Kd.int .i64) 3 w36 w.heap.size (fun _ => True) (.slice (some ⟨go33, 0, none⟩) x3_2.length co34) y186 := (by rw [hw, Ny186.out]; exact HP35.1); clear HP35; replace HO_3 := aM (hp_); replace HB := aM ((by rw [hw]; exact below_set (HB.out) GB33.out : Below w.heap.size w w36)); clear hg hw hp_)))
     go_roundg k2
     case measure => have := HK1.out; have := HK2.out; omega
     case rel => exact ⟨(y186), (wrap64 (x4_1 + 1)), qz4, H', ⟨by have := HK1.out; have := HK2.out; omega⟩, ⟨rm_ HO_3.out⟩, ⟨qz1⟩⟩
     }
     {
     exact an_ c32 H
     }
     }
     {
     exact an_ c31 H
     }
     }
     }
     {
     rw [if_neg c23] at H
     have c23b0 := beq_eq_false_iff_ne.mpr c23
     have c23b1 := bne_iff_ne.mpr c23
     by_cases c37 : 0 ≤ x5_2
     {
     rw [if_pos c37] at H
     have c37b0 := decide_eq_true c37
     clear c37
     by_cases c38 : x5_2 < (x3_2.length : Int)
     {
     rw [if_pos c38] at H
     have c38b0 := decide_eq_true c38
     clear c38
     obtain ⟨y187, hy187⟩ : ∃ y_ : List Int, y_ = (x3_2.set (x5_2 : Int).toNat x4_1) := ⟨_, rfl⟩
     replace H : (spec_Turns.l0 k2 l0 y187 (wrap64 (x4_1 + 1))) = some r := by first | (rw [hy187]; with_reducible exact H) | (have H2_ := (Option.bind_some _ _).symm.trans H; rw [hy187]; with_reducible exact H2_) | (have H2_ := (Option.bind_some _ _).symm.trans H; with_reducible exact H2_) | with_reducible exact H | (rw [hy187]; exact H) | exact H
     have Ny187 := aM hy187
     clear hy187
     have H' := aM H
     clear H
     obtain ⟨Ao40, co40, eo40⟩ := Kd.R_slice HO_3.out
     subst eo40
     have p173 : 0 ≤ ((ji9) : Int) := dt_
     have q173 : (ji9) < (x3_2.length : Int) := dt_
     obtain ⟨ad173, e173, hx173_0⟩ := Kd.at_int (Kd.R_reads' HO_3.out).2.2 (ji9) p173 q173
     cases e173
     replace p173 := eq_true p173
     replace q173 := eq_true q173
     have p174 : 0 ≤ ((rd x3_2 (ji9)) : Int) := dt_
     have q174 : (rd x3_2 (ji9)) < (l0.length : Int) := dt_
     obtain ⟨ad174, e174, hx174_0, hx174_1, hx174_2, hx174_3, hx174_4⟩ := at_T37 HR0.out (rd x3_2 (ji9)) p174 q174
     cases e174
     replace hx174_0 := cB_ hx174_0
     replace hx174_1 := cB_ hx174_1
     replace hx174_2 := cB_ hx174_2
     replace hx174_3 := cB_ hx174_3
     replace hx174_4 := cB_ hx174_4
     replace p174 := eq_true p174
     replace q174 := eq_true q174
     have p175 : 0 ≤ (x4_1 : Int) := dt_
     have q175 : x4_1 < (l0.length : Int) := dt_
     obtain ⟨ad175, e175, hx175_0, hx175_1, hx175_2, hx175_3, hx175_4⟩ := at_T37 HR0.out x4_1 p175 q175
     obtain rfl : ad174 = ad175 := (by injection e175)
     replace hx175_0 := cB_ hx175_0
     replace hx175_1 := cB_ hx175_1
     replace hx175_2 := cB_ hx175_2
     replace hx175_3 := cB_ hx175_3
     replace hx175_4 := cB_ hx175_4
     replace p175 := eq_true p175
     replace q175 := eq_true q175
     have p178 : 0 ≤ ((ji9) : Int) := dt_
     have q178 : (ji9) < (x3_2.length : Int) := dt_
     obtain ⟨ad178, e178, hx178_0⟩ := Kd.at_int (Kd.R_reads' HO_3.out).2.2 (ji9) p178 q178
     obtain rfl : ad173 = ad178 := (by injection e178)
     replace p178 := eq_true p178
     replace q178 := eq_true q178
     have p179 : 0 ≤ ((rd x3_2 (ji9)) : Int) := dt_
     have q179 : (rd x3_2 (ji9)) < (l0.length : Int) := dt_
     obtain ⟨ad179, e179, hx179_0, hx179_1, hx179_2, hx179_3, hx179_4⟩ := at_T37 HR0.out (rd x3_2 (ji9)) p179 q179
     obtain rfl : ad174 = ad179 := (by injection e179)
     replace hx179_0 := cB_ hx179_0
     replace hx179_1 := cB_ hx179_1
     replace hx179_2 := cB_ hx179_2
     replace hx179_3 := cB_ hx179_3
     replace hx179_4 := cB_ hx179_4
     replace p179 := eq_true p179
     replace q179 := eq_true q179
     have p180 : 0 ≤ (x4_1 : Int) := dt_
     have q180 : x4_1 < (l0.length : Int) := dt_
     obtain ⟨ad180, e180, hx180_0, hx180_1, hx180_2, hx180_3, hx180_4⟩ := at_T37 HR0.out x4_1 p180 q180
     obtain rfl : ad174 = ad180 := (by injection e180)
     replace hx180_0 := cB_ hx180_0
     replace hx180_1 := cB_ hx180_1
     replace hx180_2 := cB_ hx180_2
     replace hx180_3 := cB_ hx180_3
     replace hx180_4 := cB_ hx180_4
     replace p180 := eq_true p180
     replace q180 := eq_true q180
     have p39 : 0 ≤ (x5_2 : Int) := dt_
     have q39 : (x5_2 : Int) < ((x3_2.length : Int) : Int) := dt_
     obtain ⟨go39, co39, eo39, gb39, gl39, cl39, HG39⟩ := Kd.R_form HO_3.out (by omega)
     (first | cases eo39 | (injection eo39 with ea_ en_ ec_; (first | subst ea_ | (injection ea_ with ea_; subst ea_)); subst ec_; clear en_))
     have GB39 := aM gb39
     have GG39 := aM HG39
     clear gb39 gl39 HG39
     (first | simp only [add_plain] at hx173_0 | skip)
     (first | simp only [add_plain] at hx178_0 | skip)
     obtain ⟨hx39_0, hf39_0⟩ := Kd.R_celln 0 HO_3.out (x5_2 : Int) p39 q39
     replace p39 := eq_true p39
     replace q39 := eq_true q39
     obtain ⟨hy41_, hz41_⟩ := Kd.R_celln 0 HO_3.out (x5_2 : Int) (dt_) (dt_)
     have HP41 := Kd.R_putg HO_3.out (x5_2 : Int) x4_1
     go_wp2_with (first | ((with_reducible refine gate_store (t := 3) (p := 85) rfl ?_); (try (rw [drewN_self wr]; generalize hq_ : World.drewN wr _ = wr; replace HO_3 := aM (Kd.R_at hq_ HO_3.out); replace HB := aM (below_at hq_ HB.out); clear hq_; (try (obtain ⟨hy41_, hz41_⟩ := Kd.R_celln 0 HO_3.out (x5_2 : Int) (dt_) (dt_))); (try (have HP41 := Kd.R_putg HO_3.out (x5_2 : Int) x4_1)))); refine store_event (t := 3) (p := 85) (v := ?vo_w42) (w1 := (wr.setCell ⟨go39, (x5_2 : Int).toNat, none⟩ (.int .i64 x4_1))) ?hg ?ho ?hn ?hr ?_; (case ho => rfl); (case hg => rfl); (case hn => rfl); (case hr => exact qz6); intro w42 hw; have hg : wr.grownBy w42 (some go39) := (by rw [hw]; exact HP41.2); have hp_ : Kd.R (Kd.int .i64) 3 w42 w.heap.size (fun _ => True) (.slice (some ⟨go39, 0, none⟩) x3_2.length co40) y187 := (by rw [hw, Ny187.out]; exact HP41.1); clear HP41; replace HO_3 := aM (hp_); replace HB := aM ((by rw [hw]; exact below_set (HB.out) GB39.out : Below w.heap.size w w42)); clear hg hw hp_))
     repeat (go_quiet (first | ((with_reducible refine gate_store (t := 3) (p := 85) rfl ?_); (try (rw [drewN_self wr]; generalize hq_ : World.drewN wr _ = wr; replace HO_3 := aM (Kd.R_at hq_ HO_3.out); replace HB := aM (below_at hq_ HB.out); clear hq_; (try (obtain ⟨hy41_, hz41_⟩ := Kd.R_celln 0 HO_3.out (x5_2 : Int) (dt_) (dt_))); (try (have HP41 := Kd.R_putg HO_3.out (x5_2 : Int) x4_1)))); refine store_event (t := 3) (p := 85) (v := ?vo_w42) (w1 := (wr.setCell ⟨go39, (x5_2 : Int).toNat, none⟩ (.int .i64 x4_1))) ?hg ?ho ?hn ?hr ?_; (case ho => rfl); (case hg => rfl); (case hn => rfl); (case hr => exact qz6); intro w42 hw; have hg : wr.grownBy w42 (some go39) := (by rw [hw]; exact HP41.2); have hp_ : Kd.R (Kd.int .i64) 3 w42 w.heap.size (fun _ => True) (.slice (some ⟨go39, 0, none⟩) x3_2.length co40) y187 := (by rw [hw, Ny187.out]; exact HP41.1); clear HP41; replace HO_3 := aM (hp_); replace HB := aM ((by rw [hw]; exact below_set (HB.out) GB39.out : Below w.heap.size w w42)); clear hg hw hp_)); try go_wp2_with (first | ((with_reducible refine gate_store (t := 3) (p := 85) rfl ?_); (try (rw [drewN_self wr]; generalize hq_ : World.drewN wr _ = wr; replace HO_3 := aM (Kd.R_at hq_ HO_3.out); replace HB := aM (below_at hq_ HB.out); clear hq_; (try (obtain ⟨hy41_, hz41_⟩ := Kd.R_celln 0 HO_3.out (x5_2 : Int) (dt_) (dt_))); (try (have HP41 := Kd.R_putg HO_3.out (x5_2 : Int) x4_1)))); refine store_event (t := 3) (p := 85) (v := ?vo_w42) (w1 := (wr.setCell ⟨go39, (x5_2 : Int).toNat, none⟩ (.int .i64 x4_1))) ?hg ?ho ?hn ?hr ?_; (case ho => rfl); (case hg => rfl); (case hn => rfl); (case hr => exact qz6); intro w42 hw; have hg : wr.grownBy w42 (some go39) := (by rw [hw]; exact HP41.2); have hp_ : Kd.R (Kd.int .i64) 3 w42 w.heap.size (fun _ => True) (.slice (some ⟨go39, 0, none⟩) x3_2.length co40) y187 := (by rw [hw, Ny187.out]; exact HP41.1); clear HP41; replace HO_3 := aM (hp_); replace HB := aM ((by rw [hw]; exact below_set (HB.out) GB39.out : Below w.heap.size w w42)); clear hg hw hp_)))
     go_roundg k2
     case measure => have := HK1.out; have := HK2.out; omega
     case rel => exact ⟨(y187), (wrap64 (x4_1 + 1)), qz4, H', ⟨by have := HK1.out; have := HK2.out; omega⟩, ⟨rm_ HO_3.out⟩, ⟨qz1⟩⟩
     }
     {
     exact an_ c38 H
     }
     }
     {
     exact an_ c37 H
     }
     }
     }
     }
     {
     exact an_ c15 H
     }
     }
     {
     exact an_ c14 H
     }
     }
     {
     exact an_ c13 H
     }
     }
     {
     exact an_ c12 H
     }
     }
     {
     exact an_ c11 H
     }
     }
     {
     exact an_ c10 H
     }
     }
     {
     rw [if_neg c8] at H
     have c8b0 := decide_eq_false c8
     clear c8
     by_cases c43 : 0 ≤ x5_2
     {
     rw [if_pos c43] at H
     have c43b0 := decide_eq_true c43
     clear c43
     by_cases c44 : x5_2 < (x3_2.length : Int)
     {
     rw [if_pos c44] at H
     have c44b0 := decide_eq_true c44
     clear c44
     obtain ⟨y188, hy188⟩ : ∃ y_ : List Int, y_ = (x3_2.set (x5_2 : Int).toNat x4_1) := ⟨_, rfl⟩
     replace H : (spec_Turns.l0 k2 l0 y188 (wrap64 (x4_1 + 1))) = some r := by first | (rw [hy188]; with_reducible exact H) | (have H2_ := (Option.bind_some _ _).symm.trans H; rw [hy188]; with_reducible exact H2_) | (have H2_ := (Option.bind_some _ _).symm.trans H; with_reducible exact H2_) | with_reducible exact H | (rw [hy188]; exact H) | exact H
     have Ny188 := aM hy188
     clear hy188
     have H' := aM H
     clear H
     have p45 : 0 ≤ (x5_2 : Int) := dt_
     have q45 : (x5_2 : Int) < ((x3_2.length : Int) : Int) := dt_
     obtain ⟨go45, co45, eo45, gb45, gl45, cl45, HG45⟩ := Kd.R_form HO_3.out (by omega)
     (first | cases eo45 | (injection eo45 with ea_ en_ ec_; (first | subst ea_ | (injection ea_ with ea_; subst ea_)); subst ec_; clear en_))
     have GB45 := aM gb45
     have GG45 := aM HG45
     clear gb45 gl45 HG45
     obtain ⟨hx45_0, hf45_0⟩ := Kd.R_celln 0 HO_3.out (x5_2 : Int) p45 q45
     replace p45 := eq_true p45
     replace q45 := eq_true q45
     obtain ⟨hy46_, hz46_⟩ := Kd.R_celln 0 HO_3.out (x5_2 : Int) (dt_) (dt_)
     have HP46 := Kd.R_putg HO_3.out (x5_2 : Int) x4_1
     go_wp2_with (first | ((with_reducible refine gate_store (t := 3) (p := 85) rfl ?_); (try (rw [drewN_self wr]; generalize hq_ : World.drewN wr _ = wr; replace HO_3 := aM (Kd.R_at hq_ HO_3.out); replace HB := aM (below_at hq_ HB.out); clear hq_; (try (obtain ⟨hy46_, hz46_⟩ := Kd.R_celln 0 HO_3.out (x5_2 : Int) (dt_) (dt_))); (try (have HP46 := Kd.R_putg HO_3.out (x5_2 : Int) x4_1)))); refine store_event (t := 3) (p := 85) (v := ?vo_w47) (w1 := (wr.setCell ⟨go45, (x5_2 : Int).toNat, none⟩ (.int .i64 x4_1))) ?hg ?ho ?hn ?hr ?_; (case ho => rfl); (case hg => rfl); (case hn => rfl); (case hr => exact qz6); intro w47 hw; have hg : wr.grownBy w47 (some go45) := (by rw [hw]; exact HP46.2); have hp_ : Kd.R (Kd.int .i64) 3 w47 w.heap.size (fun _ => True) (.slice (some ⟨go45, 0, none⟩) x3_2.length co45) y188 := (by rw [hw, Ny188.out]; exact HP46.1); clear HP46; replace HO_3 := aM (hp_); replace HB := aM ((by rw [hw]; exact below_set (HB.out) GB45.out : Below w.heap.size w w47)); clear hg hw hp_))
     repeat (go_quiet (first | ((with_reducible refine gate_store (t := 3) (p := 85) rfl ?_); (try (rw [drewN_self wr]; generalize hq_ : World.drewN wr _ = wr; replace HO_3 := aM (Kd.R_at hq_ HO_3.out); replace HB := aM (below_at hq_ HB.out); clear hq_; (try (obtain ⟨hy46_, hz46_⟩ := Kd.R_celln 0 HO_3.out (x5_2 : Int) (dt_) (dt_))); (try (have HP46 := Kd.R_putg HO_3.out (x5_2 : Int) x4_1)))); refine store_event (t := 3) (p := 85) (v := ?vo_w47) (w1 := (wr.setCell ⟨go45, (x5_2 : Int).toNat, none⟩ (.int .i64 x4_1))) ?hg ?ho ?hn ?hr ?_; (case ho => rfl); (case hg => rfl); (case hn => rfl); (case hr => exact qz6); intro w47 hw; have hg : wr.grownBy w47 (some go45) := (by rw [hw]; exact HP46.2); have hp_ : Kd.R (Kd.int .i64) 3 w47 w.heap.size (fun _ => True) (.slice (some ⟨go45, 0, none⟩) x3_2.length co45) y188 := (by rw [hw, Ny188.out]; exact HP46.1); clear HP46; replace HO_3 := aM (hp_); replace HB := aM ((by rw [hw]; exact below_set (HB.out) GB45.out : Below w.heap.size w w47)); clear hg hw hp_)); try go_wp2_with (first | ((with_reducible refine gate_store (t := 3) (p := 85) rfl ?_); (try (rw [drewN_self wr]; generalize hq_ : World.drewN wr _ = wr; replace HO_3 := aM (Kd.R_at hq_ HO_3.out); replace HB := aM (below_at hq_ HB.out); clear hq_; (try (obtain ⟨hy46_, hz46_⟩ := Kd.R_celln 0 HO_3.out (x5_2 : Int) (dt_) (dt_))); (try (have HP46 := Kd.R_putg HO_3.out (x5_2 : Int) x4_1)))); refine store_event (t := 3) (p := 85) (v := ?vo_w47) (w1 := (wr.setCell ⟨go45, (x5_2 : Int).toNat, none⟩ (.int .i64 x4_1))) ?hg ?ho ?hn ?hr ?_; (case ho => rfl); (case hg => rfl); (case hn => rfl); (case hr => exact qz6); intro w47 hw; have hg : wr.grownBy w47 (some go45) := (by rw [hw]; exact HP46.2); have hp_ : Kd.R (Kd.int .i64) 3 w47 w.heap.size (fun _ => True) (.slice (some ⟨go45, 0, none⟩) x3_2.length co45) y188 := (by rw [hw, Ny188.out]; exact HP46.1); clear HP46; replace HO_3 := aM (hp_); replace HB := aM ((by rw [hw]; exact below_set (HB.out) GB45.out : Below w.heap.size w w47)); clear hg hw hp_)))
     go_roundg k2
     case measure => have := HK1.out; have := HK2.out; omega
     case rel => exact ⟨(y188), (wrap64 (x4_1 + 1)), qz4, H', ⟨by have := HK1.out; have := HK2.out; omega⟩, ⟨rm_ HO_3.out⟩, ⟨qz1⟩⟩
     }
     {
     exact an_ c44 H
     }
     }
     {
     exact an_ c43 H
     }
     }
   }
   {
   exact an_ c5 H
   }
   }
   {
   rw [if_neg c4] at H
   have c4b0 := decide_eq_false c4
   clear c4
   obtain rfl := Option.some.inj H
   simp only [Option.some.injEq, Prod.mk.injEq] at H
   obtain ⟨rfl⟩ := H
   go_wp2
   repeat (go_quiet (fail); try go_wp2)
   go_ret
   exact ⟨_, qzw, by (with_reducible repeat (first | apply Kd.R_alloc | apply Kd.R_drewN | apply Kd.R_drew)); exact HO_3.out, qz1⟩

   }
end Go.Proofs.Ytankmdbbgepmbaa.PFnExactStep
