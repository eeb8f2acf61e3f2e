-- Made by a program of this session out of the translation. Lean checks it.
import Derived.Test.YtankmdbbgepmbaaPFnLivelyx0
namespace Go.Proofs.Ytankmdbbgepmbaa.PFnLively
open Go.RowKit Go.Proofs.YtankmdbbgepmbaaW.PrintWords Go.Proofs.YtankmdbbgepmbaaW.PrintLast Go.Proofs.YtankmdbbgepmbaaW.PrintMore
attribute [local go_sem] max2_int min2_int max_two min_two max_three min_three max_four min_four   -- for this text's walks alone
set_option linter.unusedVariables false
set_option linter.unusedSimpArgs false

/-! ### spec_l1Beside: function 123 -/
mutual
def spec_l1Beside.j0 : Nat → Int → List Int → Int → Int → Int → Int → List Int → Option (List Int)
 | 0, _, _, _, _, _, _, _ => none
 | k + 1, x1, x5, x6, x7, x307000, x307001, x307002 => if x6 > 0 then (if x5.length < 17592186044416 then (spec_l1Beside.j1 k x1 (x5 ++ [wrap64 (x1 - 1)]) x6 x7 x307000 x307001 x307002) else (none)) else (spec_l1Beside.j1 k x1 x5 x6 x7 x307000 x307001 x307002)
def spec_l1Beside.j1 : Nat → Int → List Int → Int → Int → Int → Int → List Int → Option (List Int)
 | 0, _, _, _, _, _, _, _ => none
 | k + 1, x1, x5, x6, x7, x307000, x307001, x307002 => if x6 < (wrap64 (x307000 - 1)) then (if x5.length < 17592186044416 then ((some (x5 ++ [wrap64 (x1 + 1)] : List Int)).bind fun y316 => (if x7 < (wrap64 (x307001 - 1)) then (if y316.length < 17592186044416 then (some (y316 ++ [wrap64 (x1 + x307000)])) else (none)) else (some y316))) else (none)) else (if x7 < (wrap64 (x307001 - 1)) then (if x5.length < 17592186044416 then (some (x5 ++ [wrap64 (x1 + x307000)])) else (none)) else (some x5))
end
def spec_l1Beside.f (k : Nat) (a0_0 : Int) (a0_1 : Int) (l0_2 : List Int) (a1 : Int) : Option (List Int) := (some (([] : List Int) : List Int)).bind fun y307 => (if a0_0 = 0 then (none) else (if (wrap64 (Int.tdiv a1 a0_0)) > 0 then (if y307.length < 17592186044416 then (spec_l1Beside.j0 k a1 (y307 ++ [wrap64 (a1 - a0_0)]) (Int.tmod a1 a0_0) (wrap64 (Int.tdiv a1 a0_0)) a0_0 a0_1 l0_2) else (none)) else (spec_l1Beside.j0 k a1 y307 (Int.tmod a1 a0_0) (wrap64 (Int.tdiv a1 a0_0)) a0_0 a0_1 l0_2)))
theorem spec_l1Beside.mono_l : ∀ k, (∀ y0 y1 y2 y3 y4 y5 y6, LeO (spec_l1Beside.j0 k y0 y1 y2 y3 y4 y5 y6) (spec_l1Beside.j0 (k + 1) y0 y1 y2 y3 y4 y5 y6)) ∧ (∀ y0 y1 y2 y3 y4 y5 y6, LeO (spec_l1Beside.j1 k y0 y1 y2 y3 y4 y5 y6) (spec_l1Beside.j1 (k + 1) y0 y1 y2 y3 y4 y5 y6))
 | 0 => ⟨fun _ _ _ _ _ _ _ r h => by simp [spec_l1Beside.j0] at h, fun _ _ _ _ _ _ _ r h => by simp [spec_l1Beside.j1] at h⟩
 | k + 1 => by
  obtain ⟨ih0, ih1⟩ := spec_l1Beside.mono_l k
  refine ⟨?_, ?_⟩
  {
  intro y0 y1 y2 y3 y4 y5 y6
  unfold spec_l1Beside.j0
  exact qL
  }
  {
  intro y0 y1 y2 y3 y4 y5 y6
  unfold spec_l1Beside.j1
  exact qL
  }
theorem spec_l1Beside.mono : ∀ a0 a1 a2 a3 k, LeO (spec_l1Beside.f k a0 a1 a2 a3) (spec_l1Beside.f (k + 1) a0 a1 a2 a3) := by
 intro a0 a1 a2 a3 k
 obtain ⟨ih0, ih1⟩ := spec_l1Beside.mono_l k
 unfold spec_l1Beside.f
 exact qL
set_option maxHeartbeats 8000000 in
set_option maxRecDepth 100000 in
theorem spec_l1Beside.calls (k : Nat) (a0_0 : Int) (a0_1 : Int) (A0_2 : Option Addr) (c0_2 : Nat) (l0_2 : List Int) (a1 : Int) (r : List Int) (w : World) (hr0_2 : Kd.C (Kd.int .i64) w A0_2 l0_2.length l0_2) (hc0_2 : l0_2.length ≤ c0_2) (h : spec_l1Beside.f k a0_0 a0_1 l0_2 a1 = some r) :
  Calls Try.prog 123 #[.agg #[.int .i64 a0_0, .int .i64 a0_1, .slice A0_2 l0_2.length c0_2], .int .i64 a1] w fun e w' => ∃ v0_ : Value, e = .returned (v0_) ∧ Kd.R (Kd.int .i64) 3 w' w.heap.size (fun _ => True) v0_ r ∧ Below w.heap.size w w' := by
 have hu43 := Try.underlying43
 have HR0_2 := aM hr0_2
 have HC0_2 := aM hc0_2
 clear hr0_2 hc0_2
 have HB := aM (Below.refl w.heap.size w)
 unfold spec_l1Beside.f at h
 have H := h
 clear h
 obtain ⟨y307, hy307⟩ : ∃ y_ : List Int, y_ = (([] : List Int)) := ⟨_, rfl⟩
 replace H := yB_ hy307 H
 have Ny307 := aM hy307
 clear hy307
 by_cases c3 : a0_0 = 0
 {
 exact ap_ c3 H
 }
 {
 rw [if_neg c3] at H
 have c3b0 := beq_eq_false_iff_ne.mpr c3
 have c3b1 := bne_iff_ne.mpr c3
 have HC4 := aM H
 clear H
 go_enter Try.func123, Try.ntmps123
 go_upto_if 18 with (first | ((with_reducible refine gate_dst (N := 2) rfl ?_); refine bx_ 2 #[.int .i64 a0_0, .int .i64 a0_1, .slice A0_2 l0_2.length c0_2] 43 ?_; intro gb306 hg w5 hbox hb; have BK306 := aM (hbox); have GW306 := aM (bz_ w hg qz1); have GE306 := GW306; replace HB := bS_ hb; clear hb hbox hg) | ((with_reducible refine gate_dst (N := 8) rfl ?_); refine Kd.R_lit (Kd.int .i64) _ 3 ?hg (N := 8) ?hd (xs := ([] : List Int)) (inner := []) (ok := fun _ => True) (okp := fun _ => True) ?hr ?hp (fun _ hk => hk) trivial (Below.refl _ _) (Nat.le_refl _) (by simp) ?_; (case hd => rfl); (case hg => rfl); (case hr => exact qz7); (case hp => exact (Reps.none _ _)); intro v308 w6 ho7 hb hg_ hnew_; clear hg_ hnew_; (first | rw [← Ny307.out] at ho7 | (simp only [Int.reduceToNat] at ho7; rw [← Ny307.out] at ho7)); have HO309 := aM (Kd.R_lower ho7 (below_size qz1)); replace BK306 := bB_ BK306 hb; replace HB := bS_ hb; clear hb ho7; obtain ⟨hcz8_0, hcz8_1, hcz8_2, hfz8_0, hfz8_1, hfz8_2⟩ := b6_ BK306.out))
 (try simp only [Act.put, List.setIfInBounds_toArray, List.set_cons_zero, List.set_cons_succ])
 go_cut [5] (fun v5 wc => ∃ (kq : Nat) (x5_3 : List Int), Aside0 (spec_l1Beside.j0 kq a1 x5_3 (Int.tmod a1 a0_0) (wrap64 (Int.tdiv a1 a0_0)) a0_0 a0_1 l0_2 = some r) ∧ Aside0 (kq ≤ k) ∧ Aside0 (Kd.R (Kd.int .i64) 3 wc w.heap.size (fun _ => True) v5 x5_3) ∧ Aside0 (wc.heap[gb306]? = some (.cells #[.int .i64 a0_0, .int .i64 a0_1, (.slice A0_2 l0_2.length c0_2)] 43 (0, 0))) ∧ Aside0 (Below w.heap.size w wc))
 case first =>
  have H := HC4.out
  clear HC4
  replace H := iE_ H
  rcases H with ⟨c9b0, H⟩ | ⟨c9b0, H⟩
  {
  (first | rw [c9b0] | (simp only [i64_w, i32_w]; rw [c9b0]) | rw [@decide_eq_true _ _ (of_decide_eq_true c9b0)] | rw [@decide_eq_true _ _ (of_decide_eq_true c9b1)] | skip)
  replace H := iN_ H
  obtain ⟨c10, H⟩ := H
  have LMc10 := aM c10
  clear c10
  obtain ⟨y310, hy310⟩ : ∃ y_ : List Int, y_ = (y307 ++ [wrap64 (a1 - a0_0)]) := ⟨_, rfl⟩
  replace H : (spec_l1Beside.j0 k a1 y310 (Int.tmod a1 a0_0) (wrap64 (Int.tdiv a1 a0_0)) a0_0 a0_1 l0_2) = some r := by first | (rw [hy310]; exact H) | exact H
  have Ny310 := aM hy310
  clear hy310
  have H' := aM H
  clear H
  obtain ⟨hcz11_0, hcz11_1, hcz11_2, hfz11_0, hfz11_1, hfz11_2⟩ := b6_ BK306.out
  go_wp2_with (first | ((with_reducible refine gate_builtin (b := .append) (xs := #[.tmp 19, .tmp 24]) rfl ?_); at_builtin; refine Kd.R_append (Kd.int .i64) (w0 := w) w.heap.size rfl (.tmp 19) (.tmp 24) 24 3 (.int .i64 0) 8 rfl Try.underlying24 info3 rfl (by decide) (by omega) v308 y307 (wrap64 (a1 - a0_0)) [.int .i64 (wrap64 (a1 - a0_0))] (fun _ => True) (fun _ => False) rfl rfl ?aP (fun _ hk => hk.elim) ?aF ?aO ?aB ?aS ?aL ?_; (case aP => exact rfl); (case aB => exact qz1); (case aF => exact qz12); (case aO => exact (rr_ HO309.out)); (case aS => exact qz19); (case aL => have := LMc10.out; omega); intro v311 w12 ho hb hg hat; rw [← Ny310.out] at ho; replace BK306 := aM (blk_grown (bk_ BK306.out) hg (Kd.R_ne HO309.out BK306.out (by decide))); replace HB := aM (hb); have HO312 := aM (ho); clear HO309; clear ho hb hg hat))
  go_meet
  case rel => exact ⟨_, (y310), H', ⟨by first | omega | exact Nat.le_refl _⟩, ⟨rm_ HO312.out⟩, ⟨bk_ BK306.out⟩, ⟨qz1⟩⟩
  }
  {
  (first | rw [c9b0] | (simp only [i64_w, i32_w]; rw [c9b0]) | rw [@decide_eq_false _ _ (of_decide_eq_false c9b0)] | rw [@decide_eq_false _ _ (of_decide_eq_false c9b1)] | skip)
  have H' := aM H
  clear H
  go_wp2
  go_meet
  case rel => exact ⟨_, (y307), H', ⟨by first | omega | exact Nat.le_refl _⟩, ⟨rm_ HO309.out⟩, ⟨bk_ BK306.out⟩, ⟨qz1⟩⟩
  }
 case rest =>
 clear HC4
 try clear c3
 try clear c3b0
 try clear c3b1
 try clear hcz8_0 hcz8_1 hcz8_2 hfz8_0 hfz8_1 hfz8_2
 obtain ⟨kq, x5_3, HA, HJ3, HO_5, BK306, HB⟩ := hcut
 cases kq with
 | zero => exact absurd HA.out (by simp [spec_l1Beside.j0])
 | succ kj3 =>
 have H := HA.out
 clear HA
 simp only [spec_l1Beside.j0] at H
 have HC13 := aM H
 clear H
 go_upto_if 27 with (fail)
 go_cut [5] (fun v5 wc => ∃ (kq : Nat) (x5_12 : List Int), Aside0 (spec_l1Beside.j1 kq a1 x5_12 (Int.tmod a1 a0_0) (wrap64 (Int.tdiv a1 a0_0)) a0_0 a0_1 l0_2 = some r) ∧ Aside0 (kq ≤ kj3) ∧ Aside0 (Kd.R (Kd.int .i64) 3 wc w.heap.size (fun _ => True) v5 x5_12) ∧ Aside0 (wc.heap[gb306]? = some (.cells #[.int .i64 a0_0, .int .i64 a0_1, (.slice A0_2 l0_2.length c0_2)] 43 (0, 0))) ∧ Aside0 (Below w.heap.size w wc))
 case first =>
  have H := HC13.out
  clear HC13
  replace H := iE_ H
  rcases H with ⟨c14b0, H⟩ | ⟨c14b0, H⟩
  {
  (first | rw [c14b0] | (simp only [i64_w, i32_w]; rw [c14b0]) | rw [@decide_eq_true _ _ (of_decide_eq_true c14b0)] | rw [@decide_eq_true _ _ (of_decide_eq_true c14b1)] | skip)
  replace H := iN_ H
  obtain ⟨c15, H⟩ := H
  have LMc15 := aM c15
  clear c15
  obtain ⟨y313, hy313⟩ : ∃ y_ : List Int, y_ = (x5_3 ++ [wrap64 (a1 - 1)]) := ⟨_, rfl⟩
  replace H : (spec_l1Beside.j1 kj3 a1 y313 (Int.tmod a1 a0_0) (wrap64 (Int.tdiv a1 a0_0)) a0_0 a0_1 l0_2) = some r := by first | (rw [hy313]; exact H) | exact H
  have Ny313 := aM hy313
  clear hy313
  have H' := aM H
  clear H
  go_wp2_with (first | ((with_reducible refine gate_builtin (b := .append) (xs := #[.tmp 28, .tmp 31]) rfl ?_); at_builtin; refine Kd.R_append (Kd.int .i64) (w0 := w) w.heap.size rfl (.tmp 28) (.tmp 31) 24 3 (.int .i64 0) 8 rfl Try.underlying24 info3 rfl (by decide) (by omega) u5 x5_3 (wrap64 (a1 - 1)) [.int .i64 (wrap64 (a1 - 1))] (fun _ => True) (fun _ => False) rfl rfl ?aP (fun _ hk => hk.elim) ?aF ?aO ?aB ?aS ?aL ?_; (case aP => exact rfl); (case aB => exact qz1); (case aF => exact qz12); (case aO => exact (rr_ HO_5.out)); (case aS => exact qz19); (case aL => have := LMc15.out; omega); intro v314 w16 ho hb hg hat; rw [← Ny313.out] at ho; replace BK306 := aM (blk_grown (bk_ BK306.out) hg (Kd.R_ne HO_5.out BK306.out (by decide))); replace HB := aM (hb); have HO315 := aM (ho); clear HO_5; clear ho hb hg hat))
  go_meet
  case rel => exact ⟨_, (y313), H', ⟨by have := HJ3.out; first | omega | exact Nat.le_refl _⟩, ⟨rm_ HO315.out⟩, ⟨bk_ BK306.out⟩, ⟨qz1⟩⟩
  }
  {
  (first | rw [c14b0] | (simp only [i64_w, i32_w]; rw [c14b0]) | rw [@decide_eq_false _ _ (of_decide_eq_false c14b0)] | rw [@decide_eq_false _ _ (of_decide_eq_false c14b1)] | skip)
  have H' := aM H
  clear H
  go_wp2
  go_meet
  case rel => exact ⟨_, (x5_3), H', ⟨by have := HJ3.out; first | omega | exact Nat.le_refl _⟩, ⟨rm_ HO_5.out⟩, ⟨bk_ BK306.out⟩, ⟨qz1⟩⟩
  }
 case rest =>
 clear HC13
 try clear c3
 try clear c3b0
 try clear c3b1
 try clear hcz8_0 hcz8_1 hcz8_2 hfz8_0 hfz8_1 hfz8_2
 obtain ⟨kq, x5_12, HA, HJ12, HO_5, BK306, HB⟩ := hcut
 cases kq with
 | zero => exact absurd HA.out (by simp [spec_l1Beside.j1])
 | succ kj12 =>
 have H := HA.out
 clear HA
 simp only [spec_l1Beside.j1] at H
 replace H := iE_ H
 rcases H with ⟨c17b0, H⟩ | ⟨c17b0, H⟩
 {
 replace H := iN_ H
 obtain ⟨c18, H⟩ := H
 have LMc18 := aM c18
 clear c18
 obtain ⟨y316, hy316⟩ : ∃ y_ : List Int, y_ = (x5_12 ++ [wrap64 (a1 + 1)]) := ⟨_, rfl⟩
 replace H := yB_ hy316 H
 have Ny316 := aM hy316
 clear hy316
 replace H := iE_ H
 rcases H with ⟨c19b0, H⟩ | ⟨c19b0, H⟩
 {
 replace H := iN_ H
 obtain ⟨c20, H⟩ := H
 have LMc20 := aM c20
 clear c20
 obtain ⟨y319, hy319⟩ : ∃ y_ : List Int, y_ = (y316 ++ [wrap64 (a1 + a0_0)]) := ⟨_, rfl⟩
 replace H : (some y319) = some r := by first | (rw [hy319]; exact H) | exact H
 have Ny319 := aM hy319
 clear hy319
 obtain rfl := Option.some.inj H
 obtain ⟨hcz21_0, hcz21_1, hcz21_2, hfz21_0, hfz21_1, hfz21_2⟩ := b6_ BK306.out
 go_wp2_with (first | ((with_reducible refine gate_builtin (b := .append) (xs := #[.tmp 38, .tmp 41]) rfl ?_); at_builtin; refine Kd.R_append (Kd.int .i64) (w0 := w) w.heap.size rfl (.tmp 38) (.tmp 41) 24 3 (.int .i64 0) 8 rfl Try.underlying24 info3 rfl (by decide) (by omega) u5 x5_12 (wrap64 (a1 + 1)) [.int .i64 (wrap64 (a1 + 1))] (fun _ => True) (fun _ => False) rfl rfl ?aP (fun _ hk => hk.elim) ?aF ?aO ?aB ?aS ?aL ?_; (case aP => exact rfl); (case aB => exact qz1); (case aF => exact qz12); (case aO => exact (rr_ HO_5.out)); (case aS => exact qz19); (case aL => have := LMc18.out; omega); intro v317 w22 ho hb hg hat; rw [← Ny316.out] at ho; replace BK306 := aM (blk_grown (bk_ BK306.out) hg (Kd.R_ne HO_5.out BK306.out (by decide))); replace HB := aM (hb); have HO318 := aM (ho); clear HO_5; clear ho hb hg hat; obtain ⟨hcz23_0, hcz23_1, hcz23_2, hfz23_0, hfz23_1, hfz23_2⟩ := b6_ BK306.out) | ((with_reducible refine gate_builtin (b := .append) (xs := #[.tmp 48, .tmp 53]) rfl ?_); at_builtin; refine Kd.R_append (Kd.int .i64) (w0 := w) w.heap.size rfl (.tmp 48) (.tmp 53) 24 3 (.int .i64 0) 8 rfl Try.underlying24 info3 rfl (by decide) (by omega) v317 y316 (wrap64 (a1 + a0_0)) [.int .i64 (wrap64 (a1 + a0_0))] (fun _ => True) (fun _ => False) rfl rfl ?aP (fun _ hk => hk.elim) ?aF ?aO ?aB ?aS ?aL ?_; (case aP => exact rfl); (case aB => exact qz1); (case aF => exact qz12); (case aO => exact (rr_ HO318.out)); (case aS => exact qz19); (case aL => have := LMc20.out; omega); intro v320 w24 ho hb hg hat; rw [← Ny319.out] at ho; replace BK306 := aM (blk_grown (bk_ BK306.out) hg (Kd.R_ne HO318.out BK306.out (by decide))); replace HB := aM (hb); have HO321 := aM (ho); clear HO318; clear ho hb hg hat))
 go_ret
 exact ⟨_, qzw, by (with_reducible repeat (first | apply Kd.R_alloc | apply Kd.R_drewN | apply Kd.R_drew)); exact HO321.out, qz1⟩
 }
 {
 obtain rfl := Option.some.inj H
 obtain ⟨hcz25_0, hcz25_1, hcz25_2, hfz25_0, hfz25_1, hfz25_2⟩ := b6_ BK306.out
 go_wp2_with (first | ((with_reducible refine gate_builtin (b := .append) (xs := #[.tmp 38, .tmp 41]) rfl ?_); at_builtin; refine Kd.R_append (Kd.int .i64) (w0 := w) w.heap.size rfl (.tmp 38) (.tmp 41) 24 3 (.int .i64 0) 8 rfl Try.underlying24 info3 rfl (by decide) (by omega) u5 x5_12 (wrap64 (a1 + 1)) [.int .i64 (wrap64 (a1 + 1))] (fun _ => True) (fun _ => False) rfl rfl ?aP (fun _ hk => hk.elim) ?aF ?aO ?aB ?aS ?aL ?_; (case aP => exact rfl); (case aB => exact qz1); (case aF => exact qz12); (case aO => exact (rr_ HO_5.out)); (case aS => exact qz19); (case aL => have := LMc18.out; omega); intro v317 w26 ho hb hg hat; rw [← Ny316.out] at ho; replace BK306 := aM (blk_grown (bk_ BK306.out) hg (Kd.R_ne HO_5.out BK306.out (by decide))); replace HB := aM (hb); have HO318 := aM (ho); clear HO_5; clear ho hb hg hat; obtain ⟨hcz27_0, hcz27_1, hcz27_2, hfz27_0, hfz27_1, hfz27_2⟩ := b6_ BK306.out))
 go_ret
 exact ⟨_, qzw, by (with_reducible repeat (first | apply Kd.R_alloc | apply Kd.R_drewN | apply Kd.R_drew)); exact HO318.out, qz1⟩
 }
 }
 {
 replace H := iE_ H
 rcases H with ⟨c28b0, H⟩ | ⟨c28b0, H⟩
 {
 replace H := iN_ H
 obtain ⟨c29, H⟩ := H
 have LMc29 := aM c29
 clear c29
 obtain ⟨y322, hy322⟩ : ∃ y_ : List Int, y_ = (x5_12 ++ [wrap64 (a1 + a0_0)]) := ⟨_, rfl⟩
 replace H : (some y322) = some r := by first | (rw [hy322]; exact H) | exact H
 have Ny322 := aM hy322
 clear hy322
 obtain rfl := Option.some.inj H
 obtain ⟨hcz30_0, hcz30_1, hcz30_2, hfz30_0, hfz30_1, hfz30_2⟩ := b6_ BK306.out
 go_wp2_with (first | ((with_reducible refine gate_builtin (b := .append) (xs := #[.tmp 48, .tmp 53]) rfl ?_); at_builtin; refine Kd.R_append (Kd.int .i64) (w0 := w) w.heap.size rfl (.tmp 48) (.tmp 53) 24 3 (.int .i64 0) 8 rfl Try.underlying24 info3 rfl (by decide) (by omega) u5 x5_12 (wrap64 (a1 + a0_0)) [.int .i64 (wrap64 (a1 + a0_0))] (fun _ => True) (fun _ => False) rfl rfl ?aP (fun _ hk => hk.elim) ?aF ?aO ?aB ?aS ?aL ?_; (case aP => exact rfl); (case aB => exact qz1); (case aF => exact qz12); (case aO => exact (rr_ HO_5.out)); (case aS => exact qz19); (case aL => have := LMc29.out; omega); intro v323 w31 ho hb hg hat; rw [← Ny322.out] at ho; replace BK306 := aM (blk_grown (bk_ BK306.out) hg (Kd.R_ne HO_5.out BK306.out (by decide))); replace HB := aM (hb); have HO324 := aM (ho); clear HO_5; clear ho hb hg hat))
 go_ret
 exact ⟨_, qzw, by (with_reducible repeat (first | apply Kd.R_alloc | apply Kd.R_drewN | apply Kd.R_drew)); exact HO324.out, qz1⟩
 }
 {
 obtain rfl := Option.some.inj H
 obtain ⟨hcz32_0, hcz32_1, hcz32_2, hfz32_0, hfz32_1, hfz32_2⟩ := b6_ BK306.out
 go_wp2
 go_ret
 exact ⟨_, qzw, by (with_reducible repeat (first | apply Kd.R_alloc | apply Kd.R_drewN | apply Kd.R_drew)); exact HO_5.out, qz1⟩
 }
 }
 }
/-! ### spec_l1Near: function 99 -/
def spec_l1Near.l0 : Nat → Bool → List Int → List Int → Int → Int → Int → List Int → Option (List Int)
 | 0, _, _, _, _, _, _, _ => none
 | k + 1, x2, x7, x8, x9, x326000, x326001, x326002 => if x9 < (x8.length : Int) then (if 0 ≤ x9 then (if 0 ≤ (rd x8 x9) then (if (rd x8 x9) < (x326002.length : Int) then (if (rd x326002 (rd x8 x9)) = 0 then (spec_l1Near.l0 k x2 x7 x8 (wrap64 (x9 + 1)) x326000 x326001 x326002) else (if x2 = true then (if ((rd x326002 (rd x8 x9)) = 2) then (spec_l1Near.l0 k x2 x7 x8 (wrap64 (x9 + 1)) x326000 x326001 x326002) else (if x7.length < 17592186044416 then (spec_l1Near.l0 k x2 (x7 ++ [rd x8 x9]) x8 (wrap64 (x9 + 1)) x326000 x326001 x326002) else (none))) else (if x7.length < 17592186044416 then (spec_l1Near.l0 k x2 (x7 ++ [rd x8 x9]) x8 (wrap64 (x9 + 1)) x326000 x326001 x326002) else (none)))) else (none)) else (none)) else (none)) else (some x7)
def spec_l1Near.f (k : Nat) (a0_0 : Int) (a0_1 : Int) (l0_2 : List Int) (a1 : Int) (a2 : Bool) : Option (List Int) := (spec_l1Beside.f k a0_0 a0_1 l0_2 a1).bind fun t329 => (spec_l1Near.l0 k a2 (([] : List Int)) t329 0 a0_0 a0_1 l0_2)
theorem spec_l1Near.mono_l : ∀ k, (∀ y0 y1 y2 y3 y4 y5 y6, LeO (spec_l1Near.l0 k y0 y1 y2 y3 y4 y5 y6) (spec_l1Near.l0 (k + 1) y0 y1 y2 y3 y4 y5 y6))
 | 0 => fun _ _ _ _ _ _ _ r h => by simp [spec_l1Near.l0] at h
 | k + 1 => by
  have ih0 := spec_l1Near.mono_l k
  {
  intro y0 y1 y2 y3 y4 y5 y6
  unfold spec_l1Near.l0
  have j0 := @spec_l1Beside.mono
  exact qL
  }
theorem spec_l1Near.mono : ∀ a0 a1 a2 a3 a4 k, LeO (spec_l1Near.f k a0 a1 a2 a3 a4) (spec_l1Near.f (k + 1) a0 a1 a2 a3 a4) := by
 intro a0 a1 a2 a3 a4 k
 have ih0 := spec_l1Near.mono_l k
 unfold spec_l1Near.f
 have j0 := @spec_l1Beside.mono
 exact qL
set_option maxHeartbeats 8000000 in
set_option maxRecDepth 100000 in
theorem spec_l1Near.calls (k : Nat) (a0_0 : Int) (a0_1 : Int) (A0_2 : Option Addr) (c0_2 : Nat) (l0_2 : List Int) (a1 : Int) (a2 : Bool) (r : List Int) (w : World) (hr0_2 : Kd.C (Kd.int .i64) w A0_2 l0_2.length l0_2) (hc0_2 : l0_2.length ≤ c0_2) (h : spec_l1Near.f k a0_0 a0_1 l0_2 a1 a2 = some r) :
  Calls Try.prog 99 #[.agg #[.int .i64 a0_0, .int .i64 a0_1, .slice A0_2 l0_2.length c0_2], .int .i64 a1, .bool a2] w fun e w' => ∃ v0_ : Value, e = .returned (v0_) ∧ Kd.R (Kd.int .i64) 3 w' w.heap.size (fun _ => True) v0_ r ∧ Below w.heap.size w w' := by
 have hu43 := Try.underlying43
 have HR0_2 := aM hr0_2
 have HC0_2 := aM hc0_2
 clear hr0_2 hc0_2
 have HB := aM (Below.refl w.heap.size w)
 unfold spec_l1Near.f at h
 have H := h
 clear h
 obtain ⟨y326, hy326⟩ : ∃ y_ : List Int, y_ = (([] : List Int)) := ⟨_, rfl⟩
 replace H : ((spec_l1Beside.f k a0_0 a0_1 l0_2 a1).bind fun t329 => (spec_l1Near.l0 k a2 y326 t329 0 a0_0 a0_1 l0_2)) = some r := by first | (rw [hy326]; exact H) | exact H
 have Ny326 := aM hy326
 clear hy326
 replace H := Option.bind_eq_some_iff.mp H
 obtain ⟨t329, A40, H⟩ := H
 have A4 := aM A40
 clear A40
 have H' := aM H
 clear H
 go_enter Try.func99, Try.ntmps99
 go_wp2_with (first | ((with_reducible refine gate_dst (N := 3) rfl ?_); refine bx_ 3 #[.int .i64 a0_0, .int .i64 a0_1, .slice A0_2 l0_2.length c0_2] 43 ?_; intro gb325 hg w5 hbox hb; have BK325 := aM (hbox); have GW325 := aM (bz_ w hg qz1); have GE325 := GW325; replace HB := bS_ hb; clear hb hbox hg) | ((with_reducible refine gate_dst (N := 11) rfl ?_); refine Kd.R_lit (Kd.int .i64) _ 3 ?hg (N := 11) ?hd (xs := ([] : List Int)) (inner := []) (ok := fun _ => True) (okp := fun _ => True) ?hr ?hp (fun _ hk => hk) trivial (Below.refl _ _) (Nat.le_refl _) (by simp) ?_; (case hd => rfl); (case hg => rfl); (case hr => exact qz7); (case hp => exact (Reps.none _ _)); intro v327 w6 ho7 hb hg_ hnew_; clear hg_ hnew_; (first | rw [← Ny326.out] at ho7 | (simp only [Int.reduceToNat] at ho7; rw [← Ny326.out] at ho7)); have HO328 := aM (Kd.R_lower ho7 (below_size qz1)); replace BK325 := bB_ BK325 hb; replace HB := bS_ hb; clear hb ho7; obtain ⟨hcz8_0, hcz8_1, hcz8_2, hfz8_0, hfz8_1, hfz8_2⟩ := b6_ BK325.out) | (go_at_call 123; (with_reducible refine (spec_l1Beside.calls k a0_0 a0_1 _ _ l0_2 a1 t329 _ ?_ ?_ A4.out).mono ?_); exact qz5; exact qz14; rintro e w9 ⟨v330, rfl, ho0, hb⟩; have HO331 := aM (Kd.R_lower (Kd.R_new' ho0 (Kd.R_lt (rr_ HO328.out))) (below_size qz1)); replace HO328 := aM (Kd.R_elder' (rr_ HO328.out) (Kd.R_base ho0) hb); replace BK325 := bB_ BK325 hb; replace HB := bS_ hb; (try clear hb ho0)) | go_quiet (first | (go_at_call 123; (with_reducible refine (spec_l1Beside.calls k a0_0 a0_1 _ _ l0_2 a1 t329 _ ?_ ?_ A4.out).mono ?_); exact qz5; exact qz14; rintro e w9 ⟨v330, rfl, ho0, hb⟩; have HO331 := aM (Kd.R_lower (Kd.R_new' ho0 (Kd.R_lt (rr_ HO328.out))) (below_size qz1)); replace HO328 := aM (Kd.R_elder' (rr_ HO328.out) (Kd.R_base ho0) hb); replace BK325 := bB_ BK325 hb; replace HB := bS_ hb; (try clear hb ho0))))
 go_loopg [7, 9] k (fun kq v7 v9 w' => ∃ (x7_1 : List Int) (x9_1 : Int), v9 = .int .i64 x9_1 ∧ Aside0 (spec_l1Near.l0 kq a2 x7_1 t329 x9_1 a0_0 a0_1 l0_2 = some r) ∧ Aside0 (kq ≤ k) ∧ Aside0 (Kd.R (Kd.int .i64) 3 w' w.heap.size (fun k_ => some k_ ≠ (v330 : Value).ownBlock) v7 x7_1) ∧ Aside0 (Kd.R (Kd.int .i64) 3 w' w.heap.size (fun k_ => some k_ ≠ (v7 : Value).ownBlock) v330 t329) ∧ Aside0 (w'.heap[gb325]? = some (.cells #[.int .i64 a0_0, .int .i64 a0_1, (.slice A0_2 l0_2.length c0_2)] 43 (0, 0))) ∧ Aside0 (Below w.heap.size w w'))
 case atStart => exact ⟨(y326), (0), qz6, H', ⟨Nat.le_refl _⟩, ⟨by (with_reducible repeat (first | apply Kd.R_alloc | apply Kd.R_drewN | apply Kd.R_drew)); exact Kd.R_mono HO328.out (fun _ hk => hk.2)⟩, ⟨by (with_reducible repeat (first | apply Kd.R_alloc | apply Kd.R_drewN | apply Kd.R_drew)); exact Kd.R_mono HO331.out (fun _ hk => hk.2)⟩, ⟨bk_ BK325.out⟩, ⟨qz1⟩⟩
 case round =>
 clear H'
 try clear hcz8_0 hcz8_1 hcz8_2 hfz8_0 hfz8_1 hfz8_2
 obtain ⟨x7_1, x9_1, rfl, HA, HK1, HO_7, HO_8, BK325, HB⟩ := hrel
 cases gk with
 | zero => exact absurd HA.out (by simp [spec_l1Near.l0])
 | succ k1 =>
 have H := HA.out
 clear HA
 simp only [spec_l1Near.l0] at H
 replace H := iE_ H
 rcases H with ⟨c10b0, H⟩ | ⟨c10b0, H⟩
 {
 replace H := iD_ H
 obtain ⟨c11b0, H⟩ := H
 replace H := iD_ H
 obtain ⟨c12b0, H⟩ := H
 replace H := iD_ H
 obtain ⟨c13b0, H⟩ := H
 replace H := iQ_ H
 rcases H with ⟨c14b0, c14b1, H⟩ | ⟨c14, c14b0, c14b1, H⟩
 {
 have H' := aM H
 clear H
 obtain ⟨Ao15, co15, eo15⟩ := Kd.R_slice HO_8.out
 subst eo15
 obtain ⟨hcz16_0, hcz16_1, hcz16_2, hfz16_0, hfz16_1, hfz16_2⟩ := b6_ BK325.out
 have p332 : (0 ≤ (x9_1 : Int)) = True := et_
 have q332 : (x9_1 < (t329.length : Int)) = True := et_
 obtain ⟨ad332, e332, hx332_0⟩ := Kd.at_int (Kd.R_reads' HO_8.out).2.2 x9_1 dt_ dt_
 cases e332
 have p333 : (0 ≤ ((rd t329 x9_1) : Int)) = True := et_
 have q333 : ((rd t329 x9_1) < (l0_2.length : Int)) = True := et_
 obtain ⟨ad333, e333, hx333_0⟩ := Kd.at_int HR0_2.out (rd t329 x9_1) dt_ dt_
 cases e333
 replace hx333_0 := cB_ hx333_0
 go_wp2
 repeat (go_quiet (fail); try go_wp2)
 go_roundg k1
 case measure => have := HK1.out; omega
 case rel => exact ⟨(x7_1), (wrap64 (x9_1 + 1)), qz6, H', ⟨by have := HK1.out; omega⟩, ⟨rm_ HO_7.out⟩, ⟨rm_ HO_8.out⟩, ⟨bk_ BK325.out⟩, ⟨qz1⟩⟩
 }
 {
 replace H := iB_ H
 rcases H with ⟨rfl, H⟩ | ⟨rfl, H⟩
 {
 replace H := iQ_ H
 rcases H with ⟨c18b0, c18b1, H⟩ | ⟨c18, c18b0, c18b1, H⟩
 {
 have H' := aM H
 clear H
 obtain ⟨Ao19, co19, eo19⟩ := Kd.R_slice HO_8.out
 subst eo19
 obtain ⟨hcz20_0, hcz20_1, hcz20_2, hfz20_0, hfz20_1, hfz20_2⟩ := b6_ BK325.out
 have p332 : (0 ≤ (x9_1 : Int)) = True := et_
 have q332 : (x9_1 < (t329.length : Int)) = True := et_
 obtain ⟨ad332, e332, hx332_0⟩ := Kd.at_int (Kd.R_reads' HO_8.out).2.2 x9_1 dt_ dt_
 cases e332
 have p333 : (0 ≤ ((rd t329 x9_1) : Int)) = True := et_
 have q333 : ((rd t329 x9_1) < (l0_2.length : Int)) = True := et_
 obtain ⟨ad333, e333, hx333_0⟩ := Kd.at_int HR0_2.out (rd t329 x9_1) dt_ dt_
 cases e333
 replace hx333_0 := cB_ hx333_0
 go_wp2
 repeat (go_quiet (fail); try go_wp2)
 go_roundg k1
 case measure => have := HK1.out; omega
 case rel => exact ⟨(x7_1), (wrap64 (x9_1 + 1)), qz6, H', ⟨by have := HK1.out; omega⟩, ⟨rm_ HO_7.out⟩, ⟨rm_ HO_8.out⟩, ⟨bk_ BK325.out⟩, ⟨qz1⟩⟩
 }
 {
 replace H := iN_ H
 obtain ⟨c21, H⟩ := H
 have LMc21 := aM c21
 clear c21
 obtain ⟨y335, hy335⟩ : ∃ y_ : List Int, y_ = (x7_1 ++ [rd t329 x9_1]) := ⟨_, rfl⟩
 replace H : (spec_l1Near.l0 k1 true y335 t329 (wrap64 (x9_1 + 1)) a0_0 a0_1 l0_2) = some r := by first | (rw [hy335]; exact H) | exact H
 have Ny335 := aM hy335
 clear hy335
 have H' := aM H
 clear H
 obtain ⟨Ao22, co22, eo22⟩ := Kd.R_slice HO_8.out
 subst eo22
 obtain ⟨hcz23_0, hcz23_1, hcz23_2, hfz23_0, hfz23_1, hfz23_2⟩ := b6_ BK325.out
 have p332 : (0 ≤ (x9_1 : Int)) = True := et_
 have q332 : (x9_1 < (t329.length : Int)) = True := et_
 obtain ⟨ad332, e332, hx332_0⟩ := Kd.at_int (Kd.R_reads' HO_8.out).2.2 x9_1 dt_ dt_
 cases e332
 have p333 : (0 ≤ ((rd t329 x9_1) : Int)) = True := et_
 have q333 : ((rd t329 x9_1) < (l0_2.length : Int)) = True := et_
 obtain ⟨ad333, e333, hx333_0⟩ := Kd.at_int HR0_2.out (rd t329 x9_1) dt_ dt_
 cases e333
 replace hx333_0 := cB_ hx333_0
 have p334 : (0 ≤ (x9_1 : Int)) = True := et_
 have q334 : (x9_1 < (t329.length : Int)) = True := et_
 obtain ⟨ad334, e334, hx334_0⟩ := Kd.at_int (Kd.R_reads' HO_8.out).2.2 x9_1 dt_ dt_
 obtain rfl : ad332 = ad334 := (by injection e334)
 go_wp2_with (first | ((with_reducible refine gate_builtin (b := .append) (xs := #[.tmp 39, .tmp 44]) rfl ?_); at_builtin; refine Kd.R_append (Kd.int .i64) (w0 := w) w.heap.size rfl (.tmp 39) (.tmp 44) 24 3 (.int .i64 0) 8 rfl Try.underlying24 info3 rfl (by decide) (by omega) u7 x7_1 (rd t329 x9_1) [.int .i64 (rd t329 x9_1)] (fun k_ => some k_ ≠ (.slice (some ad332) t329.length co22 : Value).ownBlock) (fun _ => False) rfl rfl ?aP (fun _ hk => hk.elim) ?aF ?aO ?aB ?aS ?aL ?_; (case aP => exact rfl); (case aB => exact qz1); (case aF => exact (fun k_ hk => Kd.fresh' (Kd.R_lt (rr_ HO_8.out)) k_ hk)); (case aO => exact (rr_ HO_7.out)); (case aS => exact qz19); (case aL => have := LMc21.out; omega); intro v336 w24 ho hb hg hat; rw [← Ny335.out] at ho; replace HO_8 := aM (Kd.R_after (ok := (fun _ => True)) (by (with_reducible repeat (first | apply Kd.R_alloc | apply Kd.R_drewN | apply Kd.R_drew)); exact Kd.R_mono HO_8.out (fun _ hk => ⟨trivial, hk⟩)) hg hat); replace BK325 := aM (blk_grown (bk_ BK325.out) hg (Kd.R_ne HO_7.out BK325.out (by decide))); replace HB := aM (hb); have HO337 := aM (ho); clear HO_7; clear ho hb hg hat) | go_quiet (fail))
 go_roundg k1
 case measure => have := HK1.out; omega
 case rel => exact ⟨(y335), (wrap64 (x9_1 + 1)), qz6, H', ⟨by have := HK1.out; omega⟩, ⟨rm_ HO337.out⟩, ⟨by (with_reducible repeat (first | apply Kd.R_alloc | apply Kd.R_drewN | apply Kd.R_drew)); exact Kd.R_mono HO_8.out (fun _ hk => hk.2)⟩, ⟨bk_ BK325.out⟩, ⟨qz1⟩⟩
 }
 }
 {
 replace H := iN_ H
 obtain ⟨c25, H⟩ := H
 have LMc25 := aM c25
 clear c25
 obtain ⟨y339, hy339⟩ : ∃ y_ : List Int, y_ = (x7_1 ++ [rd t329 x9_1]) := ⟨_, rfl⟩
 replace H : (spec_l1Near.l0 k1 false y339 t329 (wrap64 (x9_1 + 1)) a0_0 a0_1 l0_2) = some r := by first | (rw [hy339]; exact H) | exact H
 have Ny339 := aM hy339
 clear hy339
 have H' := aM H
 clear H
 obtain ⟨Ao26, co26, eo26⟩ := Kd.R_slice HO_8.out
 subst eo26
 obtain ⟨hcz27_0, hcz27_1, hcz27_2, hfz27_0, hfz27_1, hfz27_2⟩ := b6_ BK325.out
 have p332 : (0 ≤ (x9_1 : Int)) = True := et_
 have q332 : (x9_1 < (t329.length : Int)) = True := et_
 obtain ⟨ad332, e332, hx332_0⟩ := Kd.at_int (Kd.R_reads' HO_8.out).2.2 x9_1 dt_ dt_
 cases e332
 have p333 : (0 ≤ ((rd t329 x9_1) : Int)) = True := et_
 have q333 : ((rd t329 x9_1) < (l0_2.length : Int)) = True := et_
 obtain ⟨ad333, e333, hx333_0⟩ := Kd.at_int HR0_2.out (rd t329 x9_1) dt_ dt_
 cases e333
 replace hx333_0 := cB_ hx333_0
 have p338 : (0 ≤ (x9_1 : Int)) = True := et_
 have q338 : (x9_1 < (t329.length : Int)) = True := et_
 obtain ⟨ad338, e338, hx338_0⟩ := Kd.at_int (Kd.R_reads' HO_8.out).2.2 x9_1 dt_ dt_
 obtain rfl : ad332 = ad338 := (by injection e338)
 go_wp2_with (first | ((with_reducible refine gate_builtin (b := .append) (xs := #[.tmp 39, .tmp 44]) rfl ?_); at_builtin; refine Kd.R_append (Kd.int .i64) (w0 := w) w.heap.size rfl (.tmp 39) (.tmp 44) 24 3 (.int .i64 0) 8 rfl Try.underlying24 info3 rfl (by decide) (by omega) u7 x7_1 (rd t329 x9_1) [.int .i64 (rd t329 x9_1)] (fun k_ => some k_ ≠ (.slice (some ad332) t329.length co26 : Value).ownBlock) (fun _ => False) rfl rfl ?aP (fun _ hk => hk.elim) ?aF ?aO ?aB ?aS ?aL ?_; (case aP => exact rfl); (case aB => exact qz1); (case aF => exact (fun k_ hk => Kd.fresh' (Kd.R_lt (rr_ HO_8.out)) k_ hk)); (case aO => exact (rr_ HO_7.out)); (case aS => exact qz19); (case aL => have := LMc25.out; omega); intro v340 w28 ho hb hg hat; rw [← Ny339.out] at ho; replace HO_8 := aM (Kd.R_after (ok := (fun _ => True)) (by (with_reducible repeat (first | apply Kd.R_alloc | apply Kd.R_drewN | apply Kd.R_drew)); exact Kd.R_mono HO_8.out (fun _ hk => ⟨trivial, hk⟩)) hg hat); replace BK325 := aM (blk_grown (bk_ BK325.out) hg (Kd.R_ne HO_7.out BK325.out (by decide))); replace HB := aM (hb); have HO341 := aM (ho); clear HO_7; clear ho hb hg hat) | go_quiet (fail))
 go_roundg k1
 case measure => have := HK1.out; omega
 case rel => exact ⟨(y339), (wrap64 (x9_1 + 1)), qz6, H', ⟨by have := HK1.out; omega⟩, ⟨rm_ HO341.out⟩, ⟨by (with_reducible repeat (first | apply Kd.R_alloc | apply Kd.R_drewN | apply Kd.R_drew)); exact Kd.R_mono HO_8.out (fun _ hk => hk.2)⟩, ⟨bk_ BK325.out⟩, ⟨qz1⟩⟩
 }
 }
 }
 {
 obtain rfl := Option.some.inj H
 obtain ⟨Ao29, co29, eo29⟩ := Kd.R_slice HO_8.out
 subst eo29
 go_wp2
 repeat (go_quiet (fail); try go_wp2)
 go_ret
 exact ⟨_, qzw, by (with_reducible repeat (first | apply Kd.R_alloc | apply Kd.R_drewN | apply Kd.R_drew)); exact Kd.R_mono HO_7.out (fun _ hk => trivial), qz1⟩
 }
end Go.Proofs.Ytankmdbbgepmbaa.PFnLively
