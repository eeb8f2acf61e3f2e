-- Made by a program of this session out of the translation. Lean checks it.
import Derived.Test.YtankmdbbgepmbaaPFnLivelyx15
namespace Go.Proofs.Ytankmdbbgepmbaa.PFnLively
open Go.RowKit Go.Proofs.YtankmdbbgepmbaaW.PrintWords Go.Proofs.YtankmdbbgepmbaaW.PrintLast Go.Proofs.YtankmdbbgepmbaaW.PrintMore
attribute [local go_sem] max2_int min2_int max_two min_two max_three min_three max_four min_four   -- for this text's walks alone
set_option linter.unusedVariables false
set_option linter.unusedSimpArgs false

/-! ### spec_l2Field: function 101 -/
mutual
def spec_l2Field.l0 : Nat → Int → Bool → List Int → Int → Int → Int → List Int → Option (List Int)
 | 0, _, _, _, _, _, _, _ => none
 | k + 1, x1, x2, x7, x8, x343000, x343001, x343002 => if x8 < (x343002.length : Int) then (if x7.length < 17592186044416 then (spec_l2Field.l0 k x1 x2 (x7 ++ [(-1)]) (wrap64 (x8 + 1)) x343000 x343001 x343002) else (none)) else (if 0 ≤ x1 then (if x1 < (x7.length : Int) then (spec_l2Field.l1 k x1 x2 (x7.set (x1 : Int).toNat 0) (([x1] : List Int)) 0 x343000 x343001 x343002) else (none)) else (none))
def spec_l2Field.l1 : Nat → Int → Bool → List Int → List Int → Int → Int → Int → List Int → Option (List Int)
 | 0, _, _, _, _, _, _, _, _ => none
 | k + 1, x1, x2, x7, x9, x10, x343000, x343001, x343002 => if x10 < (x9.length : Int) then (if 0 ≤ x10 then (if (rd x9 x10) = x1 then (spec_l2Field.j2 k x1 x2 x7 x9 x10 (rd x9 x10) false x343000 x343001 x343002) else (if x2 = true then (if 0 ≤ (rd x9 x10) then (if (rd x9 x10) < (x343002.length : Int) then (spec_l2Field.j2 k x1 x2 x7 x9 x10 (rd x9 x10) ((rd x343002 (rd x9 x10)) == 2) x343000 x343001 x343002) else (none)) else (none)) else (spec_l2Field.j2 k x1 x2 x7 x9 x10 (rd x9 x10) false x343000 x343001 x343002))) else (none)) else (some x7)
def spec_l2Field.j2 : Nat → Int → Bool → List Int → List Int → Int → Int → Bool → Int → Int → List Int → Option (List Int)
 | 0, _, _, _, _, _, _, _, _, _, _ => none
 | k + 1, x1, x2, x7, x9, x10, x11, x53, x343000, x343001, x343002 => if x53 = true then (spec_l2Field.l1 k x1 x2 x7 x9 (wrap64 (x10 + 1)) x343000 x343001 x343002) else ((spec_l1Near.f k x343000 x343001 x343002 x11 false).bind fun t355 => (spec_l2Field.l2 k x1 x2 x7 x9 x10 x11 t355 0 x343000 x343001 x343002))
def spec_l2Field.l2 : Nat → Int → Bool → List Int → List Int → Int → Int → List Int → Int → Int → Int → List Int → Option (List Int)
 | 0, _, _, _, _, _, _, _, _, _, _, _ => none
 | k + 1, x1, x2, x7, x9, x10, x11, x12, x13, x343000, x343001, x343002 => if x13 < (x12.length : Int) then (if 0 ≤ x13 then (if 0 ≤ (rd x12 x13) then (if (rd x12 x13) < (x7.length : Int) then (if (rd x7 (rd x12 x13)) < 0 then (if 0 ≤ x11 then (if x11 < (x7.length : Int) then (if x9.length < 17592186044416 then (spec_l2Field.l2 k x1 x2 (x7.set ((rd x12 x13) : Int).toNat (wrap64 ((rd x7 x11) + 1))) (x9 ++ [rd x12 x13]) x10 x11 x12 (wrap64 (x13 + 1)) x343000 x343001 x343002) else (none)) else (none)) else (none)) else (spec_l2Field.l2 k x1 x2 x7 x9 x10 x11 x12 (wrap64 (x13 + 1)) x343000 x343001 x343002)) else (none)) else (none)) else (none)) else (spec_l2Field.l1 k x1 x2 x7 x9 (wrap64 (x10 + 1)) x343000 x343001 x343002)
end
def spec_l2Field.f (k : Nat) (a0_0 : Int) (a0_1 : Int) (l0_2 : List Int) (a1 : Int) (a2 : Bool) : Option (List Int) := spec_l2Field.l0 k a1 a2 (([] : List Int)) 0 a0_0 a0_1 l0_2
theorem spec_l2Field.mono_l : ∀ k, (∀ y0 y1 y2 y3 y4 y5 y6, LeO (spec_l2Field.l0 k y0 y1 y2 y3 y4 y5 y6) (spec_l2Field.l0 (k + 1) y0 y1 y2 y3 y4 y5 y6)) ∧ (∀ y0 y1 y2 y3 y4 y5 y6 y7, LeO (spec_l2Field.l1 k y0 y1 y2 y3 y4 y5 y6 y7) (spec_l2Field.l1 (k + 1) y0 y1 y2 y3 y4 y5 y6 y7)) ∧ (∀ y0 y1 y2 y3 y4 y5 y6 y7 y8 y9, LeO (spec_l2Field.j2 k y0 y1 y2 y3 y4 y5 y6 y7 y8 y9) (spec_l2Field.j2 (k + 1) y0 y1 y2 y3 y4 y5 y6 y7 y8 y9)) ∧ (∀ y0 y1 y2 y3 y4 y5 y6 y7 y8 y9 y10, LeO (spec_l2Field.l2 k y0 y1 y2 y3 y4 y5 y6 y7 y8 y9 y10) (spec_l2Field.l2 (k + 1) y0 y1 y2 y3 y4 y5 y6 y7 y8 y9 y10))
 | 0 => ⟨fun _ _ _ _ _ _ _ r h => by simp [spec_l2Field.l0] at h, fun _ _ _ _ _ _ _ _ r h => by simp [spec_l2Field.l1] at h, fun _ _ _ _ _ _ _ _ _ _ r h => by simp [spec_l2Field.j2] at h, fun _ _ _ _ _ _ _ _ _ _ _ r h => by simp [spec_l2Field.l2] at h⟩
 | k + 1 => by
  obtain ⟨ih0, ih1, ih2, ih3⟩ := spec_l2Field.mono_l k
  refine ⟨?_, ?_, ?_, ?_⟩
  {
  intro y0 y1 y2 y3 y4 y5 y6
  unfold spec_l2Field.l0
  have j0 := @spec_l1Near.mono
  exact qL
  }
  {
  intro y0 y1 y2 y3 y4 y5 y6 y7
  unfold spec_l2Field.l1
  have j0 := @spec_l1Near.mono
  exact qL
  }
  {
  intro y0 y1 y2 y3 y4 y5 y6 y7 y8 y9
  unfold spec_l2Field.j2
  have j0 := @spec_l1Near.mono
  exact qL
  }
  {
  intro y0 y1 y2 y3 y4 y5 y6 y7 y8 y9 y10
  unfold spec_l2Field.l2
  have j0 := @spec_l1Near.mono
  exact qL
  }
theorem spec_l2Field.mono : ∀ a0 a1 a2 a3 a4 k, LeO (spec_l2Field.f k a0 a1 a2 a3 a4) (spec_l2Field.f (k + 1) a0 a1 a2 a3 a4) := by
 intro a0 a1 a2 a3 a4 k
 obtain ⟨ih0, ih1, ih2, ih3⟩ := spec_l2Field.mono_l k
 unfold spec_l2Field.f
 have j0 := @spec_l1Near.mono
 exact qL
def spec_l2Field.T18 : Bool × List (List Nat × List Nat) := (true, [([], []), ([], []), ([], []), ([1, 2], [1, 2]), ([3], [3]), ([], []), ([], []), ([5, 6], [5, 6]), ([7], [7]), ([8], [8]), ([0, 4, 0, 1, 2, 3, 4, 5, 6, 7, 8, 9], [0, 4]), ([10, 9, 0, 1, 2, 3, 4, 5, 6, 7, 8, 9], [9, 10])])
def spec_l2Field.B18 : List Nat := [0, 0, 0, 6, 14, 0, 0, 96, 224, 480, 1023, 2047]
theorem spec_l2Field.tab18 : rtab .any (opsOf Try.f101 18) = spec_l2Field.T18 := by kernel_rfl
theorem spec_l2Field.bits18 : waitsOk spec_l2Field.T18.2 spec_l2Field.B18 = true := by kernel_rfl
set_option maxHeartbeats 8000000 in
set_option maxRecDepth 100000 in
theorem spec_l2Field.calls (k : Nat) (a0_0 : Int) (a0_1 : Int) (A0_2 : Option Addr) (c0_2 : Nat) (l0_2 : List Int) (a1 : Int) (a2 : Bool) (r : List Int) (w : World) (hr0_2 : Kd.C (Kd.int .i64) w A0_2 l0_2.length l0_2) (hc0_2 : l0_2.length ≤ c0_2) (h : spec_l2Field.f k a0_0 a0_1 l0_2 a1 a2 = some r) :
  Calls Try.prog 101 #[.agg #[.int .i64 a0_0, .int .i64 a0_1, .slice A0_2 l0_2.length c0_2], .int .i64 a1, .bool a2] w fun e w' => ∃ v0_ : Value, e = .returned (v0_) ∧ Kd.R (Kd.int .i64) 3 w' w.heap.size (fun _ => True) v0_ r ∧ Below w.heap.size w w' := by
 have hu43 := Try.underlying43
 have HR0_2 := aM hr0_2
 have HC0_2 := aM hc0_2
 clear hr0_2 hc0_2
 have HB := aM (Below.refl w.heap.size w)
 unfold spec_l2Field.f at h
 have H := h
 clear h
 obtain ⟨y343, hy343⟩ : ∃ y_ : List Int, y_ = (([] : List Int)) := ⟨_, rfl⟩
 replace H : (spec_l2Field.l0 k a1 a2 y343 0 a0_0 a0_1 l0_2) = some r := by first | (rw [hy343]; exact H) | exact H
 have Ny343 := aM hy343
 clear hy343
 have H' := aM H
 clear H
 go_enter Try.func101, Try.ntmps101
 go_wp2_with (first | ((with_reducible refine gate_dst (N := 3) rfl ?_); refine bx_ 3 #[.int .i64 a0_0, .int .i64 a0_1, .slice A0_2 l0_2.length c0_2] 43 ?_; intro gb342 hg w4 hbox hb; have BK342 := aM (hbox); have GW342 := aM (bz_ w hg qz1); have GE342 := GW342; replace HB := bS_ hb; clear hb hbox hg) | ((with_reducible refine gate_dst (N := 14) rfl ?_); refine Kd.R_lit (Kd.int .i64) _ 3 ?hg (N := 14) ?hd (xs := ([] : List Int)) (inner := []) (ok := fun _ => True) (okp := fun _ => True) ?hr ?hp (fun _ hk => hk) trivial (Below.refl _ _) (Nat.le_refl _) (by simp) ?_; (case hd => rfl); (case hg => rfl); (case hr => exact qz7); (case hp => exact (Reps.none _ _)); intro v344 w5 ho6 hb hg_ hnew_; clear hg_ hnew_; (first | rw [← Ny343.out] at ho6 | (simp only [Int.reduceToNat] at ho6; rw [← Ny343.out] at ho6)); have HO345 := aM (Kd.R_lower ho6 (below_size qz1)); replace BK342 := bB_ BK342 hb; replace HB := bS_ hb; clear hb ho6))
 go_loopg [7, 8] k (fun kq v7 v8 w' => ∃ (x7_1 : List Int) (x8_1 : Int), v8 = .int .i64 x8_1 ∧ Aside0 (spec_l2Field.l0 kq a1 a2 x7_1 x8_1 a0_0 a0_1 l0_2 = some r) ∧ Aside0 (kq ≤ k) ∧ Aside0 (Kd.R (Kd.int .i64) 3 w' w.heap.size (fun _ => True) v7 x7_1) ∧ Aside0 (w'.heap[gb342]? = some (.cells #[.int .i64 a0_0, .int .i64 a0_1, (.slice A0_2 l0_2.length c0_2)] 43 (0, 0))) ∧ Aside0 (Below w.heap.size w w'))
 case atStart => exact ⟨(y343), (0), qz6, H', ⟨Nat.le_refl _⟩, ⟨rr_ HO345.out⟩, ⟨bk_ BK342.out⟩, ⟨qz1⟩⟩
 case round =>
 clear H'
 obtain ⟨x7_1, x8_1, rfl, HA, HK1, HO_7, BK342, HB⟩ := hrel
 cases gk with
 | zero => exact absurd HA.out (by simp [spec_l2Field.l0])
 | succ k1 =>
 have H := HA.out
 clear HA
 simp only [spec_l2Field.l0] at H
 replace H := iE_ H
 rcases H with ⟨c7b0, H⟩ | ⟨c7b0, H⟩
 {
 replace H := iN_ H
 obtain ⟨c8, H⟩ := H
 have LMc8 := aM c8
 clear c8
 obtain ⟨y346, hy346⟩ : ∃ y_ : List Int, y_ = (x7_1 ++ [(-1)]) := ⟨_, rfl⟩
 replace H : (spec_l2Field.l0 k1 a1 a2 y346 (wrap64 (x8_1 + 1)) a0_0 a0_1 l0_2) = some r := by first | (rw [hy346]; exact H) | exact H
 have Ny346 := aM hy346
 clear hy346
 have H' := aM H
 clear H
 obtain ⟨hcz9_0, hcz9_1, hcz9_2, hfz9_0, hfz9_1, hfz9_2⟩ := b6_ BK342.out
 go_wp2_with (first | ((with_reducible refine gate_builtin (b := .append) (xs := #[.tmp 22, .tmp 23]) rfl ?_); at_builtin; refine Kd.R_append (Kd.int .i64) (w0 := w) w.heap.size rfl (.tmp 22) (.tmp 23) 24 3 (.int .i64 0) 8 rfl Try.underlying24 info3 rfl (by decide) (by omega) u7 x7_1 (-1) [.int .i64 (-1)] (fun _ => True) (fun _ => False) rfl rfl ?aP (fun _ hk => hk.elim) ?aF ?aO ?aB ?aS ?aL ?_; (case aP => exact rfl); (case aB => exact qz1); (case aF => exact qz12); (case aO => exact (rr_ HO_7.out)); (case aS => exact qz19); (case aL => have := LMc8.out; omega); intro v347 w10 ho hb hg hat; rw [← Ny346.out] at ho; replace BK342 := aM (blk_grown (bk_ BK342.out) hg (Kd.R_ne HO_7.out BK342.out (by decide))); replace HB := aM (hb); have HO348 := aM (ho); clear HO_7; clear ho hb hg hat))
 go_roundg k1
 case measure => have := HK1.out; omega
 case rel => exact ⟨(y346), (wrap64 (x8_1 + 1)), qz6, H', ⟨by have := HK1.out; omega⟩, ⟨rm_ HO348.out⟩, ⟨bk_ BK342.out⟩, ⟨qz1⟩⟩
 }
 {
 replace H := iD_ H
 obtain ⟨c11b0, H⟩ := H
 replace H := iD_ H
 obtain ⟨c12b0, H⟩ := H
 obtain ⟨y349, hy349⟩ : ∃ y_ : List Int, y_ = (x7_1.set (a1 : Int).toNat 0) := ⟨_, rfl⟩
 replace H : (spec_l2Field.l1 k1 a1 a2 y349 (([a1] : List Int)) 0 a0_0 a0_1 l0_2) = some r := by first | (rw [hy349]; exact H) | exact H
 have Ny349 := aM hy349
 clear hy349
 obtain ⟨y350, hy350⟩ : ∃ y_ : List Int, y_ = (([a1] : List Int)) := ⟨_, rfl⟩
 replace H : (spec_l2Field.l1 k1 a1 a2 y349 y350 0 a0_0 a0_1 l0_2) = some r := by first | (rw [hy350]; exact H) | exact H
 have Ny350 := aM hy350
 clear hy350
 have H' := aM H
 clear H
 obtain ⟨hcz14_0, hcz14_1, hcz14_2, hfz14_0, hfz14_1, hfz14_2⟩ := b6_ BK342.out
 have p13 : 0 ≤ (a1 : Int) := dt_
 have q13 : (a1 : Int) < ((x7_1.length : Int) : Int) := dt_
 obtain ⟨go13, co13, eo13, gb13, gl13, cl13, HG13⟩ := Kd.R_form HO_7.out (by omega)
 (first | cases eo13 | (injection eo13 with ea_ en_ ec_; (first | subst ea_ | (injection ea_ with ea_; subst ea_)); subst ec_; clear en_))
 have GB13 := aM gb13
 have GG13 := aM HG13
 clear gb13 gl13 HG13
 obtain ⟨hx13_0, hf13_0⟩ := Kd.R_celln 0 HO_7.out (a1 : Int) p13 q13
 replace p13 := eq_true p13
 replace q13 := eq_true q13
 obtain ⟨hy15_, hz15_⟩ := Kd.R_celln 0 HO_7.out (a1 : Int) (dt_) (dt_)
 have HP15 := Kd.R_putg HO_7.out (a1 : Int) 0
 go_wp2_with (first | ((with_reducible refine gate_store (t := 3) (p := 27) rfl ?_); refine store_event (t := 3) (p := 27) (v := ?vo_w16) (w1 := (wr.setCell ⟨go13, (a1 : Int).toNat, none⟩ (.int .i64 0))) ?hg ?ho ?hn ?hr ?_; (case ho => rfl); (case hg => rfl); (case hn => rfl); (case hr => exact qz7); intro w16 hw; have hg : wr.grownBy w16 (some go13) := (by rw [hw]; exact HP15.2); have hp_ : Kd.R (Kd.int .i64) 3 w16 w.heap.size (fun _ => True) (.slice (some ⟨go13, 0, none⟩) x7_1.length co13) y349 := (by rw [hw, Ny349.out]; exact HP15.1); clear HP15; replace BK342 := aM (blk_grown (bk_ BK342.out) hg (Kd.R_ne HO_7.out BK342.out (by decide))); replace HO_7 := aM (hp_); replace HB := aM ((by rw [hw]; exact below_set (HB.out) GB13.out : Below w.heap.size w w16)); clear hg hw hp_) | ((with_reducible refine gate_dst (N := 29) rfl ?_); refine Kd.R_lit (Kd.int .i64) _ 3 ?hg (N := 29) ?hd (xs := ([a1] : List Int)) (inner := [.int .i64 a1]) (ok := fun _ => True) (okp := fun _ => True) ?hr ?hp (fun _ hk => hk) trivial (Below.refl _ _) (Nat.le_refl _) (by simp) ?_; (case hd => rfl); (case hg => rfl); (case hr => exact qz7); (case hp => exact (Reps.one (show Kd.M (Kd.int .i64) _ _ _ a1 [.int .i64 a1] from rfl) (Reps.none _ _))); intro v351 w17 ho18 hb hg_ hnew_; clear hg_ hnew_; (first | rw [← Ny350.out] at ho18 | (simp only [Int.reduceToNat] at ho18; rw [← Ny350.out] at ho18)); have HO352 := aM (Kd.R_lower (Kd.R_new' ho18 (Kd.R_lt (rr_ HO_7.out))) (below_size qz1)); replace HO_7 := aM (Kd.R_elder' (rr_ HO_7.out) (Kd.R_base ho18) hb); replace BK342 := bB_ BK342 hb; replace HB := bS_ hb; clear hb ho18))
 go_loopg [9, 10] k1 (fun kq v9 v10 w' => ∃ (x7_2 : List Int) (x9_2 : List Int) (x10_2 : Int), v10 = .int .i64 x10_2 ∧ Aside0 (spec_l2Field.l1 kq a1 a2 x7_2 x9_2 x10_2 a0_0 a0_1 l0_2 = some r) ∧ Aside0 (kq ≤ k1) ∧ Aside0 (Kd.R (Kd.int .i64) 3 w' w.heap.size (fun k_ => some k_ ≠ (v9 : Value).ownBlock) (.slice (some ⟨go13, 0, none⟩) x7_1.length co13) x7_2) ∧ Aside0 (Kd.R (Kd.int .i64) 3 w' w.heap.size (fun k_ => some k_ ≠ ((.slice (some ⟨go13, 0, none⟩) x7_1.length co13) : Value).ownBlock) v9 x9_2) ∧ Aside0 (w'.heap[gb342]? = some (.cells #[.int .i64 a0_0, .int .i64 a0_1, (.slice A0_2 l0_2.length c0_2)] 43 (0, 0))) ∧ Aside0 (Below w.heap.size w w'))
 case atStart => exact ⟨(y349), (y350), (0), qz6, H', ⟨Nat.le_refl _⟩, ⟨by (with_reducible repeat (first | apply Kd.R_alloc | apply Kd.R_drewN | apply Kd.R_drew)); exact Kd.R_mono HO_7.out (fun _ hk => hk.2)⟩, ⟨by (with_reducible repeat (first | apply Kd.R_alloc | apply Kd.R_drewN | apply Kd.R_drew)); exact Kd.R_mono HO352.out (fun _ hk => hk.2)⟩, ⟨bk_ BK342.out⟩, ⟨qz1⟩⟩
 case round =>
 clear H'
 try clear c7
 try clear c7b0
 try clear c11
 try clear c11b0
 try clear c12
 try clear c12b0
 try clear p13
 try clear q13
 try clear hf13
 try clear hcz14_0 hcz14_1 hcz14_2 hfz14_0 hfz14_1 hfz14_2
 try clear hx13_0
 obtain ⟨x7_2, x9_2, x10_2, rfl, HA, HK2, HO_7, HO_9, BK342, HB⟩ := hrel
 have hl7_2 := (Kd.R_reads' HO_7.out).1
 rw [hl7_2] at HO_7
 (try simp only [hl7_2])
 (try simp only [hl7_2] at BK342)
 (try simp only [hl7_2] at HO_9)
 cases gk with
 | zero => exact absurd HA.out (by simp [spec_l2Field.l1])
 | succ k2 =>
 have H := HA.out
 clear HA
 simp only [spec_l2Field.l1] at H
 replace H := iS_ H
 rcases H with ⟨c19, H⟩ | ⟨c19, H⟩
 {
 have c19b0 := decide_eq_true c19
 (try (have c19b0q7_2 := c19b0; simp only [hl7_2] at c19b0q7_2))
 clear c19
 replace H := iD_ H
 obtain ⟨c20b0, H⟩ := H
 have HC21 := aM H
 clear H
 obtain ⟨Ao22, co22, eo22⟩ := Kd.R_slice HO_9.out
 subst eo22
 have p353 : (0 ≤ (x10_2 : Int)) = True := et_
 have q353 : (x10_2 < (x9_2.length : Int)) = True := et_
 obtain ⟨ad353, e353, hx353_0⟩ := Kd.at_int (Kd.R_reads' HO_9.out).2.2 x10_2 dt_ dt_
 cases e353
 go_upto_region 12 with (fail)
 go_cut [53] (fun v53 wc => ∃ (kq : Nat) (x53_20 : Bool), v53 = .bool x53_20 ∧ Aside0 (spec_l2Field.j2 kq a1 a2 x7_2 x9_2 x10_2 (rd x9_2 x10_2) x53_20 a0_0 a0_1 l0_2 = some r) ∧ Aside0 (kq ≤ k2) ∧ Aside0 (Kd.R (Kd.int .i64) 3 wc w.heap.size (fun k_ => some k_ ≠ ((.slice (some ad353) x9_2.length co22) : Value).ownBlock) (.slice (some ⟨go13, 0, none⟩) x7_2.length co13) x7_2) ∧ Aside0 (Kd.R (Kd.int .i64) 3 wc w.heap.size (fun k_ => some k_ ≠ ((.slice (some ⟨go13, 0, none⟩) x7_2.length co13) : Value).ownBlock) (.slice (some ad353) x9_2.length co22) x9_2) ∧ Aside0 (wc.heap[gb342]? = some (.cells #[.int .i64 a0_0, .int .i64 a0_1, (.slice A0_2 l0_2.length c0_2)] 43 (0, 0))) ∧ Aside0 (Below w.heap.size w wc))
 case first =>
  have H := HC21.out
  clear HC21
  replace H := iQ_ H
  rcases H with ⟨c23b0, c23b1, H⟩ | ⟨c23, c23b0, c23b1, H⟩
  {
  (first | rw [c23b0] | (simp only [i64_w, i32_w]; rw [c23b0]) | rw [@decide_eq_true _ _ (of_decide_eq_true c23b0)] | rw [@decide_eq_true _ _ (of_decide_eq_true c23b1)] | skip)
  have H' := aM H
  clear H
  go_wp2
  go_meet
  case rel => exact ⟨_, (false), qz6, H', ⟨by have := HK1.out; have := HK2.out; first | omega | exact Nat.le_refl _⟩, ⟨by (try simp only [hl7_2]); exact rm_ HO_7.out⟩, ⟨by (try simp only [hl7_2]); exact rm_ HO_9.out⟩, ⟨by (try simp only [hl7_2]); exact bk_ BK342.out⟩, ⟨qz1⟩⟩
  }
  {
  (first | rw [c23b0] | (simp only [i64_w, i32_w]; rw [c23b0]) | rw [@decide_eq_false _ _ (of_decide_eq_false c23b0)] | rw [@decide_eq_false _ _ (of_decide_eq_false c23b1)] | skip)
  replace H := iB_ H
  rcases H with ⟨rfl, H⟩ | ⟨rfl, H⟩
  {
  replace H := iD_ H
  obtain ⟨c25b0, H⟩ := H
  replace H := iN_ H
  obtain ⟨c26, H⟩ := H
  have c26b0 := decide_eq_true c26
  (try (have c26b0q7_2 := c26b0; simp only [hl7_2] at c26b0q7_2))
  clear c26
  have H' := aM H
  clear H
  obtain ⟨hcz27_0, hcz27_1, hcz27_2, hfz27_0, hfz27_1, hfz27_2⟩ := b6_ BK342.out
  have p354 : (0 ≤ ((rd x9_2 x10_2) : Int)) = True := et_
  have q354 : ((rd x9_2 x10_2) < (l0_2.length : Int)) = True := et_
  obtain ⟨ad354, e354, hx354_0⟩ := Kd.at_int HR0_2.out (rd x9_2 x10_2) dt_ dt_
  cases e354
  replace hx354_0 := cB_ hx354_0
  go_wp2
  go_meet
  case rel => exact ⟨_, (((rd l0_2 (rd x9_2 x10_2)) == 2)), qz6, H', ⟨by have := HK1.out; have := HK2.out; first | omega | exact Nat.le_refl _⟩, ⟨by (try simp only [hl7_2]); exact rm_ HO_7.out⟩, ⟨by (try simp only [hl7_2]); exact rm_ HO_9.out⟩, ⟨by (try simp only [hl7_2]); exact bk_ BK342.out⟩, ⟨qz1⟩⟩
  }
  {
  have H' := aM H
  clear H
  go_wp2
  go_meet
  case rel => exact ⟨_, (false), qz6, H', ⟨by have := HK1.out; have := HK2.out; first | omega | exact Nat.le_refl _⟩, ⟨by (try simp only [hl7_2]); exact rm_ HO_7.out⟩, ⟨by (try simp only [hl7_2]); exact rm_ HO_9.out⟩, ⟨by (try simp only [hl7_2]); exact bk_ BK342.out⟩, ⟨qz1⟩⟩
  }
  }
 case rest =>
 clear HC21
 try clear c7
 try clear c7b0
 try clear c11
 try clear c11b0
 try clear c12
 try clear c12b0
 try clear p13
 try clear q13
 try clear hf13
 try clear c19
 try clear c19b0
 try clear c20
 try clear c20b0
 try clear hcz14_0 hcz14_1 hcz14_2 hfz14_0 hfz14_1 hfz14_2
 try clear hx13_0
 try clear hx353_0
 try clear p353
 try clear q353
 obtain ⟨kq, x53_20, rfl, HA, HJ20, HO_7, HO_9, BK342, HB⟩ := hcut
 cases kq with
 | zero => exact absurd HA.out (by simp [spec_l2Field.j2])
 | succ kj20 =>
 have H := HA.out
 clear HA
 simp only [spec_l2Field.j2] at H
 replace H := iB_ H
 rcases H with ⟨rfl, H⟩ | ⟨rfl, H⟩
 {
 have H' := aM H
 clear H
 go_wp2
 (try simp only [← hl7_2])
 go_roundg kj20
 case measure => have := HK1.out; have := HK2.out; have := HJ20.out; omega
 case rel => exact ⟨(x7_2), (x9_2), (wrap64 (x10_2 + 1)), qz6, H', ⟨by have := HK1.out; have := HK2.out; have := HJ20.out; omega⟩, ⟨by (try simp only [hl7_2]); exact rm_ HO_7.out⟩, ⟨by (try simp only [hl7_2]); exact rm_ HO_9.out⟩, ⟨by (try simp only [hl7_2]); exact bk_ BK342.out⟩, ⟨qz1⟩⟩
 }
 {
 replace H := Option.bind_eq_some_iff.mp H
 obtain ⟨t355, A290, H⟩ := H
 have A29 := aM A290
 clear A290
 have H' := aM H
 clear H
 obtain ⟨hcz30_0, hcz30_1, hcz30_2, hfz30_0, hfz30_1, hfz30_2⟩ := b6_ BK342.out
 go_wp2_with (first | ((with_reducible refine gate_callee (f := 99) rfl ?_); refine goesL_ (some 56) rfl rfl Try.func99 (by kernel_rfl) rfl #[.agg #[.int .i64 a0_0, .int .i64 a0_1, .slice A0_2 l0_2.length c0_2], .int .i64 (rd x9_2 x10_2), .bool false] rfl qz2 ?_; (with_reducible refine (spec_l1Near.calls kj20 a0_0 a0_1 _ _ l0_2 (rd x9_2 x10_2) false t355 _ ?_ ?_ A29.out).mono ?_); exact qz5; exact qz14; rintro e w31 ⟨v356, rfl, ho0, hb⟩; refine ⟨_, rfl, ?_⟩; have HO357 := aM (Kd.R_lower (Kd.R_new' (Kd.R_new' ho0 (Kd.R_lt (rr_ HO_7.out))) (Kd.R_lt (rr_ HO_9.out))) (below_size qz1)); replace HO_7 := aM (Kd.R_elder' (rr_ HO_7.out) (Kd.R_base ho0) hb); replace HO_9 := aM (Kd.R_elder' (rr_ HO_9.out) (Kd.R_base ho0) hb); replace BK342 := bB_ BK342 hb; replace HB := bS_ hb; (try clear hb ho0)))
 go_loopg [9, 13] kj20 (fun kq v9 v13 w' => ∃ (x7_4 : List Int) (x9_4 : List Int) (x13_4 : Int), v13 = .int .i64 x13_4 ∧ Aside0 (spec_l2Field.l2 kq a1 a2 x7_4 x9_4 x10_2 (rd x9_2 x10_2) t355 x13_4 a0_0 a0_1 l0_2 = some r) ∧ Aside0 (kq ≤ kj20) ∧ Aside0 (Kd.R (Kd.int .i64) 3 w' w.heap.size (fun k_ => some k_ ≠ (v9 : Value).ownBlock ∧ some k_ ≠ (v356 : Value).ownBlock) (.slice (some ⟨go13, 0, none⟩) x7_2.length co13) x7_4) ∧ Aside0 (Kd.R (Kd.int .i64) 3 w' w.heap.size (fun k_ => some k_ ≠ ((.slice (some ⟨go13, 0, none⟩) x7_2.length co13) : Value).ownBlock ∧ some k_ ≠ (v356 : Value).ownBlock) v9 x9_4) ∧ Aside0 (Kd.R (Kd.int .i64) 3 w' w.heap.size (fun k_ => some k_ ≠ ((.slice (some ⟨go13, 0, none⟩) x7_2.length co13) : Value).ownBlock ∧ some k_ ≠ (v9 : Value).ownBlock) v356 t355) ∧ Aside0 (w'.heap[gb342]? = some (.cells #[.int .i64 a0_0, .int .i64 a0_1, (.slice A0_2 l0_2.length c0_2)] 43 (0, 0))) ∧ Aside0 (Below w.heap.size w w'))
 case atStart => exact ⟨(x7_2), (x9_2), (0), qz6, H', ⟨Nat.le_refl _⟩, ⟨by (try simp only [hl7_2]); exact rr_ HO_7.out⟩, ⟨by (try simp only [hl7_2]); exact rr_ HO_9.out⟩, ⟨by (try simp only [hl7_2]); (with_reducible repeat (first | apply Kd.R_alloc | apply Kd.R_drewN | apply Kd.R_drew)); exact Kd.R_mono HO357.out (fun _ hk => ⟨hk.1.2, hk.2⟩)⟩, ⟨by (try simp only [hl7_2]); exact bk_ BK342.out⟩, ⟨qz1⟩⟩
 case round =>
 clear H'
 try clear c7
 try clear c7b0
 try clear c11
 try clear c11b0
 try clear c12
 try clear c12b0
 try clear p13
 try clear q13
 try clear hf13
 try clear c19
 try clear c19b0
 try clear c20
 try clear c20b0
 try clear c28
 try clear hcz14_0 hcz14_1 hcz14_2 hfz14_0 hfz14_1 hfz14_2
 try clear hcz30_0 hcz30_1 hcz30_2 hfz30_0 hfz30_1 hfz30_2
 try clear hx13_0
 try clear hx353_0
 try clear p353
 try clear q353
 obtain ⟨x7_4, x9_4, x13_4, rfl, HA, HK4, HO_7, HO_9, HO_12, BK342, HB⟩ := hrel
 have hl7_4 := (Kd.R_reads' HO_7.out).1
 rw [hl7_4] at HO_7
 (try simp only [hl7_4])
 (try simp only [hl7_4] at BK342)
 (try simp only [hl7_4] at HO_9)
 (try simp only [hl7_4] at HO_12)
 cases gk with
 | zero => exact absurd HA.out (by simp [spec_l2Field.l2])
 | succ k4 =>
 have H := HA.out
 clear HA
 simp only [spec_l2Field.l2] at H
 replace H := iS_ H
 rcases H with ⟨c32, H⟩ | ⟨c32, H⟩
 {
 have c32b0 := decide_eq_true c32
 (try (have c32b0q7_2 := c32b0; simp only [hl7_2] at c32b0q7_2))
 (try (have c32b0q7_4 := c32b0; simp only [hl7_4] at c32b0q7_4))
 clear c32
 replace H := iD_ H
 obtain ⟨c33b0, H⟩ := H
 replace H := iD_ H
 obtain ⟨c34b0, H⟩ := H
 replace H := iN_ H
 obtain ⟨c35, H⟩ := H
 have c35b0 := decide_eq_true c35
 (try (have c35b0q7_2 := c35b0; simp only [hl7_2] at c35b0q7_2))
 (try (have c35b0q7_4 := c35b0; simp only [hl7_4] at c35b0q7_4))
 clear c35
 replace H := iE_ H
 rcases H with ⟨c36b0, H⟩ | ⟨c36b0, H⟩
 {
 replace H := iD_ H
 obtain ⟨c37b0, H⟩ := H
 replace H := iN_ H
 obtain ⟨c38, H⟩ := H
 have c38b0 := decide_eq_true c38
 (try (have c38b0q7_2 := c38b0; simp only [hl7_2] at c38b0q7_2))
 (try (have c38b0q7_4 := c38b0; simp only [hl7_4] at c38b0q7_4))
 clear c38
 obtain ⟨y362, hy362⟩ : ∃ y_ : List Int, y_ = (x7_4.set ((rd t355 x13_4) : Int).toNat (wrap64 ((rd x7_4 (rd x9_2 x10_2)) + 1))) := ⟨_, rfl⟩
 replace H : (if x9_4.length < 17592186044416 then (spec_l2Field.l2 k4 a1 a2 y362 (x9_4 ++ [rd t355 x13_4]) x10_2 (rd x9_2 x10_2) t355 (wrap64 (x13_4 + 1)) a0_0 a0_1 l0_2) else (none)) = some r := by first | (rw [hy362]; exact H) | exact H
 have Ny362 := aM hy362
 clear hy362
 replace H := iN_ H
 obtain ⟨c40, H⟩ := H
 have LMc40 := aM c40
 clear c40
 obtain ⟨y364, hy364⟩ : ∃ y_ : List Int, y_ = (x9_4 ++ [rd t355 x13_4]) := ⟨_, rfl⟩
 replace H : (spec_l2Field.l2 k4 a1 a2 y362 y364 x10_2 (rd x9_2 x10_2) t355 (wrap64 (x13_4 + 1)) a0_0 a0_1 l0_2) = some r := by first | (rw [hy364]; exact H) | exact H
 have Ny364 := aM hy364
 clear hy364
 have H' := aM H
 clear H
 obtain ⟨Ao41, co41, eo41⟩ := Kd.R_slice HO_12.out
 subst eo41
 have p358 : (0 ≤ (x13_4 : Int)) = True := et_
 have q358 : (x13_4 < (t355.length : Int)) = True := et_
 obtain ⟨ad358, e358, hx358_0⟩ := Kd.at_int (Kd.R_reads' HO_12.out).2.2 x13_4 dt_ dt_
 cases e358
 have p359 : (0 ≤ ((rd t355 x13_4) : Int)) = True := et_
 have q359 : ((rd t355 x13_4) < (x7_4.length : Int)) = True := et_
 obtain ⟨ad359, e359, hx359_0⟩ := Kd.at_int (Kd.R_reads' HO_7.out).2.2 (rd t355 x13_4) dt_ dt_
 obtain rfl : (⟨go13, 0, none⟩ : Addr) = ad359 := (by injection e359)
 (first | simp only [add_plain] at hx359_0 | simp only [add_at] at hx359_0 | simp only [Addr.add, Nat.zero_add] at hx359_0 | skip)
 try go_wp2
 replace HO_7 := aM (Kd.R_drew HO_7.out)
 replace HO_9 := aM (Kd.R_drew HO_9.out)
 replace HO_12 := aM (Kd.R_drew HO_12.out)
 replace BK342 := aM (blk_drew BK342.out)
 replace HB := aM (below_drew1 HB.out)
 have p360 : (0 ≤ (x13_4 : Int)) = True := et_
 have q360 : (x13_4 < (t355.length : Int)) = True := et_
 obtain ⟨ad360, e360, hx360_0⟩ := Kd.at_int (Kd.R_reads' HO_12.out).2.2 x13_4 dt_ dt_
 obtain rfl : ad358 = ad360 := (by injection e360)
 have p361 : (0 ≤ ((rd x9_2 x10_2) : Int)) = True := et_
 have q361 : ((rd x9_2 x10_2) < (x7_4.length : Int)) = True := et_
 obtain ⟨ad361, e361, hx361_0⟩ := Kd.at_int (Kd.R_reads' HO_7.out).2.2 (rd x9_2 x10_2) dt_ dt_
 obtain rfl : (⟨go13, 0, none⟩ : Addr) = ad361 := (by injection e361)
 (first | simp only [add_plain] at hx361_0 | simp only [add_at] at hx361_0 | simp only [Addr.add, Nat.zero_add] at hx361_0 | skip)
 have p39 : (0 ≤ ((rd t355 x13_4) : Int)) = True := et_
 have q39 : (((rd t355 x13_4) : Int) < ((x7_4.length : Int) : Int)) = True := et_
 obtain ⟨hx39_0, hf39_0⟩ := Kd.R_celln 0 HO_7.out ((rd t355 x13_4) : Int) dt_ dt_
 have HP43 := Kd.R_putn HO_7.out ((rd t355 x13_4) : Int) (wrap64 ((rd x7_4 (rd x9_2 x10_2)) + 1))
 rw [← Ny362.out] at HP43
 have HQ43 := aM HP43
 clear HP43
 refine start_ (n := 12) (S := fun w' => w'.cell? (ad358.add (x13_4).toNat) = some (.int .i64 (rd t355 x13_4)) ∧ w'.cell? ⟨go13, ((rd x9_2 x10_2)).toNat, none⟩ = some (.int .i64 (rd x7_4 (rd x9_2 x10_2)))) (ds := [11]) #[false, false, false, false, false, false, false, false, false, false, false, false] (by kernel_rfl) rfl rfl ⟨hx360_0, hx361_0⟩ (fun hHeld => ?_); refine with_tabW spec_l2Field.tab18 spec_l2Field.bits18 (fun HT_ HW_ => ?_)
 generalize wr.drew = w42 at HO_7 HO_9 HO_12 BK342 HB HQ43 hf39_0 hx360_0 hx361_0 hx39_0 hHeld ⊢
 refine pI_ 0 71 (bqz 12 1) ?_
 refine jI_ 1 72 ?_
 refine jI_ 2 73 ?_
 refine jI_ 3 74 ?_
 refine jI_ 5 76 ?_
 refine jI_ 6 77 ?_
 refine jI_ 7 78 ?_
 refine sI2_ 4 75 ?_
 refine sI2_ 8 79 ?_
 refine jI_ 9 80 ?_
 refine jI_ 10 81 ?_
 refine last_ (i := 11) (N := none) (bqz 12 4095) rfl rfl qzc (by decide) (fun K hK => ?_)
 refine sk_ ?_
 refine hK.out _ _ ?_
 clear hK K
 refine done_ (done_of HT_.out (by kernel_rfl)) ?_
 have p363 : (0 ≤ (x13_4 : Int)) = True := et_
 have q363 : (x13_4 < (t355.length : Int)) = True := et_
 obtain ⟨ad363, e363, hx363_0⟩ := Kd.at_int (Kd.R_reads' HO_12.out).2.2 x13_4 dt_ dt_
 obtain rfl : ad358 = ad363 := (by injection e363)
 have hn363_0 : ad358.block ≠ go13 := (fun e_ => (HO_7.out.1 _ rfl).2 (by rw [← e_]; rfl))
 replace hx363_0 := (cell_far (p := ⟨go13, ((rd t355 x13_4) : Int).toNat, none⟩) (by first | (rw [add_block]; exact hn363_0) | (show (Addr.add _ _).block ≠ _; rw [add_block]; exact hn363_0) | exact hn363_0) (.int .i64 (wrap64 ((rd x7_4 (rd x9_2 x10_2)) + 1)))).trans hx363_0
 clear hn363_0
 try go_wp2_with (first | ((with_reducible refine gate_builtin (b := .append) (xs := #[.tmp 82, .tmp 87]) rfl ?_); at_builtin; refine Kd.R_append (Kd.int .i64) (w0 := w) w.heap.size rfl (.tmp 82) (.tmp 87) 24 3 (.int .i64 0) 8 rfl Try.underlying24 info3 rfl (by decide) (by omega) u9 x9_4 (rd t355 x13_4) [.int .i64 (rd t355 x13_4)] (fun k_ => some k_ ≠ (.slice (some ⟨go13, 0, none⟩) x7_4.length co13 : Value).ownBlock ∧ some k_ ≠ (.slice (some ad358) t355.length co41 : Value).ownBlock) (fun _ => False) rfl qz7 ?aP (fun _ hk => hk.elim) ?aF ?aO ?aB ?aS ?aL ?_; (case aP => exact rfl); (case aB => exact qz1); (case aF => exact (fun k_ hk => ⟨Kd.fresh' (Kd.R_lt (rr_ HQ43.out)) k_ hk, Kd.fresh' (Kd.R_lt (by (with_reducible repeat (first | apply Kd.R_alloc | apply Kd.R_drewN | apply Kd.R_drew)); exact (Kd.R_mono (Kd.R_far (p := ⟨go13, ((rd t355 x13_4) : Int).toNat, none⟩) (Kd.R_mono HO_12.out (fun k_ hk => (⟨hk, fun e_ => hk.1 (by rw [e_]; rfl)⟩ : _ ∧ k_ ≠ go13))) (fun _ hk => hk.2) (.int .i64 (wrap64 ((rd x7_4 (rd x9_2 x10_2)) + 1)))) (fun _ h_ => h_.1)))) k_ hk⟩)); (case aO => exact (by (with_reducible repeat (first | apply Kd.R_alloc | apply Kd.R_drewN | apply Kd.R_drew)); exact Kd.R_mono (Kd.R_far (p := ⟨go13, ((rd t355 x13_4) : Int).toNat, none⟩) (Kd.R_mono HO_9.out (fun k_ hk => (⟨hk, fun e_ => hk.1 (by rw [e_]; rfl)⟩ : _ ∧ k_ ≠ go13))) (fun _ hk => hk.2) (.int .i64 (wrap64 ((rd x7_4 (rd x9_2 x10_2)) + 1)))) (fun _ hk => ⟨hk.1.1, hk.1.2⟩))); (case aS => exact qz19); (case aL => have := LMc40.out; omega); intro v365 w44 ho hb hg hat; rw [← Ny364.out] at ho; replace HO_12 := aM (Kd.R_after (ok := (fun k_ => some k_ ≠ (.slice (some ⟨go13, 0, none⟩) x7_4.length co13 : Value).ownBlock)) (by (with_reducible repeat (first | apply Kd.R_alloc | apply Kd.R_drewN | apply Kd.R_drew)); exact Kd.R_mono (Kd.R_far (p := ⟨go13, ((rd t355 x13_4) : Int).toNat, none⟩) (Kd.R_mono HO_12.out (fun k_ hk => (⟨hk, fun e_ => hk.1 (by rw [e_]; rfl)⟩ : _ ∧ k_ ≠ go13))) (fun _ hk => hk.2) (.int .i64 (wrap64 ((rd x7_4 (rd x9_2 x10_2)) + 1)))) (fun _ hk => ⟨hk.1.1, hk.1.2⟩)) hg hat); replace BK342 := aM (blk_grown (g := gb342) (o := .cells #[.int .i64 a0_0, .int .i64 a0_1, .slice A0_2 l0_2.length c0_2] 43 (0, 0)) (by (with_reducible repeat (first | refine blk_drewN ?_ _ | refine blk_drew ?_ | refine blk_alloc ?_ _)); refine blk_far ?_ (by have h_ := Kd.R_ne HO_7.out BK342.out (by decide); intro e_; exact h_ (by rw [e_]; rfl)) _; exact bk_ BK342.out) hg (Kd.R_ne HO_9.out BK342.out (by decide))); replace HO_7 := aM (Kd.R_after (ok := (fun k_ => some k_ ≠ (.slice (some ad358) t355.length co41 : Value).ownBlock)) (by (with_reducible repeat (first | apply Kd.R_alloc | apply Kd.R_drewN | apply Kd.R_drew)); exact Kd.R_mono HQ43.out (fun _ hk => ⟨hk.2, hk.1⟩)) hg hat); replace HB := aM (hb); have HO366 := aM (ho); clear HO_9; clear ho hb hg hat))
 (try simp only [← hl7_4])
 go_roundg k4
 case measure => have := HK1.out; have := HK2.out; have := HJ20.out; have := HK4.out; omega
 case rel => exact ⟨(y362), (y364), (wrap64 (x13_4 + 1)), qz6, H', ⟨by have := HK1.out; have := HK2.out; have := HJ20.out; have := HK4.out; omega⟩, ⟨by (try simp only [hl7_2]); (try simp only [hl7_4]); (with_reducible repeat (first | apply Kd.R_alloc | apply Kd.R_drewN | apply Kd.R_drew)); exact Kd.R_mono HO_7.out (fun _ hk => ⟨hk.2, hk.1⟩)⟩, ⟨by (try simp only [hl7_2]); (try simp only [hl7_4]); exact rm_ HO366.out⟩, ⟨by (try simp only [hl7_2]); (try simp only [hl7_4]); exact rm_ HO_12.out⟩, ⟨by (try simp only [hl7_2]); (try simp only [hl7_4]); exact bk_ BK342.out⟩, ⟨qz1⟩⟩
 }
 {
 have H' := aM H
 clear H
 obtain ⟨Ao45, co45, eo45⟩ := Kd.R_slice HO_12.out
 subst eo45
 have p358 : (0 ≤ (x13_4 : Int)) = True := et_
 have q358 : (x13_4 < (t355.length : Int)) = True := et_
 obtain ⟨ad358, e358, hx358_0⟩ := Kd.at_int (Kd.R_reads' HO_12.out).2.2 x13_4 dt_ dt_
 cases e358
 have p359 : (0 ≤ ((rd t355 x13_4) : Int)) = True := et_
 have q359 : ((rd t355 x13_4) < (x7_4.length : Int)) = True := et_
 obtain ⟨ad359, e359, hx359_0⟩ := Kd.at_int (Kd.R_reads' HO_7.out).2.2 (rd t355 x13_4) dt_ dt_
 obtain rfl : (⟨go13, 0, none⟩ : Addr) = ad359 := (by injection e359)
 (first | simp only [add_plain] at hx359_0 | simp only [add_at] at hx359_0 | simp only [Addr.add, Nat.zero_add] at hx359_0 | skip)
 go_wp2
 (try simp only [← hl7_4])
 go_roundg k4
 case measure => have := HK1.out; have := HK2.out; have := HJ20.out; have := HK4.out; omega
 case rel => exact ⟨(x7_4), (x9_4), (wrap64 (x13_4 + 1)), qz6, H', ⟨by have := HK1.out; have := HK2.out; have := HJ20.out; have := HK4.out; omega⟩, ⟨by (try simp only [hl7_2]); (try simp only [hl7_4]); exact rm_ HO_7.out⟩, ⟨by (try simp only [hl7_2]); (try simp only [hl7_4]); exact rm_ HO_9.out⟩, ⟨by (try simp only [hl7_2]); (try simp only [hl7_4]); exact rm_ HO_12.out⟩, ⟨by (try simp only [hl7_2]); (try simp only [hl7_4]); exact bk_ BK342.out⟩, ⟨qz1⟩⟩
 }
 }
 {
 have c32b0 := decide_eq_false c32
 (try (have c32b0q7_2 := c32b0; simp only [hl7_2] at c32b0q7_2))
 (try (have c32b0q7_4 := c32b0; simp only [hl7_4] at c32b0q7_4))
 clear c32
 have H' := aM H
 clear H
 obtain ⟨Ao46, co46, eo46⟩ := Kd.R_slice HO_12.out
 subst eo46
 go_wp2
 (try simp only [← hl7_2, ← hl7_4])
 go_roundg k4
 case measure => have := HK1.out; have := HK2.out; have := HJ20.out; have := HK4.out; omega
 case rel => exact ⟨(x7_4), (x9_4), (wrap64 (x10_2 + 1)), qz6, H', ⟨by have := HK1.out; have := HK2.out; have := HJ20.out; have := HK4.out; omega⟩, ⟨by (try simp only [hl7_2]); (try simp only [hl7_4]); (with_reducible repeat (first | apply Kd.R_alloc | apply Kd.R_drewN | apply Kd.R_drew)); exact Kd.R_mono HO_7.out (fun _ hk => hk.1)⟩, ⟨by (try simp only [hl7_2]); (try simp only [hl7_4]); (with_reducible repeat (first | apply Kd.R_alloc | apply Kd.R_drewN | apply Kd.R_drew)); exact Kd.R_mono HO_9.out (fun _ hk => hk.1)⟩, ⟨by (try simp only [hl7_2]); (try simp only [hl7_4]); exact bk_ BK342.out⟩, ⟨qz1⟩⟩
 }
 }
 }
 {
 have c19b0 := decide_eq_false c19
 (try (have c19b0q7_2 := c19b0; simp only [hl7_2] at c19b0q7_2))
 clear c19
 obtain rfl := Option.some.inj H
 obtain ⟨Ao47, co47, eo47⟩ := Kd.R_slice HO_9.out
 subst eo47
 go_wp2
 go_ret
 exact ⟨_, qzw, by (with_reducible repeat (first | apply Kd.R_alloc | apply Kd.R_drewN | apply Kd.R_drew)); exact Kd.R_mono HO_7.out (fun _ hk => trivial), qz1⟩
 }
 }
end Go.Proofs.Ytankmdbbgepmbaa.PFnLively
