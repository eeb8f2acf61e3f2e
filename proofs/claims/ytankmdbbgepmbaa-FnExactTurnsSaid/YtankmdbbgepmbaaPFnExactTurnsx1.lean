-- Made by a program of this session out of the translation. Lean checks it.
import Derived.Test.YtankmdbbgepmbaaPFnExactTurnsx0
namespace Go.Proofs.Ytankmdbbgepmbaa.PFnExactTurns
open Go.RowKit Go.Proofs.YtankmdbbgepmbaaW.PrintWords Go.Proofs.YtankmdbbgepmbaaW.PrintLast Go.Proofs.YtankmdbbgepmbaaW.PrintMore
attribute [local go_sem] max2_int min2_int max_two min_two max_three min_three max_four min_four   -- for this text's walks alone
set_option linter.unusedVariables false
set_option linter.unusedSimpArgs false

/-! ### laws_szRobotS: function 14 -/
def laws_szRobotS.f (l0 : List (S40)) (a1 : Int) : Option (Int) := if (wrap64 (a1 - (l0.length : Int))) < 0 then (some (-1)) else (some (wrap64 (a1 - (l0.length : Int))))
set_option maxHeartbeats 8000000 in
set_option maxRecDepth 100000 in
theorem laws_szRobotS.calls (A0 : Option Addr) (c0 : Nat) (l0 : List (S40)) (a1 : Int) (r : Int) (w : World) (hr0 : Kd.C k40 w A0 l0.length l0) (hc0 : l0.length ≤ c0) (h : laws_szRobotS.f l0 a1 = some r) :
  Calls Try.prog 14 #[.slice A0 l0.length c0, .int .i64 a1] w fun e w' => e = .returned (.int .i64 r) ∧ Drawn0 w w' := by
 have HR0 := aM hr0
 have HC0 := aM hc0
 clear hr0 hc0
 unfold laws_szRobotS.f at h
 have H := h
 clear h
 replace H := iE_ H
 rcases H with ⟨c3b0, H⟩ | ⟨c3b0, H⟩
 {
 obtain rfl := Option.some.inj H
 go_enter Try.func14, Try.ntmps14
 go_wp2
 go_ret
 exact ⟨by first | rfl | (simp; done) | (simp [*]; done), by repeat (first | exact Drawn0.refl _ | apply Drawn0.step)⟩
 }
 {
 obtain rfl := Option.some.inj H
 go_enter Try.func14, Try.ntmps14
 go_wp2
 go_ret
 exact ⟨by first | rfl | (simp; done) | (simp [*]; done), by repeat (first | exact Drawn0.refl _ | apply Drawn0.step)⟩
 }
/-! ### spec_Turns: function 15 -/
mutual
def spec_Turns.l0 : Nat → List (S37) → List Int → Int → Option (List Int)
 | 0, _, _, _ => none
 | k + 1, x0, x3, x4 => if x4 < (x0.length : Int) then (if x3.length < 17592186044416 then (spec_Turns.l1 k x0 (x3 ++ [x4]) x4 (x3.length : Int)) else (none)) else (some x3)
def spec_Turns.l1 : Nat → List (S37) → List Int → Int → Int → Option (List Int)
 | 0, _, _, _, _ => none
 | k + 1, x0, x3, x4, x5 => if x5 > 0 then (if 0 ≤ (wrap64 (x5 - 1)) then (if (wrap64 (x5 - 1)) < (x3.length : Int) then (if 0 ≤ (rd x3 (wrap64 (x5 - 1))) then (if (rd x3 (wrap64 (x5 - 1))) < (x0.length : Int) then (if 0 ≤ x4 then (if x4 < (x0.length : Int) then (if ((rd_T37 x0 (rd x3 (wrap64 (x5 - 1)))).f4) < ((rd_T37 x0 x4).f4) then (if 0 ≤ x5 then (if x5 < (x3.length : Int) then (spec_Turns.l1 k x0 (x3.set (x5 : Int).toNat (rd x3 (wrap64 (x5 - 1)))) x4 (wrap64 (x5 - 1))) else (none)) else (none)) else (if ((rd_T37 x0 (rd x3 (wrap64 (x5 - 1)))).f4) = ((rd_T37 x0 x4).f4) then (if ((rd_T37 x0 (rd x3 (wrap64 (x5 - 1)))).f0) > ((rd_T37 x0 x4).f0) then (if 0 ≤ x5 then (if x5 < (x3.length : Int) then (spec_Turns.l1 k x0 (x3.set (x5 : Int).toNat (rd x3 (wrap64 (x5 - 1)))) x4 (wrap64 (x5 - 1))) else (none)) else (none)) else (if 0 ≤ x5 then (if x5 < (x3.length : Int) then (spec_Turns.l0 k x0 (x3.set (x5 : Int).toNat x4) (wrap64 (x4 + 1))) else (none)) else (none))) else (if 0 ≤ x5 then (if x5 < (x3.length : Int) then (spec_Turns.l0 k x0 (x3.set (x5 : Int).toNat x4) (wrap64 (x4 + 1))) else (none)) else (none)))) else (none)) else (none)) else (none)) else (none)) else (none)) else (none)) else (if 0 ≤ x5 then (if x5 < (x3.length : Int) then (spec_Turns.l0 k x0 (x3.set (x5 : Int).toNat x4) (wrap64 (x4 + 1))) else (none)) else (none))
end
def spec_Turns.f (k : Nat) (l0 : List (S37)) : Option (List Int) := spec_Turns.l0 k l0 (([] : List Int)) 0
theorem spec_Turns.mono_l : ∀ k, (∀ y0 y1 y2, LeO (spec_Turns.l0 k y0 y1 y2) (spec_Turns.l0 (k + 1) y0 y1 y2)) ∧ (∀ y0 y1 y2 y3, LeO (spec_Turns.l1 k y0 y1 y2 y3) (spec_Turns.l1 (k + 1) y0 y1 y2 y3))
 | 0 => ⟨fun _ _ _ r h => by simp [spec_Turns.l0] at h, fun _ _ _ _ r h => by simp [spec_Turns.l1] at h⟩
 | k + 1 => by
  obtain ⟨ih0, ih1⟩ := spec_Turns.mono_l k
  refine ⟨?_, ?_⟩
  {
  intro y0 y1 y2
  unfold spec_Turns.l0
  exact qL
  }
  {
  intro y0 y1 y2 y3
  unfold spec_Turns.l1
  exact qL
  }
theorem spec_Turns.mono : ∀ a0 k, LeO (spec_Turns.f k a0) (spec_Turns.f (k + 1) a0) := by
 intro a0 k
 obtain ⟨ih0, ih1⟩ := spec_Turns.mono_l k
 unfold spec_Turns.f
 exact qL
set_option maxHeartbeats 8000000 in
set_option maxRecDepth 100000 in
theorem spec_Turns.calls (k : Nat) (A0 : Option Addr) (c0 : Nat) (l0 : List (S37)) (r : List Int) (w : World) (hr0 : Kd.C k37 w A0 l0.length l0) (hc0 : l0.length ≤ c0) (h : spec_Turns.f k l0 = some r) :
  Calls Try.prog 15 #[.slice A0 l0.length c0] w fun e w' => ∃ v0_ : Value, e = .returned (v0_) ∧ Kd.R (Kd.int .i64) 3 w' w.heap.size (fun _ => True) v0_ r ∧ Below w.heap.size w w' := by
 have HR0 := aM hr0
 have HC0 := aM hc0
 clear hr0 hc0
 have HB := aM (Below.refl w.heap.size w)
 unfold spec_Turns.f at h
 have H := h
 clear h
 obtain ⟨y101, hy101⟩ : ∃ y_ : List Int, y_ = (([] : List Int)) := ⟨_, rfl⟩
 replace H : (spec_Turns.l0 k l0 y101 0) = some r := by first | (rw [hy101]; exact H) | exact H
 have Ny101 := aM hy101
 clear hy101
 have H' := aM H
 clear H
 go_enter Try.func15, Try.ntmps15
 go_wp2_with (first | ((with_reducible refine gate_dst (N := 6) rfl ?_); refine Kd.R_lit (Kd.int .i64) _ 3 ?hg (N := 6) ?hd (xs := ([] : List Int)) (inner := []) (ok := fun _ => True) (okp := fun _ => True) ?hr ?hp (fun _ hk => hk) trivial (Below.refl _ _) (Nat.le_refl _) (by simp) ?_; (case hd => rfl); (case hg => rfl); (case hr => exact qz5); (case hp => exact (Reps.none _ _)); intro v102 w2 ho3 hb hg_ hnew_; clear hg_ hnew_; (first | rw [← Ny101.out] at ho3 | (simp only [Int.reduceToNat] at ho3; rw [← Ny101.out] at ho3)); have HO103 := aM (Kd.R_lower ho3 (below_size qz1)); replace HB := bS_ hb; clear hb ho3) | go_quiet (fail))
 go_loopg [3, 4] k (fun kq v3 v4 w' => ∃ (x3_1 : List Int) (x4_1 : Int), v4 = .int .i64 x4_1 ∧ Aside0 (spec_Turns.l0 kq l0 x3_1 x4_1 = some r) ∧ Aside0 (kq ≤ k) ∧ Aside0 (Kd.R (Kd.int .i64) 3 w' w.heap.size (fun _ => True) v3 x3_1) ∧ Aside0 (Below w.heap.size w w'))
 case atStart => exact ⟨(y101), (0), qz4, H', ⟨Nat.le_refl _⟩, ⟨rr_ HO103.out⟩, ⟨qz1⟩⟩
 case round =>
 clear H'
 obtain ⟨x3_1, x4_1, rfl, HA, HK1, HO_3, HB⟩ := hrel
 cases gk with
 | zero => exact absurd HA.out (by simp [spec_Turns.l0])
 | succ k1 =>
 have H := HA.out
 clear HA
 simp only [spec_Turns.l0] at H
 replace H := iE_ H
 rcases H with ⟨c4b0, H⟩ | ⟨c4b0, H⟩
 {
 replace H := iN_ H
 obtain ⟨c5, H⟩ := H
 have LMc5 := aM c5
 clear c5
 obtain ⟨y104, hy104⟩ : ∃ y_ : List Int, y_ = (x3_1 ++ [x4_1]) := ⟨_, rfl⟩
 replace H : (spec_Turns.l1 k1 l0 y104 x4_1 (x3_1.length : Int)) = some r := by first | (rw [hy104]; exact H) | exact H
 have Ny104 := aM hy104
 clear hy104
 have H' := aM H
 clear H
 obtain ⟨Ao6, co6, eo6⟩ := Kd.R_slice HO_3.out
 subst eo6
 go_wp2_with (first | ((with_reducible refine gate_builtin (b := .append) (xs := #[.tmp 15, .tmp 17]) rfl ?_); at_builtin; refine Kd.R_append (Kd.int .i64) (w0 := w) w.heap.size rfl (.tmp 15) (.tmp 17) 24 3 (.int .i64 0) 8 rfl Try.underlying24 info3 rfl (by decide) (by omega) (.slice Ao6 x3_1.length co6) x3_1 x4_1 [.int .i64 x4_1] (fun _ => True) (fun _ => False) rfl rfl ?aP (fun _ hk => hk.elim) ?aF ?aO ?aB ?aS ?aL ?_; (case aP => exact rfl); (case aB => exact qz1); (case aF => exact (fun _ _ => trivial)); (case aO => exact (rr_ HO_3.out)); (case aS => exact (below_size qz1)); (case aL => have := LMc5.out; omega); intro v105 w7 ho hb hg hat; rw [← Ny104.out] at ho; replace HB := aM (hb); have HO106 := aM (ho); clear HO_3; clear ho hb hg hat) | go_quiet (fail))
 go_loopg [5] k1 (fun kq v5 w' => ∃ (x3_2 : List Int) (x5_2 : Int), v5 = .int .i64 x5_2 ∧ Aside0 (spec_Turns.l1 kq l0 x3_2 x4_1 x5_2 = some r) ∧ Aside0 (kq ≤ k1) ∧ Aside0 (Kd.R (Kd.int .i64) 3 w' w.heap.size (fun _ => True) v105 x3_2) ∧ Aside0 (Below w.heap.size w w'))
 case atStart => exact ⟨(y104), ((x3_1.length : Int)), qz4, H', ⟨Nat.le_refl _⟩, ⟨rr_ HO106.out⟩, ⟨qz1⟩⟩
 case round =>
 clear H'
 try clear c4
 try clear c4b0
 try clear c5
 obtain ⟨x3_2, x5_2, rfl, HA, HK2, HO_3, HB⟩ := hrel
 cases gk with
 | zero => exact absurd HA.out (by simp [spec_Turns.l1])
 | succ k2 =>
 have H := HA.out
 clear HA
 simp only [spec_Turns.l1] at H
 replace H := iE_ H
 rcases H with ⟨c8b0, H⟩ | ⟨c8b0, H⟩
 {
 obtain ⟨ji9, hji9⟩ : ∃ j_ : Int, (wrap64 (x5_2 - 1)) = j_ := ⟨_, rfl⟩
 replace H : (if 0 ≤ (ji9) then (if (ji9) < (x3_2.length : Int) then (if 0 ≤ (rd x3_2 (ji9)) then (if (rd x3_2 (ji9)) < (l0.length : Int) then (if 0 ≤ x4_1 then (if x4_1 < (l0.length : Int) then (if ((rd_T37 l0 (rd x3_2 (ji9))).f4) < ((rd_T37 l0 x4_1).f4) then (if 0 ≤ x5_2 then (if x5_2 < (x3_2.length : Int) then (spec_Turns.l1 k2 l0 (x3_2.set (x5_2 : Int).toNat (rd x3_2 (ji9))) x4_1 ji9) else (none)) else (none)) else (if ((rd_T37 l0 (rd x3_2 (ji9))).f4) = ((rd_T37 l0 x4_1).f4) then (if ((rd_T37 l0 (rd x3_2 (ji9))).f0) > ((rd_T37 l0 x4_1).f0) then (if 0 ≤ x5_2 then (if x5_2 < (x3_2.length : Int) then (spec_Turns.l1 k2 l0 (x3_2.set (x5_2 : Int).toNat (rd x3_2 (ji9))) x4_1 ji9) else (none)) else (none)) else (if 0 ≤ x5_2 then (if x5_2 < (x3_2.length : Int) then (spec_Turns.l0 k2 l0 (x3_2.set (x5_2 : Int).toNat x4_1) (wrap64 (x4_1 + 1))) else (none)) else (none))) else (if 0 ≤ x5_2 then (if x5_2 < (x3_2.length : Int) then (spec_Turns.l0 k2 l0 (x3_2.set (x5_2 : Int).toNat x4_1) (wrap64 (x4_1 + 1))) else (none)) else (none)))) else (none)) else (none)) else (none)) else (none)) else (none)) else (none)) = some r := by first | (rw [hji9] at H; exact H) | (simp only [hji9] at H ⊢; exact H)
 have hji9w : (IntKind.i64.wrap (x5_2 - 1)) = ji9 := (i64_w _).trans hji9
 replace H := iD_ H
 obtain ⟨c10b0, H⟩ := H
 replace H := iD_ H
 obtain ⟨c11b0, H⟩ := H
 replace H := iD_ H
 obtain ⟨c12b0, H⟩ := H
 replace H := iD_ H
 obtain ⟨c13b0, H⟩ := H
 replace H := iD_ H
 obtain ⟨c14b0, H⟩ := H
 replace H := iD_ H
 obtain ⟨c15b0, H⟩ := H
 replace H := iE_ H
 rcases H with ⟨c16b0, H⟩ | ⟨c16b0, H⟩
 {
 replace H := iD_ H
 obtain ⟨c17b0, H⟩ := H
 replace H := iD_ H
 obtain ⟨c18b0, H⟩ := H
 obtain ⟨y111, hy111⟩ : ∃ y_ : List Int, y_ = (x3_2.set (x5_2 : Int).toNat (rd x3_2 (ji9))) := ⟨_, rfl⟩
 replace H : (spec_Turns.l1 k2 l0 y111 x4_1 ji9) = some r := by first | (rw [hy111]; exact H) | exact H
 have Ny111 := aM hy111
 clear hy111
 have H' := aM H
 clear H
 obtain ⟨Ao20, co20, eo20⟩ := Kd.R_slice HO_3.out
 subst eo20
 have p107 : (0 ≤ ((ji9) : Int)) = True := et_
 have q107 : ((ji9) < (x3_2.length : Int)) = True := et_
 obtain ⟨ad107, e107, hx107_0⟩ := Kd.at_int (Kd.R_reads' HO_3.out).2.2 (ji9) dt_ dt_
 cases e107
 have p108 : (0 ≤ ((rd x3_2 (ji9)) : Int)) = True := et_
 have q108 : ((rd x3_2 (ji9)) < (l0.length : Int)) = True := et_
 obtain ⟨ad108, e108, hx108_0, hx108_1, hx108_2, hx108_3, hx108_4⟩ := tC5_ (at_T37 HR0.out (rd x3_2 (ji9)) dt_ dt_)
 cases e108
 have p109 : (0 ≤ (x4_1 : Int)) = True := et_
 have q109 : (x4_1 < (l0.length : Int)) = True := et_
 obtain ⟨ad109, e109, hx109_0, hx109_1, hx109_2, hx109_3, hx109_4⟩ := tC5_ (at_T37 HR0.out x4_1 dt_ dt_)
 obtain rfl : ad108 = ad109 := (by injection e109)
 have p110 : (0 ≤ ((ji9) : Int)) = True := et_
 have q110 : ((ji9) < (x3_2.length : Int)) = True := et_
 obtain ⟨ad110, e110, hx110_0⟩ := Kd.at_int (Kd.R_reads' HO_3.out).2.2 (ji9) dt_ dt_
 obtain rfl : ad107 = ad110 := (by injection e110)
 have p19 : 0 ≤ (x5_2 : Int) := dt_
 have q19 : (x5_2 : Int) < ((x3_2.length : Int) : Int) := dt_
 obtain ⟨go19, co19, eo19, gb19, gl19, cl19, HG19⟩ := Kd.R_form HO_3.out (by omega)
 (first | cases eo19 | (injection eo19 with ea_ en_ ec_; (first | subst ea_ | (injection ea_ with ea_; subst ea_)); subst ec_; clear en_))
 have GB19 := aM gb19
 have GG19 := aM HG19
 clear gb19 gl19 HG19
 (first | simp only [add_plain] at hx107_0 | skip)
 (first | simp only [add_plain] at hx110_0 | skip)
 obtain ⟨hx19_0, hf19_0⟩ := Kd.R_celln 0 HO_3.out (x5_2 : Int) p19 q19
 replace p19 := eq_true p19
 replace q19 := eq_true q19
 obtain ⟨hy21_, hz21_⟩ := Kd.R_celln 0 HO_3.out (x5_2 : Int) (dt_) (dt_)
 have HP21 := Kd.R_putg HO_3.out (x5_2 : Int) (rd x3_2 (ji9))
 go_wp2_with (first | ((with_reducible refine gate_store (t := 3) (p := 79) rfl ?_); (try (rw [drewN_self wr]; generalize hq_ : World.drewN wr _ = wr; replace HO_3 := aM (Kd.R_at hq_ HO_3.out); replace HB := aM (below_at hq_ HB.out); clear hq_; (try (obtain ⟨hy21_, hz21_⟩ := Kd.R_celln 0 HO_3.out (x5_2 : Int) (dt_) (dt_))); (try (have HP21 := Kd.R_putg HO_3.out (x5_2 : Int) (rd x3_2 (ji9)))))); refine store_event (t := 3) (p := 79) (v := ?vo_w22) (w1 := (wr.setCell ⟨go19, (x5_2 : Int).toNat, none⟩ (.int .i64 (rd x3_2 (ji9))))) ?hg ?ho ?hn ?hr ?_; (case ho => rfl); (case hg => rfl); (case hn => rfl); (case hr => exact qz5); intro w22 hw; have hg : wr.grownBy w22 (some go19) := (by rw [hw]; exact HP21.2); have hp_ : Kd.R (Kd.int .i64) 3 w22 w.heap.size (fun _ => True) (.slice (some ⟨go19, 0, none⟩) x3_2.length co20) y111 := (by rw [hw, Ny111.out]; exact HP21.1); clear HP21; replace HO_3 := aM (hp_); replace HB := aM ((by rw [hw]; exact below_set (HB.out) GB19.out : Below w.heap.size w w22)); clear hg hw hp_) | go_quiet (fail))
 go_roundg k2
 case measure => have := HK1.out; have := HK2.out; omega
 case rel => exact ⟨(y111), (ji9), (by first | rfl | (simp; done) | (simp only [← hji9] <;> (first | rfl | simp)) | (simp [*]; done)), H', ⟨by have := HK1.out; have := HK2.out; omega⟩, ⟨rm_ HO_3.out⟩, ⟨qz1⟩⟩
 }
 {
 replace H := iQ_ H
 rcases H with ⟨c23b0, c23b1, H⟩ | ⟨c23, c23b0, c23b1, H⟩
 {
 replace H := iE_ H
 rcases H with ⟨c24b0, H⟩ | ⟨c24b0, H⟩
 {
 replace H := iD_ H
 obtain ⟨c25b0, H⟩ := H
 replace H := iD_ H
 obtain ⟨c26b0, H⟩ := H
 obtain ⟨y119, hy119⟩ : ∃ y_ : List Int, y_ = (x3_2.set (x5_2 : Int).toNat (rd x3_2 (ji9))) := ⟨_, rfl⟩
 replace H : (spec_Turns.l1 k2 l0 y119 x4_1 ji9) = some r := by first | (rw [hy119]; exact H) | exact H
 have Ny119 := aM hy119
 clear hy119
 have H' := aM H
 clear H
 obtain ⟨Ao28, co28, eo28⟩ := Kd.R_slice HO_3.out
 subst eo28
 have p107 : (0 ≤ ((ji9) : Int)) = True := et_
 have q107 : ((ji9) < (x3_2.length : Int)) = True := et_
 obtain ⟨ad107, e107, hx107_0⟩ := Kd.at_int (Kd.R_reads' HO_3.out).2.2 (ji9) dt_ dt_
 cases e107
 have p108 : (0 ≤ ((rd x3_2 (ji9)) : Int)) = True := et_
 have q108 : ((rd x3_2 (ji9)) < (l0.length : Int)) = True := et_
 obtain ⟨ad108, e108, hx108_0, hx108_1, hx108_2, hx108_3, hx108_4⟩ := tC5_ (at_T37 HR0.out (rd x3_2 (ji9)) dt_ dt_)
 cases e108
 have p109 : (0 ≤ (x4_1 : Int)) = True := et_
 have q109 : (x4_1 < (l0.length : Int)) = True := et_
 obtain ⟨ad109, e109, hx109_0, hx109_1, hx109_2, hx109_3, hx109_4⟩ := tC5_ (at_T37 HR0.out x4_1 dt_ dt_)
 obtain rfl : ad108 = ad109 := (by injection e109)
 have p112 : (0 ≤ ((ji9) : Int)) = True := et_
 have q112 : ((ji9) < (x3_2.length : Int)) = True := et_
 obtain ⟨ad112, e112, hx112_0⟩ := Kd.at_int (Kd.R_reads' HO_3.out).2.2 (ji9) dt_ dt_
 obtain rfl : ad107 = ad112 := (by injection e112)
 have p113 : (0 ≤ ((rd x3_2 (ji9)) : Int)) = True := et_
 have q113 : ((rd x3_2 (ji9)) < (l0.length : Int)) = True := et_
 obtain ⟨ad113, e113, hx113_0, hx113_1, hx113_2, hx113_3, hx113_4⟩ := tC5_ (at_T37 HR0.out (rd x3_2 (ji9)) dt_ dt_)
 obtain rfl : ad108 = ad113 := (by injection e113)
 have p114 : (0 ≤ (x4_1 : Int)) = True := et_
 have q114 : (x4_1 < (l0.length : Int)) = True := et_
 obtain ⟨ad114, e114, hx114_0, hx114_1, hx114_2, hx114_3, hx114_4⟩ := tC5_ (at_T37 HR0.out x4_1 dt_ dt_)
 obtain rfl : ad108 = ad114 := (by injection e114)
 have p115 : (0 ≤ ((ji9) : Int)) = True := et_
 have q115 : ((ji9) < (x3_2.length : Int)) = True := et_
 obtain ⟨ad115, e115, hx115_0⟩ := Kd.at_int (Kd.R_reads' HO_3.out).2.2 (ji9) dt_ dt_
 obtain rfl : ad107 = ad115 := (by injection e115)
 have p116 : (0 ≤ ((rd x3_2 (ji9)) : Int)) = True := et_
 have q116 : ((rd x3_2 (ji9)) < (l0.length : Int)) = True := et_
 obtain ⟨ad116, e116, hx116_0, hx116_1, hx116_2, hx116_3, hx116_4⟩ := tC5_ (at_T37 HR0.out (rd x3_2 (ji9)) dt_ dt_)
 obtain rfl : ad108 = ad116 := (by injection e116)
 have p117 : (0 ≤ (x4_1 : Int)) = True := et_
 have q117 : (x4_1 < (l0.length : Int)) = True := et_
 obtain ⟨ad117, e117, hx117_0, hx117_1, hx117_2, hx117_3, hx117_4⟩ := tC5_ (at_T37 HR0.out x4_1 dt_ dt_)
 obtain rfl : ad108 = ad117 := (by injection e117)
 have p118 : (0 ≤ ((ji9) : Int)) = True := et_
 have q118 : ((ji9) < (x3_2.length : Int)) = True := et_
 obtain ⟨ad118, e118, hx118_0⟩ := Kd.at_int (Kd.R_reads' HO_3.out).2.2 (ji9) dt_ dt_
 obtain rfl : ad107 = ad118 := (by injection e118)
 have p27 : 0 ≤ (x5_2 : Int) := dt_
 have q27 : (x5_2 : Int) < ((x3_2.length : Int) : Int) := dt_
 obtain ⟨go27, co27, eo27, gb27, gl27, cl27, HG27⟩ := Kd.R_form HO_3.out (by omega)
 (first | cases eo27 | (injection eo27 with ea_ en_ ec_; (first | subst ea_ | (injection ea_ with ea_; subst ea_)); subst ec_; clear en_))
 have GB27 := aM gb27
 have GG27 := aM HG27
 clear gb27 gl27 HG27
 (first | simp only [add_plain] at hx107_0 | skip)
 (first | simp only [add_plain] at hx112_0 | skip)
 (first | simp only [add_plain] at hx115_0 | skip)
 (first | simp only [add_plain] at hx118_0 | skip)
 obtain ⟨hx27_0, hf27_0⟩ := Kd.R_celln 0 HO_3.out (x5_2 : Int) p27 q27
 replace p27 := eq_true p27
 replace q27 := eq_true q27
 obtain ⟨hy29_, hz29_⟩ := Kd.R_celln 0 HO_3.out (x5_2 : Int) (dt_) (dt_)
 have HP29 := Kd.R_putg HO_3.out (x5_2 : Int) (rd x3_2 (ji9))
 go_wp2_with (first | ((with_reducible refine gate_store (t := 3) (p := 79) rfl ?_); (try (rw [drewN_self wr]; generalize hq_ : World.drewN wr _ = wr; replace HO_3 := aM (Kd.R_at hq_ HO_3.out); replace HB := aM (below_at hq_ HB.out); clear hq_; (try (obtain ⟨hy29_, hz29_⟩ := Kd.R_celln 0 HO_3.out (x5_2 : Int) (dt_) (dt_))); (try (have HP29 := Kd.R_putg HO_3.out (x5_2 : Int) (rd x3_2 (ji9)))))); refine store_event (t := 3) (p := 79) (v := ?vo_w30) (w1 := (wr.setCell ⟨go27, (x5_2 : Int).toNat, none⟩ (.int .i64 (rd x3_2 (ji9))))) ?hg ?ho ?hn ?hr ?_; (case ho => rfl); (case hg => rfl); (case hn => rfl); (case hr => exact qz5); intro w30 hw; have hg : wr.grownBy w30 (some go27) := (by rw [hw]; exact HP29.2); have hp_ : Kd.R (Kd.int .i64) 3 w30 w.heap.size (fun _ => True) (.slice (some ⟨go27, 0, none⟩) x3_2.length co28) y119 := (by rw [hw, Ny119.out]; exact HP29.1); clear HP29; replace HO_3 := aM (hp_); replace HB := aM ((by rw [hw]; exact below_set (HB.out) GB27.out : Below w.heap.size w w30)); clear hg hw hp_) | go_quiet (fail))
 go_roundg k2
 case measure => have := HK1.out; have := HK2.out; omega
 case rel => exact ⟨(y119), (ji9), (by first | rfl | (simp; done) | (simp only [← hji9] <;> (first | rfl | simp)) | (simp [*]; done)), H', ⟨by have := HK1.out; have := HK2.out; omega⟩, ⟨rm_ HO_3.out⟩, ⟨qz1⟩⟩
 }
 {
 replace H := iD_ H
 obtain ⟨c31b0, H⟩ := H
 replace H := iD_ H
 obtain ⟨c32b0, H⟩ := H
 obtain ⟨y120, hy120⟩ : ∃ y_ : List Int, y_ = (x3_2.set (x5_2 : Int).toNat x4_1) := ⟨_, rfl⟩
 replace H : (spec_Turns.l0 k2 l0 y120 (wrap64 (x4_1 + 1))) = some r := by first | (rw [hy120]; exact H) | exact H
 have Ny120 := aM hy120
 clear hy120
 have H' := aM H
 clear H
 obtain ⟨Ao34, co34, eo34⟩ := Kd.R_slice HO_3.out
 subst eo34
 have p107 : (0 ≤ ((ji9) : Int)) = True := et_
 have q107 : ((ji9) < (x3_2.length : Int)) = True := et_
 obtain ⟨ad107, e107, hx107_0⟩ := Kd.at_int (Kd.R_reads' HO_3.out).2.2 (ji9) dt_ dt_
 cases e107
 have p108 : (0 ≤ ((rd x3_2 (ji9)) : Int)) = True := et_
 have q108 : ((rd x3_2 (ji9)) < (l0.length : Int)) = True := et_
 obtain ⟨ad108, e108, hx108_0, hx108_1, hx108_2, hx108_3, hx108_4⟩ := tC5_ (at_T37 HR0.out (rd x3_2 (ji9)) dt_ dt_)
 cases e108
 have p109 : (0 ≤ (x4_1 : Int)) = True := et_
 have q109 : (x4_1 < (l0.length : Int)) = True := et_
 obtain ⟨ad109, e109, hx109_0, hx109_1, hx109_2, hx109_3, hx109_4⟩ := tC5_ (at_T37 HR0.out x4_1 dt_ dt_)
 obtain rfl : ad108 = ad109 := (by injection e109)
 have p112 : (0 ≤ ((ji9) : Int)) = True := et_
 have q112 : ((ji9) < (x3_2.length : Int)) = True := et_
 obtain ⟨ad112, e112, hx112_0⟩ := Kd.at_int (Kd.R_reads' HO_3.out).2.2 (ji9) dt_ dt_
 obtain rfl : ad107 = ad112 := (by injection e112)
 have p113 : (0 ≤ ((rd x3_2 (ji9)) : Int)) = True := et_
 have q113 : ((rd x3_2 (ji9)) < (l0.length : Int)) = True := et_
 obtain ⟨ad113, e113, hx113_0, hx113_1, hx113_2, hx113_3, hx113_4⟩ := tC5_ (at_T37 HR0.out (rd x3_2 (ji9)) dt_ dt_)
 obtain rfl : ad108 = ad113 := (by injection e113)
 have p114 : (0 ≤ (x4_1 : Int)) = True := et_
 have q114 : (x4_1 < (l0.length : Int)) = True := et_
 obtain ⟨ad114, e114, hx114_0, hx114_1, hx114_2, hx114_3, hx114_4⟩ := tC5_ (at_T37 HR0.out x4_1 dt_ dt_)
 obtain rfl : ad108 = ad114 := (by injection e114)
 have p115 : (0 ≤ ((ji9) : Int)) = True := et_
 have q115 : ((ji9) < (x3_2.length : Int)) = True := et_
 obtain ⟨ad115, e115, hx115_0⟩ := Kd.at_int (Kd.R_reads' HO_3.out).2.2 (ji9) dt_ dt_
 obtain rfl : ad107 = ad115 := (by injection e115)
 have p116 : (0 ≤ ((rd x3_2 (ji9)) : Int)) = True := et_
 have q116 : ((rd x3_2 (ji9)) < (l0.length : Int)) = True := et_
 obtain ⟨ad116, e116, hx116_0, hx116_1, hx116_2, hx116_3, hx116_4⟩ := tC5_ (at_T37 HR0.out (rd x3_2 (ji9)) dt_ dt_)
 obtain rfl : ad108 = ad116 := (by injection e116)
 have p117 : (0 ≤ (x4_1 : Int)) = True := et_
 have q117 : (x4_1 < (l0.length : Int)) = True := et_
 obtain ⟨ad117, e117, hx117_0, hx117_1, hx117_2, hx117_3, hx117_4⟩ := tC5_ (at_T37 HR0.out x4_1 dt_ dt_)
 obtain rfl : ad108 = ad117 := (by injection e117)
 have p33 : 0 ≤ (x5_2 : Int) := dt_
 have q33 : (x5_2 : Int) < ((x3_2.length : Int) : Int) := dt_
 obtain ⟨go33, co33, eo33, gb33, gl33, cl33, HG33⟩ := Kd.R_form HO_3.out (by omega)
 (first | cases eo33 | (injection eo33 with ea_ en_ ec_; (first | subst ea_ | (injection ea_ with ea_; subst ea_)); subst ec_; clear en_))
 have GB33 := aM gb33
 have GG33 := aM HG33
 clear gb33 gl33 HG33
 (first | simp only [add_plain] at hx107_0 | skip)
 (first | simp only [add_plain] at hx112_0 | skip)
 (first | simp only [add_plain] at hx115_0 | skip)
 obtain ⟨hx33_0, hf33_0⟩ := Kd.R_celln 0 HO_3.out (x5_2 : Int) p33 q33
 replace p33 := eq_true p33
 replace q33 := eq_true q33
 obtain ⟨hy35_, hz35_⟩ := Kd.R_celln 0 HO_3.out (x5_2 : Int) (dt_) (dt_)
 have HP35 := Kd.R_putg HO_3.out (x5_2 : Int) x4_1
 go_wp2_with (first | ((with_reducible refine gate_store (t := 3) (p := 85) rfl ?_); (try (rw [drewN_self wr]; generalize hq_ : World.drewN wr _ = wr; replace HO_3 := aM (Kd.R_at hq_ HO_3.out); replace HB := aM (below_at hq_ HB.out); clear hq_; (try (obtain ⟨hy35_, hz35_⟩ := Kd.R_celln 0 HO_3.out (x5_2 : Int) (dt_) (dt_))); (try (have HP35 := Kd.R_putg HO_3.out (x5_2 : Int) x4_1)))); refine store_event (t := 3) (p := 85) (v := ?vo_w36) (w1 := (wr.setCell ⟨go33, (x5_2 : Int).toNat, none⟩ (.int .i64 x4_1))) ?hg ?ho ?hn ?hr ?_; (case ho => rfl); (case hg => rfl); (case hn => rfl); (case hr => exact qz5); intro w36 hw; have hg : wr.grownBy w36 (some go33) := (by rw [hw]; exact HP35.2); have hp_ : Kd.R (Kd.int .i64) 3 w36 w.heap.size (fun _ => True) (.slice (some ⟨go33, 0, none⟩) x3_2.length co34) y120 := (by rw [hw, Ny120.out]; exact HP35.1); clear HP35; replace HO_3 := aM (hp_); replace HB := aM ((by rw [hw]; exact below_set (HB.out) GB33.out : Below w.heap.size w w36)); clear hg hw hp_) | go_quiet (fail))
 go_roundg k2
 case measure => have := HK1.out; have := HK2.out; omega
 case rel => exact ⟨(y120), (wrap64 (x4_1 + 1)), qz4, H', ⟨by have := HK1.out; have := HK2.out; omega⟩, ⟨rm_ HO_3.out⟩, ⟨qz1⟩⟩
 }
 }
 {
 replace H := iD_ H
 obtain ⟨c37b0, H⟩ := H
 replace H := iD_ H
 obtain ⟨c38b0, H⟩ := H
 obtain ⟨y121, hy121⟩ : ∃ y_ : List Int, y_ = (x3_2.set (x5_2 : Int).toNat x4_1) := ⟨_, rfl⟩
 replace H : (spec_Turns.l0 k2 l0 y121 (wrap64 (x4_1 + 1))) = some r := by first | (rw [hy121]; exact H) | exact H
 have Ny121 := aM hy121
 clear hy121
 have H' := aM H
 clear H
 obtain ⟨Ao40, co40, eo40⟩ := Kd.R_slice HO_3.out
 subst eo40
 have p107 : (0 ≤ ((ji9) : Int)) = True := et_
 have q107 : ((ji9) < (x3_2.length : Int)) = True := et_
 obtain ⟨ad107, e107, hx107_0⟩ := Kd.at_int (Kd.R_reads' HO_3.out).2.2 (ji9) dt_ dt_
 cases e107
 have p108 : (0 ≤ ((rd x3_2 (ji9)) : Int)) = True := et_
 have q108 : ((rd x3_2 (ji9)) < (l0.length : Int)) = True := et_
 obtain ⟨ad108, e108, hx108_0, hx108_1, hx108_2, hx108_3, hx108_4⟩ := tC5_ (at_T37 HR0.out (rd x3_2 (ji9)) dt_ dt_)
 cases e108
 have p109 : (0 ≤ (x4_1 : Int)) = True := et_
 have q109 : (x4_1 < (l0.length : Int)) = True := et_
 obtain ⟨ad109, e109, hx109_0, hx109_1, hx109_2, hx109_3, hx109_4⟩ := tC5_ (at_T37 HR0.out x4_1 dt_ dt_)
 obtain rfl : ad108 = ad109 := (by injection e109)
 have p112 : (0 ≤ ((ji9) : Int)) = True := et_
 have q112 : ((ji9) < (x3_2.length : Int)) = True := et_
 obtain ⟨ad112, e112, hx112_0⟩ := Kd.at_int (Kd.R_reads' HO_3.out).2.2 (ji9) dt_ dt_
 obtain rfl : ad107 = ad112 := (by injection e112)
 have p113 : (0 ≤ ((rd x3_2 (ji9)) : Int)) = True := et_
 have q113 : ((rd x3_2 (ji9)) < (l0.length : Int)) = True := et_
 obtain ⟨ad113, e113, hx113_0, hx113_1, hx113_2, hx113_3, hx113_4⟩ := tC5_ (at_T37 HR0.out (rd x3_2 (ji9)) dt_ dt_)
 obtain rfl : ad108 = ad113 := (by injection e113)
 have p114 : (0 ≤ (x4_1 : Int)) = True := et_
 have q114 : (x4_1 < (l0.length : Int)) = True := et_
 obtain ⟨ad114, e114, hx114_0, hx114_1, hx114_2, hx114_3, hx114_4⟩ := tC5_ (at_T37 HR0.out x4_1 dt_ dt_)
 obtain rfl : ad108 = ad114 := (by injection e114)
 have p39 : 0 ≤ (x5_2 : Int) := dt_
 have q39 : (x5_2 : Int) < ((x3_2.length : Int) : Int) := dt_
 obtain ⟨go39, co39, eo39, gb39, gl39, cl39, HG39⟩ := Kd.R_form HO_3.out (by omega)
 (first | cases eo39 | (injection eo39 with ea_ en_ ec_; (first | subst ea_ | (injection ea_ with ea_; subst ea_)); subst ec_; clear en_))
 have GB39 := aM gb39
 have GG39 := aM HG39
 clear gb39 gl39 HG39
 (first | simp only [add_plain] at hx107_0 | skip)
 (first | simp only [add_plain] at hx112_0 | skip)
 obtain ⟨hx39_0, hf39_0⟩ := Kd.R_celln 0 HO_3.out (x5_2 : Int) p39 q39
 replace p39 := eq_true p39
 replace q39 := eq_true q39
 obtain ⟨hy41_, hz41_⟩ := Kd.R_celln 0 HO_3.out (x5_2 : Int) (dt_) (dt_)
 have HP41 := Kd.R_putg HO_3.out (x5_2 : Int) x4_1
 go_wp2_with (first | ((with_reducible refine gate_store (t := 3) (p := 85) rfl ?_); (try (rw [drewN_self wr]; generalize hq_ : World.drewN wr _ = wr; replace HO_3 := aM (Kd.R_at hq_ HO_3.out); replace HB := aM (below_at hq_ HB.out); clear hq_; (try (obtain ⟨hy41_, hz41_⟩ := Kd.R_celln 0 HO_3.out (x5_2 : Int) (dt_) (dt_))); (try (have HP41 := Kd.R_putg HO_3.out (x5_2 : Int) x4_1)))); refine store_event (t := 3) (p := 85) (v := ?vo_w42) (w1 := (wr.setCell ⟨go39, (x5_2 : Int).toNat, none⟩ (.int .i64 x4_1))) ?hg ?ho ?hn ?hr ?_; (case ho => rfl); (case hg => rfl); (case hn => rfl); (case hr => exact qz5); intro w42 hw; have hg : wr.grownBy w42 (some go39) := (by rw [hw]; exact HP41.2); have hp_ : Kd.R (Kd.int .i64) 3 w42 w.heap.size (fun _ => True) (.slice (some ⟨go39, 0, none⟩) x3_2.length co40) y121 := (by rw [hw, Ny121.out]; exact HP41.1); clear HP41; replace HO_3 := aM (hp_); replace HB := aM ((by rw [hw]; exact below_set (HB.out) GB39.out : Below w.heap.size w w42)); clear hg hw hp_) | go_quiet (fail))
 go_roundg k2
 case measure => have := HK1.out; have := HK2.out; omega
 case rel => exact ⟨(y121), (wrap64 (x4_1 + 1)), qz4, H', ⟨by have := HK1.out; have := HK2.out; omega⟩, ⟨rm_ HO_3.out⟩, ⟨qz1⟩⟩
 }
 }
 }
 {
 replace H := iD_ H
 obtain ⟨c43b0, H⟩ := H
 replace H := iD_ H
 obtain ⟨c44b0, H⟩ := H
 obtain ⟨y122, hy122⟩ : ∃ y_ : List Int, y_ = (x3_2.set (x5_2 : Int).toNat x4_1) := ⟨_, rfl⟩
 replace H : (spec_Turns.l0 k2 l0 y122 (wrap64 (x4_1 + 1))) = some r := by first | (rw [hy122]; exact H) | exact H
 have Ny122 := aM hy122
 clear hy122
 have H' := aM H
 clear H
 have p45 : 0 ≤ (x5_2 : Int) := dt_
 have q45 : (x5_2 : Int) < ((x3_2.length : Int) : Int) := dt_
 obtain ⟨go45, co45, eo45, gb45, gl45, cl45, HG45⟩ := Kd.R_form HO_3.out (by omega)
 (first | cases eo45 | (injection eo45 with ea_ en_ ec_; (first | subst ea_ | (injection ea_ with ea_; subst ea_)); subst ec_; clear en_))
 have GB45 := aM gb45
 have GG45 := aM HG45
 clear gb45 gl45 HG45
 obtain ⟨hx45_0, hf45_0⟩ := Kd.R_celln 0 HO_3.out (x5_2 : Int) p45 q45
 replace p45 := eq_true p45
 replace q45 := eq_true q45
 obtain ⟨hy46_, hz46_⟩ := Kd.R_celln 0 HO_3.out (x5_2 : Int) (dt_) (dt_)
 have HP46 := Kd.R_putg HO_3.out (x5_2 : Int) x4_1
 go_wp2_with (first | ((with_reducible refine gate_store (t := 3) (p := 85) rfl ?_); (try (rw [drewN_self wr]; generalize hq_ : World.drewN wr _ = wr; replace HO_3 := aM (Kd.R_at hq_ HO_3.out); replace HB := aM (below_at hq_ HB.out); clear hq_; (try (obtain ⟨hy46_, hz46_⟩ := Kd.R_celln 0 HO_3.out (x5_2 : Int) (dt_) (dt_))); (try (have HP46 := Kd.R_putg HO_3.out (x5_2 : Int) x4_1)))); refine store_event (t := 3) (p := 85) (v := ?vo_w47) (w1 := (wr.setCell ⟨go45, (x5_2 : Int).toNat, none⟩ (.int .i64 x4_1))) ?hg ?ho ?hn ?hr ?_; (case ho => rfl); (case hg => rfl); (case hn => rfl); (case hr => exact qz5); intro w47 hw; have hg : wr.grownBy w47 (some go45) := (by rw [hw]; exact HP46.2); have hp_ : Kd.R (Kd.int .i64) 3 w47 w.heap.size (fun _ => True) (.slice (some ⟨go45, 0, none⟩) x3_2.length co45) y122 := (by rw [hw, Ny122.out]; exact HP46.1); clear HP46; replace HO_3 := aM (hp_); replace HB := aM ((by rw [hw]; exact below_set (HB.out) GB45.out : Below w.heap.size w w47)); clear hg hw hp_) | go_quiet (fail))
 go_roundg k2
 case measure => have := HK1.out; have := HK2.out; omega
 case rel => exact ⟨(y122), (wrap64 (x4_1 + 1)), qz4, H', ⟨by have := HK1.out; have := HK2.out; omega⟩, ⟨rm_ HO_3.out⟩, ⟨qz1⟩⟩
 }
 }
 {
 obtain rfl := Option.some.inj H
 go_wp2
 repeat (go_quiet (fail); try go_wp2)
 go_ret
 exact ⟨_, qzw, by (with_reducible repeat (first | apply Kd.R_alloc | apply Kd.R_drewN | apply Kd.R_drew)); exact HO_3.out, qz1⟩
 }
/-! ### laws_toRobot: function 28 -/
def laws_toRobot.f (a0_0 : Int) (a0_1 : Int) (a0_2 : Int) (a0_3 : Bool) (a0_4 : Int) : Option (Int × Int × Int × Bool × Int) := some (a0_0, a0_1, a0_2, a0_3, a0_4)
set_option maxHeartbeats 8000000 in
set_option maxRecDepth 100000 in
theorem laws_toRobot.calls (a0_0 : Int) (a0_1 : Int) (a0_2 : Int) (a0_3 : Bool) (a0_4 : Int) (r1 : Int) (r2 : Int) (r3 : Int) (r4 : Bool) (r5 : Int) (w : World) (h : laws_toRobot.f a0_0 a0_1 a0_2 a0_3 a0_4 = some (r1, r2, r3, r4, r5)) :
  Calls Try.prog 28 #[.agg #[.int .i64 a0_0, .int .i64 a0_1, .int .i64 a0_2, .bool a0_3, .int .i64 a0_4]] w fun e w' => e = .returned (.agg #[.int .i64 r1, .int .i64 r2, .int .i64 r3, .bool r4, .int .i64 r5]) ∧ Below w.heap.size w w' := by
 have hu40 := Try.underlying40
 have hu37 := Try.underlying37
 have HB := aM (Below.refl w.heap.size w)
 unfold laws_toRobot.f at h
 have H := h
 clear h
 simp only [Option.some.injEq, Prod.mk.injEq] at H
 obtain ⟨rfl, rfl, rfl, rfl, rfl⟩ := H
 go_enter Try.func28, Try.ntmps28
 go_wp2_with (first | ((with_reducible refine gate_dst (N := 1) rfl ?_); refine bx_ 1 #[.int .i64 a0_0, .int .i64 a0_1, .int .i64 a0_2, .bool a0_3, .int .i64 a0_4] 40 ?_; intro gb123 hg w2 hbox hb; have BK123 := aM (hbox); have GW123 := aM (bz_ w hg qz1); have GE123 := GW123; replace HB := bS_ hb; clear hb hbox hg) | ((with_reducible refine gate_dst (N := 2) rfl ?_); refine bx_ 2 #[.int .i64 0, .int .i64 0, .int .i64 0, .bool false, .int .i64 0] 37 ?_; intro gb124 hg w3 hbox hb; have BK124 := aM (hbox); have GW124 := aM (bz_ w hg qz1); have GE124 := GW124; replace HB := bS_ hb; obtain ⟨NB123_124, NB124_123⟩ := nb_ hg (bk_ BK123.out); replace BK123 := bB_ BK123 hb; clear hb hbox hg) | ((with_reducible refine gate_dst (N := 3) rfl ?_); refine bx_ 3 #[.int .i64 0, .int .i64 0, .int .i64 0, .bool false, .int .i64 0] 37 ?_; intro gb125 hg w4 hbox hb; have BK125 := aM (hbox); have GW125 := aM (bz_ w hg qz1); have GE125 := GW125; replace HB := bS_ hb; obtain ⟨NB123_125, NB125_123⟩ := nb_ hg (bk_ BK123.out); replace BK123 := bB_ BK123 hb; obtain ⟨NB124_125, NB125_124⟩ := nb_ hg (bk_ BK124.out); replace BK124 := bB_ BK124 hb; clear hb hbox hg; have hnb5 := NB123_124.out; have hnc5 := NB124_123.out; have hnb6 := NB123_125.out; have hnc6 := NB125_123.out; obtain ⟨hcz7_0, hcz7_1, hcz7_2, hcz7_3, hcz7_4, hfz7_0, hfz7_1, hfz7_2, hfz7_3, hfz7_4⟩ := b10_ BK123.out; have hnb8 := NB125_124.out; have hnc8 := NB124_125.out; obtain ⟨hcz9_0, hcz9_1, hcz9_2, hcz9_3, hcz9_4, hfz9_0, hfz9_1, hfz9_2, hfz9_3, hfz9_4⟩ := b10_ BK125.out; obtain ⟨hcz10_0, hcz10_1, hcz10_2, hcz10_3, hcz10_4, hfz10_0, hfz10_1, hfz10_2, hfz10_3, hfz10_4⟩ := b10_ BK124.out))
 refine bodyPost_ret (results_cell_row rfl _ _ gb124 37 #[.int .i64 a0_0, .int .i64 a0_1, .int .i64 a0_2, .bool a0_3, .int .i64 a0_4] (0, 0) _ rfl (by (with_reducible repeat (first | refine blk_drewN ?_ _ | refine blk_drew ?_ | refine blk_alloc ?_ _)); refine blk_put (cs := #[.int .i64 a0_0, .int .i64 a0_1, .int .i64 a0_2, .bool a0_3, .int .i64 0]) ?_ 4 _ rfl; (with_reducible repeat (first | refine blk_drewN ?_ _ | refine blk_drew ?_ | refine blk_alloc ?_ _)); refine blk_put (cs := #[.int .i64 a0_0, .int .i64 a0_1, .int .i64 a0_2, .bool false, .int .i64 0]) ?_ 3 _ rfl; (with_reducible repeat (first | refine blk_drewN ?_ _ | refine blk_drew ?_ | refine blk_alloc ?_ _)); refine blk_put (cs := #[.int .i64 a0_0, .int .i64 a0_1, .int .i64 0, .bool false, .int .i64 0]) ?_ 2 _ rfl; (with_reducible repeat (first | refine blk_drewN ?_ _ | refine blk_drew ?_ | refine blk_alloc ?_ _)); refine blk_put (cs := #[.int .i64 a0_0, .int .i64 0, .int .i64 0, .bool false, .int .i64 0]) ?_ 1 _ rfl; (with_reducible repeat (first | refine blk_drewN ?_ _ | refine blk_drew ?_ | refine blk_alloc ?_ _)); refine blk_put (cs := #[.int .i64 0, .int .i64 0, .int .i64 0, .bool false, .int .i64 0]) ?_ 0 _ rfl; (with_reducible repeat (first | refine blk_drewN ?_ _ | refine blk_drew ?_ | refine blk_alloc ?_ _)); exact bk2_ BK124.out) Try.underlying37 rfl (by kernel_rfl)) rfl ?_
 exact ⟨qzw, qz1⟩

/-! ### laws_toRobotS: function 16 -/
def laws_toRobotS.l0 : Nat → List (S40) → List (S37) → Int → Option ((List (S37)))
 | 0, _, _, _ => none
 | k + 1, x0, x3, x4 => if x4 < (x0.length : Int) then (if 0 ≤ x4 then ((laws_toRobot.f ((rd_T40 x0 x4).f0) ((rd_T40 x0 x4).f1) ((rd_T40 x0 x4).f2) ((rd_T40 x0 x4).f3) ((rd_T40 x0 x4).f4)).bind fun bt130 => (if x4 < (x3.length : Int) then (laws_toRobotS.l0 k x0 (x3.set (x4 : Int).toNat (⟨bt130.1, bt130.2.1, bt130.2.2.1, bt130.2.2.2.1, bt130.2.2.2.2⟩ : S37)) (wrap64 (x4 + 1))) else (none))) else (none)) else (some x3)
def laws_toRobotS.f (k : Nat) (l0 : List (S40)) : Option ((List (S37))) := if 0 ≤ (l0.length : Int) then (if ((l0.length : Int) : Int).toNat ≤ 7036874417766 then (laws_toRobotS.l0 k l0 (List.replicate ((l0.length : Int) : Int).toNat z37) 0) else (none)) else (none)
theorem laws_toRobotS.mono_l : ∀ k, (∀ y0 y1 y2, LeO (laws_toRobotS.l0 k y0 y1 y2) (laws_toRobotS.l0 (k + 1) y0 y1 y2))
 | 0 => fun _ _ _ r h => by simp [laws_toRobotS.l0] at h
 | k + 1 => by
  have ih0 := laws_toRobotS.mono_l k
  {
  intro y0 y1 y2
  unfold laws_toRobotS.l0
  exact qL
  }
theorem laws_toRobotS.mono : ∀ a0 k, LeO (laws_toRobotS.f k a0) (laws_toRobotS.f (k + 1) a0) := by
 intro a0 k
 have ih0 := laws_toRobotS.mono_l k
 unfold laws_toRobotS.f
 exact qL
set_option maxHeartbeats 8000000 in
set_option maxRecDepth 100000 in
theorem laws_toRobotS.calls (k : Nat) (A0 : Option Addr) (c0 : Nat) (l0 : List (S40)) (r : List (S37)) (w : World) (hr0 : Kd.C k40 w A0 l0.length l0) (hc0 : l0.length ≤ c0) (h : laws_toRobotS.f k l0 = some r) :
  Calls Try.prog 16 #[.slice A0 l0.length c0] w fun e w' => ∃ v0_ : Value, e = .returned (v0_) ∧ Kd.R k37 37 w' w.heap.size (fun _ => True) v0_ r ∧ Below w.heap.size w w' := by
 have hu40 := Try.underlying40
 have hu37 := Try.underlying37
 have HR0 := aM hr0
 have HC0 := aM hc0
 clear hr0 hc0
 have HB := aM (Below.refl w.heap.size w)
 unfold laws_toRobotS.f at h
 have H := h
 clear h
 replace H := iN_ H
 obtain ⟨c2, H⟩ := H
 have c2b0 := eq_true c2
 have c2b1 := decide_eq_true c2
 clear c2
 replace H := iN_ H
 obtain ⟨c3, H⟩ := H
 have c3b0 := eq_true c3
 have c3b1 := decide_eq_true c3
 clear c3
 obtain ⟨y126, hy126⟩ : ∃ y_ : List (S37), y_ = (List.replicate ((l0.length : Int) : Int).toNat z37) := ⟨_, rfl⟩
 replace H : (laws_toRobotS.l0 k l0 y126 0) = some r := by first | (rw [hy126]; exact H) | exact H
 have Ny126 := aM hy126
 clear hy126
 have H' := aM H
 clear H
 go_enter Try.func16, Try.ntmps16
 go_wp2_with (first | ((with_reducible refine gate_dst (N := 7) rfl ?_); refine Kd.R_make k37 _ 37 rfl (N := 7) rfl 26 _ _ rfl (l0.length : Int) rfl rfl Try.underlying26 (.agg #[(.int .i64 0), (.int .i64 0), (.int .i64 0), (.bool false), (.int .i64 0)]) 40 info37 rfl (by decide) (by omega) z37 (ok := fun _ => True) (okp := fun _ => True) (k37_mkM _ _ _ z37 ) (fun _ hk => hk) trivial (dt_) (Nat.le_trans (Nat.mul_le_mul_right _ (dt_ : (l0.length : Int).toNat ≤ 7036874417766)) (by omega)) (Below.refl _ _) (Nat.le_refl _) ?_; intro v127 w4 ho5 hb hg_ hnew_; clear hg_ hnew_; (first | rw [← Ny126.out] at ho5 | (simp only [Int.reduceToNat] at ho5; rw [← Ny126.out] at ho5)); have HO128 := aM (Kd.R_lower ho5 (below_size qz1)); replace HB := bS_ hb; clear hb ho5))
 go_loopg [4] k (fun kq v4 w' => ∃ (x3_1 : List (S37)) (x4_1 : Int), v4 = .int .i64 x4_1 ∧ Aside0 (laws_toRobotS.l0 kq l0 x3_1 x4_1 = some r) ∧ Aside0 (kq ≤ k) ∧ Aside0 (Kd.R k37 37 w' w.heap.size (fun _ => True) v127 x3_1) ∧ Aside0 (Below w.heap.size w w'))
 case atStart => exact ⟨(y126), (0), qz4, H', ⟨Nat.le_refl _⟩, ⟨rr_ HO128.out⟩, ⟨qz1⟩⟩
 case round =>
 clear H'
 try clear c2
 try clear c2b0
 try clear c2b1
 try clear c3
 try clear c3b0
 try clear c3b1
 obtain ⟨x3_1, x4_1, rfl, HA, HK1, HO_3, HB⟩ := hrel
 cases gk with
 | zero => exact absurd HA.out (by simp [laws_toRobotS.l0])
 | succ k1 =>
 have H := HA.out
 clear HA
 simp only [laws_toRobotS.l0] at H
 replace H := iE_ H
 rcases H with ⟨c6b0, H⟩ | ⟨c6b0, H⟩
 {
 replace H := iD_ H
 obtain ⟨c7b0, H⟩ := H
 replace H := Option.bind_eq_some_iff.mp H
 obtain ⟨⟨t130, t131, t132, t133, t134⟩, A80, H⟩ := H
 try dsimp only at H
 have A8 := aM A80
 clear A80
 replace H := iD_ H
 obtain ⟨c9b0, H⟩ := H
 obtain ⟨y135, hy135⟩ : ∃ y_ : List (S37), y_ = (x3_1.set (x4_1 : Int).toNat (⟨t130, t131, t132, t133, t134⟩ : S37)) := ⟨_, rfl⟩
 replace H : (laws_toRobotS.l0 k1 l0 y135 (wrap64 (x4_1 + 1))) = some r := by first | (rw [hy135]; exact H) | exact H
 have Ny135 := aM hy135
 clear hy135
 have H' := aM H
 clear H
 have p129 : (0 ≤ (x4_1 : Int)) = True := et_
 have q129 : (x4_1 < (l0.length : Int)) = True := et_
 obtain ⟨ad129, e129, hx129_0, hx129_1, hx129_2, hx129_3, hx129_4⟩ := tC5_ (at_T40 HR0.out x4_1 dt_ dt_)
 cases e129
 go_wp2_with (first | ((with_reducible refine gate_callee (f := 28) rfl ?_); refine goesL_ (some 20) rfl rfl Try.func28 (by kernel_rfl) rfl #[.agg #[.int .i64 ((rd_T40 l0 x4_1).f0), .int .i64 ((rd_T40 l0 x4_1).f1), .int .i64 ((rd_T40 l0 x4_1).f2), .bool ((rd_T40 l0 x4_1).f3), .int .i64 ((rd_T40 l0 x4_1).f4)]] rfl qz2 ?_; (with_reducible refine (laws_toRobot.calls ((rd_T40 l0 x4_1).f0) ((rd_T40 l0 x4_1).f1) ((rd_T40 l0 x4_1).f2) ((rd_T40 l0 x4_1).f3) ((rd_T40 l0 x4_1).f4) t130 t131 t132 t133 t134 _ A8.out).mono ?_); rintro e w11 ⟨rfl, hb⟩; refine ⟨_, rfl, ?_⟩; replace HO_3 := aM (Kd.R_below (rr_ HO_3.out) hb); replace HB := bS_ hb; (try clear hb); have p10 : 0 ≤ (x4_1 : Int) := dt_; have q10 : (x4_1 : Int) < ((x3_1.length : Int) : Int) := dt_; obtain ⟨go10, co10, eo10, gb10, gl10, cl10, HG10⟩ := Kd.R_form HO_3.out (by omega); (first | cases eo10 | (injection eo10 with ea_ en_ ec_; (first | subst ea_ | (injection ea_ with ea_; subst ea_)); subst ec_; clear en_)); have GB10 := aM gb10; have GG10 := aM HG10; clear gb10 gl10 HG10; obtain ⟨ce10, hcl10, hM10, hcc10, hfr10⟩ := Kd.R_elem HO_3.out z37 (x4_1 : Int) p10 q10; obtain rfl := k37_openM hM10; have hx10_0 : w11.cell? ⟨go10, (x4_1 : Int).toNat * 5, none⟩ = some (.int .i64 ((rd_T37 x3_1 x4_1).f0)) := hcc10 0 _ rfl; have hx10_1 : w11.cell? ⟨go10, (x4_1 : Int).toNat * 5 + 1, none⟩ = some (.int .i64 ((rd_T37 x3_1 x4_1).f1)) := hcc10 1 _ rfl; have hx10_2 : w11.cell? ⟨go10, (x4_1 : Int).toNat * 5 + 2, none⟩ = some (.int .i64 ((rd_T37 x3_1 x4_1).f2)) := hcc10 2 _ rfl; have hx10_3 : w11.cell? ⟨go10, (x4_1 : Int).toNat * 5 + 3, none⟩ = some (.bool ((rd_T37 x3_1 x4_1).f3)) := hcc10 3 _ rfl; have hx10_4 : w11.cell? ⟨go10, (x4_1 : Int).toNat * 5 + 4, none⟩ = some (.int .i64 ((rd_T37 x3_1 x4_1).f4)) := hcc10 4 _ rfl; have hf10_0 : w11.frozen? ⟨go10, (x4_1 : Int).toNat * 5, none⟩ = false := hfr10 0; have hf10_1 : w11.frozen? ⟨go10, (x4_1 : Int).toNat * 5 + 1, none⟩ = false := hfr10 1; have hf10_2 : w11.frozen? ⟨go10, (x4_1 : Int).toNat * 5 + 2, none⟩ = false := hfr10 2; have hf10_3 : w11.frozen? ⟨go10, (x4_1 : Int).toNat * 5 + 3, none⟩ = false := hfr10 3; have hf10_4 : w11.frozen? ⟨go10, (x4_1 : Int).toNat * 5 + 4, none⟩ = false := hfr10 4; clear hcl10 hcc10 hfr10; (try clear hM10); replace p10 := eq_true p10; replace q10 := eq_true q10; have HX12 := aM (show Kd.R k37 37 w11 w.heap.size (fun _ => True) (.slice (some ⟨go10, 0, none⟩) x3_1.length co10) x3_1 from (rr_ HO_3.out)); obtain ⟨ce12, hcl12, hM12, hcc12, hfr12⟩ := Kd.R_elem HX12.out z37 (x4_1 : Int) (dt_) (by have h_ : (x4_1 : Int) < ((x3_1.length : Int) : Int) := dt_; first | exact h_ | (have e_ := (Kd.R_reads' HO_3.out).1; omega) | simpa using h_); obtain rfl := k37_openM hM12; have HP12 := Kd.R_seg HX12.out (x4_1 : Int) (dt_) (by have h_ : (x4_1 : Int) < ((x3_1.length : Int) : Int) := dt_; first | exact h_ | (have e_ := (Kd.R_reads' HO_3.out).1; omega) | simpa using h_) (seg := [.int .i64 t130, .int .i64 t131, .int .i64 t132, .bool t133, .int .i64 t134]) (j := 0) hcl12 hcc12 (show 5 ≤ 5 from by decide) (x' := (⟨t130, t131, t132, t133, t134⟩ : S37)) (k37_mkM _ _ _ (⟨t130, t131, t132, t133, t134⟩ : S37) ) (fun _ hk => hk); have hx12_0 := hcc12 0 _ rfl; (try simp only [show (k37).sz = 5 from rfl, Nat.mul_one, Nat.add_zero] at hx12_0); have hf12_0 := hfr12 0; (try simp only [show (k37).sz = 5 from rfl, Nat.mul_one, Nat.add_zero] at hf12_0); have hx12_1 := hcc12 1 _ rfl; (try simp only [show (k37).sz = 5 from rfl, Nat.mul_one, Nat.add_zero] at hx12_1); have hf12_1 := hfr12 1; (try simp only [show (k37).sz = 5 from rfl, Nat.mul_one, Nat.add_zero] at hf12_1); have hx12_2 := hcc12 2 _ rfl; (try simp only [show (k37).sz = 5 from rfl, Nat.mul_one, Nat.add_zero] at hx12_2); have hf12_2 := hfr12 2; (try simp only [show (k37).sz = 5 from rfl, Nat.mul_one, Nat.add_zero] at hf12_2); have hx12_3 := hcc12 3 _ rfl; (try simp only [show (k37).sz = 5 from rfl, Nat.mul_one, Nat.add_zero] at hx12_3); have hf12_3 := hfr12 3; (try simp only [show (k37).sz = 5 from rfl, Nat.mul_one, Nat.add_zero] at hf12_3); have hx12_4 := hcc12 4 _ rfl; (try simp only [show (k37).sz = 5 from rfl, Nat.mul_one, Nat.add_zero] at hx12_4); have hf12_4 := hfr12 4; (try simp only [show (k37).sz = 5 from rfl, Nat.mul_one, Nat.add_zero] at hf12_4); clear hcl12 hcc12 hfr12; (try clear hM12)) | ((with_reducible refine gate_store (t := 37) (p := 21) rfl ?_); refine store_event (t := 37) (p := 21) (v := ?vo_w13) (w1 := (((((w11.setCell ⟨go10, (x4_1 : Int).toNat * 5, none⟩ (.int .i64 t130)).setCell ⟨go10, (x4_1 : Int).toNat * 5 + 1, none⟩ (.int .i64 t131)).setCell ⟨go10, (x4_1 : Int).toNat * 5 + 2, none⟩ (.int .i64 t132)).setCell ⟨go10, (x4_1 : Int).toNat * 5 + 3, none⟩ (.bool t133)).setCell ⟨go10, (x4_1 : Int).toNat * 5 + 4, none⟩ (.int .i64 t134))) ?hg ?ho ?hn ?hr ?_; (case ho => rfl); (case hg => rfl); (case hn => rfl); (case hr => exact qz5); intro w13 hw; have hg : w11.grownBy w13 (some go10) := (by rw [hw]; exact HP12.2); have hp_ : Kd.R k37 37 w13 w.heap.size (fun _ => True) (.slice (some ⟨go10, 0, none⟩) x3_1.length co10) y135 := (by rw [hw, Ny135.out]; exact HP12.1); clear HP12; replace HO_3 := aM (hp_); replace HB := aM ((by rw [hw]; exact below_set (below_set (below_set (below_set (below_set (HB.out) GB10.out) GB10.out) GB10.out) GB10.out) GB10.out : Below w.heap.size w w13)); clear hg hw hp_))
 go_roundg k1
 case measure => have := HK1.out; omega
 case rel => exact ⟨(y135), (wrap64 (x4_1 + 1)), qz4, H', ⟨by have := HK1.out; omega⟩, ⟨rm_ HO_3.out⟩, ⟨qz1⟩⟩
 }
 {
 obtain rfl := Option.some.inj H
 go_wp2
 go_ret
 exact ⟨_, qzw, by (with_reducible repeat (first | apply Kd.R_alloc | apply Kd.R_drewN | apply Kd.R_drew)); exact HO_3.out, qz1⟩
 }
-- NOT PRINTED: function 93 (reflectlite_ValueOf)

-- NOT PRINTED: function 94 (reflectlite_Swapper)

-- NOT PRINTED: function 121 (sort_insertionSort_func)

-- NOT PRINTED: function 134 (sort_swapRange_func)

-- NOT PRINTED: function 131 (sort_rotate_func)

-- NOT PRINTED: function 122 (sort_symMerge_func)

-- NOT PRINTED: function 95 (sort_stable_func)

-- NOT PRINTED: function 96 (reflectlite_Value_Len)

-- NOT PRINTED: function 54 (sort_SliceStable)

end Go.Proofs.Ytankmdbbgepmbaa.PFnExactTurns
