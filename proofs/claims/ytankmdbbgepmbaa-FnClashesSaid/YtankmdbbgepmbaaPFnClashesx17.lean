-- Made by a program of this session out of the translation. Lean checks it.
import Derived.Test.YtankmdbbgepmbaaPFnClashesx7
namespace Go.Proofs.Ytankmdbbgepmbaa.PFnClashes
open Go.RowKit Go.Proofs.YtankmdbbgepmbaaW.PrintWords Go.Proofs.YtankmdbbgepmbaaW.PrintLast Go.Proofs.YtankmdbbgepmbaaW.PrintMore
set_option linter.unusedVariables false
set_option linter.unusedSimpArgs false
set_option maxHeartbeats 16000000
set_option maxRecDepth 100000

/-! ### spec_Turns: function 15 -/
mutual
def spec_Turns.l0 : Nat → List (S37) → List Int → Int → Option (List Int)
 | 0, _, _, _ => none
 | k + 1, x0, x3, x4 => if x4 < (x0.length : Int) then (if x3.length < 17592186044416 then (spec_Turns.l1 k x0 (x3 ++ [x4]) x4 (x3.length : Int)) else (none)) else (some x3)
def spec_Turns.l1 : Nat → List (S37) → List Int → Int → Int → Option (List Int)
 | 0, _, _, _, _ => none
 | k + 1, x0, x3, x4, x5 => if x5 > 0 then (if 0 ≤ (wrap64 (x5 - 1)) then (if (wrap64 (x5 - 1)) < (x3.length : Int) then (if 0 ≤ (rd x3 (wrap64 (x5 - 1))) then (if (rd x3 (wrap64 (x5 - 1))) < (x0.length : Int) then (if 0 ≤ x4 then (if x4 < (x0.length : Int) then (if ((rd_T37 x0 (rd x3 (wrap64 (x5 - 1)))).f4) < ((rd_T37 x0 x4).f4) then (if 0 ≤ x5 then (if x5 < (x3.length : Int) then (spec_Turns.l1 k x0 (x3.set (x5 : Int).toNat (rd x3 (wrap64 (x5 - 1)))) x4 (wrap64 (x5 - 1))) else (none)) else (none)) else (if ((rd_T37 x0 (rd x3 (wrap64 (x5 - 1)))).f4) = ((rd_T37 x0 x4).f4) then (if ((rd_T37 x0 (rd x3 (wrap64 (x5 - 1)))).f0) > ((rd_T37 x0 x4).f0) then (if 0 ≤ x5 then (if x5 < (x3.length : Int) then (spec_Turns.l1 k x0 (x3.set (x5 : Int).toNat (rd x3 (wrap64 (x5 - 1)))) x4 (wrap64 (x5 - 1))) else (none)) else (none)) else (if 0 ≤ x5 then (if x5 < (x3.length : Int) then (spec_Turns.l0 k x0 (x3.set (x5 : Int).toNat x4) (wrap64 (x4 + 1))) else (none)) else (none))) else (if 0 ≤ x5 then (if x5 < (x3.length : Int) then (spec_Turns.l0 k x0 (x3.set (x5 : Int).toNat x4) (wrap64 (x4 + 1))) else (none)) else (none)))) else (none)) else (none)) else (none)) else (none)) else (none)) else (none)) else (if 0 ≤ x5 then (if x5 < (x3.length : Int) then (spec_Turns.l0 k x0 (x3.set (x5 : Int).toNat x4) (wrap64 (x4 + 1))) else (none)) else (none))
end
def spec_Turns.f (k : Nat) (l0 : List (S37)) : Option (List Int) := spec_Turns.l0 k l0 (([] : List Int)) 0
theorem spec_Turns.mono_l : ∀ k, (∀ y0 y1 y2, LeO (spec_Turns.l0 k y0 y1 y2) (spec_Turns.l0 (k + 1) y0 y1 y2)) ∧ (∀ y0 y1 y2 y3, LeO (spec_Turns.l1 k y0 y1 y2 y3) (spec_Turns.l1 (k + 1) y0 y1 y2 y3))
 | 0 => ⟨fun _ _ _ r h => by simp [spec_Turns.l0] at h, fun _ _ _ _ r h => by simp [spec_Turns.l1] at h⟩
 | k + 1 => by
  obtain ⟨ih0, ih1⟩ := spec_Turns.mono_l k
  refine ⟨?_, ?_⟩
  {
  intro y0 y1 y2
  unfold spec_Turns.l0
  exact qL
  }
  {
  intro y0 y1 y2 y3
  unfold spec_Turns.l1
  exact qL
  }
theorem spec_Turns.mono : ∀ a0 k, LeO (spec_Turns.f k a0) (spec_Turns.f (k + 1) a0) := by
 intro a0 k
 obtain ⟨ih0, ih1⟩ := spec_Turns.mono_l k
 unfold spec_Turns.f
 exact qL
theorem spec_Turns.calls (k : Nat) (A0 : Option Addr) (c0 : Nat) (l0 : List (S37)) (r : List Int) (w : World) (hr0 : Kd.C k37 w A0 l0.length l0) (hc0 : l0.length ≤ c0) (h : spec_Turns.f k l0 = some r) :
  Calls Try.prog 15 #[.slice A0 l0.length c0] w fun e w' => ∃ v0_ : Value, e = .returned (v0_) ∧ Kd.R (Kd.int .i64) 3 w' w.heap.size (fun _ => True) v0_ r ∧ Below w.heap.size w w' := by
 have HR0 := aM hr0
 have HC0 := aM hc0
 clear hr0 hc0
 have HB := aM (Below.refl w.heap.size w)
 unfold spec_Turns.f at h
 have H := h
 clear h
 obtain ⟨y375, hy375⟩ : ∃ y_ : List Int, y_ = (([] : List Int)) := ⟨_, rfl⟩
 replace H : (spec_Turns.l0 k l0 y375 0) = some r := by first | (rw [hy375]; exact H) | exact H
 have Ny375 := aM hy375
 clear hy375
 have H' := aM H
 clear H
 go_enter Try.func15, Try.ntmps15
 go_wp2_with (first | ((with_reducible refine gate_dst (N := 6) rfl ?_); refine Kd.R_lit (Kd.int .i64) _ 3 ?hg (N := 6) ?hd (xs := ([] : List Int)) (inner := []) (ok := fun _ => True) (okp := fun _ => True) ?hr ?hp (fun _ hk => hk) trivial (Below.refl _ _) (Nat.le_refl _) (by simp) ?_; (case hd => rfl); (case hg => rfl); (case hr => exact qz9); (case hp => exact (Reps.none _ _)); intro v376 w2 ho3 hb hg_ hnew_; clear hg_ hnew_; (first | rw [← Ny375.out] at ho3 | (simp only [Int.reduceToNat] at ho3; rw [← Ny375.out] at ho3)); have HO377 := aM (Kd.R_lower ho3 (below_size qz1)); replace HB := bS_ hb; clear hb ho3) | go_quiet (fail))
 go_loopg [3, 4] k (fun kq v3 v4 w' => ∃ (x3_1 : List Int) (x4_1 : Int), v4 = .int .i64 x4_1 ∧ Aside0 (spec_Turns.l0 kq l0 x3_1 x4_1 = some r) ∧ Aside0 (kq ≤ k) ∧ Aside0 (Kd.R (Kd.int .i64) 3 w' w.heap.size (fun _ => True) v3 x3_1) ∧ Aside0 (Below w.heap.size w w'))
 case atStart => exact ⟨(y375), (0), qz7, H', ⟨Nat.le_refl _⟩, ⟨rr_ HO377.out⟩, ⟨qz1⟩⟩
 case round =>
 clear H'
 obtain ⟨x3_1, x4_1, rfl, HA, HK1, HO_3, HB⟩ := hrel
 cases gk with
 | zero => exact absurd HA.out (by simp [spec_Turns.l0])
 | succ k1 =>
 have H := HA.out
 clear HA
 simp only [spec_Turns.l0] at H
 replace H := iE_ H
 rcases H with ⟨c4b0, H⟩ | ⟨c4b0, H⟩
 {
 replace H := iN_ H
 obtain ⟨c5, H⟩ := H
 have LMc5 := aM c5
 clear c5
 obtain ⟨y378, hy378⟩ : ∃ y_ : List Int, y_ = (x3_1 ++ [x4_1]) := ⟨_, rfl⟩
 replace H : (spec_Turns.l1 k1 l0 y378 x4_1 (x3_1.length : Int)) = some r := by first | (rw [hy378]; exact H) | exact H
 have Ny378 := aM hy378
 clear hy378
 have H' := aM H
 clear H
 obtain ⟨Ao6, co6, eo6⟩ := Kd.R_slice HO_3.out
 subst eo6
 go_wp2_with (first | ((with_reducible refine gate_builtin (b := .append) (xs := #[.tmp 15, .tmp 17]) rfl ?_); at_builtin; refine Kd.R_append (Kd.int .i64) (w0 := w) w.heap.size rfl (.tmp 15) (.tmp 17) 24 3 (.int .i64 0) 8 rfl Try.underlying24 info3 rfl (by decide) (by omega) (.slice Ao6 x3_1.length co6) x3_1 x4_1 [.int .i64 x4_1] (fun _ => True) (fun _ => False) rfl rfl ?aP (fun _ hk => hk.elim) ?aF ?aO ?aB ?aS ?aL ?_; (case aP => exact rfl); (case aB => exact qz1); (case aF => exact qz21); (case aO => exact (rr_ HO_3.out)); (case aS => exact qz32); (case aL => have := LMc5.out; omega); intro v379 w7 ho hb hg hat; rw [← Ny378.out] at ho; replace HB := aM (hb); have HO380 := aM (ho); clear HO_3; clear ho hb hg hat) | go_quiet (fail))
 go_loopg [5] k1 (fun kq v5 w' => ∃ (x3_2 : List Int) (x5_2 : Int), v5 = .int .i64 x5_2 ∧ Aside0 (spec_Turns.l1 kq l0 x3_2 x4_1 x5_2 = some r) ∧ Aside0 (kq ≤ k1) ∧ Aside0 (Kd.R (Kd.int .i64) 3 w' w.heap.size (fun _ => True) v379 x3_2) ∧ Aside0 (Below w.heap.size w w'))
 case atStart => exact ⟨(y378), ((x3_1.length : Int)), qz7, H', ⟨Nat.le_refl _⟩, ⟨rr_ HO380.out⟩, ⟨qz1⟩⟩
 case round =>
 clear H'
 try clear c4
 try clear c4b0
 try clear c5
 obtain ⟨x3_2, x5_2, rfl, HA, HK2, HO_3, HB⟩ := hrel
 cases gk with
 | zero => exact absurd HA.out (by simp [spec_Turns.l1])
 | succ k2 =>
 have H := HA.out
 clear HA
 simp only [spec_Turns.l1] at H
 replace H := iE_ H
 rcases H with ⟨c8b0, H⟩ | ⟨c8b0, H⟩
 {
 obtain ⟨ji9, hji9⟩ : ∃ j_ : Int, (wrap64 (x5_2 - 1)) = j_ := ⟨_, rfl⟩
 replace H : (if 0 ≤ (ji9) then (if (ji9) < (x3_2.length : Int) then (if 0 ≤ (rd x3_2 (ji9)) then (if (rd x3_2 (ji9)) < (l0.length : Int) then (if 0 ≤ x4_1 then (if x4_1 < (l0.length : Int) then (if ((rd_T37 l0 (rd x3_2 (ji9))).f4) < ((rd_T37 l0 x4_1).f4) then (if 0 ≤ x5_2 then (if x5_2 < (x3_2.length : Int) then (spec_Turns.l1 k2 l0 (x3_2.set (x5_2 : Int).toNat (rd x3_2 (ji9))) x4_1 ji9) else (none)) else (none)) else (if ((rd_T37 l0 (rd x3_2 (ji9))).f4) = ((rd_T37 l0 x4_1).f4) then (if ((rd_T37 l0 (rd x3_2 (ji9))).f0) > ((rd_T37 l0 x4_1).f0) then (if 0 ≤ x5_2 then (if x5_2 < (x3_2.length : Int) then (spec_Turns.l1 k2 l0 (x3_2.set (x5_2 : Int).toNat (rd x3_2 (ji9))) x4_1 ji9) else (none)) else (none)) else (if 0 ≤ x5_2 then (if x5_2 < (x3_2.length : Int) then (spec_Turns.l0 k2 l0 (x3_2.set (x5_2 : Int).toNat x4_1) (wrap64 (x4_1 + 1))) else (none)) else (none))) else (if 0 ≤ x5_2 then (if x5_2 < (x3_2.length : Int) then (spec_Turns.l0 k2 l0 (x3_2.set (x5_2 : Int).toNat x4_1) (wrap64 (x4_1 + 1))) else (none)) else (none)))) else (none)) else (none)) else (none)) else (none)) else (none)) else (none)) = some r := by first | (rw [hji9] at H; exact H) | (simp only [hji9] at H ⊢; exact H)
 have hji9w : (IntKind.i64.wrap (x5_2 - 1)) = ji9 := (i64_w _).trans hji9
 replace H := iD_ H
 obtain ⟨c10b0, H⟩ := H
 replace H := iD_ H
 obtain ⟨c11b0, H⟩ := H
 replace H := iD_ H
 obtain ⟨c12b0, H⟩ := H
 replace H := iD_ H
 obtain ⟨c13b0, H⟩ := H
 replace H := iD_ H
 obtain ⟨c14b0, H⟩ := H
 replace H := iD_ H
 obtain ⟨c15b0, H⟩ := H
 replace H := iE_ H
 rcases H with ⟨c16b0, H⟩ | ⟨c16b0, H⟩
 {
 replace H := iD_ H
 obtain ⟨c17b0, H⟩ := H
 replace H := iD_ H
 obtain ⟨c18b0, H⟩ := H
 obtain ⟨y385, hy385⟩ : ∃ y_ : List Int, y_ = (x3_2.set (x5_2 : Int).toNat (rd x3_2 (ji9))) := ⟨_, rfl⟩
 replace H : (spec_Turns.l1 k2 l0 y385 x4_1 ji9) = some r := by first | (rw [hy385]; exact H) | exact H
 have Ny385 := aM hy385
 clear hy385
 have H' := aM H
 clear H
 obtain ⟨Ao20, co20, eo20⟩ := Kd.R_slice HO_3.out
 subst eo20
 have p381 : (0 ≤ ((ji9) : Int)) = True := et_
 have q381 : ((ji9) < (x3_2.length : Int)) = True := et_
 obtain ⟨ad381, e381, hx381_0⟩ := Kd.at_int (Kd.R_reads' HO_3.out).2.2 (ji9) dt_ dt_
 cases e381
 have p382 : (0 ≤ ((rd x3_2 (ji9)) : Int)) = True := et_
 have q382 : ((rd x3_2 (ji9)) < (l0.length : Int)) = True := et_
 obtain ⟨ad382, e382, hx382_0, hx382_1, hx382_2, hx382_3, hx382_4⟩ := tC5_ (at_T37 HR0.out (rd x3_2 (ji9)) dt_ dt_)
 cases e382
 have p383 : (0 ≤ (x4_1 : Int)) = True := et_
 have q383 : (x4_1 < (l0.length : Int)) = True := et_
 obtain ⟨ad383, e383, hx383_0, hx383_1, hx383_2, hx383_3, hx383_4⟩ := tC5_ (at_T37 HR0.out x4_1 dt_ dt_)
 obtain rfl := iJ_ e383
 have p384 : (0 ≤ ((ji9) : Int)) = True := et_
 have q384 : ((ji9) < (x3_2.length : Int)) = True := et_
 obtain ⟨ad384, e384, hx384_0⟩ := Kd.at_int (Kd.R_reads' HO_3.out).2.2 (ji9) dt_ dt_
 obtain rfl := iJ_ e384
 have p19 : 0 ≤ (x5_2 : Int) := dt_
 have q19 : (x5_2 : Int) < ((x3_2.length : Int) : Int) := dt_
 obtain ⟨go19, co19, eo19, gb19, gl19, cl19, HG19⟩ := Kd.R_form HO_3.out (by omega)
 (first | cases eo19 | (injection eo19 with ea_ en_ ec_; (first | subst ea_ | (injection ea_ with ea_; subst ea_)); subst ec_; clear en_))
 have GB19 := aM gb19
 have GG19 := aM HG19
 clear gb19 gl19 HG19
 (first | simp only [add_plain] at hx381_0 | skip)
 (first | simp only [add_plain] at hx384_0 | skip)
 obtain ⟨hx19_0, hf19_0⟩ := Kd.R_celln 0 HO_3.out (x5_2 : Int) p19 q19
 replace p19 := eq_true p19
 replace q19 := eq_true q19
 obtain ⟨hy21_, hz21_⟩ := Kd.R_celln 0 HO_3.out (x5_2 : Int) (dt_) (dt_)
 have HP21 := Kd.R_putg HO_3.out (x5_2 : Int) (rd x3_2 (ji9))
 go_wp2_with (first | ((with_reducible refine gate_store (t := 3) (p := 79) rfl ?_); (try (rw [drewN_self wr]; generalize hq_ : World.drewN wr _ = wr; replace HO_3 := aM (Kd.R_at hq_ HO_3.out); replace HB := aM (below_at hq_ HB.out); clear hq_; (try (obtain ⟨hy21_, hz21_⟩ := Kd.R_celln 0 HO_3.out (x5_2 : Int) (dt_) (dt_))); (try (have HP21 := Kd.R_putg HO_3.out (x5_2 : Int) (rd x3_2 (ji9)))))); refine store_event (t := 3) (p := 79) (v := ?vo_w22) (w1 := (wr.setCell ⟨go19, (x5_2 : Int).toNat, none⟩ (.int .i64 (rd x3_2 (ji9))))) ?hg ?ho ?hn ?hr ?_; (case ho => rfl); (case hg => rfl); (case hn => rfl); (case hr => exact qz9); intro w22 hw; have hg : wr.grownBy w22 (some go19) := (by rw [hw]; exact HP21.2); have hp_ : Kd.R (Kd.int .i64) 3 w22 w.heap.size (fun _ => True) (.slice (some ⟨go19, 0, none⟩) x3_2.length co20) y385 := (by rw [hw, Ny385.out]; exact HP21.1); clear HP21; replace HO_3 := aM (hp_); replace HB := aM ((by rw [hw]; exact below_set (HB.out) GB19.out : Below w.heap.size w w22)); clear hg hw hp_) | go_quiet (fail))
 go_roundg k2
 case measure => have := HK1.out; have := HK2.out; omega
 case rel => exact ⟨(y385), (ji9), (by first | rfl | (simp; done) | (simp only [← hji9] <;> (first | rfl | simp)) | (simp [*]; done)), H', ⟨by have := HK1.out; have := HK2.out; omega⟩, ⟨rm_ HO_3.out⟩, ⟨qz1⟩⟩
 }
 {
 replace H := iQ_ H
 rcases H with ⟨c23b0, c23b1, H⟩ | ⟨c23, c23b0, c23b1, H⟩
 {
 replace H := iE_ H
 rcases H with ⟨c24b0, H⟩ | ⟨c24b0, H⟩
 {
 replace H := iD_ H
 obtain ⟨c25b0, H⟩ := H
 replace H := iD_ H
 obtain ⟨c26b0, H⟩ := H
 obtain ⟨y393, hy393⟩ : ∃ y_ : List Int, y_ = (x3_2.set (x5_2 : Int).toNat (rd x3_2 (ji9))) := ⟨_, rfl⟩
 replace H : (spec_Turns.l1 k2 l0 y393 x4_1 ji9) = some r := by first | (rw [hy393]; exact H) | exact H
 have Ny393 := aM hy393
 clear hy393
 have H' := aM H
 clear H
 obtain ⟨Ao28, co28, eo28⟩ := Kd.R_slice HO_3.out
 subst eo28
 have p381 : (0 ≤ ((ji9) : Int)) = True := et_
 have q381 : ((ji9) < (x3_2.length : Int)) = True := et_
 obtain ⟨ad381, e381, hx381_0⟩ := Kd.at_int (Kd.R_reads' HO_3.out).2.2 (ji9) dt_ dt_
 cases e381
 have p382 : (0 ≤ ((rd x3_2 (ji9)) : Int)) = True := et_
 have q382 : ((rd x3_2 (ji9)) < (l0.length : Int)) = True := et_
 obtain ⟨ad382, e382, hx382_0, hx382_1, hx382_2, hx382_3, hx382_4⟩ := tC5_ (at_T37 HR0.out (rd x3_2 (ji9)) dt_ dt_)
 cases e382
 have p383 : (0 ≤ (x4_1 : Int)) = True := et_
 have q383 : (x4_1 < (l0.length : Int)) = True := et_
 obtain ⟨ad383, e383, hx383_0, hx383_1, hx383_2, hx383_3, hx383_4⟩ := tC5_ (at_T37 HR0.out x4_1 dt_ dt_)
 obtain rfl := iJ_ e383
 have p386 : (0 ≤ ((ji9) : Int)) = True := et_
 have q386 : ((ji9) < (x3_2.length : Int)) = True := et_
 obtain ⟨ad386, e386, hx386_0⟩ := Kd.at_int (Kd.R_reads' HO_3.out).2.2 (ji9) dt_ dt_
 obtain rfl := iJ_ e386
 have p387 : (0 ≤ ((rd x3_2 (ji9)) : Int)) = True := et_
 have q387 : ((rd x3_2 (ji9)) < (l0.length : Int)) = True := et_
 obtain ⟨ad387, e387, hx387_0, hx387_1, hx387_2, hx387_3, hx387_4⟩ := tC5_ (at_T37 HR0.out (rd x3_2 (ji9)) dt_ dt_)
 obtain rfl := iJ_ e387
 have p388 : (0 ≤ (x4_1 : Int)) = True := et_
 have q388 : (x4_1 < (l0.length : Int)) = True := et_
 obtain ⟨ad388, e388, hx388_0, hx388_1, hx388_2, hx388_3, hx388_4⟩ := tC5_ (at_T37 HR0.out x4_1 dt_ dt_)
 obtain rfl := iJ_ e388
 have p389 : (0 ≤ ((ji9) : Int)) = True := et_
 have q389 : ((ji9) < (x3_2.length : Int)) = True := et_
 obtain ⟨ad389, e389, hx389_0⟩ := Kd.at_int (Kd.R_reads' HO_3.out).2.2 (ji9) dt_ dt_
 obtain rfl := iJ_ e389
 have p390 : (0 ≤ ((rd x3_2 (ji9)) : Int)) = True := et_
 have q390 : ((rd x3_2 (ji9)) < (l0.length : Int)) = True := et_
 obtain ⟨ad390, e390, hx390_0, hx390_1, hx390_2, hx390_3, hx390_4⟩ := tC5_ (at_T37 HR0.out (rd x3_2 (ji9)) dt_ dt_)
 obtain rfl := iJ_ e390
 have p391 : (0 ≤ (x4_1 : Int)) = True := et_
 have q391 : (x4_1 < (l0.length : Int)) = True := et_
 obtain ⟨ad391, e391, hx391_0, hx391_1, hx391_2, hx391_3, hx391_4⟩ := tC5_ (at_T37 HR0.out x4_1 dt_ dt_)
 obtain rfl := iJ_ e391
 have p392 : (0 ≤ ((ji9) : Int)) = True := et_
 have q392 : ((ji9) < (x3_2.length : Int)) = True := et_
 obtain ⟨ad392, e392, hx392_0⟩ := Kd.at_int (Kd.R_reads' HO_3.out).2.2 (ji9) dt_ dt_
 obtain rfl := iJ_ e392
 have p27 : 0 ≤ (x5_2 : Int) := dt_
 have q27 : (x5_2 : Int) < ((x3_2.length : Int) : Int) := dt_
 obtain ⟨go27, co27, eo27, gb27, gl27, cl27, HG27⟩ := Kd.R_form HO_3.out (by omega)
 (first | cases eo27 | (injection eo27 with ea_ en_ ec_; (first | subst ea_ | (injection ea_ with ea_; subst ea_)); subst ec_; clear en_))
 have GB27 := aM gb27
 have GG27 := aM HG27
 clear gb27 gl27 HG27
 (first | simp only [add_plain] at hx381_0 | skip)
 (first | simp only [add_plain] at hx386_0 | skip)
 (first | simp only [add_plain] at hx389_0 | skip)
 (first | simp only [add_plain] at hx392_0 | skip)
 obtain ⟨hx27_0, hf27_0⟩ := Kd.R_celln 0 HO_3.out (x5_2 : Int) p27 q27
 replace p27 := eq_true p27
 replace q27 := eq_true q27
 obtain ⟨hy29_, hz29_⟩ := Kd.R_celln 0 HO_3.out (x5_2 : Int) (dt_) (dt_)
 have HP29 := Kd.R_putg HO_3.out (x5_2 : Int) (rd x3_2 (ji9))
 go_wp2_with (first | ((with_reducible refine gate_store (t := 3) (p := 79) rfl ?_); (try (rw [drewN_self wr]; generalize hq_ : World.drewN wr _ = wr; replace HO_3 := aM (Kd.R_at hq_ HO_3.out); replace HB := aM (below_at hq_ HB.out); clear hq_; (try (obtain ⟨hy29_, hz29_⟩ := Kd.R_celln 0 HO_3.out (x5_2 : Int) (dt_) (dt_))); (try (have HP29 := Kd.R_putg HO_3.out (x5_2 : Int) (rd x3_2 (ji9)))))); refine store_event (t := 3) (p := 79) (v := ?vo_w30) (w1 := (wr.setCell ⟨go27, (x5_2 : Int).toNat, none⟩ (.int .i64 (rd x3_2 (ji9))))) ?hg ?ho ?hn ?hr ?_; (case ho => rfl); (case hg => rfl); (case hn => rfl); (case hr => exact qz9); intro w30 hw; have hg : wr.grownBy w30 (some go27) := (by rw [hw]; exact HP29.2); have hp_ : Kd.R (Kd.int .i64) 3 w30 w.heap.size (fun _ => True) (.slice (some ⟨go27, 0, none⟩) x3_2.length co28) y393 := (by rw [hw, Ny393.out]; exact HP29.1); clear HP29; replace HO_3 := aM (hp_); replace HB := aM ((by rw [hw]; exact below_set (HB.out) GB27.out : Below w.heap.size w w30)); clear hg hw hp_) | go_quiet (fail))
 go_roundg k2
 case measure => have := HK1.out; have := HK2.out; omega
 case rel => exact ⟨(y393), (ji9), (by first | rfl | (simp; done) | (simp only [← hji9] <;> (first | rfl | simp)) | (simp [*]; done)), H', ⟨by have := HK1.out; have := HK2.out; omega⟩, ⟨rm_ HO_3.out⟩, ⟨qz1⟩⟩
 }
 {
 replace H := iD_ H
 obtain ⟨c31b0, H⟩ := H
 replace H := iD_ H
 obtain ⟨c32b0, H⟩ := H
 obtain ⟨y394, hy394⟩ : ∃ y_ : List Int, y_ = (x3_2.set (x5_2 : Int).toNat x4_1) := ⟨_, rfl⟩
 replace H : (spec_Turns.l0 k2 l0 y394 (wrap64 (x4_1 + 1))) = some r := by first | (rw [hy394]; exact H) | exact H
 have Ny394 := aM hy394
 clear hy394
 have H' := aM H
 clear H
 obtain ⟨Ao34, co34, eo34⟩ := Kd.R_slice HO_3.out
 subst eo34
 have p381 : (0 ≤ ((ji9) : Int)) = True := et_
 have q381 : ((ji9) < (x3_2.length : Int)) = True := et_
 obtain ⟨ad381, e381, hx381_0⟩ := Kd.at_int (Kd.R_reads' HO_3.out).2.2 (ji9) dt_ dt_
 cases e381
 have p382 : (0 ≤ ((rd x3_2 (ji9)) : Int)) = True := et_
 have q382 : ((rd x3_2 (ji9)) < (l0.length : Int)) = True := et_
 obtain ⟨ad382, e382, hx382_0, hx382_1, hx382_2, hx382_3, hx382_4⟩ := tC5_ (at_T37 HR0.out (rd x3_2 (ji9)) dt_ dt_)
 cases e382
 have p383 : (0 ≤ (x4_1 : Int)) = True := et_
 have q383 : (x4_1 < (l0.length : Int)) = True := et_
 obtain ⟨ad383, e383, hx383_0, hx383_1, hx383_2, hx383_3, hx383_4⟩ := tC5_ (at_T37 HR0.out x4_1 dt_ dt_)
 obtain rfl := iJ_ e383
 have p386 : (0 ≤ ((ji9) : Int)) = True := et_
 have q386 : ((ji9) < (x3_2.length : Int)) = True := et_
 obtain ⟨ad386, e386, hx386_0⟩ := Kd.at_int (Kd.R_reads' HO_3.out).2.2 (ji9) dt_ dt_
 obtain rfl := iJ_ e386
 have p387 : (0 ≤ ((rd x3_2 (ji9)) : Int)) = True := et_
 have q387 : ((rd x3_2 (ji9)) < (l0.length : Int)) = True := et_
 obtain ⟨ad387, e387, hx387_0, hx387_1, hx387_2, hx387_3, hx387_4⟩ := tC5_ (at_T37 HR0.out (rd x3_2 (ji9)) dt_ dt_)
 obtain rfl := iJ_ e387
 have p388 : (0 ≤ (x4_1 : Int)) = True := et_
 have q388 : (x4_1 < (l0.length : Int)) = True := et_
 obtain ⟨ad388, e388, hx388_0, hx388_1, hx388_2, hx388_3, hx388_4⟩ := tC5_ (at_T37 HR0.out x4_1 dt_ dt_)
 obtain rfl := iJ_ e388
 have p389 : (0 ≤ ((ji9) : Int)) = True := et_
 have q389 : ((ji9) < (x3_2.length : Int)) = True := et_
 obtain ⟨ad389, e389, hx389_0⟩ := Kd.at_int (Kd.R_reads' HO_3.out).2.2 (ji9) dt_ dt_
 obtain rfl := iJ_ e389
 have p390 : (0 ≤ ((rd x3_2 (ji9)) : Int)) = True := et_
 have q390 : ((rd x3_2 (ji9)) < (l0.length : Int)) = True := et_
 obtain ⟨ad390, e390, hx390_0, hx390_1, hx390_2, hx390_3, hx390_4⟩ := tC5_ (at_T37 HR0.out (rd x3_2 (ji9)) dt_ dt_)
 obtain rfl := iJ_ e390
 have p391 : (0 ≤ (x4_1 : Int)) = True := et_
 have q391 : (x4_1 < (l0.length : Int)) = True := et_
 obtain ⟨ad391, e391, hx391_0, hx391_1, hx391_2, hx391_3, hx391_4⟩ := tC5_ (at_T37 HR0.out x4_1 dt_ dt_)
 obtain rfl := iJ_ e391
 have p33 : 0 ≤ (x5_2 : Int) := dt_
 have q33 : (x5_2 : Int) < ((x3_2.length : Int) : Int) := dt_
 obtain ⟨go33, co33, eo33, gb33, gl33, cl33, HG33⟩ := Kd.R_form HO_3.out (by omega)
 (first | cases eo33 | (injection eo33 with ea_ en_ ec_; (first | subst ea_ | (injection ea_ with ea_; subst ea_)); subst ec_; clear en_))
 have GB33 := aM gb33
 have GG33 := aM HG33
 clear gb33 gl33 HG33
 (first | simp only [add_plain] at hx381_0 | skip)
 (first | simp only [add_plain] at hx386_0 | skip)
 (first | simp only [add_plain] at hx389_0 | skip)
 obtain ⟨hx33_0, hf33_0⟩ := Kd.R_celln 0 HO_3.out (x5_2 : Int) p33 q33
 replace p33 := eq_true p33
 replace q33 := eq_true q33
 obtain ⟨hy35_, hz35_⟩ := Kd.R_celln 0 HO_3.out (x5_2 : Int) (dt_) (dt_)
 have HP35 := Kd.R_putg HO_3.out (x5_2 : Int) x4_1
 go_wp2_with (first | ((with_reducible refine gate_store (t := 3) (p := 85) rfl ?_); (try (rw [drewN_self wr]; generalize hq_ : World.drewN wr _ = wr; replace HO_3 := aM (Kd.R_at hq_ HO_3.out); replace HB := aM (below_at hq_ HB.out); clear hq_; (try (obtain ⟨hy35_, hz35_⟩ := Kd.R_celln 0 HO_3.out (x5_2 : Int) (dt_) (dt_))); (try (have HP35 := Kd.R_putg HO_3.out (x5_2 : Int) x4_1)))); refine store_event (t := 3) (p := 85) (v := ?vo_w36) (w1 := (wr.setCell ⟨go33, (x5_2 : Int).toNat, none⟩ (.int .i64 x4_1))) ?hg ?ho ?hn ?hr ?_; (case ho => rfl); (case hg => rfl); (case hn => rfl); (case hr => exact qz9); intro w36 hw; have hg : wr.grownBy w36 (some go33) := (by rw [hw]; exact HP35.2); have hp_ : Kd.R (Kd.int .i64) 3 w36 w.heap.size (fun _ => True) (.slice (some ⟨go33, 0, none⟩) x3_2.length co34) y394 := (by rw [hw, Ny394.out]; exact HP35.1); clear HP35; replace HO_3 := aM (hp_); replace HB := aM ((by rw [hw]; exact below_set (HB.out) GB33.out : Below w.heap.size w w36)); clear hg hw hp_) | go_quiet (fail))
 go_roundg k2
 case measure => have := HK1.out; have := HK2.out; omega
 case rel => exact ⟨(y394), (wrap64 (x4_1 + 1)), qz7, H', ⟨by have := HK1.out; have := HK2.out; omega⟩, ⟨rm_ HO_3.out⟩, ⟨qz1⟩⟩
 }
 }
 {
 replace H := iD_ H
 obtain ⟨c37b0, H⟩ := H
 replace H := iD_ H
 obtain ⟨c38b0, H⟩ := H
 obtain ⟨y395, hy395⟩ : ∃ y_ : List Int, y_ = (x3_2.set (x5_2 : Int).toNat x4_1) := ⟨_, rfl⟩
 replace H : (spec_Turns.l0 k2 l0 y395 (wrap64 (x4_1 + 1))) = some r := by first | (rw [hy395]; exact H) | exact H
 have Ny395 := aM hy395
 clear hy395
 have H' := aM H
 clear H
 obtain ⟨Ao40, co40, eo40⟩ := Kd.R_slice HO_3.out
 subst eo40
 have p381 : (0 ≤ ((ji9) : Int)) = True := et_
 have q381 : ((ji9) < (x3_2.length : Int)) = True := et_
 obtain ⟨ad381, e381, hx381_0⟩ := Kd.at_int (Kd.R_reads' HO_3.out).2.2 (ji9) dt_ dt_
 cases e381
 have p382 : (0 ≤ ((rd x3_2 (ji9)) : Int)) = True := et_
 have q382 : ((rd x3_2 (ji9)) < (l0.length : Int)) = True := et_
 obtain ⟨ad382, e382, hx382_0, hx382_1, hx382_2, hx382_3, hx382_4⟩ := tC5_ (at_T37 HR0.out (rd x3_2 (ji9)) dt_ dt_)
 cases e382
 have p383 : (0 ≤ (x4_1 : Int)) = True := et_
 have q383 : (x4_1 < (l0.length : Int)) = True := et_
 obtain ⟨ad383, e383, hx383_0, hx383_1, hx383_2, hx383_3, hx383_4⟩ := tC5_ (at_T37 HR0.out x4_1 dt_ dt_)
 obtain rfl := iJ_ e383
 have p386 : (0 ≤ ((ji9) : Int)) = True := et_
 have q386 : ((ji9) < (x3_2.length : Int)) = True := et_
 obtain ⟨ad386, e386, hx386_0⟩ := Kd.at_int (Kd.R_reads' HO_3.out).2.2 (ji9) dt_ dt_
 obtain rfl := iJ_ e386
 have p387 : (0 ≤ ((rd x3_2 (ji9)) : Int)) = True := et_
 have q387 : ((rd x3_2 (ji9)) < (l0.length : Int)) = True := et_
 obtain ⟨ad387, e387, hx387_0, hx387_1, hx387_2, hx387_3, hx387_4⟩ := tC5_ (at_T37 HR0.out (rd x3_2 (ji9)) dt_ dt_)
 obtain rfl := iJ_ e387
 have p388 : (0 ≤ (x4_1 : Int)) = True := et_
 have q388 : (x4_1 < (l0.length : Int)) = True := et_
 obtain ⟨ad388, e388, hx388_0, hx388_1, hx388_2, hx388_3, hx388_4⟩ := tC5_ (at_T37 HR0.out x4_1 dt_ dt_)
 obtain rfl := iJ_ e388
 have p39 : 0 ≤ (x5_2 : Int) := dt_
 have q39 : (x5_2 : Int) < ((x3_2.length : Int) : Int) := dt_
 obtain ⟨go39, co39, eo39, gb39, gl39, cl39, HG39⟩ := Kd.R_form HO_3.out (by omega)
 (first | cases eo39 | (injection eo39 with ea_ en_ ec_; (first | subst ea_ | (injection ea_ with ea_; subst ea_)); subst ec_; clear en_))
 have GB39 := aM gb39
 have GG39 := aM HG39
 clear gb39 gl39 HG39
 (first | simp only [add_plain] at hx381_0 | skip)
 (first | simp only [add_plain] at hx386_0 | skip)
 obtain ⟨hx39_0, hf39_0⟩ := Kd.R_celln 0 HO_3.out (x5_2 : Int) p39 q39
 replace p39 := eq_true p39
 replace q39 := eq_true q39
 obtain ⟨hy41_, hz41_⟩ := Kd.R_celln 0 HO_3.out (x5_2 : Int) (dt_) (dt_)
 have HP41 := Kd.R_putg HO_3.out (x5_2 : Int) x4_1
 go_wp2_with (first | ((with_reducible refine gate_store (t := 3) (p := 85) rfl ?_); (try (rw [drewN_self wr]; generalize hq_ : World.drewN wr _ = wr; replace HO_3 := aM (Kd.R_at hq_ HO_3.out); replace HB := aM (below_at hq_ HB.out); clear hq_; (try (obtain ⟨hy41_, hz41_⟩ := Kd.R_celln 0 HO_3.out (x5_2 : Int) (dt_) (dt_))); (try (have HP41 := Kd.R_putg HO_3.out (x5_2 : Int) x4_1)))); refine store_event (t := 3) (p := 85) (v := ?vo_w42) (w1 := (wr.setCell ⟨go39, (x5_2 : Int).toNat, none⟩ (.int .i64 x4_1))) ?hg ?ho ?hn ?hr ?_; (case ho => rfl); (case hg => rfl); (case hn => rfl); (case hr => exact qz9); intro w42 hw; have hg : wr.grownBy w42 (some go39) := (by rw [hw]; exact HP41.2); have hp_ : Kd.R (Kd.int .i64) 3 w42 w.heap.size (fun _ => True) (.slice (some ⟨go39, 0, none⟩) x3_2.length co40) y395 := (by rw [hw, Ny395.out]; exact HP41.1); clear HP41; replace HO_3 := aM (hp_); replace HB := aM ((by rw [hw]; exact below_set (HB.out) GB39.out : Below w.heap.size w w42)); clear hg hw hp_) | go_quiet (fail))
 go_roundg k2
 case measure => have := HK1.out; have := HK2.out; omega
 case rel => exact ⟨(y395), (wrap64 (x4_1 + 1)), qz7, H', ⟨by have := HK1.out; have := HK2.out; omega⟩, ⟨rm_ HO_3.out⟩, ⟨qz1⟩⟩
 }
 }
 }
 {
 replace H := iD_ H
 obtain ⟨c43b0, H⟩ := H
 replace H := iD_ H
 obtain ⟨c44b0, H⟩ := H
 obtain ⟨y396, hy396⟩ : ∃ y_ : List Int, y_ = (x3_2.set (x5_2 : Int).toNat x4_1) := ⟨_, rfl⟩
 replace H : (spec_Turns.l0 k2 l0 y396 (wrap64 (x4_1 + 1))) = some r := by first | (rw [hy396]; exact H) | exact H
 have Ny396 := aM hy396
 clear hy396
 have H' := aM H
 clear H
 have p45 : 0 ≤ (x5_2 : Int) := dt_
 have q45 : (x5_2 : Int) < ((x3_2.length : Int) : Int) := dt_
 obtain ⟨go45, co45, eo45, gb45, gl45, cl45, HG45⟩ := Kd.R_form HO_3.out (by omega)
 (first | cases eo45 | (injection eo45 with ea_ en_ ec_; (first | subst ea_ | (injection ea_ with ea_; subst ea_)); subst ec_; clear en_))
 have GB45 := aM gb45
 have GG45 := aM HG45
 clear gb45 gl45 HG45
 obtain ⟨hx45_0, hf45_0⟩ := Kd.R_celln 0 HO_3.out (x5_2 : Int) p45 q45
 replace p45 := eq_true p45
 replace q45 := eq_true q45
 obtain ⟨hy46_, hz46_⟩ := Kd.R_celln 0 HO_3.out (x5_2 : Int) (dt_) (dt_)
 have HP46 := Kd.R_putg HO_3.out (x5_2 : Int) x4_1
 go_wp2_with (first | ((with_reducible refine gate_store (t := 3) (p := 85) rfl ?_); (try (rw [drewN_self wr]; generalize hq_ : World.drewN wr _ = wr; replace HO_3 := aM (Kd.R_at hq_ HO_3.out); replace HB := aM (below_at hq_ HB.out); clear hq_; (try (obtain ⟨hy46_, hz46_⟩ := Kd.R_celln 0 HO_3.out (x5_2 : Int) (dt_) (dt_))); (try (have HP46 := Kd.R_putg HO_3.out (x5_2 : Int) x4_1)))); refine store_event (t := 3) (p := 85) (v := ?vo_w47) (w1 := (wr.setCell ⟨go45, (x5_2 : Int).toNat, none⟩ (.int .i64 x4_1))) ?hg ?ho ?hn ?hr ?_; (case ho => rfl); (case hg => rfl); (case hn => rfl); (case hr => exact qz9); intro w47 hw; have hg : wr.grownBy w47 (some go45) := (by rw [hw]; exact HP46.2); have hp_ : Kd.R (Kd.int .i64) 3 w47 w.heap.size (fun _ => True) (.slice (some ⟨go45, 0, none⟩) x3_2.length co45) y396 := (by rw [hw, Ny396.out]; exact HP46.1); clear HP46; replace HO_3 := aM (hp_); replace HB := aM ((by rw [hw]; exact below_set (HB.out) GB45.out : Below w.heap.size w w47)); clear hg hw hp_) | go_quiet (fail))
 go_roundg k2
 case measure => have := HK1.out; have := HK2.out; omega
 case rel => exact ⟨(y396), (wrap64 (x4_1 + 1)), qz7, H', ⟨by have := HK1.out; have := HK2.out; omega⟩, ⟨rm_ HO_3.out⟩, ⟨qz1⟩⟩
 }
 }
 {
 obtain rfl := Option.some.inj H
 go_wp2
 repeat (go_quiet (fail); try go_wp2)
 go_ret
 exact ⟨_, qzw, by (with_reducible repeat (first | apply Kd.R_alloc | apply Kd.R_drewN | apply Kd.R_drew)); exact HO_3.out, qz1⟩
 }
-- NOT PRINTED: function 125 (spec_l8Who)

-- NOT PRINTED: function 103 (spec_l8Choose)

/-! ### spec_l8Step: function 82 -/
theorem c6_0 {w : World} {g : Nat} {t : TypeId} {a0 a1 a2 a3 a4 a5 : Value} (h : w.heap[g]? = some (.cells #[a0, a1, a2, a3, a4, a5] t (0, 0))) : w.cell? ⟨g, 0, none⟩ = some a0 := (blk_cell h 0).trans rfl
theorem c6_1 {w : World} {g : Nat} {t : TypeId} {a0 a1 a2 a3 a4 a5 : Value} (h : w.heap[g]? = some (.cells #[a0, a1, a2, a3, a4, a5] t (0, 0))) : w.cell? ⟨g, 1, none⟩ = some a1 := (blk_cell h 1).trans rfl
theorem c6_2 {w : World} {g : Nat} {t : TypeId} {a0 a1 a2 a3 a4 a5 : Value} (h : w.heap[g]? = some (.cells #[a0, a1, a2, a3, a4, a5] t (0, 0))) : w.cell? ⟨g, 2, none⟩ = some a2 := (blk_cell h 2).trans rfl
theorem c6_3 {w : World} {g : Nat} {t : TypeId} {a0 a1 a2 a3 a4 a5 : Value} (h : w.heap[g]? = some (.cells #[a0, a1, a2, a3, a4, a5] t (0, 0))) : w.cell? ⟨g, 3, none⟩ = some a3 := (blk_cell h 3).trans rfl
theorem c6_4 {w : World} {g : Nat} {t : TypeId} {a0 a1 a2 a3 a4 a5 : Value} (h : w.heap[g]? = some (.cells #[a0, a1, a2, a3, a4, a5] t (0, 0))) : w.cell? ⟨g, 4, none⟩ = some a4 := (blk_cell h 4).trans rfl
theorem c6_5 {w : World} {g : Nat} {t : TypeId} {a0 a1 a2 a3 a4 a5 : Value} (h : w.heap[g]? = some (.cells #[a0, a1, a2, a3, a4, a5] t (0, 0))) : w.cell? ⟨g, 5, none⟩ = some a5 := (blk_cell h 5).trans rfl
def spec_l8Who.l0 : Nat → List S37 → List Int → Int → Int → Option Int
 | 0, _, _, _, _ => none
 | k + 1, crew, next, c, i => if i < (crew.length : Int) then (if 0 ≤ i then (if (rd_T37 crew i).f1 = c then (if i < (next.length : Int) then (if rd next i < 0 then some i else spec_l8Who.l0 k crew next c (wrap64 (i + 1))) else none) else spec_l8Who.l0 k crew next c (wrap64 (i + 1))) else none) else some (-1)
def spec_l8Who.f (k : Nat) (crew : List S37) (next : List Int) (c : Int) : Option Int := spec_l8Who.l0 k crew next c 0
set_option maxHeartbeats 16000000 in
set_option maxRecDepth 100000 in
theorem spec_l8Who.calls (k gm : Nat) (v0 v1 v2 v4 : Value) (AC : Option Addr) (cC : Nat) (crew : List S37) (A : Option Addr) (cN : Nat) (next : List Int) (c : Int) (r : Int) (w : World) (hM : w.heap[gm]? = some (.cells #[v0, v1, v2, .slice AC crew.length cC, v4, .slice A next.length cN] 120 (0, 0))) (hR : Kd.C k37 w AC crew.length crew) (hN : Kd.C (Kd.int .i64) w A next.length next) (hl : crew.length ≤ 20) (h : spec_l8Who.f k crew next c = some r) :
  Calls Try.prog 125 #[.pointer (some ⟨gm, 0, none⟩), .int .i64 c] w fun e w' => e = .returned (.int .i64 r) ∧ Below w.heap.size w w' := by
 have hu120 := Try.underlying120
 have hu37 := Try.underlying37
 have hu26 := Try.underlying26
 have hu24 := Try.underlying24
 have HM := aM hM
 have HR := aM hR
 have HN := aM hN
 have HL := aM hl
 have H' := aM (show spec_l8Who.l0 k crew next c 0 = some r from h)
 clear h hR hN hM hl
 go_enter Try.func125, Try.ntmps125
 go_wp2
 go_loopg [5] k (fun kq v5 wl => ∃ i : Int, v5 = .int .i64 i ∧ Aside0 (spec_l8Who.l0 kq crew next c i = some r) ∧ Aside0 (kq ≤ k) ∧ Aside0 (Below w.heap.size w wl))
 case atStart => exact ⟨0, rfl, H', ⟨Nat.le_refl _⟩, ⟨Below.refl _ _⟩⟩
 case round =>
 clear H'
 obtain ⟨i, rfl, HA, HK, HB⟩ := hrel
 cases gk with
 | zero => exact absurd HA.out (by simp [spec_l8Who.l0])
 | succ k1 =>
 have H := HA.out
 clear HA
 simp only [spec_l8Who.l0] at H
 have HM1 := aM (blk_below HM.out HB.out)
 have z3 := c6_3 HM1.out
 have z5 := c6_5 HM1.out
 by_cases c1 : i < (crew.length : Int)
 case neg =>
  rw [if_neg c1] at H
  obtain rfl := Option.some.inj H
  have d1 : decide (i < (crew.length : Int)) = false := decide_eq_false c1
  go_wp2
  go_ret
  exact ⟨rfl, HB.out⟩
 rw [if_pos c1] at H
 have d1 : decide (i < (crew.length : Int)) = true := decide_eq_true c1
 by_cases c2 : 0 ≤ i
 case neg => rw [if_neg c2] at H; cases H
 rw [if_pos c2] at H
 obtain ⟨ad, ea, x0, x1, x2, x3, x4⟩ := at_T37 (Kd.C_below HR.out HB.out) i c2 c1
 subst ea
 have i20 : i < 20 := by have := HL.out; omega
 have ew : wrap64 (i + 1) = i + 1 := by unfold wrap64; omega
 rw [ew] at H
 clear ew x0 x2 x3 x4
 replace H := iS_ H
 rcases H with ⟨c3, H⟩ | ⟨c3, H⟩
 {
 have d3 : ((rd_T37 crew i).f1 == c) = true := by simpa using c3
 clear c3
 by_cases c5 : i < (next.length : Int)
 case neg => rw [if_neg c5] at H; cases H
 rw [if_pos c5] at H
 obtain ⟨an, en, xn⟩ := Kd.at_int (Kd.C_below HN.out HB.out) i c2 c5
 subst en
 replace H := iS_ H
 rcases H with ⟨c6, H⟩ | ⟨c6, H⟩
 {
 obtain rfl := Option.some.inj H
 have d6 : decide (rd next i < 0) = true := decide_eq_true c6
 clear H
 go_wp2
 go_ret
 exact ⟨rfl, HB.out⟩
 }
 {
 have d6 : decide (rd next i < 0) = false := decide_eq_false c6
 have H' := aM H
 clear H
 go_wp2
 go_roundg k1
 case measure => have := HK.out; omega
 case rel => exact ⟨i + 1, rfl, H', ⟨by have := HK.out; omega⟩, HB⟩
 }
 }
 {
 have d3 : ((rd_T37 crew i).f1 == c) = false := by simpa using c3
 have H' := aM H
 clear H c3
 go_wp2
 go_roundg k1
 case measure => have := HK.out; omega
 case rel => exact ⟨i + 1, rfl, H', ⟨by have := HK.out; omega⟩, HB⟩
 }
mutual
def spec_l8Choose.f : Nat → Int → Int → List Int → List S37 → List (List Int) → List Int → Int → Int → Option (Bool × List Int)
 | 0, _, _, _, _, _, _, _, _ => none
 | k + 1, W, H, cs, crew, fs, next, i, b => if 0 ≤ i then (if i < (crew.length : Int) then (if i < (fs.length : Int) then (spec_l7Choices.f k W H cs (rd_T37 crew i).f0 (rd_T37 crew i).f1 (rd_T37 crew i).f2 (rd_T37 crew i).f3 (rd_T37 crew i).f4 (fs.getD i.toNat [])).bind fun chs => if chs.length ≤ 1000 then spec_l8Choose.l0 k W H cs crew fs next i b chs 0 else none else none) else none) else none
def spec_l8Choose.l0 : Nat → Int → Int → List Int → List S37 → List (List Int) → List Int → Int → Int → List Int → Int → Option (Bool × List Int)
 | 0, _, _, _, _, _, _, _, _, _, _ => none
 | k + 1, W, H, cs, crew, fs, next, i, b, chs, j => if j < (chs.length : Int) then (if 0 ≤ j then (spec_l6Among.f k next (rd chs j)).bind fun t => if t = true then spec_l8Choose.l0 k W H cs crew fs next i b chs (wrap64 (j + 1)) else
   (if rd chs j = b then spec_l8Choose.l0 k W H cs crew fs next i b chs (wrap64 (j + 1)) else spec_l8Choose.j1 k W H cs crew fs next i b chs j) else none)
  else (if i < (next.length : Int) then some (false, next.set i.toNat (rd_T37 crew i).f1) else none)
def spec_l8Choose.j1 : Nat → Int → Int → List Int → List S37 → List (List Int) → List Int → Int → Int → List Int → Int → Option (Bool × List Int)
 | 0, _, _, _, _, _, _, _, _, _, _ => none
 | k + 1, W, H, cs, crew, fs, next, i, b, chs, j => if i < (next.length : Int) then (spec_l8Who.f k crew (next.set i.toNat (rd chs j)) (rd chs j)).bind fun o => if 0 ≤ o then (spec_l8Choose.f k W H cs crew fs (next.set i.toNat (rd chs j)) o (rd_T37 crew i).f1).bind fun q => if q.1 = true then some (true, q.2) else spec_l8Choose.l0 k W H cs crew fs q.2 i b chs (wrap64 (j + 1)) else some (true, next.set i.toNat (rd chs j)) else none
end
def spec_l8Choose.T2 : Bool × List (List Nat × List Nat) := (true, [([], []), ([0], [0]), ([1], [1]), ([2], [2]), ([], []), ([], []), ([5], [5]), ([6], [6]), ([7], [7]), ([], []), ([8, 9], [8, 9]), ([10], [10]), ([3, 4, 11], [3, 4, 11]), ([12, 12, 0, 1, 2, 3, 4, 5, 6, 7, 8, 9, 10, 11, 12], [12])])
def spec_l8Choose.B2 : List Nat := [0, 1, 3, 7, 0, 0, 32, 96, 224, 0, 992, 2016, 4095, 8191]
theorem spec_l8Choose.tab2 : rtab .any (opsOf Try.f103 2) = spec_l8Choose.T2 := by kernel_rfl
theorem spec_l8Choose.bits2 : waitsOk spec_l8Choose.T2.2 spec_l8Choose.B2 = true := by kernel_rfl
def spec_l8Choose.T12 : Bool × List (List Nat × List Nat) := (true, [([], []), ([0], [0]), ([1], [1]), ([2], [2]), ([], []), ([], []), ([5], [5]), ([3, 4, 0, 1, 2, 3, 4, 5, 6], [3, 4]), ([7, 6, 0, 1, 2, 3, 4, 5, 6], [6, 7])])
def spec_l8Choose.B12 : List Nat := [0, 1, 3, 7, 0, 0, 32, 127, 255]
theorem spec_l8Choose.tab12 : rtab .any (opsOf Try.f103 12) = spec_l8Choose.T12 := by kernel_rfl
theorem spec_l8Choose.bits12 : waitsOk spec_l8Choose.T12.2 spec_l8Choose.B12 = true := by kernel_rfl
def spec_l8Choose.Says (k : Nat) : Prop := ∀ (w0 w : World) (gm gn : Nat) (W H : Int) (AF : Option Addr) (cF : Nat) (cs : List Int) (AC : Option Addr) (cC : Nat) (crew : List S37) (AD : Option Addr) (cD : Nat) (fs : List (List Int)) (n cn : Nat) (next : List Int) (i b : Int) (r1 : Bool) (r2 : List Int), gm ≠ gn → crew.length ≤ 20 →
 Kd.C (Kd.int .i64) w0 AF cs.length cs → cs.length ≤ cF → Kd.C k37 w0 AC crew.length crew → w.heap[gm]? = some (.cells #[.int .i64 W, .int .i64 H, .slice AF cs.length cF, .slice AC crew.length cC, .slice AD fs.length cD, .slice (some ⟨gn, 0, none⟩) n cn] 120 (0, 0)) →
 Kd.R (Kd.int .i64) 3 w w0.heap.size (fun _ => True) (.slice (some ⟨gn, 0, none⟩) n cn) next → Kd.R (Kd.slice 3 (Kd.int .i64)) 24 w w0.heap.size (fun k => k ≠ gn) (.slice AD fs.length cD) fs → Below w0.heap.size w0 w → spec_l8Choose.f k W H cs crew fs next i b = some (r1, r2) →
 Calls Try.prog 103 #[.pointer (some ⟨gm, 0, none⟩), .int .i64 i, .int .i64 b] w fun e w' => e = .returned (.bool r1) ∧ Kd.R (Kd.int .i64) 3 w' w0.heap.size (fun _ => True) (.slice (some ⟨gn, 0, none⟩) n cn) r2 ∧ Below w0.heap.size w0 w' ∧ KeepBut w w' gn none
theorem spec_l6Among.callsn (k : Nat) (A : Option Addr) (n c : Nat) (l : List Int) (a : Int) (r : Bool) (w : World) (hn : n = l.length) (hr : Kd.C (Kd.int .i64) w A l.length l) (hc : l.length ≤ c) (h : spec_l6Among.f k l a = some r) : Calls Try.prog 77 #[.slice A n c, .int .i64 a] w fun e w' => e = .returned (.bool r) ∧ Drawn0 w w' := by
 subst hn
 exact spec_l6Among.calls k A c l a r w hr hc h
set_option maxHeartbeats 16000000 in
set_option maxRecDepth 100000 in
theorem spec_l8Choose.step (k : Nat) (ih : ∀ k', k' < k → spec_l8Choose.Says k') : spec_l8Choose.Says k := by
 intro w0 w gm gn W H AF cF cs AC cC crew AD cD fs n cn next i b r1 r2 hne hl hF hcF hR hM hN hD hB h
 have hu120 := Try.underlying120
 have hu118 := Try.underlying118
 have hu37 := Try.underlying37
 have hu26 := Try.underlying26
 have hu24 := Try.underlying24
 have hu43 := Try.underlying43
 cases k with
 | zero => exact absurd h (by simp [spec_l8Choose.f])
 | succ k =>
 simp only [spec_l8Choose.f] at h
 by_cases i0 : 0 ≤ i
 case neg => rw [if_neg i0] at h; cases h
 rw [if_pos i0] at h
 by_cases i1 : i < (crew.length : Int)
 case neg => rw [if_neg i1] at h; cases h
 rw [if_pos i1] at h
 by_cases i2 : i < (fs.length : Int)
 case neg => rw [if_neg i2] at h; cases h
 rw [if_pos i2] at h
 replace h := Option.bind_eq_some_iff.mp h
 obtain ⟨chs, hch, h⟩ := h
 by_cases hcl : chs.length ≤ 1000
 case neg => rw [if_neg hcl] at h; cases h
 rw [if_pos hcl] at h
 have H' := aM h
 have HCH := aM hch
 have HCL := aM hcl
 have HNE := aM hne
 have HL := aM hl
 have HF := aM hF
 have HCF := aM hcF
 have HR := aM hR
 have HM := aM hM
 have HN := aM hN
 have HD := aM hD
 have HB := aM hB
 have IH := aM ih
 have hn_ := (Kd.R_reads' hN).1
 have HNN := aM hn_
 have HS := aM (show w0.heap.size ≤ w.heap.size from below_size hB)
 clear h hch hcl hne hl hF hcF hR hM hN hD hB ih hn_
 obtain ⟨adC, eC, x0, x1, x2, x3, x4⟩ := at_T37 (Kd.C_below HR.out HB.out) i i0 i1
 subst eC
 obtain ⟨gd, capd, ed, hgd, _, _⟩ := Kd.R_form HD.out (by omega)
 injection ed with ed1 ed2 ed3
 subst ed1
 subst ed3
 clear ed2
 have z3 := c6_3 HM.out
 have I0 := aM (And.intro i0 i1)
 go_enter Try.func103, Try.ntmps103
 go_upto_region 2 with ((with_reducible refine gate_dst (N := 7) rfl ?_); refine box_event rfl (N := 7) rfl (cs := #[.int .i64 0, .int .i64 0, .int .i64 0, .bool false, .int .i64 0]) (t := 37) ?hr ?_; (case hr => exact qz9); intro g8 hg w8 hbx hb; have BK8 := aM hbx; have G8 := aM (by rw [hg]; exact Nat.le_refl _ : w.heap.size ≤ g8); have B8 := aM hb; clear hbx hb hg; have y0 := c5_0 BK8.out; have y1 := c5_1 BK8.out; have y2 := c5_2 BK8.out; have y3 := c5_3 BK8.out; have y4 := c5_4 BK8.out; have yf0 := blk_frozen BK8.out 0; have yf1 := blk_frozen BK8.out 1; have yf2 := blk_frozen BK8.out 2; have yf3 := blk_frozen BK8.out 3; have yf4 := blk_frozen BK8.out 4)
 have BK9 := aM (blk_put5 BK8.out (.int .i64 (rd_T37 crew i).f0) (.int .i64 (rd_T37 crew i).f1) (.int .i64 (rd_T37 crew i).f2) (.bool (rd_T37 crew i).f3) (.int .i64 (rd_T37 crew i).f4))
 have B9 := aM (below_put5 B8.out G8.out (.int .i64 (rd_T37 crew i).f0) (.int .i64 (rd_T37 crew i).f1) (.int .i64 (rd_T37 crew i).f2) (.bool (rd_T37 crew i).f3) (.int .i64 (rd_T37 crew i).f4))
 generalize (((((w8.setCell ⟨g8, 0, none⟩ (.int .i64 (rd_T37 crew i).f0)).setCell ⟨g8, 1, none⟩ (.int .i64 (rd_T37 crew i).f1)).setCell ⟨g8, 2, none⟩ (.int .i64 (rd_T37 crew i).f2)).setCell ⟨g8, 3, none⟩ (.bool (rd_T37 crew i).f3)).setCell ⟨g8, 4, none⟩ (.int .i64 (rd_T37 crew i).f4)) = w9 at BK9 B9 ⊢
 have GN : Aside0 (gn < w.heap.size) := ⟨Kd.R_lt HN.out gn rfl⟩
 have NG : Aside0 (g8 ≠ gn) := ⟨by have := GN.out; have := G8.out; omega⟩
 have HK := aM (KeepBut.of_below B9.out gn none)
 replace HM := aM (blk_below HM.out B9.out)
 replace HN := aM (Kd.R_below HN.out B9.out)
 replace HD := aM (Kd.R_below HD.out B9.out)
 replace HB := aM (below_step HB.out B9.out)
 clear y0 y1 y2 y3 y4 yf0 yf1 yf2 yf3 yf4 z3 x0 x1 x2 x3 x4 BK8 B8
 have z0 := c6_0 HM.out
 have z1 := c6_1 HM.out
 have z2 := c6_2 HM.out
 have z4 := c6_4 HM.out
 have y0 := c5_0 BK9.out
 have y1 := c5_1 BK9.out
 have y2 := c5_2 BK9.out
 have y3 := c5_3 BK9.out
 have y4 := c5_4 BK9.out
 obtain ⟨cs_, hcl_, hM_, hcc_, hfr_⟩ := Kd.R_elem HD.out [] i i0 i2
 obtain ⟨vr, rfl, hvr⟩ := hM_
 obtain ⟨fr, hfr⟩ : ∃ fr : List Int, fr = fs.getD i.toNat [] := ⟨_, rfl⟩
 rw [← hfr] at hvr HCH
 clear hfr
 obtain ⟨Ar, cr, rfl⟩ := Kd.R_slice hvr
 have HVR := aM hvr
 have xd := hcc_ 0 _ rfl
 rw [show (Kd.slice 3 (Kd.int .i64)).sz = 1 from rfl, Nat.mul_one, Nat.add_zero] at xd
 clear hcl_ hcc_ hfr_ hvr
 refine start_ (n := 14) (S := fun w' => w'.cell? ⟨gm, 0, none⟩ = some (.int .i64 W) ∧ w'.cell? ⟨gm, 1, none⟩ = some (.int .i64 H) ∧ w'.cell? ⟨gm, 2, none⟩ = some (.slice AF cs.length cF) ∧ w'.cell? ⟨gm, 4, none⟩ = some (.slice (some ⟨gd, 0, none⟩) fs.length cD) ∧ w'.cell? ⟨g8, 0, none⟩ = some (.int .i64 (rd_T37 crew i).f0) ∧ w'.cell? ⟨g8, 1, none⟩ = some (.int .i64 (rd_T37 crew i).f1) ∧ w'.cell? ⟨g8, 2, none⟩ = some (.int .i64 (rd_T37 crew i).f2) ∧ w'.cell? ⟨g8, 3, none⟩ = some (.bool (rd_T37 crew i).f3) ∧ w'.cell? ⟨g8, 4, none⟩ = some (.int .i64 (rd_T37 crew i).f4) ∧ w'.cell? ⟨gd, i.toNat, none⟩ = some (.slice Ar fr.length cr)) (ds := []) #[false, false, false, false, false, false, false, false, false, false, false, false, false, false] (by kernel_rfl) rfl rfl ⟨z0, z1, z2, z4, y0, y1, y2, y3, y4, xd⟩ (fun hHeld => ?_); refine with_tabW spec_l8Choose.tab2 spec_l8Choose.bits2 (fun HT_ HW_ => ?_)
 refine pI_ 0 (bqz 14 1) ?_
 refine jI_ 1 ?_
 refine jI_ 2 ?_
 refine jI_ 5 ?_
 refine jI_ 6 ?_
 refine jI_ 7 ?_
 refine jI_ 9 ?_
 refine sI10_ 3 ?_
 refine sI10_ 4 ?_
 refine sI10_ 8 ?_
 refine jI_ 10 ?_
 refine sI10_ 11 ?_
 clear z0 z1 z2 z4 y0 y1 y2 y3 y4 xd
 replace HM := aM (blk_drew HM.out)
 replace BK9 := aM (blk_drew BK9.out)
 replace HN := aM (Kd.R_drew HN.out)
 replace HD := aM (Kd.R_drew HD.out)
 replace HVR := aM (Kd.R_drew HVR.out)
 replace HB := aM (below_drew HB.out)
 replace HK := aM (keep_drew HK.out)
 refine oI_ 12 31 (bqz 14 8191) (fun K hK => ?_)
 refine goes_ Try.func62 (by kernel_rfl) rfl #[.agg #[.int .i64 W, .int .i64 H, .slice AF cs.length cF], .agg #[.int .i64 (rd_T37 crew i).f0, .int .i64 (rd_T37 crew i).f1, .int .i64 (rd_T37 crew i).f2, .bool (rd_T37 crew i).f3, .int .i64 (rd_T37 crew i).f4], .slice Ar fr.length cr] (by rfl) rfl rfl qz30 ?_
 refine (spec_l7Choices.calls k W H AF cF cs _ _ _ _ _ Ar cr fr chs _ (Kd.C_below HF.out HB.out) HCF.out (Kd.R_reads' HVR.out).2.2 (Kd.R_reads' HVR.out).2.1 HCH.out).mono ?_
 rintro e w1 ⟨vc, rfl, hc, hb⟩
 refine ⟨_, rfl, ?_⟩
 obtain ⟨Ac, cc, rfl⟩ := Kd.R_slice hc
 have HCR := aM hc
 have GW := aM (Nat.lt_of_lt_of_le GN.out HK.out.1)
 replace HM := aM (blk_below HM.out hb)
 replace BK9 := aM (blk_below BK9.out hb)
 replace HN := aM (Kd.R_below HN.out hb)
 replace HD := aM (Kd.R_below HD.out hb)
 replace HB := aM (below_step HB.out hb)
 have XB := aM hb
 replace HK := aM (KeepBut.trans HK.out (KeepBut.of_below hb gn none) (.inl rfl))
 clear hc hb HVR
 refine hK.out _ _ ⟨c6_0 HM.out, c6_1 HM.out, c6_2 HM.out, c6_4 HM.out, c5_0 BK9.out, c5_1 BK9.out, c5_2 BK9.out, c5_3 BK9.out, c5_4 BK9.out, pw_cell_below XB.out hHeld.2.2.2.2.2.2.2.2.2⟩ (fun hHeld => ?_)
 clear hK K
 refine nm_ 31 ?_
 refine jI_ 13 ?_
 refine dN_ ?_
 clear hHeld XB
 have FC := aM (show ∀ ad, Ac = some ad → 0 < chs.length → ad.block ≠ gn from fun ad (e : Ac = some ad) (hp : 0 < chs.length) => far_slice (g := gn) (by intro e2; have h2 := Kd.R_base HCR.out gn e2.symm; exact absurd GW.out (Nat.not_lt.mpr h2) : some gn ≠ (Value.slice Ac chs.length cc).ownBlock) ad e hp)
 have HCC := aM (Kd.R_reads' HCR.out).2.2
 have HK1 := aM (KeepBut.refl w1 gn none)
 clear GW HCR
 go_wp2
 go_loopg [9] k (fun kq v9 wl => ∃ (nx : List Int) (j : Int), v9 = .int .i64 j ∧ Aside0 (spec_l8Choose.l0 kq W H cs crew fs nx i b chs j = some (r1, r2)) ∧ Aside0 (kq ≤ k) ∧ Aside0 (Kd.R (Kd.int .i64) 3 wl w0.heap.size (fun _ => True) (.slice (some ⟨gn, 0, none⟩) n cn) nx) ∧ Aside0 (Below w0.heap.size w0 wl) ∧ Aside0 (KeepBut w1 wl gn none))
 case atStart => exact ⟨next, 0, rfl, H', ⟨Nat.le_refl _⟩, HN, HB, HK1⟩
 case round =>
 clear H' HN HB HK1
 obtain ⟨nx, j, rfl, HA, HKQ, HN, HB, HK1⟩ := hrel
 cases gk with
 | zero => exact absurd HA.out (by simp [spec_l8Choose.l0])
 | succ k1 =>
 have H_ := HA.out
 clear HA
 simp only [spec_l8Choose.l0] at H_
 have HNL := aM ((Kd.R_reads' HN.out).1)
 replace HM := aM (KeepBut.blk HK1.out HM.out HNE.out (by simp))
 replace BK9 := aM (KeepBut.blk HK1.out BK9.out NG.out (by simp))
 replace HD := aM (Kd.R_step HD.out (fun k ho hl => HK1.out.2 k hl ho (by simp)))
 have z5 := c6_5 HM.out
 have y1 := c5_1 BK9.out
 by_cases c1 : j < (chs.length : Int)
 case neg =>
  rw [if_neg c1] at H_
  have d1 : decide (j < (chs.length : Int)) = false := decide_eq_false c1
  by_cases c2 : i < (nx.length : Int)
  case neg => rw [if_neg c2] at H_; cases H_
  rw [if_pos c2] at H_
  simp only [Option.some.injEq, Prod.mk.injEq] at H_
  obtain ⟨rfl, rfl⟩ := H_
  have LX := aM c2
  clear c2 c1
  go_upto_region 12 with (fail)
  have in_ : i < (n : Int) := by have := HNL.out; have := LX.out; omega
  clear d1
  refine start_ (n := 9) (S := fun w' => w'.cell? ⟨gm, 5, none⟩ = some (.slice (some ⟨gn, 0, none⟩) n cn) ∧ w'.cell? ⟨g8, 1, none⟩ = some (.int .i64 (rd_T37 crew i).f1)) (ds := [8]) #[false, false, false, false, false, false, false, false, false] (by kernel_rfl) rfl rfl ⟨z5, y1⟩ (fun hHeld => ?_); refine with_tabW spec_l8Choose.tab12 spec_l8Choose.bits12 (fun HT_ HW_ => ?_)
  refine pI_ 0 (bqz 9 1) ?_
  refine jI_ 1 ?_
  refine jI_ 2 ?_
  refine jI_ 4 ?_
  refine jI_ 5 ?_
  refine sI2_ 3 ?_
  refine sI2_ 6 ?_
  refine jI_ 7 ?_
  have HN' := aM (Kd.R_drew HN.out)
  have HB' := aM (below_drew HB.out)
  have HK' := aM (keep_drew HK1.out)
  obtain ⟨cs_, hcl_, hM_, hcc_, hfr_⟩ := Kd.R_elem HN'.out 0 i i0 in_
  obtain rfl := hM_
  have xg := hcc_ 0 _ rfl
  have fg := hfr_ 0
  rw [show (Kd.int .i64).sz = 1 from rfl, Nat.mul_one, Nat.add_zero] at xg fg
  clear hcl_ hcc_ hfr_
  refine last_ (i := 8) (N := none) (bqz 9 511) rfl rfl qzc (by decide) (fun K hK => ?_)
  refine sk_ ?_
  refine hK.out _ _ ?_
  clear hK K
  refine dN_ ?_
  clear xg fg hHeld z5
  go_wp2
  go_ret
  exact ⟨rfl, Kd.R_putn HN'.out i (rd_T37 crew i).f1, below_set HB'.out (Kd.R_base HN'.out gn rfl), KeepBut.trans HK.out (KeepBut.set_ HK'.out i.toNat (.int .i64 (rd_T37 crew i).f1)) (.inl rfl)⟩
 rw [if_pos c1] at H_
 have d1 : decide (j < (chs.length : Int)) = true := decide_eq_true c1
 by_cases c2 : 0 ≤ j
 case neg => rw [if_neg c2] at H_; cases H_
 rw [if_pos c2] at H_
 replace H_ := Option.bind_eq_some_iff.mp H_
 obtain ⟨tk, htk, H_⟩ := H_
 have HTK := aM htk
 clear htk
 obtain ⟨adc, ec, xc⟩ := Kd.at_int (C_keepI HCC.out HK1.out FC.out) j c2 c1
 cases ec
 obtain ⟨cv, hcv⟩ : ∃ cv : Int, cv = rd chs j := ⟨_, rfl⟩
 rw [← hcv] at H_ HTK xc
 have CV := aM hcv
 clear hcv
 have ew : wrap64 (j + 1) = j + 1 := by have := HCL.out; unfold wrap64; omega
 rw [ew] at H_
 have EW := aM ew
 clear ew
 have j1000 : j < 1000 := by have := HCL.out; omega
 cases tk with
 | true =>
  rw [if_pos rfl] at H_
  have H' := aM H_
  clear H_
  go_wp2_with (go_at_call 77; (with_reducible refine (spec_l6Among.callsn k1 _ n cn nx cv true _ HNL.out (by have h_ := (Kd.R_reads' HN.out).2.2; exact h_) (by have h_ := (Kd.R_reads' HN.out).2.1; have := HNL.out; omega) HTK.out).mono ?_); rintro e w2 ⟨rfl, ⟨nd, rfl⟩⟩)
  go_roundg k1
  case measure => have := HKQ.out; omega
  case rel => exact ⟨nx, j + 1, rfl, H', ⟨by have := HKQ.out; omega⟩, ⟨Kd.R_drewN HN.out nd⟩, ⟨pw_below_drewN HB.out nd⟩, ⟨keep_drewN HK1.out nd⟩⟩
 | false =>
  rw [if_neg (by decide)] at H_
  by_cases c3 : cv = b
  {
  rw [if_pos c3] at H_
  have d3 : (cv == b) = true := by simpa using c3
  have H' := aM H_
  clear H_ c3
  go_wp2_with (go_at_call 77; (with_reducible refine (spec_l6Among.callsn k1 _ n cn nx cv false _ HNL.out (by have h_ := (Kd.R_reads' HN.out).2.2; exact h_) (by have h_ := (Kd.R_reads' HN.out).2.1; have := HNL.out; omega) HTK.out).mono ?_); rintro e w2 ⟨rfl, ⟨nd, rfl⟩⟩)
  go_roundg k1
  case measure => have := HKQ.out; omega
  case rel => exact ⟨nx, j + 1, rfl, H', ⟨by have := HKQ.out; omega⟩, ⟨Kd.R_drewN HN.out nd⟩, ⟨pw_below_drewN HB.out nd⟩, ⟨keep_drewN HK1.out nd⟩⟩
  }
  {
  rw [if_neg c3] at H_
  have d3 : (cv == b) = false := by simpa using c3
  clear c3
  obtain ⟨k2, rfl⟩ : ∃ k2, k1 = k2 + 1 := by
   cases k1 with
   | zero => exact absurd H_ (by simp [spec_l8Choose.j1])
   | succ k2 => exact ⟨k2, rfl⟩
  simp only [spec_l8Choose.j1] at H_
  by_cases c5 : i < (nx.length : Int)
  case neg => rw [if_neg c5] at H_; cases H_
  rw [if_pos c5, ← CV.out] at H_
  replace H_ := Option.bind_eq_some_iff.mp H_
  obtain ⟨o, ho, H_⟩ := H_
  obtain ⟨nx2, hnx2⟩ : ∃ nx2 : List Int, nx2 = nx.set i.toNat cv := ⟨_, rfl⟩
  rw [← hnx2] at H_ ho
  have HO := aM ho
  have NX := aM hnx2
  clear ho hnx2
  have in_ : i < (n : Int) := by have := HNL.out; omega
  clear c5
  obtain ⟨cs_, hcl_, hM_, hcc_, hfr_⟩ := Kd.R_elem HN.out 0 i i0 in_
  obtain rfl := hM_
  have xg := hcc_ 0 _ rfl
  have fg := hfr_ 0
  rw [show (Kd.int .i64).sz = 1 from rfl, Nat.mul_one, Nat.add_zero] at xg fg
  clear hcl_ hcc_ hfr_
  go_upto_region 9 with (go_at_call 77; (with_reducible refine (spec_l6Among.callsn (k2 + 1) _ n cn nx cv false _ HNL.out (by have h_ := (Kd.R_reads' HN.out).2.2; exact h_) (by have h_ := (Kd.R_reads' HN.out).2.1; have := HNL.out; omega) HTK.out).mono ?_); rintro e w2 ⟨rfl, ⟨nd, rfl⟩⟩)
  have HN2 := aM (show Kd.R (Kd.int .i64) 3 _ w0.heap.size (fun _ => True) (.slice (some ⟨gn, 0, none⟩) n cn) _ from Kd.R_putn (Kd.R_drewN HN.out nd) i cv)
  rw [← NX.out] at HN2
  have HM2 := aM (blk_far (p := ⟨gn, i.toNat, none⟩) (blk_drewN HM.out nd) HNE.out (.int .i64 cv))
  have BK2 := aM (blk_far (p := ⟨gn, i.toNat, none⟩) (blk_drewN BK9.out nd) NG.out (.int .i64 cv))
  have HB2 := aM (below_set (pw_below_drewN HB.out nd) (g := gn) (j := i.toNat) (v := .int .i64 cv) (Kd.R_base HN.out gn rfl))
  have HK2 := aM (KeepBut.set_ (keep_drewN HK1.out nd) i.toNat (.int .i64 cv))
  have HD2 := aM (Kd.R_far (p := ⟨gn, i.toNat, none⟩) (Kd.R_drewN HD.out nd) (fun k h => h) (.int .i64 cv))
  generalize (wr.drewN nd).setCell ⟨gn, i.toNat, none⟩ (.int .i64 cv) = w2 at HN2 HM2 BK2 HB2 HK2 HD2 ⊢
  clear xg fg HN HB HK1 HM HD BK9 z5 xc d1 y1
  have HNL2 := aM ((Kd.R_reads' HN2.out).1)
  by_cases o0 : 0 ≤ o
  case neg =>
   rw [if_neg o0] at H_
   simp only [Option.some.injEq, Prod.mk.injEq] at H_
   obtain ⟨rfl, rfl⟩ := H_
   have do_ : decide (o ≥ 0) = false := decide_eq_false o0
   have do2_ : decide (0 ≤ o) = false := decide_eq_false o0
   clear HNL NX
   go_wp2_with (go_at_call 125; (with_reducible refine (spec_l8Who.calls k2 gm _ _ _ _ _ cC crew _ cn nx2 cv o _ (by rw [← HNL2.out]; exact HM2.out) (Kd.C_below HR.out HB2.out) (by have h_ := (Kd.R_reads' HN2.out).2.2; exact h_) HL.out HO.out).mono ?_); rintro e w3 ⟨rfl, hb⟩; replace HN2 := aM (Kd.R_below HN2.out hb); replace HB2 := aM (below_step HB2.out hb); replace HK2 := aM (KeepBut.trans HK2.out (KeepBut.of_below hb gn none) (.inl rfl)); clear hb)
   go_ret
   exact ⟨rfl, HN2.out, HB2.out, KeepBut.trans HK.out HK2.out (.inl rfl)⟩
  rw [if_pos o0] at H_
  have do_ : decide (o ≥ 0) = true := decide_eq_true o0
  have do2_ : decide (0 ≤ o) = true := decide_eq_true o0
  replace H_ := Option.bind_eq_some_iff.mp H_
  obtain ⟨⟨q1, q2⟩, hq, H_⟩ := H_
  have HQ := aM hq
  clear hq
  dsimp only at H_
  cases q1 with
  | true =>
   rw [if_pos rfl] at H_
   simp only [Option.some.injEq, Prod.mk.injEq] at H_
   obtain ⟨rfl, rfl⟩ := H_
   go_wp2_with (first
    | (go_at_call 125; (with_reducible refine (spec_l8Who.calls k2 gm _ _ _ _ _ cC crew _ cn nx2 cv o _ (by rw [← HNL2.out]; exact HM2.out) (Kd.C_below HR.out HB2.out) (by have h_ := (Kd.R_reads' HN2.out).2.2; exact h_) HL.out HO.out).mono ?_); rintro e w3 ⟨rfl, hb⟩; replace HN2 := aM (Kd.R_below HN2.out hb); replace HM2 := aM (blk_below HM2.out hb); replace BK2 := aM (blk_below BK2.out hb); replace HD2 := aM (Kd.R_below HD2.out hb); replace HB2 := aM (below_step HB2.out hb); replace HK2 := aM (KeepBut.trans HK2.out (KeepBut.of_below hb gn none) (.inl rfl)); clear hb; have y1 := c5_1 BK2.out)
    | (go_at_call 103; refine (IH.out k2 (by have := HKQ.out; omega) w0 _ gm gn W H AF cF cs (some adC) cC crew (some ⟨gd, 0, none⟩) cD fs n cn nx2 o (rd_T37 crew i).f1 _ q2 HNE.out HL.out HF.out HCF.out HR.out HM2.out HN2.out HD2.out HB2.out HQ.out).mono ?_; rintro e w4 ⟨rfl, hn, hb, hk⟩; replace HN2 := aM hn; replace HB2 := aM hb; replace HK2 := aM (KeepBut.trans HK2.out hk (.inl rfl)); clear hn hb hk))
   go_ret
   exact ⟨rfl, HN2.out, HB2.out, KeepBut.trans HK.out HK2.out (.inl rfl)⟩
  | false =>
   rw [if_neg nF_, EW.out] at H_
   have H' := aM H_
   clear H_
   go_wp2_with (first
    | (go_at_call 125; (with_reducible refine (spec_l8Who.calls k2 gm _ _ _ _ _ cC crew _ cn nx2 cv o _ (by rw [← HNL2.out]; exact HM2.out) (Kd.C_below HR.out HB2.out) (by have h_ := (Kd.R_reads' HN2.out).2.2; exact h_) HL.out HO.out).mono ?_); rintro e w3 ⟨rfl, hb⟩; replace HN2 := aM (Kd.R_below HN2.out hb); replace HM2 := aM (blk_below HM2.out hb); replace BK2 := aM (blk_below BK2.out hb); replace HD2 := aM (Kd.R_below HD2.out hb); replace HB2 := aM (below_step HB2.out hb); replace HK2 := aM (KeepBut.trans HK2.out (KeepBut.of_below hb gn none) (.inl rfl)); clear hb; have y1 := c5_1 BK2.out)
    | (go_at_call 103; refine (IH.out k2 (by have := HKQ.out; omega) w0 _ gm gn W H AF cF cs (some adC) cC crew (some ⟨gd, 0, none⟩) cD fs n cn nx2 o (rd_T37 crew i).f1 _ q2 HNE.out HL.out HF.out HCF.out HR.out HM2.out HN2.out HD2.out HB2.out HQ.out).mono ?_; rintro e w4 ⟨rfl, hn, hb, hk⟩; replace HN2 := aM hn; replace HB2 := aM hb; replace HK2 := aM (KeepBut.trans HK2.out hk (.inl rfl)); clear hn hb hk))
   go_roundg k2
   case measure => have := HKQ.out; omega
   case rel => exact ⟨q2, j + 1, rfl, H', ⟨by have := HKQ.out; omega⟩, HN2, HB2, HK2⟩
  }
theorem spec_l8Choose.calls (k : Nat) : spec_l8Choose.Says k := Nat.strongRecOn k (fun k ih => spec_l8Choose.step k ih)
theorem spec_l8Who.mono_l : ∀ k, (∀ y0 y1 y2 y3, LeO (spec_l8Who.l0 k y0 y1 y2 y3) (spec_l8Who.l0 (k + 1) y0 y1 y2 y3))
 | 0 => fun _ _ _ _ r h => by simp [spec_l8Who.l0] at h
 | k + 1 => by
  have ih0 := spec_l8Who.mono_l k
  intro y0 y1 y2 y3
  unfold spec_l8Who.l0
  exact qL
theorem spec_l8Who.mono (a0 : List S37) (a1 : List Int) (a2 : Int) (k : Nat) : LeO (spec_l8Who.f k a0 a1 a2) (spec_l8Who.f (k + 1) a0 a1 a2) := spec_l8Who.mono_l k _ _ _ _
theorem spec_l8Choose.mono_l : ∀ k, (∀ y0 y1 y2 y3 y4 y5 y6 y7, LeO (spec_l8Choose.f k y0 y1 y2 y3 y4 y5 y6 y7) (spec_l8Choose.f (k + 1) y0 y1 y2 y3 y4 y5 y6 y7)) ∧ (∀ y0 y1 y2 y3 y4 y5 y6 y7 y8 y9, LeO (spec_l8Choose.l0 k y0 y1 y2 y3 y4 y5 y6 y7 y8 y9) (spec_l8Choose.l0 (k + 1) y0 y1 y2 y3 y4 y5 y6 y7 y8 y9)) ∧ (∀ y0 y1 y2 y3 y4 y5 y6 y7 y8 y9, LeO (spec_l8Choose.j1 k y0 y1 y2 y3 y4 y5 y6 y7 y8 y9) (spec_l8Choose.j1 (k + 1) y0 y1 y2 y3 y4 y5 y6 y7 y8 y9))
 | 0 => ⟨fun _ _ _ _ _ _ _ _ r h => by simp [spec_l8Choose.f] at h, fun _ _ _ _ _ _ _ _ _ _ r h => by simp [spec_l8Choose.l0] at h, fun _ _ _ _ _ _ _ _ _ _ r h => by simp [spec_l8Choose.j1] at h⟩
 | k + 1 => by
  obtain ⟨ih0, ih1, ih2⟩ := spec_l8Choose.mono_l k
  refine ⟨?_, ?_, ?_⟩
  {
  intro y0 y1 y2 y3 y4 y5 y6 y7
  unfold spec_l8Choose.f
  have j0 := @spec_l7Choices.mono
  have j1 := @spec_l6Among.mono
  have j2 := @spec_l8Who.mono
  exact qL
  }
  {
  intro y0 y1 y2 y3 y4 y5 y6 y7 y8 y9
  unfold spec_l8Choose.l0
  have j0 := @spec_l7Choices.mono
  have j1 := @spec_l6Among.mono
  have j2 := @spec_l8Who.mono
  exact qL
  }
  {
  intro y0 y1 y2 y3 y4 y5 y6 y7 y8 y9
  unfold spec_l8Choose.j1
  have j0 := @spec_l7Choices.mono
  have j1 := @spec_l6Among.mono
  have j2 := @spec_l8Who.mono
  exact qL
  }
def spec_l8Step.l0 : Nat → Int → Int → List Int → List S37 → List (List Int) → Int → Option (List (List Int))
 | 0, _, _, _, _, _, _ => none
 | k + 1, W, H, cs, crew, fs, i => if i < (crew.length : Int) then (if 0 ≤ i then (spec_l7Field.f k W H cs (rd_T37 crew i).f0 (rd_T37 crew i).f1 (rd_T37 crew i).f2 (rd_T37 crew i).f3 (rd_T37 crew i).f4).bind fun fd => spec_l8Step.l0 k W H cs crew (fs ++ [fd]) (wrap64 (i + 1)) else none) else some fs
def spec_l8Step.l1 : Nat → Int → Int → List Int → List S37 → List (List Int) → List Int → List Int → Int → Option (List Int)
 | 0, _, _, _, _, _, _, _, _ => none
 | k + 1, W, H, cs, crew, fs, ts, nx, j => if j < (ts.length : Int) then (if 0 ≤ j then (if 0 ≤ rd ts j then (if rd ts j < (nx.length : Int) then (if rd nx (rd ts j) < 0 then (spec_l8Choose.f k W H cs crew fs nx (rd ts j) (-1)).bind fun q => spec_l8Step.l1 k W H cs crew fs ts q.2 (wrap64 (j + 1)) else spec_l8Step.l1 k W H cs crew fs ts nx (wrap64 (j + 1))) else none) else none) else none) else some nx
def spec_l8Step.f (k : Nat) (W H : Int) (cs : List Int) (crew : List S37) : Option (List Int) :=
 if crew.length ≤ 20 then (spec_l8Step.l0 k W H cs crew [] 0).bind fun fs => (spec_Turns.f k crew).bind fun ts => if ts.length ≤ 20 then spec_l8Step.l1 k W H cs crew fs ts (List.replicate crew.length (-1)) 0 else none else none
theorem spec_l8Step.mono_l : ∀ k, (∀ y0 y1 y2 y3 y4 y5, LeO (spec_l8Step.l0 k y0 y1 y2 y3 y4 y5) (spec_l8Step.l0 (k + 1) y0 y1 y2 y3 y4 y5)) ∧ (∀ y0 y1 y2 y3 y4 y5 y6 y7, LeO (spec_l8Step.l1 k y0 y1 y2 y3 y4 y5 y6 y7) (spec_l8Step.l1 (k + 1) y0 y1 y2 y3 y4 y5 y6 y7))
 | 0 => ⟨fun _ _ _ _ _ _ r h => by simp [spec_l8Step.l0] at h, fun _ _ _ _ _ _ _ _ r h => by simp [spec_l8Step.l1] at h⟩
 | k + 1 => by
  obtain ⟨ih0, ih1⟩ := spec_l8Step.mono_l k
  refine ⟨?_, ?_⟩
  {
  intro y0 y1 y2 y3 y4 y5
  unfold spec_l8Step.l0
  repeat' first
   | (with_reducible first | exact ih0 _ _ _ _ _ _ | exact ih1 _ _ _ _ _ _ _ _ | exact (spec_l8Choose.mono_l k).1 _ _ _ _ _ _ _ _ | exact spec_l7Field.mono _ _ _ _ _ _ _ _ _ | exact LeO.refl _ | exact LeO.none _ | refine LeO.ite ?_ ?_ | refine LeO.bind ?_ (fun _ => ?_))
  }
  {
  intro y0 y1 y2 y3 y4 y5 y6 y7
  unfold spec_l8Step.l1
  repeat' first
   | (with_reducible first | exact ih0 _ _ _ _ _ _ | exact ih1 _ _ _ _ _ _ _ _ | exact (spec_l8Choose.mono_l k).1 _ _ _ _ _ _ _ _ | exact spec_l7Field.mono _ _ _ _ _ _ _ _ _ | exact LeO.refl _ | exact LeO.none _ | refine LeO.ite ?_ ?_ | refine LeO.bind ?_ (fun _ => ?_))
  }
theorem spec_l8Step.mono : ∀ a0 a1 a2 a3 k, LeO (spec_l8Step.f k a0 a1 a2 a3) (spec_l8Step.f (k + 1) a0 a1 a2 a3) := by
 intro a0 a1 a2 a3 k
 unfold spec_l8Step.f
 repeat' first
  | (with_reducible first | exact (spec_l8Step.mono_l k).1 _ _ _ _ _ _ | exact (spec_l8Step.mono_l k).2 _ _ _ _ _ _ _ _ | exact spec_Turns.mono _ _ | exact LeO.refl _ | exact LeO.none _ | refine LeO.ite ?_ ?_ | refine LeO.bind ?_ (fun _ => ?_))
theorem spec_l8Step.info24 : (Try.prog.info? 24).map (fun i => (i.zero, i.size, i.bytes)) = some (some (.slice none 0 0), 1, 24) := by kernel_rfl
theorem spec_l8Step.ok_int {e base : Nat} {w : World} {ok ok' : Nat → Prop} {v : Value} {xs : List Int} (h : Kd.R (Kd.int .i64) e w base ok v xs) (h2 : ∀ k, v.ownBlock = some k → ok' k) : Kd.R (Kd.int .i64) e w base ok' v xs := ⟨h2, h.2⟩
def spec_l8Step.T6 : Bool × List (List Nat × List Nat) := (true, [([], []), ([], []), ([1], [1]), ([2], [2]), ([3], [3]), ([], []), ([], []), ([], []), ([6, 7], [6, 7]), ([8], [8]), ([5, 9], [5, 9]), ([10], [10]), ([4, 11, 10], [4, 11]), ([0, 0, 1, 2, 3, 4, 5, 6, 7, 8, 9, 10, 11, 12], [0]), ([13, 0, 1, 2, 3, 4, 5, 6, 7, 8, 9, 10, 11, 12], [13]), ([14, 12, 12, 0, 1, 2, 3, 4, 5, 6, 7, 8, 9, 10, 11, 12], [12, 14])])
def spec_l8Step.B6 : List Nat := [0, 0, 2, 6, 14, 0, 0, 0, 192, 448, 992, 2016, 4094, 8191, 16383, 32767]
theorem spec_l8Step.tab6 : rtab .any (opsOf Try.f82 6) = spec_l8Step.T6 := by kernel_rfl
theorem spec_l8Step.bits6 : waitsOk spec_l8Step.T6.2 spec_l8Step.B6 = true := by kernel_rfl
def spec_l8Step.T11 : Bool × List (List Nat × List Nat) := (true, [([], []), ([0], [0]), ([1], [1]), ([2], [2]), ([], []), ([], []), ([4, 5], [4, 5]), ([6], [6]), ([3, 7], [3, 7]), ([8], [8]), ([9], [9])])
def spec_l8Step.B11 : List Nat := [0, 1, 3, 7, 0, 0, 48, 112, 255, 511, 1023]
theorem spec_l8Step.tab11 : rtab .any (opsOf Try.f82 11) = spec_l8Step.T11 := by kernel_rfl
theorem spec_l8Step.bits11 : waitsOk spec_l8Step.T11.2 spec_l8Step.B11 = true := by kernel_rfl
set_option maxHeartbeats 16000000 in
set_option maxRecDepth 100000 in
theorem spec_l8Step.callsM (k : Nat) (a0_0 a0_1 : Int) (A0_2 : Option Addr) (c0_2 : Nat) (l0_2 : List Int) (A1 : Option Addr) (c1 : Nat) (l1 : List S37) (r : List Int) (w : World) (hr0_2 : Kd.C (Kd.int .i64) w A0_2 l0_2.length l0_2) (hc0_2 : l0_2.length ≤ c0_2) (hr1 : Kd.C k37 w A1 l1.length l1) (hc1 : l1.length ≤ c1) (h20 : l1.length ≤ 20) (FS : List (List Int)) (hf : spec_l8Step.l0 k a0_0 a0_1 l0_2 l1 [] 0 = some FS) (ts : List Int) (ht : spec_Turns.f k l1 = some ts) (hts : ts.length ≤ 20) (h : spec_l8Step.l1 k a0_0 a0_1 l0_2 l1 FS ts (List.replicate l1.length (-1)) 0 = some r) :
  Calls Try.prog 82 #[.agg #[.int .i64 a0_0, .int .i64 a0_1, .slice A0_2 l0_2.length c0_2], .slice A1 l1.length c1] w fun e w' => ∃ v0_ : Value, e = .returned v0_ ∧ Kd.R (Kd.int .i64) 3 w' w.heap.size (fun _ => True) v0_ r ∧ Below w.heap.size w w' := by
 have HFS := aM hf
 have H20 := aM h20
 have HT := aM ht
 have HTS := aM hts
 have H' := aM h
 clear hf h20 ht hts h
 have hu43 := Try.underlying43
 have hu120 := Try.underlying120
 have hu118 := Try.underlying118
 have hu37 := Try.underlying37
 have hu26 := Try.underlying26
 have hu24 := Try.underlying24
 have HF := aM hr0_2
 have HCF := aM hc0_2
 have HR := aM hr1
 have HCR := aM hc1
 clear hr0_2 hc0_2 hr1 hc1
 have HB := aM (Below.refl w.heap.size w)
 go_enter Try.func82, Try.ntmps82
 go_wp2_with (first
  | ((with_reducible refine gate_dst (N := 2) rfl ?_); refine box_event rfl (N := 2) rfl (cs := #[.int .i64 a0_0, .int .i64 a0_1, .slice A0_2 l0_2.length c0_2]) (t := 43) ?hr ?_; (case hr => exact qz9); intro b2 hg w1 hbx hb; have BK2 := aM hbx; replace HB := aM (below_step HB.out hb); clear hb hbx hg; have z0 := c3_0 BK2.out; have z1 := c3_1 BK2.out; have z2 := c3_2 BK2.out)
  | ((with_reducible refine gate_dst (N := 12) rfl ?_); refine box_event rfl (N := 12) rfl (cs := #[.int .i64 a0_0, .int .i64 a0_1, .slice A0_2 l0_2.length c0_2, .slice A1 l1.length c1, .slice none 0 0, .slice none 0 0]) (t := 120) ?hr ?_; (case hr => exact qz9); intro bm hg w3 hbx hb; have BM := aM hbx; have GM := aM (by rw [hg]; exact below_size HB.out : w.heap.size ≤ bm); replace BK2 := aM (blk_below BK2.out hb); replace HB := aM (below_step HB.out hb); clear hb hbx hg z0 z1 z2))
 go_loopg [6] k (fun kq v6 wl => ∃ (i : Nat) (fs : List (List Int)) (v vF : Value), v6 = .int .i64 i ∧ i ≤ l1.length ∧ fs.length = i ∧ Aside0 (spec_l8Step.l0 kq a0_0 a0_1 l0_2 l1 fs i = some FS) ∧ Aside0 (kq ≤ k) ∧ Aside0 (wl.heap[bm]? = some (.cells #[.int .i64 a0_0, .int .i64 a0_1, .slice A0_2 l0_2.length c0_2, .slice A1 l1.length c1, vF, v] 120 (0, 0))) ∧ Aside0 (wl.heap[b2]? = some (.cells #[.int .i64 a0_0, .int .i64 a0_1, .slice A0_2 l0_2.length c0_2] 43 (0, 0))) ∧ Aside0 (Kd.R (Kd.int .i64) 3 wl w.heap.size (fun _ => True) v (List.replicate i (-1))) ∧ Aside0 (Kd.R (Kd.slice 3 (Kd.int .i64)) 24 wl w.heap.size (fun q => some q ≠ v.ownBlock) vF fs) ∧ Aside0 (Below w.heap.size w wl))
 case atStart => exact ⟨0, [], _, _, rfl, Nat.zero_le _, rfl, HFS, ⟨Nat.le_refl _⟩, BM, BK2, ⟨Kd.R_nil _ _ _ _ _⟩, ⟨Kd.R_nil _ _ _ _ _⟩, HB⟩
 case round =>
 clear HB BM BK2 HFS
 obtain ⟨i, fs, v, vF, rfl, hi, hfl, HA, HKQ, BM, BK2, HN, HD, HB⟩ := hrel
 cases gk with
 | zero => exact absurd HA.out (by simp [spec_l8Step.l0])
 | succ k1 =>
 have H_ := HA.out
 clear HA
 simp only [spec_l8Step.l0] at H_
 obtain ⟨An, cn, rfl⟩ := Kd.R_slice HN.out
 obtain ⟨Ad, cd, rfl⟩ := Kd.R_slice HD.out
 rw [List.length_replicate] at BM HN HD
 have z5 := c6_5 BM.out
 by_cases hlt : i < l1.length
 {
 have e1 : (i : Int) < (l1.length : Int) := by omega
 have e2 : (0 : Int) ≤ (i : Int) := by omega
 rw [if_pos e1, if_pos e2] at H_
 replace H_ := Option.bind_eq_some_iff.mp H_
 obtain ⟨fd, hfd, H_⟩ := H_
 have ew : wrap64 ((i : Int) + 1) = ((i + 1 : Nat) : Int) := by have := H20.out; unfold wrap64; omega
 rw [ew] at H_
 have HFD := aM hfd
 have H2 := aM H_
 clear hfd H_ ew
 have hd : decide ((i : Int) < (l1.length : Int)) = true := decide_eq_true e1
 have h20_ : (i : Int) < 20 := by have := H20.out; omega
 have LM := aM (show ((List.replicate i (-1 : Int)).length + 1) * 8 ≤ 140737488355328 by rw [List.length_replicate]; omega)
 have LD := aM (show (fs.length + 1) * 24 ≤ 140737488355328 by omega)
 have HFL := aM hfl
 clear hfl
 have E1 := aM (And.intro e2 e1)
 obtain ⟨xs, hxs⟩ : ∃ xs : List Int, xs = List.replicate i (-1) ++ [-1] := ⟨_, rfl⟩
 have NX := aM hxs
 clear hxs e1 e2
 go_upto_region 6 with ((with_reducible refine gate_builtin (b := .append) (xs := #[.tmp 23, .tmp 24]) rfl ?_); at_builtin; refine Kd.R_append (Kd.int .i64) (w0 := w) w.heap.size rfl (.tmp 23) (.tmp 24) 24 3 (.int .i64 0) 8 rfl Try.underlying24 info3 rfl (by decide) (by omega) (.slice An i cn) (List.replicate i (-1)) (-1) [.int .i64 (-1)] (fun _ => True) (fun _ => False) rfl rfl ?aP (fun _ hk => hk.elim) ?aF ?aO ?aB ?aS ?aL ?_; (case aP => exact rfl); (case aB => exact HB.out); (case aF => exact qz21); (case aO => exact HN.out); (case aS => exact below_size HB.out); (case aL => exact LM.out); intro v1 w4 ho hb hg hat; rw [← NX.out] at ho; replace HD := aM (Kd.R_after (ok := fun _ => True) (Kd.R_mono HD.out (fun _ h => ⟨trivial, h⟩)) hg hat); obtain ⟨A3, c3, rfl⟩ := Kd.R_slice ho; replace BM := aM (blk_grown BM.out hg (Kd.R_ne HN.out BM.out (by decide))); replace BK2 := aM (blk_grown BK2.out hg (Kd.R_ne HN.out BK2.out (by decide))); replace HB := aM hb; replace HN := aM ho; clear ho hb hg hat z5; have z5 := c6_5 BM.out; have f5 := blk_frozen BM.out 5)
 have el : xs.length = i + 1 := by rw [NX.out]; simp
 have HN2 := aM (Kd.R_set HN.out BM.out (by decide) 5 (.slice A3 xs.length c3))
 have HD2 := aM (Kd.R_mono (Kd.R_set HD.out BM.out (by decide) 5 (.slice A3 xs.length c3)) (fun _ h => h.2))
 have BK3 := aM (blk_far (p := ⟨bm, 5, none⟩) BK2.out (blk_ne BK2.out BM.out (by decide)) (.slice A3 xs.length c3))
 have BM2 := aM (blk_put (cs' := #[.int .i64 a0_0, .int .i64 a0_1, .slice A0_2 l0_2.length c0_2, .slice A1 l1.length c1, .slice Ad fs.length cd, .slice A3 xs.length c3]) BM.out 5 (.slice A3 xs.length c3) rfl)
 have HB2 := aM (below_set (g := bm) (j := 5) (v := .slice A3 xs.length c3) HB.out GM.out)
 generalize w4.setCell ⟨bm, 5, none⟩ (.slice A3 xs.length c3) = w5 at HN2 HD2 BK3 BM2 HB2 ⊢
 clear HN HD BK2 BM HB z5 f5
 obtain ⟨adC, eC, x0, x1, x2, x3, x4⟩ := at_T37 (Kd.C_below HR.out HB2.out) (i : Int) E1.out.1 E1.out.2
 subst eC
 rw [Int.toNat_natCast] at x0 x1 x2 x3 x4
 have z4 := c6_4 BM2.out
 have z0 := c3_0 BK3.out
 have z1 := c3_1 BK3.out
 have z2 := c3_2 BK3.out
 have DL := aM (Kd.R_lt HD2.out)
 have NL := aM (Kd.R_lt HN2.out)
 have WS := aM (show w.heap.size ≤ w5.heap.size from below_size HB2.out)
 obtain ⟨gs, hgs⟩ : ∃ gs : List (List Int), gs = fs ++ [fd] := ⟨_, rfl⟩
 rw [← hgs] at H2
 have GS := aM hgs
 clear hgs
 refine start_ (n := 16) (S := fun w' => w'.cell? ⟨bm, 4, none⟩ = some (.slice Ad fs.length cd) ∧ w'.cell? ⟨b2, 0, none⟩ = some (.int .i64 a0_0) ∧ w'.cell? ⟨b2, 1, none⟩ = some (.int .i64 a0_1) ∧ w'.cell? ⟨b2, 2, none⟩ = some (.slice A0_2 l0_2.length c0_2) ∧ w'.cell? (adC.add (i * 5)) = some (.int .i64 (rd_T37 l1 (i : Int)).f0) ∧ w'.cell? ⟨(adC.add (i * 5)).block, (adC.add (i * 5)).off + 1, none⟩ = some (.int .i64 (rd_T37 l1 (i : Int)).f1) ∧ w'.cell? ⟨(adC.add (i * 5)).block, (adC.add (i * 5)).off + 2, none⟩ = some (.int .i64 (rd_T37 l1 (i : Int)).f2) ∧ w'.cell? ⟨(adC.add (i * 5)).block, (adC.add (i * 5)).off + 3, none⟩ = some (.bool (rd_T37 l1 (i : Int)).f3) ∧ w'.cell? ⟨(adC.add (i * 5)).block, (adC.add (i * 5)).off + 4, none⟩ = some (.int .i64 (rd_T37 l1 (i : Int)).f4)) (ds := [15]) #[false, false, false, false, false, false, false, false, false, false, false, false, false, false, false, false] (by kernel_rfl) rfl rfl ⟨z4, z0, z1, z2, x0, x1, x2, x3, x4⟩ (fun hHeld => ?_); refine with_tabW spec_l8Step.tab6 spec_l8Step.bits6 (fun HT_ HW_ => ?_)
 refine pI_ 0 (bqz 16 1) ?_
 refine jI_ 1 ?_
 refine jI_ 2 ?_
 refine jI_ 3 ?_
 refine jI_ 6 ?_
 refine jI_ 7 ?_
 refine jI_ 8 ?_
 refine sI9_ 4 ?_
 refine sI9_ 5 ?_
 refine sI9_ 9 ?_
 clear z4 z0 z1 z2 x0 x1 x2 x3 x4
 replace BM2 := aM (blk_drew BM2.out)
 replace BK3 := aM (blk_drew BK3.out)
 replace HN2 := aM (Kd.R_drew HN2.out)
 replace HD2 := aM (Kd.R_drew HD2.out)
 replace HB2 := aM (below_drew HB2.out)
 refine oI_ 10 38 (bqz 16 2047) (fun K hK => ?_)
 refine goes_ Try.func63 (by kernel_rfl) rfl #[.agg #[.int .i64 a0_0, .int .i64 a0_1, .slice A0_2 l0_2.length c0_2], .agg #[.int .i64 (rd_T37 l1 (i : Int)).f0, .int .i64 (rd_T37 l1 (i : Int)).f1, .int .i64 (rd_T37 l1 (i : Int)).f2, .bool (rd_T37 l1 (i : Int)).f3, .int .i64 (rd_T37 l1 (i : Int)).f4]] (by rfl) rfl rfl qz30 ?_
 refine (spec_l7Field.calls k1 a0_0 a0_1 A0_2 c0_2 l0_2 _ _ _ _ _ fd _ (Kd.C_below HF.out HB2.out) HCF.out HFD.out).mono ?_
 rintro e w6 ⟨vr, rfl, hv, hb⟩
 refine ⟨_, rfl, ?_⟩
 obtain ⟨Av, cv, rfl⟩ := Kd.R_slice hv
 have HV := aM hv
 have XB := aM hb
 replace BM2 := aM (blk_below BM2.out hb)
 replace BK3 := aM (blk_below BK3.out hb)
 replace HN2 := aM (Kd.R_below HN2.out hb)
 replace HD2 := aM (Kd.R_below HD2.out hb)
 replace HB2 := aM (below_step HB2.out hb)
 clear hv hb
 refine hK.out _ _ ⟨c6_4 BM2.out, c3_0 BK3.out, c3_1 BK3.out, c3_2 BK3.out, pw_cell_below XB.out hHeld.2.2.2.2.1, pw_cell_below XB.out hHeld.2.2.2.2.2.1, pw_cell_below XB.out hHeld.2.2.2.2.2.2.1, pw_cell_below XB.out hHeld.2.2.2.2.2.2.2.1, pw_cell_below XB.out hHeld.2.2.2.2.2.2.2.2⟩ (fun hHeld => ?_)
 clear hK K
 refine nm_ 38 ?_
 refine oI_ 11 39 (bqz 16 4095) (fun K hK => ?_)
 refine value_ (w1 := ?_) (v := ?_) (by rfl) rfl ?_ ?_
 rotate_left 2
 {
 go_simp
 constructor
 {
 rfl
 }
 {
 rfl
 }
 }
 refine hK.out _ _ ⟨c6_4 (blk_alloc BM2.out _), c3_0 (blk_alloc BK3.out _), c3_1 (blk_alloc BK3.out _), c3_2 (blk_alloc BK3.out _), pw_cell_below (below_alloc (Below.refl _ _) _) hHeld.2.2.2.2.1, pw_cell_below (below_alloc (Below.refl _ _) _) hHeld.2.2.2.2.2.1, pw_cell_below (below_alloc (Below.refl _ _) _) hHeld.2.2.2.2.2.2.1, pw_cell_below (below_alloc (Below.refl _ _) _) hHeld.2.2.2.2.2.2.2.1, pw_cell_below (below_alloc (Below.refl _ _) _) hHeld.2.2.2.2.2.2.2.2⟩ (fun hHeld => ?_)
 clear hK K
 refine nm_ 39 ?_
 refine oI_ 12 40 (bqz 16 8191) (fun K hK => ?_)
 refine Kd.R_append_step (Kd.slice 3 (Kd.int .i64)) (w0 := w) w.heap.size (by rfl) (.tmp 32) (.tmp 39) 118 24 (.slice none 0 0) 24 rfl Try.underlying118 spec_l8Step.info24 rfl (by decide) (by omega) (.slice Ad fs.length cd) fs fd [.slice Av fd.length cv] (fun q => some q ≠ (Value.slice A3 xs.length c3).ownBlock) (fun q => w5.heap.size ≤ q) rfl rfl ?aP ?aK ?aF ?aO ?aB ?aS ?aL ?_
 (case aP => exact ⟨.slice Av fd.length cv, rfl, Kd.R_lower (Kd.R_mono (Kd.R_bound HV.out) (fun q hq => (show w5.heap.size ≤ q from hq.2.1))) (show w.heap.size ≤ w5.drew.heap.size from WS.out)⟩)
 (case aK => exact fun q hq => ⟨fun e => absurd (NL.out q e.symm) (Nat.not_lt.mpr hq), fun e => absurd (DL.out q e.symm) (Nat.not_lt.mpr hq)⟩)
 (case aF => exact fun q hq e => absurd (NL.out q e.symm) (Nat.not_lt.mpr (Nat.le_trans (show w5.heap.size ≤ w6.heap.size from (below_size XB.out : w5.drew.heap.size ≤ w6.heap.size)) hq)))
 (case aO => exact HD2.out)
 (case aB => exact HB2.out)
 (case aS => exact below_size HB2.out)
 (case aL => exact LD.out)
 intro vF2 w7 ho hb hg hat
 rw [← GS.out] at ho
 obtain ⟨Ag, cg, rfl⟩ := Kd.R_slice ho
 replace BM2 := aM (blk_grown BM2.out hg (Kd.R_ne HD2.out BM2.out (by decide)))
 replace BK3 := aM (blk_grown BK3.out hg (Kd.R_ne HD2.out BK3.out (by decide)))
 replace HN2 := aM (spec_l8Step.ok_int (ok' := fun _ => True) (Kd.R_grown (spec_l8Step.ok_int (ok' := fun q => some q ≠ (Value.slice Ad fs.length cd).ownBlock) HN2.out (fun q hq e => HD2.out.1 q e.symm hq.symm)) hg (fun _ h => h)) (fun _ _ => trivial))
 replace HD2 := aM ho
 replace HB2 := aM hb
 have HC := aM (at_T37 (Kd.C_below HR.out HB2.out) (i : Int) E1.out.1 E1.out.2)
 clear ho hb hg hat
 obtain ⟨adE, eE, x0, x1, x2, x3, x4⟩ := HC.out
 cases eE
 rw [Int.toNat_natCast] at x0 x1 x2 x3 x4
 refine hK.out _ _ ⟨c6_4 BM2.out, c3_0 BK3.out, c3_1 BK3.out, c3_2 BK3.out, x0, x1, x2, x3, x4⟩ (fun hHeld => ?_)
 clear hK K
 refine nm_ 40 ?_
 clear x0 x1 x2 x3 x4 HC
 refine pI_ 13 (bqz 16 16383) ?_
 refine jI_ 14 ?_
 have z4 := c6_4 BM2.out
 have f4 := blk_frozen BM2.out 4
 refine last_ (i := 15) (N := none) (bqz 16 65535) rfl rfl qzc (by decide) (fun K hK => ?_)
 refine sk_ ?_
 refine hK.out _ _ ?_
 clear hK K
 refine dN_ ?_
 clear hHeld z4 f4 XB DL NL HV
 have HN3 := aM (Kd.R_set HN2.out BM2.out (by decide) 4 (.slice Ag gs.length cg))
 have HD3 := aM (Kd.R_set HD2.out BM2.out (by decide) 4 (.slice Ag gs.length cg))
 have BK4 := aM (blk_far (p := ⟨bm, 4, none⟩) BK3.out (blk_ne BK3.out BM2.out (by decide)) (.slice Ag gs.length cg))
 have BM3 := aM (blk_put (cs' := #[.int .i64 a0_0, .int .i64 a0_1, .slice A0_2 l0_2.length c0_2, .slice (some adC) l1.length c1, .slice Ag gs.length cg, .slice A3 xs.length c3]) BM2.out 4 (.slice Ag gs.length cg) rfl)
 have HB3 := aM (below_set (g := bm) (j := 4) (v := .slice Ag gs.length cg) HB2.out GM.out)
 go_wp2
 go_roundg k1
 case measure => have := HKQ.out; omega
 case rel =>
 refine ⟨i + 1, gs, _, _, by go_num, by omega, by rw [GS.out]; simp [HFL.out], H2, ⟨by have := HKQ.out; omega⟩, BM3, BK4, ⟨?_⟩, HD3, HB3⟩
 rw [List.replicate_succ' (n := i), ← NX.out]
 exact HN3.out
 }
 {
 obtain rfl : i = l1.length := by omega
 rw [if_neg (by omega)] at H_
 obtain rfl := Option.some.inj H_
 have hd : decide ((l1.length : Int) < (l1.length : Int)) = false := decide_eq_false (by omega)
 obtain ⟨nx0, hnx0⟩ : ∃ nx0 : List Int, nx0 = List.replicate l1.length (-1) := ⟨_, rfl⟩
 rw [← hnx0] at HN H'
 clear hnx0 z5 hfl HKQ
 go_wp2_with (go_at_call 15; (with_reducible refine (spec_Turns.calls k _ _ l1 ts _ (Kd.C_below HR.out HB.out) HCR.out HT.out).mono ?_); rintro e w5 ⟨vt, rfl, hts, hb⟩; have HTR := aM hts; obtain ⟨At, ct, rfl⟩ := Kd.R_slice hts; have XB := aM (Kd.R_base HTR.out); have XL := aM (Kd.R_lt HN.out); replace BM := aM (blk_below BM.out hb); replace HN := aM (Kd.R_below HN.out hb); replace HD := aM (Kd.R_below HD.out hb); replace HB := aM (below_step HB.out hb); have FT := aM (show ∀ (ad : Addr), At = some ad → ∀ g : Nat, An = some ⟨g, 0, none⟩ → ad.block ≠ g from fun ad e g h e' => Nat.lt_irrefl g (Nat.lt_of_lt_of_le (XL.out g (by rw [h]; rfl)) (XB.out g (by rw [e, ← e']; rfl)))); clear hts hb XB XL)
 have HTC := aM (Kd.R_reads' HTR.out).2.2
 clear hd
 go_loopg [8] k (fun kq v8 wl => ∃ (nx : List Int) (j : Int), v8 = .int .i64 j ∧ Aside0 (spec_l8Step.l1 kq a0_0 a0_1 l0_2 l1 fs ts nx j = some r) ∧ Aside0 (kq ≤ k) ∧ Aside0 (wl.heap[bm]? = some (.cells #[.int .i64 a0_0, .int .i64 a0_1, .slice A0_2 l0_2.length c0_2, .slice A1 l1.length c1, .slice Ad fs.length cd, .slice An l1.length cn] 120 (0, 0))) ∧ Aside0 (Kd.R (Kd.int .i64) 3 wl w.heap.size (fun _ => True) (.slice An l1.length cn) nx) ∧ Aside0 (Below w.heap.size w wl) ∧ Aside0 (Kd.C (Kd.int .i64) wl At ts.length ts) ∧ Aside0 (Kd.R (Kd.slice 3 (Kd.int .i64)) 24 wl w.heap.size (fun q => some q ≠ (Value.slice An l1.length cn).ownBlock) (.slice Ad fs.length cd) fs))
 case atStart => exact ⟨nx0, 0, rfl, H', ⟨Nat.le_refl _⟩, BM, HN, HB, HTC, HD⟩
 case round =>
 clear H' BM HN HB HTC HTR HD BK2
 obtain ⟨nx, j, rfl, HA, HKQ, BM, HN, HB, HTC, HD⟩ := hrel
 cases gk with
 | zero => exact absurd HA.out (by simp [spec_l8Step.l1])
 | succ k1 =>
 have H_ := HA.out
 clear HA
 simp only [spec_l8Step.l1] at H_
 have HNL := aM ((Kd.R_reads' HN.out).1)
 have z5 := c6_5 BM.out
 by_cases e1 : j < (ts.length : Int)
 case neg =>
  rw [if_neg e1] at H_
  obtain rfl := Option.some.inj H_
  have d1 : decide (j < (ts.length : Int)) = false := decide_eq_false e1
  go_wp2
  go_ret
  exact ⟨_, rfl, HN.out, HB.out⟩
 rw [if_pos e1] at H_
 have d1 : decide (j < (ts.length : Int)) = true := decide_eq_true e1
 by_cases e2 : 0 ≤ j
 case neg => rw [if_neg e2] at H_; cases H_
 rw [if_pos e2] at H_
 obtain ⟨adt, et, xt⟩ := Kd.at_int HTC.out j e2 e1
 subst et
 obtain ⟨cv, hcv⟩ : ∃ cv : Int, cv = rd ts j := ⟨_, rfl⟩
 rw [← hcv] at H_ xt
 clear hcv
 by_cases e3 : 0 ≤ cv
 case neg => rw [if_neg e3] at H_; cases H_
 rw [if_pos e3] at H_
 by_cases e4 : cv < (nx.length : Int)
 case neg => rw [if_neg e4] at H_; cases H_
 rw [if_pos e4] at H_
 obtain ⟨gn, cap, eg, _, _, _⟩ := Kd.R_form HN.out (by omega)
 injection eg with ea_ en_ ec_
 subst ea_
 subst ec_
 clear en_
 have in_ : cv < (l1.length : Int) := by have := HNL.out; omega
 have NE := aM (fun e : bm = gn => Kd.R_ne HN.out BM.out (by decide) (by rw [e]; rfl))
 obtain ⟨cs_, hcl_, hM_, hcc_, hfr_⟩ := Kd.R_elem HN.out 0 cv e3 in_
 obtain rfl := hM_
 have xg := hcc_ 0 _ rfl
 rw [show (Kd.int .i64).sz = 1 from rfl, Nat.mul_one, Nat.add_zero] at xg
 clear hcl_ hcc_ hfr_
 change wr.cell? _ = some (.int .i64 (rd nx cv)) at xg
 have ew : wrap64 (j + 1) = j + 1 := by have := HTS.out; unfold wrap64; omega
 rw [ew] at H_
 clear ew
 have j20 : j < 20 := by have := HTS.out; omega
 go_upto_region 11 with (fail)
 refine start_ (n := 11) (S := fun w' => w'.cell? ⟨bm, 5, none⟩ = some (.slice (some ⟨gn, 0, none⟩) l1.length cn) ∧ w'.cell? (adt.add j.toNat) = some (.int .i64 cv) ∧ w'.cell? ⟨gn, cv.toNat, none⟩ = some (.int .i64 (rd nx cv))) (ds := []) #[false, false, false, false, false, false, false, false, false, false, false] (by kernel_rfl) rfl rfl ⟨z5, xt, xg⟩ (fun hHeld => ?_); refine with_tabW spec_l8Step.tab11 spec_l8Step.bits11 (fun HT_ HW_ => ?_)
 refine pI_ 0 (bqz 11 1) ?_
 refine jI_ 1 ?_
 refine jI_ 2 ?_
 refine jI_ 4 ?_
 refine jI_ 5 ?_
 refine jI_ 6 ?_
 refine sI3_ 3 ?_
 refine sI3_ 7 ?_
 refine jI_ 8 ?_
 refine sI3_ 9 ?_
 refine jI_ 10 ?_
 refine dN_ ?_
 clear hHeld z5 xg
 replace BM := aM (blk_drew BM.out)
 replace HN := aM (Kd.R_drew HN.out)
 replace HB := aM (below_drew HB.out)
 replace HTC := aM (Kd.C_drew HTC.out)
 replace HD := aM (Kd.R_drew HD.out)
 by_cases e5 : rd nx cv < 0
 {
 rw [if_pos e5] at H_
 replace H_ := Option.bind_eq_some_iff.mp H_
 obtain ⟨⟨q1, q2⟩, hq, H_⟩ := H_
 have HQ := aM hq
 have H' := aM H_
 have d5 : decide (rd nx cv < 0) = true := decide_eq_true e5
 have HDg := aM (Kd.R_mono (ok' := fun q => q ≠ gn) HD.out (fun q h e => h (by rw [e]; rfl)))
 clear hq H_
 replace xt := pw_cell_below (below_drew (Below.refl _ _)) xt
 go_wp2_with (go_at_call 103; refine (spec_l8Choose.calls k1 w _ bm gn a0_0 a0_1 A0_2 c0_2 l0_2 A1 c1 l1 Ad cd fs l1.length cn nx cv (-1) q1 q2 NE.out H20.out HF.out HCF.out HR.out BM.out HN.out HDg.out HB.out HQ.out).mono ?_; rintro e w6 ⟨rfl, hn, hb, hk⟩; have HN2 := aM hn; have HB2 := aM hb; have HKB := aM hk; clear hn hb hk)
 go_roundg k1
 case measure => have := HKQ.out; omega
 case rel => exact ⟨q2, j + 1, rfl, H', ⟨by have := HKQ.out; omega⟩, ⟨HKB.out.blk BM.out NE.out (by intro e; cases e)⟩, HN2, HB2, ⟨C_keepI HTC.out HKB.out (fun ad e _ => FT.out ad e gn rfl)⟩, ⟨Kd.R_step HD.out (fun q ho hl => HKB.out.2 q hl (fun e => ho (by rw [e]; rfl)) (by simp))⟩⟩
 }
 {
 rw [if_neg e5] at H_
 have H' := aM H_
 have d5 : decide (rd nx cv < 0) = false := decide_eq_false e5
 clear H_
 go_wp2
 go_roundg k1
 case measure => have := HKQ.out; omega
 case rel => exact ⟨nx, j + 1, rfl, H', ⟨by have := HKQ.out; omega⟩, BM, HN, HB, HTC, HD⟩
 }
 }
theorem spec_l8Step.calls (k : Nat) (a0_0 a0_1 : Int) (A0_2 : Option Addr) (c0_2 : Nat) (l0_2 : List Int) (A1 : Option Addr) (c1 : Nat) (l1 : List S37) (r : List Int) (w : World) (hr0_2 : Kd.C (Kd.int .i64) w A0_2 l0_2.length l0_2) (hc0_2 : l0_2.length ≤ c0_2) (hr1 : Kd.C k37 w A1 l1.length l1) (hc1 : l1.length ≤ c1) (h : spec_l8Step.f k a0_0 a0_1 l0_2 l1 = some r) :
  Calls Try.prog 82 #[.agg #[.int .i64 a0_0, .int .i64 a0_1, .slice A0_2 l0_2.length c0_2], .slice A1 l1.length c1] w fun e w' => ∃ v0_ : Value, e = .returned v0_ ∧ Kd.R (Kd.int .i64) 3 w' w.heap.size (fun _ => True) v0_ r ∧ Below w.heap.size w w' := by
 unfold spec_l8Step.f at h
 by_cases h20 : l1.length ≤ 20
 {
 rw [if_pos h20] at h
 obtain ⟨FS, hf, h⟩ := Option.bind_eq_some_iff.mp h
 obtain ⟨ts, ht, h⟩ := Option.bind_eq_some_iff.mp h
 by_cases hts : ts.length ≤ 20
 {
 rw [if_pos hts] at h
 exact spec_l8Step.callsM k a0_0 a0_1 A0_2 c0_2 l0_2 A1 c1 l1 r w hr0_2 hc0_2 hr1 hc1 h20 FS hf ts ht hts h
 }
 {
 rw [if_neg hts] at h; cases h
 }
 }
 {
 rw [if_neg h20] at h; cases h
 }
end Go.Proofs.Ytankmdbbgepmbaa.PFnClashes
