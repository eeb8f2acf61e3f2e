-- Made by a program of this session out of the translation. Lean checks it.
import Derived.Test.YtbebfhlejnidkaaPFnSoundx0
import Derived.Test.YtbebfhlejnidkaaPFnSoundx1
import Derived.Test.YtbebfhlejnidkaaPFnSoundx2
import Derived.Test.YtbebfhlejnidkaaPFnSoundx3
namespace Go.Proofs.Ytbebfhlejnidkaa.PFnSound
open Go.RowKit Go.Proofs.YtbebfhlejnidkaaW.PrintWords Go.Proofs.YtbebfhlejnidkaaW.PrintLast Go.Proofs.YtbebfhlejnidkaaW.PrintMore
attribute [local go_sem] max2_int min2_int max_two min_two max_three min_three max_four min_four   -- for this text's walks alone
set_option linter.unusedVariables false
set_option linter.unusedSimpArgs false

/-! ### spec_l2Reached: function 71 -/
mutual
def spec_l2Reached.j0 : Nat → Int → Int → Int → List Int → Option (Int)
 | 0, _, _, _, _ => none
 | k + 1, x1, x209000, x209001, x209002 => (spec_l2Field.f k x209000 x209001 x209002 x1 false).bind fun t210 => (spec_l2Reached.l0 k 0 t210 0)
def spec_l2Reached.l0 : Nat → Int → List Int → Int → Option (Int)
 | 0, _, _, _ => none
 | k + 1, x8, x9, x10 => if x10 < (x9.length : Int) then (if 0 ≤ x10 then (if (rd x9 x10) ≥ 0 then (spec_l2Reached.l0 k (wrap64 (x8 + 1)) x9 (wrap64 (x10 + 1))) else (spec_l2Reached.l0 k x8 x9 (wrap64 (x10 + 1)))) else (none)) else (some x8)
end
def spec_l2Reached.f (k : Nat) (a0_0 : Int) (a0_1 : Int) (l0_2 : List Int) (a1 : Int) (a2 : Int) : Option (Int) := (spec_l1Copy.f a0_0 a0_1 l0_2).bind fun bt203 => (if a2 ≥ 0 then (if 0 ≤ a2 then (if a2 < (bt203.2.2.length : Int) then (spec_l2Reached.j0 k a1 bt203.1 bt203.2.1 (bt203.2.2.set (a2 : Int).toNat 0)) else (none)) else (none)) else (spec_l2Reached.j0 k a1 bt203.1 bt203.2.1 bt203.2.2))
theorem spec_l2Reached.mono_l : ∀ k, (∀ y0 y1 y2 y3, LeO (spec_l2Reached.j0 k y0 y1 y2 y3) (spec_l2Reached.j0 (k + 1) y0 y1 y2 y3)) ∧ (∀ y0 y1 y2, LeO (spec_l2Reached.l0 k y0 y1 y2) (spec_l2Reached.l0 (k + 1) y0 y1 y2))
 | 0 => ⟨fun _ _ _ _ r h => by simp [spec_l2Reached.j0] at h, fun _ _ _ r h => by simp [spec_l2Reached.l0] at h⟩
 | k + 1 => by
  obtain ⟨ih0, ih1⟩ := spec_l2Reached.mono_l k
  refine ⟨?_, ?_⟩
  {
  intro y0 y1 y2 y3
  unfold spec_l2Reached.j0
  repeat' first
  | (with_reducible first | exact ih0 _ _ _ _ | exact ih1 _ _ _ | exact spec_l2Field.mono _ _ _ _ _ _ | exact LeO.refl _ | exact LeO.none _ | refine LeO.ite ?_ ?_ | refine LeO.bind ?_ (fun _ => ?_))
  | exact ih0 _ _ _ _
  | exact ih1 _ _ _
  | exact spec_l2Field.mono _ _ _ _ _ _
  | exact LeO.none _
  | refine LeO.ite ?_ ?_
  | refine LeO.bind ?_ (fun _ => ?_)
  }
  {
  intro y0 y1 y2
  unfold spec_l2Reached.l0
  repeat' first
  | (with_reducible first | exact ih0 _ _ _ _ | exact ih1 _ _ _ | exact spec_l2Field.mono _ _ _ _ _ _ | exact LeO.refl _ | exact LeO.none _ | refine LeO.ite ?_ ?_ | refine LeO.bind ?_ (fun _ => ?_))
  | exact ih0 _ _ _ _
  | exact ih1 _ _ _
  | exact spec_l2Field.mono _ _ _ _ _ _
  | exact LeO.none _
  | refine LeO.ite ?_ ?_
  | refine LeO.bind ?_ (fun _ => ?_)
  }
theorem spec_l2Reached.mono : ∀ a0 a1 a2 a3 a4 k, LeO (spec_l2Reached.f k a0 a1 a2 a3 a4) (spec_l2Reached.f (k + 1) a0 a1 a2 a3 a4) := by
 intro a0 a1 a2 a3 a4 k
 obtain ⟨ih0, ih1⟩ := spec_l2Reached.mono_l k
 unfold spec_l2Reached.f
 repeat' first
  | (with_reducible first | exact ih0 _ _ _ _ | exact ih1 _ _ _ | exact spec_l2Field.mono _ _ _ _ _ _ | exact LeO.refl _ | exact LeO.none _ | refine LeO.ite ?_ ?_ | refine LeO.bind ?_ (fun _ => ?_))
  | exact ih0 _ _ _ _
  | exact ih1 _ _ _
  | exact spec_l2Field.mono _ _ _ _ _ _
  | exact LeO.none _
  | refine LeO.ite ?_ ?_
  | refine LeO.bind ?_ (fun _ => ?_)
set_option maxHeartbeats 8000000 in
set_option maxRecDepth 100000 in
theorem spec_l2Reached.calls (k : Nat) (a0_0 : Int) (a0_1 : Int) (A0_2 : Option Addr) (c0_2 : Nat) (l0_2 : List Int) (a1 : Int) (a2 : Int) (r : Int) (w : World) (hr0_2 : Kd.C (Kd.int .i64) w A0_2 l0_2.length l0_2) (hc0_2 : l0_2.length ≤ c0_2) (h : spec_l2Reached.f k a0_0 a0_1 l0_2 a1 a2 = some r) :
  Calls Try.prog 71 #[.agg #[.int .i64 a0_0, .int .i64 a0_1, .slice A0_2 l0_2.length c0_2], .int .i64 a1, .int .i64 a2] w fun e w' => e = .returned (.int .i64 r) ∧ Below w.heap.size w w' := by
 have hu43 := Try.underlying43
 have HR0_2 := aM hr0_2
 have HC0_2 := aM hc0_2
 clear hr0_2 hc0_2
 have HB := aM (Below.refl w.heap.size w)
 have H : ((spec_l1Copy.f a0_0 a0_1 l0_2).bind fun bt203 => (if a2 ≥ 0 then (if 0 ≤ a2 then (if a2 < (bt203.2.2.length : Int) then (spec_l2Reached.j0 k a1 bt203.1 bt203.2.1 (bt203.2.2.set (a2 : Int).toNat 0)) else (none)) else (none)) else (spec_l2Reached.j0 k a1 bt203.1 bt203.2.1 bt203.2.2))) = some r := h
 clear h
 replace H := Option.bind_eq_some_iff.mp H
 obtain ⟨⟨t203, t204, t205⟩, A40, H⟩ := H
 replace H : (if a2 ≥ 0 then (if 0 ≤ a2 then (if a2 < (t205.length : Int) then (spec_l2Reached.j0 k a1 t203 t204 (t205.set (a2 : Int).toNat 0)) else (none)) else (none)) else (spec_l2Reached.j0 k a1 t203 t204 t205)) = some r := H
 have A4 := aM A40
 clear A40
 have HC5 := aM H
 clear H
 go_enter Try.func71, Try.ntmps71
 go_upto_if 14 with (first | ((with_reducible refine gate_dst (N := 3) rfl ?_); refine bx_ 3 #[.int .i64 a0_0, .int .i64 a0_1, .slice A0_2 l0_2.length c0_2] 43 ?_; intro gb202 hg w6 hbox hb; have n0_ := aM (below_step qz1 hb); have n1_ := aM (hbox); have n2_ := aM ((by rw [hg]; exact (below_size qz1) : w.heap.size ≤ gb202)); have n3_ := aM ((by rw [hg]; exact (below_size qz1) : w.heap.size ≤ gb202)); clear HB; have HB := n0_; have BK202 := n1_; have GW202 := n2_; have GE202 := n3_; clear n0_ n1_ n2_ n3_; clear hb hbox hg; obtain ⟨hcz7_0, hcz7_1, hcz7_2, hfz7_0, hfz7_1, hfz7_2⟩ := b6_ BK202.out) | ((with_reducible refine gate_callee (f := 70) rfl ?_); refine goesL_ (some 12) rfl rfl Try.func70 (by kernel_rfl) rfl #[.agg #[.int .i64 a0_0, .int .i64 a0_1, .slice A0_2 l0_2.length c0_2]] rfl qz3 ?_; (with_reducible refine (spec_l1Copy.calls a0_0 a0_1 _ _ l0_2 t203 t204 t205 _ ?side1 ?side2 A4.out).mono ?_); (case side1 => exact qz4); (case side2 => exact qz69); rintro e w8 ⟨v206, rfl, ho0, hb⟩; refine ⟨_, rfl, ?_⟩; have n0_ := aM (Kd.R_lower ho0 (below_size qz50)); have n1_ := aM (blk_below (bk_ BK202.out) hb); have n2_ := aM (below_step qz50 hb); clear BK202 HB; have HO207 := n0_; have BK202 := n1_; have HB := n2_; clear n0_ n1_ n2_; (try clear hb); (try clear hb2); (try clear hk); (try clear hi); (try clear ho0)) | ((with_reducible refine gate_dst (N := 7) rfl ?_); refine bx_ 7 #[.int .i64 0, .int .i64 0, .slice none 0 0] 43 ?_; intro gb208 hg w9 hbox hb; have n0_ := aM (Kd.R_below (rr_ HO207.out) hb); have n1_ := aM (blk_below (bk_ BK202.out) hb); have n2_ := aM (below_step qz50 hb); have n3_ := aM (hbox); have n4_ := aM ((by rw [hg]; exact (below_size qz50) : w.heap.size ≤ gb208)); have n5_ := aM ((by rw [hg]; exact (below_size qz50) : w.heap.size ≤ gb208)); have n6_ := aM ((by rw [hg]; exact Nat.ne_of_lt (blk_lt (bk_ BK202.out)) : gb202 ≠ gb208)); have n7_ := aM ((by rw [hg]; exact Nat.ne_of_gt (blk_lt (bk_ BK202.out)) : gb208 ≠ gb202)); clear HO207 BK202 HB; have HO207 := n0_; have BK202 := n1_; have HB := n2_; have BK208 := n3_; have GW208 := n4_; have GE208 := n5_; have NB202_208 := n6_; have NB208_202 := n7_; clear n0_ n1_ n2_ n3_ n4_ n5_ n6_ n7_; clear hb hbox hg; have hnb10 := NB208_202.out; have hnc10 := NB202_208.out; obtain ⟨hcz11_0, hcz11_1, hcz11_2, hfz11_0, hfz11_1, hfz11_2⟩ := b6_ BK208.out; obtain ⟨Ao12, co12, eo12⟩ := Kd.R_slice HO207.out; subst eo12))
 (try simp only [Act.put, List.setIfInBounds_toArray, List.set_cons_zero, List.set_cons_succ])
 go_cut [] (fun wc => ∃ (kq : Nat) (x209002_4 : List Int) (u209002 : Value), Aside0 (spec_l2Reached.j0 kq a1 t203 t204 x209002_4 = some r) ∧ Aside0 (kq ≤ k) ∧ Aside0 (Kd.R (Kd.int .i64) 3 wc w.heap.size (fun _ => True) u209002 x209002_4) ∧ Aside0 (wc.heap[gb202]? = some (.cells #[.int .i64 a0_0, .int .i64 a0_1, (.slice A0_2 l0_2.length c0_2)] 43 (0, 0))) ∧ Aside0 (wc.heap[gb208]? = some (.cells #[.int .i64 t203, .int .i64 t204, u209002] 43 (0, 0))) ∧ Aside0 (Below w.heap.size w wc))
 case first =>
  have H := HC5.out
  clear HC5
  by_cases c13 : a2 ≥ 0
  {
  rw [if_pos c13] at H
  have c13b0 := decide_eq_true c13
  clear c13
  (first | rw [c13b0] | (simp only [i64_w, i32_w]; rw [c13b0]) | rw [@decide_eq_true _ _ (of_decide_eq_true c13b0)] | rw [@decide_eq_true _ _ (of_decide_eq_true c13b1)] | skip)
  by_cases c14 : 0 ≤ a2
  {
  rw [if_pos c14] at H
  have c14b0 := decide_eq_true c14
  clear c14
  by_cases c15 : a2 < (t205.length : Int)
  {
  rw [if_pos c15] at H
  have c15b0 := decide_eq_true c15
  clear c15
  obtain ⟨y209, hy209⟩ : ∃ y_ : List Int, y_ = (t205.set (a2 : Int).toNat 0) := ⟨_, rfl⟩
  replace H : (spec_l2Reached.j0 k a1 t203 t204 y209) = some r := by first | (rw [hy209]; with_reducible exact H) | (have H2_ := (Option.bind_some _ _).symm.trans H; rw [hy209]; with_reducible exact H2_) | (have H2_ := (Option.bind_some _ _).symm.trans H; with_reducible exact H2_) | with_reducible exact H | (rw [hy209]; exact H) | exact H
  have Ny209 := aM hy209
  clear hy209
  have H' := aM H
  clear H
  generalize hq_ : (((w9.setCell ⟨gb208, 0, none⟩ (.int .i64 t203)).setCell ⟨gb208, 1, none⟩ (.int .i64 t204)).setCell ⟨gb208, 2, none⟩ (.slice Ao12 t205.length co12)) = w17
  have n0_ : Aside0 (Kd.R (Kd.int .i64) 3 w17 w.heap.size (fun _ => True) (.slice Ao12 t205.length co12) t205) := ⟨by rw [← hq_]; exact (by (with_reducible repeat (first | apply Kd.R_alloc | apply Kd.R_drewN | apply Kd.R_drew)); exact Kd.R_mono (Kd.R_far (p := ⟨gb208, 2, none⟩) (Kd.R_far (p := ⟨gb208, 1, none⟩) (Kd.R_far (p := ⟨gb208, 0, none⟩) (Kd.R_types HO207.out BK208.out (by decide)) (fun _ hk => hk.2) (.int .i64 t203)) (fun _ hk => hk.2) (.int .i64 t204)) (fun _ hk => hk.2) (.slice Ao12 t205.length co12)) (fun _ hk => trivial))⟩
  have n1_ : Aside0 (w17.heap[gb202]? = some (.cells #[.int .i64 a0_0, .int .i64 a0_1, .slice A0_2 l0_2.length c0_2] 43 (0, 0))) := ⟨by rw [← hq_]; exact (by (with_reducible repeat (first | refine blk_drewN ?_ _ | refine blk_drew ?_ | refine blk_alloc ?_ _)); refine blk_far ?_ NB202_208.out _; (with_reducible repeat (first | refine blk_drewN ?_ _ | refine blk_drew ?_ | refine blk_alloc ?_ _)); refine blk_far ?_ NB202_208.out _; (with_reducible repeat (first | refine blk_drewN ?_ _ | refine blk_drew ?_ | refine blk_alloc ?_ _)); refine blk_far ?_ NB202_208.out _; exact bk_ BK202.out)⟩
  have n2_ : Aside0 (w17.heap[gb208]? = some (.cells #[.int .i64 t203, .int .i64 t204, .slice Ao12 t205.length co12] 43 (0, 0))) := ⟨by rw [← hq_]; exact (by (with_reducible repeat (first | refine blk_drewN ?_ _ | refine blk_drew ?_ | refine blk_alloc ?_ _)); refine blk_put (cs := #[.int .i64 t203, .int .i64 t204, .slice none 0 0]) ?_ 2 _ rfl; (with_reducible repeat (first | refine blk_drewN ?_ _ | refine blk_drew ?_ | refine blk_alloc ?_ _)); refine blk_put (cs := #[.int .i64 t203, .int .i64 0, .slice none 0 0]) ?_ 1 _ rfl; (with_reducible repeat (first | refine blk_drewN ?_ _ | refine blk_drew ?_ | refine blk_alloc ?_ _)); refine blk_put (cs := #[.int .i64 0, .int .i64 0, .slice none 0 0]) ?_ 0 _ rfl; exact bk_ BK208.out)⟩
  have n3_ : Aside0 (Below w.heap.size w w17) := ⟨by rw [← hq_]; exact qz66⟩
  (try clear HO207)
  (try clear BK202)
  (try clear BK208)
  (try clear HB)
  clear hq_
  have HO207 := n0_
  have BK202 := n1_
  have BK208 := n2_
  have HB := n3_
  clear n0_ n1_ n2_ n3_
  have hnb18 := NB208_202.out
  have hnc18 := NB202_208.out
  obtain ⟨hcz19_0, hcz19_1, hcz19_2, hfz19_0, hfz19_1, hfz19_2⟩ := b6_ BK208.out
  have p16 : 0 ≤ (a2 : Int) := of_decide_eq_true qz2
  have q16 : (a2 : Int) < ((t205.length : Int) : Int) := of_decide_eq_true qz2
  obtain ⟨go16, co16, eo16, gb16, gl16, cl16, HG16⟩ := Kd.R_form HO207.out (by omega)
  (first | cases eo16 | (injection eo16 with ea_ en_ ec_; (first | subst ea_ | (injection ea_ with ea_; subst ea_)); subst ec_; clear en_))
  have GB16 := aM gb16
  have GG16 := aM HG16
  clear gb16 gl16 HG16
  obtain ⟨hx16_0, hf16_0⟩ := Kd.R_celln 0 HO207.out (a2 : Int) p16 q16
  replace p16 := eq_true p16
  replace q16 := eq_true q16
  obtain ⟨hy20_, hz20_⟩ := Kd.R_celln 0 HO207.out (a2 : Int) (of_decide_eq_true qz2) (of_decide_eq_true qz2)
  have HP20 := Kd.R_putg HO207.out (a2 : Int) 0
  go_wp2_with (first | ((with_reducible refine gate_store (t := 3) (p := 18) rfl ?_); refine store_event (t := 3) (p := 18) (v := ?vo_w21) (w1 := (w17.setCell ⟨go16, (a2 : Int).toNat, none⟩ (.int .i64 0))) ?hg ?ho ?hn ?hr ?_; (case ho => rfl); (case hg => rfl); (case hn => rfl); (case hr => exact qz28); intro w21 hw; have hg : w17.grownBy w21 (some go16) := (by rw [hw]; exact HP20.2); have hp_ : Kd.R (Kd.int .i64) 3 w21 w.heap.size (fun _ => True) (.slice (some ⟨go16, 0, none⟩) t205.length co12) y209 := (by rw [hw, Ny209.out]; exact HP20.1); clear HP20; have n0_ := aM (blk_grown (bk_ BK202.out) hg (Kd.R_ne HO207.out BK202.out (by decide))); have n1_ := aM (hp_); have n2_ := aM (blk_grown (bk_ BK208.out) hg (Kd.R_ne HO207.out BK208.out (by decide))); have n3_ := aM ((by rw [hw]; exact below_set (HB.out) GB16.out : Below w.heap.size w w21)); clear BK202 HO207 BK208 HB; have BK202 := n0_; have HO207 := n1_; have BK208 := n2_; have HB := n3_; clear n0_ n1_ n2_ n3_; clear hg hw hp_))
  go_meet
  case rel => exact ⟨_, (y209), (.slice (some ⟨go16, 0, none⟩) t205.length co12), H', ⟨by first | omega | exact Nat.le_refl _⟩, ⟨rm_ HO207.out⟩, ⟨bk_ BK202.out⟩, ⟨bk_ BK208.out⟩, ⟨by repeat (first | (with_reducible first | exact HB.out | apply below_alloc | apply pw_below_drewN | apply below_drew1 | refine below_set ?_ GE202.out | refine below_set ?_ GE208.out) | exact HB.out)⟩⟩
  }
  {
  rw [if_neg c15] at H
  exact absurd H (by simp)
  }
  }
  {
  rw [if_neg c14] at H
  exact absurd H (by simp)
  }
  }
  {
  rw [if_neg c13] at H
  have c13b0 := decide_eq_false c13
  clear c13
  (first | rw [c13b0] | (simp only [i64_w, i32_w]; rw [c13b0]) | rw [@decide_eq_false _ _ (of_decide_eq_false c13b0)] | rw [@decide_eq_false _ _ (of_decide_eq_false c13b1)] | skip)
  have H' := aM H
  clear H
  go_wp2
  go_meet
  case rel => exact ⟨_, (t205), (.slice Ao12 t205.length co12), H', ⟨by first | omega | exact Nat.le_refl _⟩, ⟨by (with_reducible repeat (first | apply Kd.R_alloc | apply Kd.R_drewN | apply Kd.R_drew)); exact Kd.R_mono (Kd.R_far (p := ⟨gb208, 2, none⟩) (Kd.R_far (p := ⟨gb208, 1, none⟩) (Kd.R_far (p := ⟨gb208, 0, none⟩) (Kd.R_types HO207.out BK208.out (by decide)) (fun _ hk => hk.2) (.int .i64 t203)) (fun _ hk => hk.2) (.int .i64 t204)) (fun _ hk => hk.2) (.slice Ao12 t205.length co12)) (fun _ hk => trivial)⟩, ⟨by (with_reducible repeat (first | refine blk_drewN ?_ _ | refine blk_drew ?_ | refine blk_alloc ?_ _)); refine blk_far ?_ NB202_208.out _; (with_reducible repeat (first | refine blk_drewN ?_ _ | refine blk_drew ?_ | refine blk_alloc ?_ _)); refine blk_far ?_ NB202_208.out _; (with_reducible repeat (first | refine blk_drewN ?_ _ | refine blk_drew ?_ | refine blk_alloc ?_ _)); refine blk_far ?_ NB202_208.out _; exact bk_ BK202.out⟩, ⟨by (with_reducible repeat (first | refine blk_drewN ?_ _ | refine blk_drew ?_ | refine blk_alloc ?_ _)); refine blk_put (cs := #[.int .i64 t203, .int .i64 t204, .slice none 0 0]) ?_ 2 _ rfl; (with_reducible repeat (first | refine blk_drewN ?_ _ | refine blk_drew ?_ | refine blk_alloc ?_ _)); refine blk_put (cs := #[.int .i64 t203, .int .i64 0, .slice none 0 0]) ?_ 1 _ rfl; (with_reducible repeat (first | refine blk_drewN ?_ _ | refine blk_drew ?_ | refine blk_alloc ?_ _)); refine blk_put (cs := #[.int .i64 0, .int .i64 0, .slice none 0 0]) ?_ 0 _ rfl; exact bk_ BK208.out⟩, ⟨by repeat (first | (with_reducible first | exact HB.out | apply below_alloc | apply pw_below_drewN | apply below_drew1 | refine below_set ?_ GE202.out | refine below_set ?_ GE208.out) | exact HB.out)⟩⟩
  }
 case rest =>
  clear HC5
  try clear c1
  try clear p1
  try clear q1
  try clear hx1
  try clear p2
  try clear c7
  try clear c10
  try clear c13
  try clear c13b0
  try clear c13b1
  try clear c14
  try clear c14b0
  try clear c15
  try clear c15b0
  try clear p16
  try clear q16
  try clear hx16
  try clear hf16
  try clear c18
  try clear hcz11_0
  try clear hcz11_1
  try clear hcz11_2
  try clear hcz19_0
  try clear hcz19_1
  try clear hcz19_2
  try clear hcz7_0
  try clear hcz7_1
  try clear hcz7_2
  try clear hfz11_0
  try clear hfz11_1
  try clear hfz11_2
  try clear hfz19_0
  try clear hfz19_1
  try clear hfz19_2
  try clear hfz7_0
  try clear hfz7_1
  try clear hfz7_2
  try clear hx16_0
  try clear p16
  try clear q16
  obtain ⟨kq, x209002_4, u209002, HA, HJ4, HO_209002, BK202, BK208, HB⟩ := hcut
  cases kq with
  | zero => exact absurd HA.out (by simp [spec_l2Reached.j0])
  | succ kj4 =>
   have H := HA.out
   clear HA
   simp only [spec_l2Reached.j0] at H
   replace H := Option.bind_eq_some_iff.mp H
   obtain ⟨t210, A220, H⟩ := H
   replace H : (spec_l2Reached.l0 kj4 0 t210 0) = some r := H
   have A22 := aM A220
   clear A220
   have H' := aM H
   clear H
   have hnb23 := NB208_202.out
   have hnc23 := NB202_208.out
   obtain ⟨hcz24_0, hcz24_1, hcz24_2, hfz24_0, hfz24_1, hfz24_2⟩ := b6_ BK208.out
   obtain ⟨Ao25, co25, eo25⟩ := Kd.R_slice HO_209002.out
   subst eo25
   go_wp2_with (first | ((with_reducible refine gate_callee (f := 80) rfl ?_); refine goesL_ (some 21) rfl rfl Try.func80 (by kernel_rfl) rfl #[.agg #[.int .i64 t203, .int .i64 t204, .slice Ao25 x209002_4.length co25], .int .i64 a1, .bool false] rfl qz3 ?_; (with_reducible refine (spec_l2Field.calls kj4 t203 t204 _ _ x209002_4 a1 false t210 _ ?side1 ?side2 A22.out).mono ?_); (case side1 => repeat (first | exact (Kd.R_reads' HO_209002.out).2.2 | (with_reducible refine Kd.C_alloc ?_ _) | (with_reducible refine Kd.C_drewN ?_ _) | (with_reducible refine Kd.C_drew ?_))); (case side2 => exact (Kd.R_reads' HO_209002.out).2.1); rintro e w26 ⟨v211, rfl, ho0, hb⟩; refine ⟨_, rfl, ?_⟩; have n0_ := aM (Kd.R_elder' (rr_ HO_209002.out) (Kd.R_base ho0) hb); have n1_ := aM (Kd.R_lower (Kd.R_new' ho0 (Kd.R_lt (rr_ HO_209002.out))) (below_size qz66)); have n2_ := aM (blk_below (bk_ BK202.out) hb); have n3_ := aM (blk_below (bk_ BK208.out) hb); have n4_ := aM (below_step qz66 hb); clear HO_209002 BK202 BK208 HB; have HO_209002 := n0_; have HO212 := n1_; have BK202 := n2_; have BK208 := n3_; have HB := n4_; clear n0_ n1_ n2_ n3_ n4_; (try clear hb); (try clear hb2); (try clear hk); (try clear hi); (try clear ho0)))
   go_loopg [8, 10] kj4 (fun kq v8 v10 w' => ∃ (x8_2 : Int) (x10_2 : Int), v8 = .int .i64 x8_2 ∧ v10 = .int .i64 x10_2 ∧ Aside0 (spec_l2Reached.l0 kq x8_2 t210 x10_2 = some r) ∧ Aside0 (kq ≤ kj4) ∧ Aside0 (Kd.R (Kd.int .i64) 3 w' w.heap.size (fun k_ => some k_ ≠ ((.slice Ao25 x209002_4.length co25) : Value).ownBlock) v211 t210) ∧ Aside0 (Kd.R (Kd.int .i64) 3 w' w.heap.size (fun k_ => some k_ ≠ (v211 : Value).ownBlock) (.slice Ao25 x209002_4.length co25) x209002_4) ∧ Aside0 (w'.heap[gb202]? = some (.cells #[.int .i64 a0_0, .int .i64 a0_1, (.slice A0_2 l0_2.length c0_2)] 43 (0, 0))) ∧ Aside0 (w'.heap[gb208]? = some (.cells #[.int .i64 t203, .int .i64 t204, (.slice Ao25 x209002_4.length co25)] 43 (0, 0))) ∧ Aside0 (Below w.heap.size w w'))
   case atStart => exact ⟨(0), (0), qz5, qz5, H', ⟨Nat.le_refl _⟩, ⟨by (with_reducible repeat (first | apply Kd.R_alloc | apply Kd.R_drewN | apply Kd.R_drew)); exact Kd.R_mono HO212.out (fun _ hk => hk.2)⟩, ⟨by (with_reducible repeat (first | apply Kd.R_alloc | apply Kd.R_drewN | apply Kd.R_drew)); exact Kd.R_mono HO_209002.out (fun _ hk => hk.2)⟩, ⟨bk_ BK202.out⟩, ⟨bk_ BK208.out⟩, ⟨by repeat (first | (with_reducible first | exact HB.out | apply below_alloc | apply pw_below_drewN | apply below_drew1 | refine below_set ?_ GE202.out | refine below_set ?_ GE208.out) | exact HB.out)⟩⟩
   case round =>
    clear H'
    try clear c1
    try clear p1
    try clear q1
    try clear hx1
    try clear c2
    try clear p2
    try clear c7
    try clear c8
    try clear c10
    try clear c13
    try clear c13b0
    try clear c13b1
    try clear c14
    try clear c14b0
    try clear c15
    try clear c15b0
    try clear p16
    try clear q16
    try clear hx16
    try clear hf16
    try clear c18
    try clear c23
    try clear hcz11_0
    try clear hcz11_1
    try clear hcz11_2
    try clear hcz19_0
    try clear hcz19_1
    try clear hcz19_2
    try clear hcz24_0
    try clear hcz24_1
    try clear hcz24_2
    try clear hcz7_0
    try clear hcz7_1
    try clear hcz7_2
    try clear hfz11_0
    try clear hfz11_1
    try clear hfz11_2
    try clear hfz19_0
    try clear hfz19_1
    try clear hfz19_2
    try clear hfz24_0
    try clear hfz24_1
    try clear hfz24_2
    try clear hfz7_0
    try clear hfz7_1
    try clear hfz7_2
    try clear hx16_0
    try clear p1
    try clear p16
    try clear p2
    try clear q1
    try clear q16
    obtain ⟨x8_2, x10_2, rfl, rfl, HA, HK2, HO_9, HO_209002, BK202, BK208, HB⟩ := hrel
    cases gk with
    | zero => exact absurd HA.out (by simp [spec_l2Reached.l0])
    | succ k2 =>
     have H := HA.out
     clear HA
     simp only [spec_l2Reached.l0] at H
     by_cases c27 : x10_2 < (t210.length : Int)
     {
     rw [if_pos c27] at H
     have c27b0 := decide_eq_true c27
     clear c27
     by_cases c28 : 0 ≤ x10_2
     {
     rw [if_pos c28] at H
     have c28b0 := decide_eq_true c28
     clear c28
     by_cases c29 : (rd t210 x10_2) ≥ 0
     {
     rw [if_pos c29] at H
     have c29b0 := decide_eq_true c29
     clear c29
     have H' := aM H
     clear H
     obtain ⟨Ao30, co30, eo30⟩ := Kd.R_slice HO_9.out
     subst eo30
     have p213 : 0 ≤ (x10_2 : Int) := of_decide_eq_true qz2
     have q213 : x10_2 < (t210.length : Int) := of_decide_eq_true qz2
     obtain ⟨ad213, e213, hx213_0⟩ := Kd.at_int (Kd.R_reads' HO_9.out).2.2 x10_2 p213 q213
     cases e213
     replace p213 := eq_true p213
     replace q213 := eq_true q213
     go_wp2
     go_roundg k2
     case measure => have := HJ4.out; have := HK2.out; omega
     case rel => exact ⟨(wrap64 (x8_2 + 1)), (wrap64 (x10_2 + 1)), qz5, qz5, H', ⟨by have := HJ4.out; have := HK2.out; omega⟩, ⟨rm_ HO_9.out⟩, ⟨rm_ HO_209002.out⟩, ⟨bk_ BK202.out⟩, ⟨bk_ BK208.out⟩, ⟨by repeat (first | (with_reducible first | exact HB.out | apply below_alloc | apply pw_below_drewN | apply below_drew1 | refine below_set ?_ GE202.out | refine below_set ?_ GE208.out) | exact HB.out)⟩⟩
     }
     {
     rw [if_neg c29] at H
     have c29b0 := decide_eq_false c29
     clear c29
     have H' := aM H
     clear H
     obtain ⟨Ao31, co31, eo31⟩ := Kd.R_slice HO_9.out
     subst eo31
     have p213 : 0 ≤ (x10_2 : Int) := of_decide_eq_true qz2
     have q213 : x10_2 < (t210.length : Int) := of_decide_eq_true qz2
     obtain ⟨ad213, e213, hx213_0⟩ := Kd.at_int (Kd.R_reads' HO_9.out).2.2 x10_2 p213 q213
     cases e213
     replace p213 := eq_true p213
     replace q213 := eq_true q213
     go_wp2
     go_roundg k2
     case measure => have := HJ4.out; have := HK2.out; omega
     case rel => exact ⟨(x8_2), (wrap64 (x10_2 + 1)), qz5, qz5, H', ⟨by have := HJ4.out; have := HK2.out; omega⟩, ⟨rm_ HO_9.out⟩, ⟨rm_ HO_209002.out⟩, ⟨bk_ BK202.out⟩, ⟨bk_ BK208.out⟩, ⟨by repeat (first | (with_reducible first | exact HB.out | apply below_alloc | apply pw_below_drewN | apply below_drew1 | refine below_set ?_ GE202.out | refine below_set ?_ GE208.out) | exact HB.out)⟩⟩
     }
     }
     {
     rw [if_neg c28] at H
     exact absurd H (by simp)
     }
     }
     {
     rw [if_neg c27] at H
     have c27b0 := decide_eq_false c27
     clear c27
     obtain rfl := Option.some.inj H
     simp only [Option.some.injEq, Prod.mk.injEq] at H
     obtain ⟨rfl⟩ := H
     obtain ⟨Ao32, co32, eo32⟩ := Kd.R_slice HO_9.out
     subst eo32
     go_wp2
     go_ret
     exact ⟨by first | rfl | (simp [errW_none, errW_some] <;> rfl) | (simp [*, errW_none, errW_some] <;> rfl), by repeat (first | (with_reducible first | exact HB.out | apply below_alloc | apply pw_below_drewN | apply below_drew1 | refine below_set ?_ GE202.out | refine below_set ?_ GE208.out) | exact HB.out)⟩

     }
/-! ### spec_Together: function 54 -/
def spec_Together.f (k : Nat) (a0_0 : Int) (a0_1 : Int) (l0_2 : List Int) : Option (Bool) := (spec_FloorOk.f k a0_0 a0_1 l0_2).bind fun t215 => (if t215 = true then ((spec_l2Free.f k a0_0 a0_1 l0_2).bind fun t216 => (if (t216.length : Int) > 0 then (if 0 < (t216.length : Int) then ((spec_l2Reached.f k a0_0 a0_1 l0_2 (rd t216 0) (-1)).bind fun t220 => (some (t220 == (t216.length : Int)))) else (none)) else (some false))) else (some false))
theorem spec_Together.mono : ∀ a0 a1 a2 k, LeO (spec_Together.f k a0 a1 a2) (spec_Together.f (k + 1) a0 a1 a2) := by
 intro a0 a1 a2 k
 unfold spec_Together.f
 repeat' first
  | (with_reducible first | exact spec_FloorOk.mono _ _ _ _ | exact spec_l2Free.mono _ _ _ _ | exact spec_l2Reached.mono _ _ _ _ _ _ | exact LeO.refl _ | exact LeO.none _ | refine LeO.ite ?_ ?_ | refine LeO.bind ?_ (fun _ => ?_))
  | exact spec_FloorOk.mono _ _ _ _
  | exact spec_l2Free.mono _ _ _ _
  | exact spec_l2Reached.mono _ _ _ _ _ _
  | exact LeO.none _
  | refine LeO.ite ?_ ?_
  | refine LeO.bind ?_ (fun _ => ?_)
def spec_Together.T4 : Bool × List (List Nat × List Nat) := (true, [([], []), ([0], [0]), ([1], [1]), ([2], [2]), ([3], [3]), ([3], [3]), ([5, 3], [3, 5]), ([6, 3], [3, 6]), ([4, 7, 3, 3], [3, 4, 7]), ([3], [3]), ([9, 3], [3, 9]), ([8, 10, 3], [3, 8, 10]), ([3, 11], [3, 11]), ([12, 8, 0, 1, 2, 3, 4, 5, 6, 7, 8, 9, 10, 11, 12], [12])])
def spec_Together.B4 : List Nat := [0, 1, 3, 7, 15, 15, 47, 111, 255, 15, 527, 2047, 4095, 8191]
theorem spec_Together.tab4 : rtab .any (opsOf Try.f54 4) = spec_Together.T4 := by kernel_rfl
theorem spec_Together.bits4 : waitsOk spec_Together.T4.2 spec_Together.B4 = true := by kernel_rfl
set_option maxHeartbeats 8000000 in
set_option maxRecDepth 100000 in
theorem spec_Together.calls (k : Nat) (a0_0 : Int) (a0_1 : Int) (A0_2 : Option Addr) (c0_2 : Nat) (l0_2 : List Int) (r : Bool) (w : World) (hr0_2 : Kd.C (Kd.int .i64) w A0_2 l0_2.length l0_2) (hc0_2 : l0_2.length ≤ c0_2) (h : spec_Together.f k a0_0 a0_1 l0_2 = some r) :
  Calls Try.prog 54 #[.agg #[.int .i64 a0_0, .int .i64 a0_1, .slice A0_2 l0_2.length c0_2]] w fun e w' => e = .returned (.bool r) ∧ Below w.heap.size w w' := by
 have hu43 := Try.underlying43
 have HR0_2 := aM hr0_2
 have HC0_2 := aM hc0_2
 clear hr0_2 hc0_2
 have HB := aM (Below.refl w.heap.size w)
 have H : ((spec_FloorOk.f k a0_0 a0_1 l0_2).bind fun t215 => (if t215 = true then ((spec_l2Free.f k a0_0 a0_1 l0_2).bind fun t216 => (if (t216.length : Int) > 0 then (if 0 < (t216.length : Int) then ((spec_l2Reached.f k a0_0 a0_1 l0_2 (rd t216 0) (-1)).bind fun t220 => (some (t220 == (t216.length : Int)))) else (none)) else (some false))) else (some false))) = some r := h
 clear h
 replace H := Option.bind_eq_some_iff.mp H
 obtain ⟨t215, A20, H⟩ := H
 replace H : (if t215 = true then ((spec_l2Free.f k a0_0 a0_1 l0_2).bind fun t216 => (if (t216.length : Int) > 0 then (if 0 < (t216.length : Int) then ((spec_l2Reached.f k a0_0 a0_1 l0_2 (rd t216 0) (-1)).bind fun t220 => (some (t220 == (t216.length : Int)))) else (none)) else (some false))) else (some false)) = some r := H
 have A2 := aM A20
 clear A20
 by_cases c3 : t215 = true
 {
 subst c3
 rw [if_pos rfl] at H
 replace H := Option.bind_eq_some_iff.mp H
 obtain ⟨t216, A40, H⟩ := H
 replace H : (if (t216.length : Int) > 0 then (if 0 < (t216.length : Int) then ((spec_l2Reached.f k a0_0 a0_1 l0_2 (rd t216 0) (-1)).bind fun t220 => (some (t220 == (t216.length : Int)))) else (none)) else (some false)) = some r := H
 have A4 := aM A40
 clear A40
 by_cases c5 : (t216.length : Int) > 0
 {
 rw [if_pos c5] at H
 have c5b0 := decide_eq_true c5
 have c5b1 : decide (0 < t216.length) = true := decide_eq_true (by omega)
 clear c5
 by_cases c6 : 0 < (t216.length : Int)
 {
 rw [if_pos c6] at H
 have c6b0 := decide_eq_true c6
 have c6b1 : decide (0 < t216.length) = true := decide_eq_true (by omega)
 clear c6
 replace H := Option.bind_eq_some_iff.mp H
 obtain ⟨t220, A70, H⟩ := H
 replace H : (some (t220 == (t216.length : Int))) = some r := H
 have A7 := aM A70
 clear A70
 obtain rfl := Option.some.inj H
 simp only [Option.some.injEq, Prod.mk.injEq] at H
 obtain ⟨rfl⟩ := H
 go_enter Try.func54, Try.ntmps54
 try go_wp2_with (first | ((with_reducible refine gate_dst (N := 1) rfl ?_); (try (refine gate_guard (by rfl) ?_; dsimp only)); refine bx_ 1 #[.int .i64 a0_0, .int .i64 a0_1, .slice A0_2 l0_2.length c0_2] 43 ?_; intro gb214 hg w8 hbox hb; have n0_ := aM (below_step qz1 hb); have n1_ := aM (hbox); have n2_ := aM ((by rw [hg]; exact (below_size qz1) : w.heap.size ≤ gb214)); have n3_ := aM ((by rw [hg]; exact (below_size qz1) : w.heap.size ≤ gb214)); clear HB; have HB := n0_; have BK214 := n1_; have GW214 := n2_; have GE214 := n3_; clear n0_ n1_ n2_ n3_; clear hb hbox hg; obtain ⟨hcz9_0, hcz9_1, hcz9_2, hfz9_0, hfz9_1, hfz9_2⟩ := b6_ BK214.out) | ((with_reducible refine gate_callee (f := 60) rfl ?_); refine goesL_ (some 5) rfl rfl Try.func60 (by kernel_rfl) rfl #[.agg #[.int .i64 a0_0, .int .i64 a0_1, .slice A0_2 l0_2.length c0_2]] rfl qz3 ?_; (with_reducible refine (spec_FloorOk.calls k a0_0 a0_1 _ _ l0_2 true _ ?side1 ?side2 A2.out).mono ?_); (case side1 => exact qz4); (case side2 => exact qz69); rintro e w10 ⟨rfl, hb⟩; refine ⟨_, rfl, ?_⟩; have n0_ := aM (blk_below (bk_ BK214.out) hb); have n1_ := aM (below_step qz34 hb); clear BK214 HB; have BK214 := n0_; have HB := n1_; clear n0_ n1_; (try clear hb); (try clear hb2); (try clear hk); (try clear hi); obtain ⟨hcz11_0, hcz11_1, hcz11_2, hfz11_0, hfz11_1, hfz11_2⟩ := b6_ BK214.out) | ((with_reducible refine gate_callee (f := 55) rfl ?_); refine goesL_ (some 8) rfl rfl Try.func55 (by kernel_rfl) rfl #[.agg #[.int .i64 a0_0, .int .i64 a0_1, .slice A0_2 l0_2.length c0_2]] rfl qz3 ?_; (with_reducible refine (spec_l2Free.calls k a0_0 a0_1 _ _ l0_2 t216 _ ?side1 ?side2 A4.out).mono ?_); (case side1 => exact qz4); (case side2 => exact qz69); rintro e w12 ⟨v217, rfl, ho0, hb⟩; refine ⟨_, rfl, ?_⟩; have n0_ := aM (Kd.R_lower ho0 (below_size qz34)); have n1_ := aM (blk_below (bk_ BK214.out) hb); have n2_ := aM (below_step qz34 hb); clear BK214 HB; have HO218 := n0_; have BK214 := n1_; have HB := n2_; clear n0_ n1_ n2_; (try clear hb); (try clear hb2); (try clear hk); (try clear hi); (try clear ho0)))
 have n0_ := aM (Kd.R_drew HO218.out)
 have n1_ := aM (blk_drew BK214.out)
 have n2_ := aM (below_drew1 HB.out)
 clear HO218
 clear BK214
 clear HB
 have HO218 := n0_
 have BK214 := n1_
 have HB := n2_
 clear n0_ n1_ n2_
 obtain ⟨Ao14, co14, eo14⟩ := Kd.R_slice HO218.out
 (first | subst eo14 | (injection eo14 with f1_ f2_ f3_; have f4_ := f1_.symm; have f5_ := f3_.symm; clear f1_ f2_ f3_; subst f4_; subst f5_))
 have p219 : 0 ≤ (0 : Int) := (by omega)
 have q219 : 0 < (t216.length : Int) := of_decide_eq_true qz2
 obtain ⟨ad219, e219, hx219_0⟩ := Kd.at_int (Kd.R_reads' HO218.out).2.2 0 p219 q219
 cases e219
 have qi219 : (0 < t216.length) = True := eq_true (by omega)
 (try rw [show ((0 : Int)).toNat = 0 from rfl] at hx219_0)
 (try rw [Addr.add_zero'] at hx219_0)
 replace p219 := eq_true p219
 replace q219 := eq_true q219
 refine start_ (n := 14) (S := fun w' => w'.cell? ⟨gb214, 0, none⟩ = some (.int .i64 a0_0) ∧ w'.cell? ⟨gb214, 1, none⟩ = some (.int .i64 a0_1) ∧ w'.cell? ⟨gb214, 2, none⟩ = some (.slice A0_2 l0_2.length c0_2) ∧ w'.cell? ad219 = some (.int .i64 (rd t216 0))) (ds := []) #[false, false, false, false, false, false, false, false, false, false, false, false, false, false] (by kernel_rfl) rfl rfl ⟨(blk_cell BK214.out 0).trans rfl, (blk_cell BK214.out 1).trans rfl, (blk_cell BK214.out 2).trans rfl, hx219_0⟩ (fun hHeld => ?_); refine with_tabW spec_Together.tab4 spec_Together.bits4 (fun HT_ HW_ => ?_)
 generalize w12.drew = w13 at HO218 BK214 HB hx219_0 hHeld ⊢
 refine pI_ 0 9 (bqz 14 1) ?_
 refine pI_ 1 10 (bqz 14 3) ?_
 refine pI_ 2 11 (bqz 14 7) ?_
 refine pI_ 3 12 (bqz 14 15) ?_
 refine pI_ 5 14 (bqz 14 47) ?_
 refine pI_ 6 15 (bqz 14 111) ?_
 refine pI_ 9 18 (bqz 14 623) ?_
 refine pI_ 10 19 (bqz 14 1647) ?_
 refine tI4_ 4 13 (bqz 14 1663) ?_
 refine tI4_ 7 16 (bqz 14 1791) ?_
 refine one_ (i := 8) (N := some 17) (bqz 14 2047) rfl rfl qzc (by decide) (fun K hK => ?_)
 refine goes_ Try.func71 (by kernel_rfl) rfl #[.agg #[.int .i64 a0_0, .int .i64 a0_1, .slice A0_2 l0_2.length c0_2], .int .i64 (rd t216 0), .int .i64 (-1)] (by rfl) rfl rfl qz3 ?_
 with_reducible refine (spec_l2Reached.calls k a0_0 a0_1 _ _ l0_2 (rd t216 0) (-1) t220 _ ?side1 ?side2 A7.out).mono ?_
 (case side1 => exact qz4)
 (case side2 => exact qz69)
 rintro e w15 ⟨rfl, hb⟩
 have HS3_ := (hb.cell (World.block_lt_of_cell? _ _ (hHeld.2.2.2))).trans (hHeld.2.2.2)
 refine ⟨_, rfl, ?_⟩
 have n0_ := aM (Kd.R_below (rr_ HO218.out) hb)
 have n1_ := aM (blk_below (bk_ BK214.out) hb)
 have n2_ := aM (below_step qz34 hb)
 clear HO218
 clear BK214
 clear HB
 have HO218 := n0_
 have BK214 := n1_
 have HB := n2_
 clear n0_ n1_ n2_
 (try clear hb)
 (try clear hb2)
 (try clear hk)
 (try clear hi)
 refine hK.out _ _ ⟨(blk_cell BK214.out 0).trans rfl, (blk_cell BK214.out 1).trans rfl, (blk_cell BK214.out 2).trans rfl, HS3_⟩ (fun hHeld => ?_)
 clear hK K
 refine norm_ (a' := ?_) ?_ ?_
 rotate_left
 {
 show Act.put _ (some 17) _ = _
 simp only [qzs]
 rfl
 }
 refine pI_ 11 20 (bqz 14 4095) ?_
 refine pI_ 12 21 (bqz 14 8191) ?_
 refine pI_ 13 2 (bqz 14 16383) ?_
 refine done_ (done_of HT_.out (by kernel_rfl)) ?_
 try go_wp2
 go_ret
 exact ⟨by first | rfl | (simp [errW_none, errW_some] <;> rfl) | (simp [*, errW_none, errW_some] <;> rfl), by repeat (first | (with_reducible first | exact HB.out | apply below_alloc | apply pw_below_drewN | apply below_drew1 | refine below_set ?_ GE214.out) | exact HB.out)⟩
 }
 {
 rw [if_neg c6] at H
 exact absurd H (by simp)
 }
 }
 {
 rw [if_neg c5] at H
 have c5b0 := decide_eq_false c5
 have c5b1 : decide (0 < t216.length) = false := decide_eq_false (by omega)
 clear c5
 obtain rfl := Option.some.inj H
 simp only [Option.some.injEq, Prod.mk.injEq] at H
 obtain ⟨rfl⟩ := H
 go_enter Try.func54, Try.ntmps54
 try go_wp2_with (first | ((with_reducible refine gate_dst (N := 1) rfl ?_); (try (refine gate_guard (by rfl) ?_; dsimp only)); refine bx_ 1 #[.int .i64 a0_0, .int .i64 a0_1, .slice A0_2 l0_2.length c0_2] 43 ?_; intro gb214 hg w16 hbox hb; have n0_ := aM (below_step qz1 hb); have n1_ := aM (hbox); have n2_ := aM ((by rw [hg]; exact (below_size qz1) : w.heap.size ≤ gb214)); have n3_ := aM ((by rw [hg]; exact (below_size qz1) : w.heap.size ≤ gb214)); clear HB; have HB := n0_; have BK214 := n1_; have GW214 := n2_; have GE214 := n3_; clear n0_ n1_ n2_ n3_; clear hb hbox hg; obtain ⟨hcz17_0, hcz17_1, hcz17_2, hfz17_0, hfz17_1, hfz17_2⟩ := b6_ BK214.out) | ((with_reducible refine gate_callee (f := 60) rfl ?_); refine goesL_ (some 5) rfl rfl Try.func60 (by kernel_rfl) rfl #[.agg #[.int .i64 a0_0, .int .i64 a0_1, .slice A0_2 l0_2.length c0_2]] rfl qz3 ?_; (with_reducible refine (spec_FloorOk.calls k a0_0 a0_1 _ _ l0_2 true _ ?side1 ?side2 A2.out).mono ?_); (case side1 => exact qz4); (case side2 => exact qz69); rintro e w18 ⟨rfl, hb⟩; refine ⟨_, rfl, ?_⟩; have n0_ := aM (blk_below (bk_ BK214.out) hb); have n1_ := aM (below_step qz34 hb); clear BK214 HB; have BK214 := n0_; have HB := n1_; clear n0_ n1_; (try clear hb); (try clear hb2); (try clear hk); (try clear hi); obtain ⟨hcz19_0, hcz19_1, hcz19_2, hfz19_0, hfz19_1, hfz19_2⟩ := b6_ BK214.out) | ((with_reducible refine gate_callee (f := 55) rfl ?_); refine goesL_ (some 8) rfl rfl Try.func55 (by kernel_rfl) rfl #[.agg #[.int .i64 a0_0, .int .i64 a0_1, .slice A0_2 l0_2.length c0_2]] rfl qz3 ?_; (with_reducible refine (spec_l2Free.calls k a0_0 a0_1 _ _ l0_2 t216 _ ?side1 ?side2 A4.out).mono ?_); (case side1 => exact qz4); (case side2 => exact qz69); rintro e w20 ⟨v217, rfl, ho0, hb⟩; refine ⟨_, rfl, ?_⟩; have n0_ := aM (Kd.R_lower ho0 (below_size qz34)); have n1_ := aM (blk_below (bk_ BK214.out) hb); have n2_ := aM (below_step qz34 hb); clear BK214 HB; have HO218 := n0_; have BK214 := n1_; have HB := n2_; clear n0_ n1_ n2_; (try clear hb); (try clear hb2); (try clear hk); (try clear hi); (try clear ho0)))
 have n0_ := aM (Kd.R_drew HO218.out)
 have n1_ := aM (blk_drew BK214.out)
 have n2_ := aM (below_drew1 HB.out)
 clear HO218
 clear BK214
 clear HB
 have HO218 := n0_
 have BK214 := n1_
 have HB := n2_
 clear n0_ n1_ n2_
 obtain ⟨Ao22, co22, eo22⟩ := Kd.R_slice HO218.out
 (first | subst eo22 | (injection eo22 with f1_ f2_ f3_; have f4_ := f1_.symm; have f5_ := f3_.symm; clear f1_ f2_ f3_; subst f4_; subst f5_))
 refine start_ (n := 14) (S := fun w' => True) (ds := []) #[false, false, false, false, false, false, false, false, false, false, false, false, false, false] (by kernel_rfl) rfl rfl trivial (fun hHeld => ?_); refine with_tabW spec_Together.tab4 spec_Together.bits4 (fun HT_ HW_ => ?_)
 generalize w20.drew = w21 at HO218 BK214 HB hHeld ⊢
 refine pI_ 0 9 (bqz 14 1) ?_
 refine pI_ 1 10 (bqz 14 3) ?_
 refine pI_ 2 11 (bqz 14 7) ?_
 refine pI_ 3 12 (bqz 14 15) ?_
 refine pU_ 4 13 (bqz 14 31) ?_
 refine pU_ 5 14 (bqz 14 63) ?_
 refine pU_ 6 15 (bqz 14 127) ?_
 refine pU_ 7 16 (bqz 14 255) ?_
 refine pU_ 8 17 (bqz 14 511) ?_
 refine pU_ 9 18 (bqz 14 1023) ?_
 refine pU_ 10 19 (bqz 14 2047) ?_
 refine pU_ 11 20 (bqz 14 4095) ?_
 refine pI_ 12 21 (bqz 14 8191) ?_
 refine pI_ 13 2 (bqz 14 16383) ?_
 refine done_ (done_of HT_.out (by kernel_rfl)) ?_
 try go_wp2
 go_ret
 exact ⟨by first | rfl | (simp [errW_none, errW_some] <;> rfl) | (simp [*, errW_none, errW_some] <;> rfl), by repeat (first | (with_reducible first | exact HB.out | apply below_alloc | apply pw_below_drewN | apply below_drew1 | refine below_set ?_ GE214.out) | exact HB.out)⟩
 }
 }
 {
 replace c3 := Bool.eq_false_iff.mpr c3
 subst c3
 rw [if_neg (show ¬ (false = true) by decide)] at H
 obtain rfl := Option.some.inj H
 simp only [Option.some.injEq, Prod.mk.injEq] at H
 obtain ⟨rfl⟩ := H
 go_enter Try.func54, Try.ntmps54
 go_wp2_with (first | ((with_reducible refine gate_dst (N := 1) rfl ?_); (try (refine gate_guard (by rfl) ?_; dsimp only)); refine bx_ 1 #[.int .i64 a0_0, .int .i64 a0_1, .slice A0_2 l0_2.length c0_2] 43 ?_; intro gb214 hg w23 hbox hb; have n0_ := aM (below_step qz1 hb); have n1_ := aM (hbox); have n2_ := aM ((by rw [hg]; exact (below_size qz1) : w.heap.size ≤ gb214)); have n3_ := aM ((by rw [hg]; exact (below_size qz1) : w.heap.size ≤ gb214)); clear HB; have HB := n0_; have BK214 := n1_; have GW214 := n2_; have GE214 := n3_; clear n0_ n1_ n2_ n3_; clear hb hbox hg; obtain ⟨hcz24_0, hcz24_1, hcz24_2, hfz24_0, hfz24_1, hfz24_2⟩ := b6_ BK214.out) | ((with_reducible refine gate_callee (f := 60) rfl ?_); refine goesL_ (some 5) rfl rfl Try.func60 (by kernel_rfl) rfl #[.agg #[.int .i64 a0_0, .int .i64 a0_1, .slice A0_2 l0_2.length c0_2]] rfl qz3 ?_; (with_reducible refine (spec_FloorOk.calls k a0_0 a0_1 _ _ l0_2 false _ ?side1 ?side2 A2.out).mono ?_); (case side1 => exact qz4); (case side2 => exact qz69); rintro e w25 ⟨rfl, hb⟩; refine ⟨_, rfl, ?_⟩; have n0_ := aM (blk_below (bk_ BK214.out) hb); have n1_ := aM (below_step qz34 hb); clear BK214 HB; have BK214 := n0_; have HB := n1_; clear n0_ n1_; (try clear hb); (try clear hb2); (try clear hk); (try clear hi)))
 go_ret
 exact ⟨by first | rfl | (simp [errW_none, errW_some] <;> rfl) | (simp [*, errW_none, errW_some] <;> rfl), by repeat (first | (with_reducible first | exact HB.out | apply below_alloc | apply pw_below_drewN | apply below_drew1 | refine below_set ?_ GE214.out) | exact HB.out)⟩

 }
end Go.Proofs.Ytbebfhlejnidkaa.PFnSound
