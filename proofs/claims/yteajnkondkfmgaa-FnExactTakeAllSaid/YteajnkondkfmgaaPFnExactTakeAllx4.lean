-- Made by a program of this session out of the translation. Lean checks it.
import Derived.Test.YteajnkondkfmgaaPFnExactTakeAllx0
namespace Go.Proofs.Yteajnkondkfmgaa.PFnExactTakeAll
open Go.RowKit Go.Proofs.YteajnkondkfmgaaW.PrintWords Go.Proofs.YteajnkondkfmgaaW.PrintLast Go.Proofs.YteajnkondkfmgaaW.PrintMore
attribute [local go_sem] max2_int min2_int max_two min_two max_three min_three max_four min_four   -- for this text's walks alone
set_option linter.unusedVariables false
set_option linter.unusedSimpArgs false

/-! ### impl_copyStock: function 65 -/
def impl_copyStock.l0 : Nat → List (S79) → Int → Int → List (S79) → Option ((List (S79)))
 | 0, _, _, _, _ => none
 | k + 1, x7, x8, x9, x169000 => if x9 < x8 then (if 0 ≤ x9 then (if x9 < (x7.length : Int) then (if ([] : List (S72)).length + ((rd_T79 x7 x9).f2).length < 5864062014805 then (if x169000.length < 3518437208883 then (impl_copyStock.l0 k x7 x8 (wrap64 (x9 + 1)) (x169000 ++ [(⟨(rd_T79 x7 x9).f0, (rd_T79 x7 x9).f1, (([] : List (S72)) ++ ((rd_T79 x7 x9).f2))⟩ : S79)])) else (none)) else (none)) else (none)) else (none)) else (some x169000)
def impl_copyStock.f (k : Nat) (l0_0 : List (S79)) : Option ((List (S79))) := impl_copyStock.l0 k l0_0 (l0_0.length : Int) 0 ([] : List (S79))
theorem impl_copyStock.mono_l : ∀ k, (∀ y0 y1 y2 y3, LeO (impl_copyStock.l0 k y0 y1 y2 y3) (impl_copyStock.l0 (k + 1) y0 y1 y2 y3))
 | 0 => fun _ _ _ _ r h => by simp [impl_copyStock.l0] at h
 | k + 1 => by
  have ih0 := impl_copyStock.mono_l k
  {
  intro y0 y1 y2 y3
  unfold impl_copyStock.l0
  repeat' first
  | (with_reducible first | exact ih0 _ _ _ _ | exact LeO.refl _ | exact LeO.none _ | refine LeO.ite ?_ ?_ | refine LeO.bind ?_ (fun _ => ?_))
  | exact ih0 _ _ _ _
  | exact LeO.none _
  | refine LeO.ite ?_ ?_
  | refine LeO.bind ?_ (fun _ => ?_)
  }
theorem impl_copyStock.mono : ∀ a0 k, LeO (impl_copyStock.f k a0) (impl_copyStock.f (k + 1) a0) := by
 intro a0 k
 have ih0 := impl_copyStock.mono_l k
 unfold impl_copyStock.f
 repeat' first
  | (with_reducible first | exact ih0 _ _ _ _ | exact LeO.refl _ | exact LeO.none _ | refine LeO.ite ?_ ?_ | refine LeO.bind ?_ (fun _ => ?_))
  | exact ih0 _ _ _ _
  | exact LeO.none _
  | refine LeO.ite ?_ ?_
  | refine LeO.bind ?_ (fun _ => ?_)
set_option maxHeartbeats 8000000 in
set_option maxRecDepth 100000 in
theorem impl_copyStock.calls (k : Nat) (A0_0 : Option Addr) (c0_0 : Nat) (l0_0 : List (S79)) (r : List (S79)) (w : World) (hr0_0 : Kd.C k79 w A0_0 l0_0.length l0_0) (hc0_0 : l0_0.length ≤ c0_0) (h : impl_copyStock.f k l0_0 = some r) :
  Calls Try.prog 65 #[.agg #[.slice A0_0 l0_0.length c0_0]] w fun e w' => ∃ v0_ : Value, e = .returned (.agg #[v0_]) ∧ Kd.S k79 79 w' w.heap.size (fun _ => True) v0_ r ∧ Below w.heap.size w w' := by
 have hu26 := Try.underlying26
 have hu79 := Try.underlying79
 have HR0_0 := aM hr0_0
 have HC0_0 := aM hc0_0
 clear hr0_0 hc0_0
 have HB := aM (Below.refl w.heap.size w)
 have H : (impl_copyStock.l0 k l0_0 (l0_0.length : Int) 0 ([] : List (S79))) = some r := h
 clear h
 have H' := aM H
 clear H
 go_enter Try.func65, Try.ntmps65
 go_wp2_with (first | ((with_reducible refine gate_dst (N := 1) rfl ?_); refine bx_ 1 #[.slice A0_0 l0_0.length c0_0] 26 ?_; intro gb166 hg w2 hbox hb; have n0_ := aM (below_step qz1 hb); have n1_ := aM (hbox); have n2_ := aM ((by rw [hg]; exact (below_size qz1) : w.heap.size ≤ gb166)); have n3_ := aM ((by rw [hg]; exact (below_size qz1) : w.heap.size ≤ gb166)); clear HB; have HB := n0_; have BK166 := n1_; have GW166 := n2_; have GE166 := n3_; clear n0_ n1_ n2_ n3_; clear hb hbox hg) | ((with_reducible refine gate_dst (N := 2) rfl ?_); refine bx_ 2 #[.slice none 0 0] 26 ?_; intro gb167 hg w3 hbox hb; have n0_ := aM (blk_below (bk_ BK166.out) hb); have n1_ := aM (below_step qz47 hb); have n2_ := aM (hbox); have n3_ := aM ((by rw [hg]; exact (below_size qz47) : w.heap.size ≤ gb167)); have n4_ := aM ((by rw [hg]; exact (below_size qz47) : w.heap.size ≤ gb167)); have n5_ := aM ((by rw [hg]; exact Nat.ne_of_lt (blk_lt (bk_ BK166.out)) : gb166 ≠ gb167)); have n6_ := aM ((by rw [hg]; exact Nat.ne_of_gt (blk_lt (bk_ BK166.out)) : gb167 ≠ gb166)); clear BK166 HB; have BK166 := n0_; have HB := n1_; have BK167 := n2_; have GW167 := n3_; have GE167 := n4_; have NB166_167 := n5_; have NB167_166 := n6_; clear n0_ n1_ n2_ n3_ n4_ n5_ n6_; clear hb hbox hg) | ((with_reducible refine gate_dst (N := 3) rfl ?_); refine bx_ 3 #[.slice none 0 0] 26 ?_; intro gb168 hg w4 hbox hb; have n0_ := aM (blk_below (bk_ BK166.out) hb); have n1_ := aM (blk_below (bk_ BK167.out) hb); have n2_ := aM (below_step qz38 hb); have n3_ := aM (hbox); have n4_ := aM ((by rw [hg]; exact (below_size qz38) : w.heap.size ≤ gb168)); have n5_ := aM ((by rw [hg]; exact (below_size qz38) : w.heap.size ≤ gb168)); have n6_ := aM ((by rw [hg]; exact Nat.ne_of_lt (blk_lt (bk_ BK166.out)) : gb166 ≠ gb168)); have n7_ := aM ((by rw [hg]; exact Nat.ne_of_gt (blk_lt (bk_ BK166.out)) : gb168 ≠ gb166)); have n8_ := aM ((by rw [hg]; exact Nat.ne_of_lt (blk_lt (bk_ BK167.out)) : gb167 ≠ gb168)); have n9_ := aM ((by rw [hg]; exact Nat.ne_of_gt (blk_lt (bk_ BK167.out)) : gb168 ≠ gb167)); clear BK166 BK167 HB; have BK166 := n0_; have BK167 := n1_; have HB := n2_; have BK168 := n3_; have GW168 := n4_; have GE168 := n5_; have NB166_168 := n6_; have NB168_166 := n7_; have NB167_168 := n8_; have NB168_167 := n9_; clear n0_ n1_ n2_ n3_ n4_ n5_ n6_ n7_ n8_ n9_; clear hb hbox hg; have hnb5 := NB166_167.out; have hnc5 := NB167_166.out; have hnb6 := NB166_168.out; have hnc6 := NB168_166.out; have hcz7_0 := bc0_ BK166.out; have hfz7_0 := blk_frozen BK166.out 0))
 go_loopg [9] k (fun kq v9 w' => ∃ (x9_1 : Int) (x169000_1 : List (S79)) (u169000 : Value), v9 = .int .i64 x9_1 ∧ Aside0 (impl_copyStock.l0 kq l0_0 (l0_0.length : Int) x9_1 x169000_1 = some r) ∧ Aside0 (kq ≤ k) ∧ Aside0 (Kd.S k79 79 w' w.heap.size (fun _ => True) u169000 x169000_1) ∧ Aside0 (w'.heap[gb166]? = some (.cells #[(.slice A0_0 l0_0.length c0_0)] 26 (0, 0))) ∧ Aside0 (w'.heap[gb167]? = some (.cells #[(.slice none 0 0)] 26 (0, 0))) ∧ Aside0 (w'.heap[gb168]? = some (.cells #[u169000] 26 (0, 0))) ∧ Aside0 (Below w.heap.size w w'))
 case atStart => exact ⟨(0), (([] : List (S79))), (.slice none 0 0), qz6, H', ⟨Nat.le_refl _⟩, ⟨by first | exact Kd.S_nil _ _ _ _ _ | exact Kd.N_nil _ _ _ _ _ | exact Kd.V_nil _ _ _ _ _ | exact Kd.Q_nil _ _ _ _ _ | exact Kd.R_nil _ _ _ _ _⟩, ⟨bk_ BK166.out⟩, ⟨bk_ BK167.out⟩, ⟨bk_ BK168.out⟩, ⟨by repeat (first | (with_reducible first | exact HB.out | apply below_alloc | apply pw_below_drewN | apply below_drew1 | refine below_set ?_ GE166.out | refine below_set ?_ GE167.out | refine below_set ?_ GE168.out) | exact HB.out)⟩⟩
 case round =>
  clear H'
  try clear p2
  try clear c5
  try clear c6
  try clear hcz7_0
  try clear hfz7_0
  obtain ⟨x9_1, x169000_1, u169000, rfl, HA, HK1, HO_169000, BK166, BK167, BK168, HB⟩ := hrel
  cases gk with
  | zero => exact absurd HA.out (by simp [impl_copyStock.l0])
  | succ k1 =>
   have H := HA.out
   clear HA
   simp only [impl_copyStock.l0] at H
   by_cases c8 : x9_1 < (l0_0.length : Int)
   {
   rw [if_pos c8] at H
   have c8b0 := decide_eq_true c8
   clear c8
   by_cases c9 : 0 ≤ x9_1
   {
   rw [if_pos c9] at H
   have c9b0 := decide_eq_true c9
   clear c9
   by_cases c10 : x9_1 < (l0_0.length : Int)
   {
   rw [if_pos c10] at H
   have c10b0 := decide_eq_true c10
   clear c10
   by_cases c11 : ([] : List (S72)).length + ((rd_T79 l0_0 x9_1).f2).length < 5864062014805
   {
   rw [if_pos c11] at H
   have LMc11 := aM c11
   clear c11
   obtain ⟨y171, hy171⟩ : ∃ y_ : List (S72), y_ = (([] : List (S72)) ++ ((rd_T79 l0_0 x9_1).f2)) := ⟨_, rfl⟩
   replace H : (if x169000_1.length < 3518437208883 then (impl_copyStock.l0 k1 l0_0 (l0_0.length : Int) (wrap64 (x9_1 + 1)) (x169000_1 ++ [(⟨(rd_T79 l0_0 x9_1).f0, (rd_T79 l0_0 x9_1).f1, y171⟩ : S79)])) else (none)) = some r := by first | (rw [hy171]; with_reducible exact H) | (have H2_ := (Option.bind_some _ _).symm.trans H; rw [hy171]; with_reducible exact H2_) | (have H2_ := (Option.bind_some _ _).symm.trans H; with_reducible exact H2_) | with_reducible exact H | (rw [hy171]; exact H) | exact H
   have Ny171 := aM hy171
   clear hy171
   by_cases c12 : x169000_1.length < 3518437208883
   {
   rw [if_pos c12] at H
   have LMc12 := aM c12
   clear c12
   obtain ⟨y174, hy174⟩ : ∃ y_ : List (S79), y_ = (x169000_1 ++ [(⟨(rd_T79 l0_0 x9_1).f0, (rd_T79 l0_0 x9_1).f1, y171⟩ : S79)]) := ⟨_, rfl⟩
   replace H : (impl_copyStock.l0 k1 l0_0 (l0_0.length : Int) (wrap64 (x9_1 + 1)) y174) = some r := by first | (rw [hy174]; with_reducible exact H) | (have H2_ := (Option.bind_some _ _).symm.trans H; rw [hy174]; with_reducible exact H2_) | (have H2_ := (Option.bind_some _ _).symm.trans H; with_reducible exact H2_) | with_reducible exact H | (rw [hy174]; exact H) | exact H
   have Ny174 := aM hy174
   clear hy174
   have H' := aM H
   clear H
   have p169 : 0 ≤ (x9_1 : Int) := of_decide_eq_true qz3
   have q169 : x9_1 < (l0_0.length : Int) := of_decide_eq_true qz3
   obtain ⟨ad169, A169_2, c169_2, e169, hx169_0, hx169_1, hx169_2, hl169_2, hi169_2⟩ := at_T79 HR0_0.out x9_1 p169 q169
   cases e169
   replace hx169_0 := pw_cell_below HB.out hx169_0
   replace hx169_1 := pw_cell_below HB.out hx169_1
   replace hx169_2 := pw_cell_below HB.out hx169_2
   have HR169_2 := aM hi169_2
   have HC169_2 := aM hl169_2
   clear hi169_2 hl169_2
   replace p169 := eq_true p169
   replace q169 := eq_true q169
   go_wp2_with (first | ((with_reducible refine gate_dst (N := 5) rfl ?_); refine bx_ 5 #[.int .i64 0, .int .i64 0, .slice none 0 0] 79 ?_; intro gb170 hg w13 hbox hb; have n0_ := aM (Kd.S_below (Kd.S_elderB (rs_ HO_169000.out) gb170 (Nat.le_of_eq hg.symm)) hb); have n1_ := aM (blk_below (bk_ BK166.out) hb); have n2_ := aM (blk_below (bk_ BK167.out) hb); have n3_ := aM (blk_below (bk_ BK168.out) hb); have n4_ := aM (below_step qz34 hb); have n5_ := aM (hbox); have n6_ := aM ((by rw [hg]; exact (below_size qz34) : w.heap.size ≤ gb170)); have n7_ := aM ((by rw [hg]; exact (below_size qz34) : w.heap.size ≤ gb170)); have n8_ := aM ((by rw [hg]; exact Nat.ne_of_lt (blk_lt (bk_ BK166.out)) : gb166 ≠ gb170)); have n9_ := aM ((by rw [hg]; exact Nat.ne_of_gt (blk_lt (bk_ BK166.out)) : gb170 ≠ gb166)); have n10_ := aM ((by rw [hg]; exact Nat.ne_of_lt (blk_lt (bk_ BK167.out)) : gb167 ≠ gb170)); have n11_ := aM ((by rw [hg]; exact Nat.ne_of_gt (blk_lt (bk_ BK167.out)) : gb170 ≠ gb167)); have n12_ := aM ((by rw [hg]; exact Nat.ne_of_lt (blk_lt (bk_ BK168.out)) : gb168 ≠ gb170)); have n13_ := aM ((by rw [hg]; exact Nat.ne_of_gt (blk_lt (bk_ BK168.out)) : gb170 ≠ gb168)); clear HO_169000 BK166 BK167 BK168 HB; have HO_169000 := n0_; have BK166 := n1_; have BK167 := n2_; have BK168 := n3_; have HB := n4_; have BK170 := n5_; have GW170 := n6_; have GE170 := n7_; have NB166_170 := n8_; have NB170_166 := n9_; have NB167_170 := n10_; have NB170_167 := n11_; have NB168_170 := n12_; have NB170_168 := n13_; clear n0_ n1_ n2_ n3_ n4_ n5_ n6_ n7_ n8_ n9_ n10_ n11_ n12_ n13_; clear hb hbox hg; have hnb14 := NB170_166.out; have hnc14 := NB166_170.out; have hnb15 := NB170_167.out; have hnc15 := NB167_170.out; have hnb16 := NB170_168.out; have hnc16 := NB168_170.out; obtain ⟨hcz17_0, hcz17_1, hcz17_2, hfz17_0, hfz17_1, hfz17_2⟩ := b6_ BK170.out) | ((with_reducible refine gate_builtin (b := .append) (xs := #[.const (.slice none 0 0), .tmp 14]) rfl ?_); at_builtin; refine Kd.R_append_rows k72 (w0 := w) w.heap.size rfl (.const (.slice none 0 0)) (.tmp 14) 77 72 (.agg #[(.int .i64 0), (.int .i64 0), (.int .i64 0)]) 24 rfl Try.underlying77 info72 rfl (by decide) (by omega) (.slice none 0 0) ([] : List (S72)) ((rd_T79 l0_0 x9_1).f2) _ _ _ (fun _ => True) (fun _ => False) rfl rfl ?aO ?aR (fun _ _ h => h) (fun _ h => h.elim) ?aF ?aB ?aS ?aL ?_; (case aR => exact Kd.C_below HR169_2.out qz21); (case aB => exact qz21); (case aF => exact (fun _ _ => trivial)); (case aO => exact ((Kd.R_nil _ _ _ _ (fun _ => True)))); (case aS => exact (below_size qz21)); (case aL => have := LMc11.out; omega); intro v172 w18 ho hb hg hat; rw [← Ny171.out] at ho; have n0_ := aM (Kd.S_after (Kd.S_apart_nil (by (with_reducible repeat (first | apply Kd.S_alloc | apply Kd.S_drewN | apply Kd.S_drew)); exact (Kd.S_mono (Kd.S_far (p := ⟨gb170, 2, none⟩) (Kd.S_far (p := ⟨gb170, 1, none⟩) (Kd.S_far (p := ⟨gb170, 0, none⟩) (Kd.S_mono HO_169000.out (fun k_ hk => (⟨hk, hk.2⟩ : _ ∧ k_ ≠ gb170))) (fun _ hk => hk.2) (.int .i64 ((rd_T79 l0_0 x9_1).f0))) (fun _ hk => hk.2) (.int .i64 ((rd_T79 l0_0 x9_1).f1))) (fun _ hk => hk.2) (.slice A169_2 ((rd_T79 l0_0 x9_1).f2).length c169_2)) (fun _ h_ => h_.1)))) hg hat); have n1_ := aM (blk_grown (g := gb166) (o := .cells #[.slice (some ad169) l0_0.length c0_0] 26 (0, 0)) (by (with_reducible repeat (first | refine blk_drewN ?_ _ | refine blk_drew ?_ | refine blk_alloc ?_ _)); refine blk_far ?_ NB166_170.out _; (with_reducible repeat (first | refine blk_drewN ?_ _ | refine blk_drew ?_ | refine blk_alloc ?_ _)); refine blk_far ?_ NB166_170.out _; (with_reducible repeat (first | refine blk_drewN ?_ _ | refine blk_drew ?_ | refine blk_alloc ?_ _)); refine blk_far ?_ NB166_170.out _; exact bk_ BK166.out) hg (by simp [Value.ownBlock])); have n2_ := aM (blk_grown (g := gb167) (o := .cells #[.slice none 0 0] 26 (0, 0)) (by (with_reducible repeat (first | refine blk_drewN ?_ _ | refine blk_drew ?_ | refine blk_alloc ?_ _)); refine blk_far ?_ NB167_170.out _; (with_reducible repeat (first | refine blk_drewN ?_ _ | refine blk_drew ?_ | refine blk_alloc ?_ _)); refine blk_far ?_ NB167_170.out _; (with_reducible repeat (first | refine blk_drewN ?_ _ | refine blk_drew ?_ | refine blk_alloc ?_ _)); refine blk_far ?_ NB167_170.out _; exact bk_ BK167.out) hg (by simp [Value.ownBlock])); have n3_ := aM (blk_grown (g := gb168) (o := .cells #[u169000] 26 (0, 0)) (by (with_reducible repeat (first | refine blk_drewN ?_ _ | refine blk_drew ?_ | refine blk_alloc ?_ _)); refine blk_far ?_ NB168_170.out _; (with_reducible repeat (first | refine blk_drewN ?_ _ | refine blk_drew ?_ | refine blk_alloc ?_ _)); refine blk_far ?_ NB168_170.out _; (with_reducible repeat (first | refine blk_drewN ?_ _ | refine blk_drew ?_ | refine blk_alloc ?_ _)); refine blk_far ?_ NB168_170.out _; exact bk_ BK168.out) hg (by simp [Value.ownBlock])); have n4_ := aM (blk_grown (g := gb170) (o := .cells #[.int .i64 ((rd_T79 l0_0 x9_1).f0), .int .i64 ((rd_T79 l0_0 x9_1).f1), .slice A169_2 ((rd_T79 l0_0 x9_1).f2).length c169_2] 79 (0, 0)) (by (with_reducible repeat (first | refine blk_drewN ?_ _ | refine blk_drew ?_ | refine blk_alloc ?_ _)); refine blk_put (cs := #[.int .i64 ((rd_T79 l0_0 x9_1).f0), .int .i64 ((rd_T79 l0_0 x9_1).f1), .slice none 0 0]) ?_ 2 _ rfl; (with_reducible repeat (first | refine blk_drewN ?_ _ | refine blk_drew ?_ | refine blk_alloc ?_ _)); refine blk_put (cs := #[.int .i64 ((rd_T79 l0_0 x9_1).f0), .int .i64 0, .slice none 0 0]) ?_ 1 _ rfl; (with_reducible repeat (first | refine blk_drewN ?_ _ | refine blk_drew ?_ | refine blk_alloc ?_ _)); refine blk_put (cs := #[.int .i64 0, .int .i64 0, .slice none 0 0]) ?_ 0 _ rfl; exact bk_ BK170.out) hg (by simp [Value.ownBlock])); have n5_ := aM (hb); have n6_ := aM (ho); clear HO_169000 BK166 BK167 BK168 BK170 HB; have HO_169000 := n0_; have BK166 := n1_; have BK167 := n2_; have BK168 := n3_; have BK170 := n4_; have HB := n5_; have HO173 := n6_; clear n0_ n1_ n2_ n3_ n4_ n5_ n6_; clear ho hb hg hat; obtain ⟨Ao19, co19, eo19⟩ := Kd.R_slice HO173.out; subst eo19; obtain ⟨hcz20_0, hcz20_1, hcz20_2, hfz20_0, hfz20_1, hfz20_2⟩ := b6_ BK170.out) | ((with_reducible refine gate_store (t := 77) (p := 16) rfl ?_); refine store_event (t := 77) (p := 16) (v := ?vo_w21) (w1 := (w18.setCell ⟨gb170, 2, none⟩ (.slice Ao19 y171.length co19))) ?hg ?ho ?hn ?hr ?_; (case ho => rfl); (case hg => rfl); (case hn => rfl); (case hr => exact qz44); intro w21 hw; have n0_ : Aside0 (Kd.S k79 79 w21 w.heap.size (fun k_ => some k_ ≠ (.slice Ao19 y171.length co19 : Value).ownBlock ∧ k_ ≠ gb170) u169000 x169000_1) := ⟨(by rw [hw]; exact (by (with_reducible repeat (first | apply Kd.S_alloc | apply Kd.S_drewN | apply Kd.S_drew)); exact Kd.S_mono (Kd.S_far (p := ⟨gb170, 2, none⟩) (Kd.S_mono HO_169000.out (fun k_ hk => (⟨hk, hk.1.2⟩ : _ ∧ k_ ≠ gb170))) (fun _ hk => hk.2) (.slice Ao19 y171.length co19)) (fun _ hk => ⟨hk.1.2, hk.1.1.2⟩)))⟩; have n1_ : Aside0 (Kd.R k72 72 w21 w.heap.size (fun _ => True) (.slice Ao19 y171.length co19) y171) := ⟨(by rw [hw]; exact (by (with_reducible repeat (first | apply Kd.R_alloc | apply Kd.R_drewN | apply Kd.R_drew)); exact Kd.R_mono (Kd.R_far (p := ⟨gb170, 2, none⟩) (Kd.R_types HO173.out BK170.out (by decide)) (fun _ hk => hk.2) (.slice Ao19 y171.length co19)) (fun _ hk => trivial)))⟩; have n2_ : Aside0 (w21.heap[gb166]? = some (.cells #[.slice (some ad169) l0_0.length c0_0] 26 (0, 0))) := ⟨(by rw [hw]; exact (by (with_reducible repeat (first | refine blk_drewN ?_ _ | refine blk_drew ?_ | refine blk_alloc ?_ _)); refine blk_far ?_ NB166_170.out _; exact bk_ BK166.out))⟩; have n3_ : Aside0 (w21.heap[gb167]? = some (.cells #[.slice none 0 0] 26 (0, 0))) := ⟨(by rw [hw]; exact (by (with_reducible repeat (first | refine blk_drewN ?_ _ | refine blk_drew ?_ | refine blk_alloc ?_ _)); refine blk_far ?_ NB167_170.out _; exact bk_ BK167.out))⟩; have n4_ : Aside0 (w21.heap[gb168]? = some (.cells #[u169000] 26 (0, 0))) := ⟨(by rw [hw]; exact (by (with_reducible repeat (first | refine blk_drewN ?_ _ | refine blk_drew ?_ | refine blk_alloc ?_ _)); refine blk_far ?_ NB168_170.out _; exact bk_ BK168.out))⟩; have n5_ : Aside0 (w21.heap[gb170]? = some (.cells #[.int .i64 ((rd_T79 l0_0 x9_1).f0), .int .i64 ((rd_T79 l0_0 x9_1).f1), .slice Ao19 y171.length co19] 79 (0, 0))) := ⟨(by rw [hw]; exact (by (with_reducible repeat (first | refine blk_drewN ?_ _ | refine blk_drew ?_ | refine blk_alloc ?_ _)); refine blk_put (cs := #[.int .i64 ((rd_T79 l0_0 x9_1).f0), .int .i64 ((rd_T79 l0_0 x9_1).f1), .slice A169_2 ((rd_T79 l0_0 x9_1).f2).length c169_2]) ?_ 2 _ rfl; exact bk_ BK170.out))⟩; have n6_ : Aside0 (Below w.heap.size w w21) := ⟨(by rw [hw]; exact qz21)⟩; clear hw HO_169000 HO173 BK166 BK167 BK168 BK170 HB; have HO_169000 := n0_; have HO173 := n1_; have BK166 := n2_; have BK167 := n3_; have BK168 := n4_; have BK170 := n5_; have HB := n6_; clear n0_ n1_ n2_ n3_ n4_ n5_ n6_; have hnb22 := NB168_166.out; have hnc22 := NB166_168.out; have hnb23 := NB168_167.out; have hnc23 := NB167_168.out; have hcz24_0 := bc0_ BK168.out; have hfz24_0 := blk_frozen BK168.out 0; obtain ⟨hcz25_0, hcz25_1, hcz25_2, hfz25_0, hfz25_1, hfz25_2⟩ := b6_ BK170.out) | ((with_reducible refine gate_builtin (b := .append) (xs := #[.tmp 18, .tmp 20]) rfl ?_); at_builtin; refine Kd.S_append k79 (w0 := w) w.heap.size rfl (.tmp 18) (.tmp 20) 24 79 (.agg #[(.int .i64 0), (.int .i64 0), (.slice none 0 0)]) 40 rfl Try.underlying24 info79 rfl (by decide) (by omega) u169000 x169000_1 (⟨(rd_T79 l0_0 x9_1).f0, (rd_T79 l0_0 x9_1).f1, y171⟩ : S79) [.int .i64 ((rd_T79 l0_0 x9_1).f0), .int .i64 ((rd_T79 l0_0 x9_1).f1), .slice Ao19 y171.length co19] (fun k_ => k_ ≠ gb170) (fun k_ => some k_ = (.slice Ao19 y171.length co19 : Value).ownBlock) rfl rfl ?aP (fun k_ hk_ => ((Kd.R_mono (ok' := fun k_ => ((fun k_ => k_ ≠ gb170)) k_ ∧ some k_ ≠ (u169000 : Value).ownBlock) (Kd.R_types (Kd.R_apart' (HO173.out) (Kd.S_typed HO_169000.out) (by decide)) BK170.out (by decide)) (fun k_ hk => ⟨hk.2, hk.1.2⟩))).1 k_ hk_.symm) ?aF ?aO ?aB ?aS ?aL ?_; (case aP => exact k79_mkM _ _ _ (⟨(rd_T79 l0_0 x9_1).f0, (rd_T79 l0_0 x9_1).f1, y171⟩ : S79) (Kd.R_mono (Kd.R_tight rfl (Kd.R_mono (ok' := fun k_ => ((fun k_ => k_ ≠ gb170)) k_ ∧ some k_ ≠ (u169000 : Value).ownBlock) (Kd.R_types (Kd.R_apart' (HO173.out) (Kd.S_typed HO_169000.out) (by decide)) BK170.out (by decide)) (fun k_ hk => ⟨hk.2, hk.1.2⟩))) (fun _ h_ => h_))); (case aB => exact qz21); (case aF => exact (fun k_ hk => Kd.freshB (bk_ BK170.out) k_ hk)); (case aO => exact (by (with_reducible repeat (first | apply Kd.S_alloc | apply Kd.S_drewN | apply Kd.S_drew)); exact Kd.S_mono HO_169000.out (fun k_ hk => ⟨hk.2, fun e_ => hk.1 e_⟩))); (case aS => exact (below_size qz21)); (case aL => have := LMc12.out; omega); intro v175 w26 ho hb hg hat; rw [← Ny174.out] at ho; have n0_ := aM (blk_grown (bk_ BK166.out) hg (Kd.S_ne HO_169000.out BK166.out (by decide))); have n1_ := aM (blk_grown (bk_ BK167.out) hg (Kd.S_ne HO_169000.out BK167.out (by decide))); have n2_ := aM (blk_grown (bk_ BK168.out) hg (Kd.S_ne HO_169000.out BK168.out (by decide))); have n3_ := aM (blk_grown (bk_ BK170.out) hg (Kd.S_away HO_169000.out (fun _ hk => hk.2))); have n4_ := aM (hb); have n5_ := aM (ho); clear BK166 BK167 BK168 BK170 HB HO_169000 HO173; have BK166 := n0_; have BK167 := n1_; have BK168 := n2_; have BK170 := n3_; have HB := n4_; have HO176 := n5_; clear n0_ n1_ n2_ n3_ n4_ n5_; clear ho hb hg hat; obtain ⟨Ao27, co27, eo27⟩ := Kd.S_slice HO176.out; subst eo27; have hcz28_0 := bc0_ BK168.out; have hfz28_0 := blk_frozen BK168.out 0))
   go_roundg k1
   case measure => have := HK1.out; omega
   case rel => exact ⟨(wrap64 (x9_1 + 1)), (y174), (.slice Ao27 y174.length co27), qz6, H', ⟨by have := HK1.out; omega⟩, ⟨by (with_reducible repeat (first | apply Kd.S_alloc | apply Kd.S_drewN | apply Kd.S_drew)); exact Kd.S_mono (Kd.S_far (p := ⟨gb168, 0, none⟩) (Kd.S_types HO176.out BK168.out (by decide)) (fun _ hk => hk.2) (.slice Ao27 y174.length co27)) (fun _ hk => trivial)⟩, ⟨by (with_reducible repeat (first | refine blk_drewN ?_ _ | refine blk_drew ?_ | refine blk_alloc ?_ _)); refine blk_far ?_ NB166_168.out _; exact bk_ BK166.out⟩, ⟨by (with_reducible repeat (first | refine blk_drewN ?_ _ | refine blk_drew ?_ | refine blk_alloc ?_ _)); refine blk_far ?_ NB167_168.out _; exact bk_ BK167.out⟩, ⟨by (with_reducible repeat (first | refine blk_drewN ?_ _ | refine blk_drew ?_ | refine blk_alloc ?_ _)); refine blk_put (cs := #[u169000]) ?_ 0 _ rfl; exact bk_ BK168.out⟩, ⟨by repeat (first | (with_reducible first | exact HB.out | apply below_alloc | apply pw_below_drewN | apply below_drew1 | refine below_set ?_ GE166.out | refine below_set ?_ GE167.out | refine below_set ?_ GE168.out | refine below_set ?_ GE170.out) | exact HB.out)⟩⟩
   }
   {
   rw [if_neg c12] at H
   exact absurd H (by simp)
   }
   }
   {
   rw [if_neg c11] at H
   exact absurd H (by simp)
   }
   }
   {
   rw [if_neg c10] at H
   exact absurd H (by simp)
   }
   }
   {
   rw [if_neg c9] at H
   exact absurd H (by simp)
   }
   }
   {
   rw [if_neg c8] at H
   have c8b0 := decide_eq_false c8
   clear c8
   obtain rfl := Option.some.inj H
   simp only [Option.some.injEq, Prod.mk.injEq] at H
   obtain ⟨rfl⟩ := H
   have hnb29 := NB168_166.out
   have hnc29 := NB166_168.out
   have hnb30 := NB168_167.out
   have hnc30 := NB167_168.out
   have hcz31_0 := bc0_ BK168.out
   have hfz31_0 := blk_frozen BK168.out 0
   obtain ⟨Ao32, co32, eo32⟩ := Kd.S_slice HO_169000.out
   subst eo32
   have hnb33 := NB167_166.out
   have hnc33 := NB166_167.out
   have hcz34_0 := bc0_ BK167.out
   have hfz34_0 := blk_frozen BK167.out 0
   go_wp2
   refine bodyPost_ret (results_cell_row rfl _ _ gb167 26 #[.slice Ao32 x169000_1.length co32] (0, 0) _ rfl (by (with_reducible repeat (first | refine blk_drewN ?_ _ | refine blk_drew ?_ | refine blk_alloc ?_ _)); refine blk_put (cs := #[.slice none 0 0]) ?_ 0 _ rfl; exact bk_ BK167.out) Try.underlying26 rfl (by kernel_rfl)) rfl ?_
   exact ⟨_, by first | rfl | (simp [errW_none, errW_some] <;> rfl) | (simp [*, errW_none, errW_some] <;> rfl), by (with_reducible repeat (first | apply Kd.S_alloc | apply Kd.S_drewN | apply Kd.S_drew)); exact Kd.S_mono (Kd.S_far (p := ⟨gb167, 0, none⟩) (Kd.S_types HO_169000.out BK167.out (by decide)) (fun _ hk => hk.2) (.slice Ao32 x169000_1.length co32)) (fun _ hk => trivial), by repeat (first | (with_reducible first | exact HB.out | apply below_alloc | apply pw_below_drewN | apply below_drew1 | refine below_set ?_ GE166.out | refine below_set ?_ GE167.out | refine below_set ?_ GE168.out) | exact HB.out)⟩

   }
/-! ### impl_stackAt: function 67 -/
def impl_stackAt.l0 : Nat → Int → Int → Int → Int → List (S72) → Option (Int × Bool)
 | 0, _, _, _, _, _ => none
 | k + 1, x1, x6, x178000, x178001, x178002 => if x6 < (x178002.length : Int) then (if 0 ≤ x6 then (if ((rd_T72 x178002 x6).f0) < x1 then (impl_stackAt.l0 k x1 (wrap64 (x6 + 1)) x178000 x178001 x178002) else (some (x6, (((rd_T72 x178002 x6).f0) == x1)))) else (none)) else (some (x6, false))
def impl_stackAt.f (k : Nat) (a0_0 : Int) (a0_1 : Int) (l0_2 : List (S72)) (a1 : Int) : Option (Int × Bool) := impl_stackAt.l0 k a1 0 a0_0 a0_1 l0_2
theorem impl_stackAt.mono_l : ∀ k, (∀ y0 y1 y2 y3 y4, LeO (impl_stackAt.l0 k y0 y1 y2 y3 y4) (impl_stackAt.l0 (k + 1) y0 y1 y2 y3 y4))
 | 0 => fun _ _ _ _ _ r h => by simp [impl_stackAt.l0] at h
 | k + 1 => by
  have ih0 := impl_stackAt.mono_l k
  {
  intro y0 y1 y2 y3 y4
  unfold impl_stackAt.l0
  repeat' first
  | (with_reducible first | exact ih0 _ _ _ _ _ | exact LeO.refl _ | exact LeO.none _ | refine LeO.ite ?_ ?_ | refine LeO.bind ?_ (fun _ => ?_))
  | exact ih0 _ _ _ _ _
  | exact LeO.none _
  | refine LeO.ite ?_ ?_
  | refine LeO.bind ?_ (fun _ => ?_)
  }
theorem impl_stackAt.mono : ∀ a0 a1 a2 a3 k, LeO (impl_stackAt.f k a0 a1 a2 a3) (impl_stackAt.f (k + 1) a0 a1 a2 a3) := by
 intro a0 a1 a2 a3 k
 have ih0 := impl_stackAt.mono_l k
 unfold impl_stackAt.f
 repeat' first
  | (with_reducible first | exact ih0 _ _ _ _ _ | exact LeO.refl _ | exact LeO.none _ | refine LeO.ite ?_ ?_ | refine LeO.bind ?_ (fun _ => ?_))
  | exact ih0 _ _ _ _ _
  | exact LeO.none _
  | refine LeO.ite ?_ ?_
  | refine LeO.bind ?_ (fun _ => ?_)
set_option maxHeartbeats 8000000 in
set_option maxRecDepth 100000 in
theorem impl_stackAt.calls (k : Nat) (a0_0 : Int) (a0_1 : Int) (A0_2 : Option Addr) (c0_2 : Nat) (l0_2 : List (S72)) (a1 : Int) (r1 : Int) (r2 : Bool) (w : World) (hr0_2 : Kd.C k72 w A0_2 l0_2.length l0_2) (hc0_2 : l0_2.length ≤ c0_2) (h : impl_stackAt.f k a0_0 a0_1 l0_2 a1 = some (r1, r2)) :
  Calls Try.prog 67 #[.agg #[.int .i64 a0_0, .int .i64 a0_1, .slice A0_2 l0_2.length c0_2], .int .i64 a1] w fun e w' => e = .returned (.tuple #[.int .i64 r1, .bool r2]) ∧ Below w.heap.size w w' := by
 have hu79 := Try.underlying79
 have HR0_2 := aM hr0_2
 have HC0_2 := aM hc0_2
 clear hr0_2 hc0_2
 have HB := aM (Below.refl w.heap.size w)
 have H : (impl_stackAt.l0 k a1 0 a0_0 a0_1 l0_2) = some (r1, r2) := h
 clear h
 have H' := aM H
 clear H
 go_enter Try.func67, Try.ntmps67
 go_wp2_with (first | ((with_reducible refine gate_dst (N := 2) rfl ?_); refine bx_ 2 #[.int .i64 a0_0, .int .i64 a0_1, .slice A0_2 l0_2.length c0_2] 79 ?_; intro gb177 hg w3 hbox hb; have n0_ := aM (below_step qz1 hb); have n1_ := aM (hbox); have n2_ := aM ((by rw [hg]; exact (below_size qz1) : w.heap.size ≤ gb177)); have n3_ := aM ((by rw [hg]; exact (below_size qz1) : w.heap.size ≤ gb177)); clear HB; have HB := n0_; have BK177 := n1_; have GW177 := n2_; have GE177 := n3_; clear n0_ n1_ n2_ n3_; clear hb hbox hg))
 repeat (go_quiet (first | ((with_reducible refine gate_dst (N := 2) rfl ?_); refine bx_ 2 #[.int .i64 a0_0, .int .i64 a0_1, .slice A0_2 l0_2.length c0_2] 79 ?_; intro gb177 hg w3 hbox hb; have n0_ := aM (below_step qz1 hb); have n1_ := aM (hbox); have n2_ := aM ((by rw [hg]; exact (below_size qz1) : w.heap.size ≤ gb177)); have n3_ := aM ((by rw [hg]; exact (below_size qz1) : w.heap.size ≤ gb177)); clear HB; have HB := n0_; have BK177 := n1_; have GW177 := n2_; have GE177 := n3_; clear n0_ n1_ n2_ n3_; clear hb hbox hg)); try go_wp2_with (first | ((with_reducible refine gate_dst (N := 2) rfl ?_); refine bx_ 2 #[.int .i64 a0_0, .int .i64 a0_1, .slice A0_2 l0_2.length c0_2] 79 ?_; intro gb177 hg w3 hbox hb; have n0_ := aM (below_step qz1 hb); have n1_ := aM (hbox); have n2_ := aM ((by rw [hg]; exact (below_size qz1) : w.heap.size ≤ gb177)); have n3_ := aM ((by rw [hg]; exact (below_size qz1) : w.heap.size ≤ gb177)); clear HB; have HB := n0_; have BK177 := n1_; have GW177 := n2_; have GE177 := n3_; clear n0_ n1_ n2_ n3_; clear hb hbox hg)))
 go_loopg [6] k (fun kq v6 w' => ∃ (x6_1 : Int), v6 = .int .i64 x6_1 ∧ Aside0 (impl_stackAt.l0 kq a1 x6_1 a0_0 a0_1 l0_2 = some (r1, r2)) ∧ Aside0 (kq ≤ k) ∧ Aside0 (w'.heap[gb177]? = some (.cells #[.int .i64 a0_0, .int .i64 a0_1, (.slice A0_2 l0_2.length c0_2)] 79 (0, 0))) ∧ Aside0 (Below w.heap.size w w'))
 case atStart => exact ⟨(0), qz6, H', ⟨Nat.le_refl _⟩, ⟨bk_ BK177.out⟩, ⟨by repeat (first | (with_reducible first | exact HB.out | apply below_alloc | apply pw_below_drewN | apply below_drew1 | refine below_set ?_ GE177.out) | exact HB.out)⟩⟩
 case round =>
  clear H'
  try clear p2
  obtain ⟨x6_1, rfl, HA, HK1, BK177, HB⟩ := hrel
  cases gk with
  | zero => exact absurd HA.out (by simp [impl_stackAt.l0])
  | succ k1 =>
   have H := HA.out
   clear HA
   simp only [impl_stackAt.l0] at H
   by_cases c4 : x6_1 < (l0_2.length : Int)
   {
   rw [if_pos c4] at H
   have c4b0 := decide_eq_true c4
   clear c4
   by_cases c5 : 0 ≤ x6_1
   {
   rw [if_pos c5] at H
   have c5b0 := decide_eq_true c5
   clear c5
   by_cases c6 : ((rd_T72 l0_2 x6_1).f0) < a1
   {
   rw [if_pos c6] at H
   have c6b0 := decide_eq_true c6
   clear c6
   have H' := aM H
   clear H
   obtain ⟨hcz7_0, hcz7_1, hcz7_2, hfz7_0, hfz7_1, hfz7_2⟩ := b6_ BK177.out
   have p178 : 0 ≤ (x6_1 : Int) := of_decide_eq_true qz3
   have q178 : x6_1 < (l0_2.length : Int) := of_decide_eq_true qz3
   obtain ⟨ad178, e178, hx178_0, hx178_1, hx178_2⟩ := at_T72 HR0_2.out x6_1 p178 q178
   cases e178
   replace hx178_0 := pw_cell_below HB.out hx178_0
   replace hx178_1 := pw_cell_below HB.out hx178_1
   replace hx178_2 := pw_cell_below HB.out hx178_2
   replace p178 := eq_true p178
   replace q178 := eq_true q178
   go_wp2
   repeat (go_quiet (fail); try go_wp2)
   go_roundg k1
   case measure => have := HK1.out; omega
   case rel => exact ⟨(wrap64 (x6_1 + 1)), qz6, H', ⟨by have := HK1.out; omega⟩, ⟨bk_ BK177.out⟩, ⟨by repeat (first | (with_reducible first | exact HB.out | apply below_alloc | apply pw_below_drewN | apply below_drew1 | refine below_set ?_ GE177.out) | exact HB.out)⟩⟩
   }
   {
   rw [if_neg c6] at H
   have c6b0 := decide_eq_false c6
   clear c6
   simp only [Option.some.injEq, Prod.mk.injEq] at H
   obtain ⟨rfl, rfl⟩ := H
   obtain ⟨hcz8_0, hcz8_1, hcz8_2, hfz8_0, hfz8_1, hfz8_2⟩ := b6_ BK177.out
   have p178 : 0 ≤ (x6_1 : Int) := of_decide_eq_true qz3
   have q178 : x6_1 < (l0_2.length : Int) := of_decide_eq_true qz3
   obtain ⟨ad178, e178, hx178_0, hx178_1, hx178_2⟩ := at_T72 HR0_2.out x6_1 p178 q178
   cases e178
   replace hx178_0 := pw_cell_below HB.out hx178_0
   replace hx178_1 := pw_cell_below HB.out hx178_1
   replace hx178_2 := pw_cell_below HB.out hx178_2
   replace p178 := eq_true p178
   replace q178 := eq_true q178
   have p179 : 0 ≤ (x6_1 : Int) := of_decide_eq_true qz3
   have q179 : x6_1 < (l0_2.length : Int) := of_decide_eq_true qz3
   obtain ⟨ad179, e179, hx179_0, hx179_1, hx179_2⟩ := at_T72 HR0_2.out x6_1 p179 q179
   obtain rfl : ad178 = ad179 := (by injection e179)
   replace hx179_0 := pw_cell_below HB.out hx179_0
   replace hx179_1 := pw_cell_below HB.out hx179_1
   replace hx179_2 := pw_cell_below HB.out hx179_2
   replace p179 := eq_true p179
   replace q179 := eq_true q179
   go_wp2
   repeat (go_quiet (fail); try go_wp2)
   go_ret2
   exact ⟨by first | rfl | (simp [errW_none, errW_some] <;> rfl) | (simp [*, errW_none, errW_some] <;> rfl), by repeat (first | (with_reducible first | exact HB.out | apply below_alloc | apply pw_below_drewN | apply below_drew1 | refine below_set ?_ GE177.out) | exact HB.out)⟩
   }
   }
   {
   rw [if_neg c5] at H
   exact absurd H (by simp)
   }
   }
   {
   rw [if_neg c4] at H
   have c4b0 := decide_eq_false c4
   clear c4
   simp only [Option.some.injEq, Prod.mk.injEq] at H
   obtain ⟨rfl, rfl⟩ := H
   obtain ⟨hcz9_0, hcz9_1, hcz9_2, hfz9_0, hfz9_1, hfz9_2⟩ := b6_ BK177.out
   go_wp2
   repeat (go_quiet (fail); try go_wp2)
   go_ret2
   exact ⟨by first | rfl | (simp [errW_none, errW_some] <;> rfl) | (simp [*, errW_none, errW_some] <;> rfl), by repeat (first | (with_reducible first | exact HB.out | apply below_alloc | apply pw_below_drewN | apply below_drew1 | refine below_set ?_ GE177.out) | exact HB.out)⟩

   }
end Go.Proofs.Yteajnkondkfmgaa.PFnExactTakeAll
