-- Made by a program of this session out of the translation. Lean checks it.
import Derived.Test.YteajnkondkfmgaaPFnExactPicksx0
import Derived.Test.YteajnkondkfmgaaPFnExactPicksx5
import Derived.Test.YteajnkondkfmgaaPFnExactPicksx6
import Derived.Test.YteajnkondkfmgaaPFnExactPicksx7
namespace Go.Proofs.Yteajnkondkfmgaa.PFnExactPicks
open Go.RowKit Go.Proofs.YteajnkondkfmgaaW.PrintWords Go.Proofs.YteajnkondkfmgaaW.PrintLast Go.Proofs.YteajnkondkfmgaaW.PrintMore
attribute [local go_sem] max2_int min2_int max_two min_two max_three min_three max_four min_four   -- for this text's walks alone
set_option linter.unusedVariables false
set_option linter.unusedSimpArgs false

/-! ### impl_could: function 79 -/
def impl_could.l0 : Nat → List (S50) → Int → List (S48) → Int → Int → Int → Int → List (S72) → Option ((List (S50)) × Int)
 | 0, _, _, _, _, _, _, _, _ => none
 | k + 1, x6, x7, x13, x14, x15, x214000, x214001, x214002 => if x15 < x14 then (if 0 ≤ x15 then (if x15 < (x13.length : Int) then ((impl_stackAt.f k x214000 x214001 x214002 ((rd_T48 x13 x15).f0)).bind fun bt216 => (if bt216.2 = true then (if 0 ≤ bt216.1 then (if bt216.1 < (x214002.length : Int) then (if (mn ((rd_T48 x13 x15).f1) (wrap64 (((rd_T72 x214002 bt216.1).f1) - ((rd_T72 x214002 bt216.1).f2)))) > 0 then (if x6.length < 5864062014805 then (impl_could.l0 k (x6 ++ [(⟨x214000, (rd_T48 x13 x15).f0, mn ((rd_T48 x13 x15).f1) (wrap64 (((rd_T72 x214002 bt216.1).f1) - ((rd_T72 x214002 bt216.1).f2)))⟩ : S50)]) (wrap64 (x7 + (mn ((rd_T48 x13 x15).f1) (wrap64 (((rd_T72 x214002 bt216.1).f1) - ((rd_T72 x214002 bt216.1).f2)))))) x13 x14 (wrap64 (x15 + 1)) x214000 x214001 x214002) else (none)) else (impl_could.l0 k x6 x7 x13 x14 (wrap64 (x15 + 1)) x214000 x214001 x214002)) else (none)) else (none)) else (impl_could.l0 k x6 x7 x13 x14 (wrap64 (x15 + 1)) x214000 x214001 x214002))) else (none)) else (none)) else (some (x6, x7))
def impl_could.f (k : Nat) (a0_0 : Int) (a0_1 : Int) (l0_2 : List (S72)) (l1 : List (S48)) : Option ((List (S50)) × Int) := impl_could.l0 k ([] : List (S50)) 0 l1 (l1.length : Int) 0 a0_0 a0_1 l0_2
theorem impl_could.mono_l : ∀ k, (∀ y0 y1 y2 y3 y4 y5 y6 y7, LeO (impl_could.l0 k y0 y1 y2 y3 y4 y5 y6 y7) (impl_could.l0 (k + 1) y0 y1 y2 y3 y4 y5 y6 y7))
 | 0 => fun _ _ _ _ _ _ _ _ r h => by simp [impl_could.l0] at h
 | k + 1 => by
  have ih0 := impl_could.mono_l k
  {
  intro y0 y1 y2 y3 y4 y5 y6 y7
  unfold impl_could.l0
  repeat' first
  | (with_reducible first | exact ih0 _ _ _ _ _ _ _ _ | exact impl_stackAt.mono _ _ _ _ _ | exact LeO.refl _ | exact LeO.none _ | refine LeO.ite ?_ ?_ | refine LeO.bind ?_ (fun _ => ?_))
  | exact ih0 _ _ _ _ _ _ _ _
  | exact impl_stackAt.mono _ _ _ _ _
  | exact LeO.none _
  | refine LeO.ite ?_ ?_
  | refine LeO.bind ?_ (fun _ => ?_)
  }
theorem impl_could.mono : ∀ a0 a1 a2 a3 k, LeO (impl_could.f k a0 a1 a2 a3) (impl_could.f (k + 1) a0 a1 a2 a3) := by
 intro a0 a1 a2 a3 k
 have ih0 := impl_could.mono_l k
 unfold impl_could.f
 repeat' first
  | (with_reducible first | exact ih0 _ _ _ _ _ _ _ _ | exact impl_stackAt.mono _ _ _ _ _ | exact LeO.refl _ | exact LeO.none _ | refine LeO.ite ?_ ?_ | refine LeO.bind ?_ (fun _ => ?_))
  | exact ih0 _ _ _ _ _ _ _ _
  | exact impl_stackAt.mono _ _ _ _ _
  | exact LeO.none _
  | refine LeO.ite ?_ ?_
  | refine LeO.bind ?_ (fun _ => ?_)
set_option maxHeartbeats 8000000 in
set_option maxRecDepth 100000 in
theorem impl_could.calls (k : Nat) (a0_0 : Int) (a0_1 : Int) (A0_2 : Option Addr) (c0_2 : Nat) (l0_2 : List (S72)) (A1 : Option Addr) (c1 : Nat) (l1 : List (S48)) (r1 : List (S50)) (r2 : Int) (w : World) (hr0_2 : Kd.C k72 w A0_2 l0_2.length l0_2) (hc0_2 : l0_2.length ≤ c0_2) (hr1 : Kd.C k48 w A1 l1.length l1) (hc1 : l1.length ≤ c1) (h : impl_could.f k a0_0 a0_1 l0_2 l1 = some (r1, r2)) :
  Calls Try.prog 79 #[.agg #[.int .i64 a0_0, .int .i64 a0_1, .slice A0_2 l0_2.length c0_2], .slice A1 l1.length c1] w fun e w' => ∃ v0_ : Value, e = .returned (.tuple #[v0_, .int .i64 r2]) ∧ Kd.R k50 50 w' w.heap.size (fun _ => True) v0_ r1 ∧ Below w.heap.size w w' := by
 have hu79 := Try.underlying79
 have hu48 := Try.underlying48
 have hu50 := Try.underlying50
 have HR0_2 := aM hr0_2
 have HC0_2 := aM hc0_2
 clear hr0_2 hc0_2
 have HR1 := aM hr1
 have HC1 := aM hc1
 clear hr1 hc1
 have HB := aM (Below.refl w.heap.size w)
 have H : (impl_could.l0 k ([] : List (S50)) 0 l1 (l1.length : Int) 0 a0_0 a0_1 l0_2) = some (r1, r2) := h
 clear h
 have H' := aM H
 clear H
 go_enter Try.func79, Try.ntmps79
 go_wp2_with (first | ((with_reducible refine gate_dst (N := 2) rfl ?_); refine bx_ 2 #[.int .i64 a0_0, .int .i64 a0_1, .slice A0_2 l0_2.length c0_2] 79 ?_; intro gb213 hg w3 hbox hb; have n0_ := aM (below_step qz1 hb); have n1_ := aM (hbox); have n2_ := aM ((by rw [hg]; exact (below_size qz1) : w.heap.size ≤ gb213)); have n3_ := aM ((by rw [hg]; exact (below_size qz1) : w.heap.size ≤ gb213)); clear HB; have HB := n0_; have BK213 := n1_; have GW213 := n2_; have GE213 := n3_; clear n0_ n1_ n2_ n3_; clear hb hbox hg))
 repeat (go_quiet (first | ((with_reducible refine gate_dst (N := 2) rfl ?_); refine bx_ 2 #[.int .i64 a0_0, .int .i64 a0_1, .slice A0_2 l0_2.length c0_2] 79 ?_; intro gb213 hg w3 hbox hb; have n0_ := aM (below_step qz1 hb); have n1_ := aM (hbox); have n2_ := aM ((by rw [hg]; exact (below_size qz1) : w.heap.size ≤ gb213)); have n3_ := aM ((by rw [hg]; exact (below_size qz1) : w.heap.size ≤ gb213)); clear HB; have HB := n0_; have BK213 := n1_; have GW213 := n2_; have GE213 := n3_; clear n0_ n1_ n2_ n3_; clear hb hbox hg)); try go_wp2_with (first | ((with_reducible refine gate_dst (N := 2) rfl ?_); refine bx_ 2 #[.int .i64 a0_0, .int .i64 a0_1, .slice A0_2 l0_2.length c0_2] 79 ?_; intro gb213 hg w3 hbox hb; have n0_ := aM (below_step qz1 hb); have n1_ := aM (hbox); have n2_ := aM ((by rw [hg]; exact (below_size qz1) : w.heap.size ≤ gb213)); have n3_ := aM ((by rw [hg]; exact (below_size qz1) : w.heap.size ≤ gb213)); clear HB; have HB := n0_; have BK213 := n1_; have GW213 := n2_; have GE213 := n3_; clear n0_ n1_ n2_ n3_; clear hb hbox hg)))
 go_loopg [6, 7, 15] k (fun kq v6 v7 v15 w' => ∃ (x6_1 : List (S50)) (x7_1 : Int) (x15_1 : Int), v7 = .int .i64 x7_1 ∧ v15 = .int .i64 x15_1 ∧ Aside0 (impl_could.l0 kq x6_1 x7_1 l1 (l1.length : Int) x15_1 a0_0 a0_1 l0_2 = some (r1, r2)) ∧ Aside0 (kq ≤ k) ∧ Aside0 (Kd.R k50 50 w' w.heap.size (fun _ => True) v6 x6_1) ∧ Aside0 (w'.heap[gb213]? = some (.cells #[.int .i64 a0_0, .int .i64 a0_1, (.slice A0_2 l0_2.length c0_2)] 79 (0, 0))) ∧ Aside0 (Below w.heap.size w w'))
 case atStart => exact ⟨(([] : List (S50))), (0), (0), qz4, qz4, H', ⟨Nat.le_refl _⟩, ⟨by first | exact Kd.R_nil _ _ _ _ _ | exact Kd.N_nil _ _ _ _ _ | exact Kd.V_nil _ _ _ _ _ | exact Kd.Q_nil _ _ _ _ _ | exact Kd.S_nil _ _ _ _ _⟩, ⟨bk_ BK213.out⟩, ⟨by repeat (first | (with_reducible first | exact HB.out | apply below_alloc | apply pw_below_drewN | apply below_drew1 | refine below_set ?_ GE213.out) | exact HB.out)⟩⟩
 case round =>
  clear H'
  try clear c1
  try clear p2
  obtain ⟨x6_1, x7_1, x15_1, rfl, rfl, HA, HK1, HO_6, BK213, HB⟩ := hrel
  cases gk with
  | zero => exact absurd HA.out (by simp [impl_could.l0])
  | succ k1 =>
   have H := HA.out
   clear HA
   simp only [impl_could.l0] at H
   by_cases c4 : x15_1 < (l1.length : Int)
   {
   rw [if_pos c4] at H
   have c4b0 := decide_eq_true c4
   clear c4
   by_cases c5 : 0 ≤ x15_1
   {
   rw [if_pos c5] at H
   have c5b0 := decide_eq_true c5
   clear c5
   by_cases c6 : x15_1 < (l1.length : Int)
   {
   rw [if_pos c6] at H
   have c6b0 := decide_eq_true c6
   clear c6
   replace H := Option.bind_eq_some_iff.mp H
   obtain ⟨⟨t216, t217⟩, A70, H⟩ := H
   replace H : (if t217 = true then (if 0 ≤ t216 then (if t216 < (l0_2.length : Int) then (if (mn ((rd_T48 l1 x15_1).f1) (wrap64 (((rd_T72 l0_2 t216).f1) - ((rd_T72 l0_2 t216).f2)))) > 0 then (if x6_1.length < 5864062014805 then (impl_could.l0 k1 (x6_1 ++ [(⟨a0_0, (rd_T48 l1 x15_1).f0, mn ((rd_T48 l1 x15_1).f1) (wrap64 (((rd_T72 l0_2 t216).f1) - ((rd_T72 l0_2 t216).f2)))⟩ : S50)]) (wrap64 (x7_1 + (mn ((rd_T48 l1 x15_1).f1) (wrap64 (((rd_T72 l0_2 t216).f1) - ((rd_T72 l0_2 t216).f2)))))) l1 (l1.length : Int) (wrap64 (x15_1 + 1)) a0_0 a0_1 l0_2) else (none)) else (impl_could.l0 k1 x6_1 x7_1 l1 (l1.length : Int) (wrap64 (x15_1 + 1)) a0_0 a0_1 l0_2)) else (none)) else (none)) else (impl_could.l0 k1 x6_1 x7_1 l1 (l1.length : Int) (wrap64 (x15_1 + 1)) a0_0 a0_1 l0_2)) = some (r1, r2) := H
   have A7 := aM A70
   clear A70
   by_cases c8 : t217 = true
   {
   subst c8
   rw [if_pos rfl] at H
   by_cases c9 : 0 ≤ t216
   {
   rw [if_pos c9] at H
   have c9b0 := decide_eq_true c9
   clear c9
   by_cases c10 : t216 < (l0_2.length : Int)
   {
   rw [if_pos c10] at H
   have c10b0 := decide_eq_true c10
   clear c10
   obtain ⟨ji11, hji11⟩ : ∃ j_ : Int, (mn ((rd_T48 l1 x15_1).f1) (wrap64 (((rd_T72 l0_2 t216).f1) - ((rd_T72 l0_2 t216).f2)))) = j_ := ⟨_, rfl⟩
   replace H : (if (ji11) > 0 then (if x6_1.length < 5864062014805 then (impl_could.l0 k1 (x6_1 ++ [(⟨a0_0, (rd_T48 l1 x15_1).f0, ji11⟩ : S50)]) (wrap64 (x7_1 + (ji11))) l1 (l1.length : Int) (wrap64 (x15_1 + 1)) a0_0 a0_1 l0_2) else (none)) else (impl_could.l0 k1 x6_1 x7_1 l1 (l1.length : Int) (wrap64 (x15_1 + 1)) a0_0 a0_1 l0_2)) = some (r1, r2) := by first | (rw [hji11] at H; exact H) | (simp only [hji11] at H ⊢; exact H)
   (try rw [hji11] at A7)
   have hji11_ : (if (wrap64 (((rd_T72 l0_2 t216).f1) - ((rd_T72 l0_2 t216).f2))) < ((rd_T48 l1 x15_1).f1) then (wrap64 (((rd_T72 l0_2 t216).f1) - ((rd_T72 l0_2 t216).f2))) else ((rd_T48 l1 x15_1).f1)) = ji11 := hji11
   by_cases c12 : (ji11) > 0
   {
   rw [if_pos c12] at H
   have c12b0 := decide_eq_true c12
   clear c12
   by_cases c13 : x6_1.length < 5864062014805
   {
   rw [if_pos c13] at H
   have LMc13 := aM c13
   clear c13
   obtain ⟨y220, hy220⟩ : ∃ y_ : List (S50), y_ = (x6_1 ++ [(⟨a0_0, (rd_T48 l1 x15_1).f0, ji11⟩ : S50)]) := ⟨_, rfl⟩
   replace H : (impl_could.l0 k1 y220 (wrap64 (x7_1 + (ji11))) l1 (l1.length : Int) (wrap64 (x15_1 + 1)) a0_0 a0_1 l0_2) = some (r1, r2) := by first | (rw [hy220]; with_reducible exact H) | (have H2_ := (Option.bind_some _ _).symm.trans H; rw [hy220]; with_reducible exact H2_) | (have H2_ := (Option.bind_some _ _).symm.trans H; with_reducible exact H2_) | with_reducible exact H | (rw [hy220]; exact H) | exact H
   have Ny220 := aM hy220
   clear hy220
   have H' := aM H
   clear H
   have p214 : 0 ≤ (x15_1 : Int) := of_decide_eq_true qz2
   have q214 : x15_1 < (l1.length : Int) := of_decide_eq_true qz2
   obtain ⟨ad214, e214, hx214_0, hx214_1⟩ := at_T48 HR1.out x15_1 p214 q214
   cases e214
   replace hx214_0 := pw_cell_below HB.out hx214_0
   replace hx214_1 := pw_cell_below HB.out hx214_1
   replace p214 := eq_true p214
   replace q214 := eq_true q214
   go_wp2_with (first | ((with_reducible refine gate_dst (N := 9) rfl ?_); refine bx_ 9 #[.int .i64 0, .int .i64 0] 48 ?_; intro gb215 hg w14 hbox hb; have n0_ := aM (Kd.R_below (rr_ HO_6.out) hb); have n1_ := aM (blk_below (bk_ BK213.out) hb); have n2_ := aM (below_step qz7 hb); have n3_ := aM (hbox); have n4_ := aM ((by rw [hg]; exact (below_size qz7) : w.heap.size ≤ gb215)); have n5_ := aM ((by rw [hg]; exact (below_size qz7) : w.heap.size ≤ gb215)); have n6_ := aM ((by rw [hg]; exact Nat.ne_of_lt (blk_lt (bk_ BK213.out)) : gb213 ≠ gb215)); have n7_ := aM ((by rw [hg]; exact Nat.ne_of_gt (blk_lt (bk_ BK213.out)) : gb215 ≠ gb213)); clear HO_6 BK213 HB; have HO_6 := n0_; have BK213 := n1_; have HB := n2_; have BK215 := n3_; have GW215 := n4_; have GE215 := n5_; have NB213_215 := n6_; have NB215_213 := n7_; clear n0_ n1_ n2_ n3_ n4_ n5_ n6_ n7_; clear hb hbox hg; have hnb15 := NB215_213.out; have hnc15 := NB213_215.out; have hcz16_0 := bc0_ BK215.out; have hcz16_1 := bc1_ BK215.out; have hfz16_0 := blk_frozen BK215.out 0; have hfz16_1 := blk_frozen BK215.out 1; obtain ⟨hcz17_0, hcz17_1, hcz17_2, hfz17_0, hfz17_1, hfz17_2⟩ := b6_ BK213.out) | (go_at_call 67; (with_reducible refine (impl_stackAt.calls k1 a0_0 a0_1 _ _ l0_2 ((rd_T48 l1 x15_1).f0) t216 true _ ?side1 ?side2 A7.out).mono ?_); (case side1 => exact Kd.C_below HR0_2.out qz6); (case side2 => exact HC0_2.out); rintro e w18 ⟨rfl, hb⟩; have n0_ := aM (Kd.R_below (by (with_reducible repeat (first | apply Kd.R_alloc | apply Kd.R_drewN | apply Kd.R_drew)); exact (Kd.R_mono (Kd.R_far (p := ⟨gb215, 1, none⟩) (Kd.R_far (p := ⟨gb215, 0, none⟩) (Kd.R_types HO_6.out BK215.out (by decide)) (fun _ hk => hk.2) (.int .i64 ((rd_T48 l1 x15_1).f0))) (fun _ hk => hk.2) (.int .i64 ((rd_T48 l1 x15_1).f1))) (fun _ h_ => h_.1))) hb); have n1_ := aM (blk_below (g := gb213) (o := .cells #[.int .i64 a0_0, .int .i64 a0_1, .slice A0_2 l0_2.length c0_2] 79 (0, 0)) qz13 hb); have n2_ := aM (blk_below (g := gb215) (o := .cells #[.int .i64 ((rd_T48 l1 x15_1).f0), .int .i64 ((rd_T48 l1 x15_1).f1)] 48 (0, 0)) (by (with_reducible repeat (first | refine blk_drewN ?_ _ | refine blk_drew ?_ | refine blk_alloc ?_ _)); refine blk_put (cs := #[.int .i64 ((rd_T48 l1 x15_1).f0), .int .i64 0]) ?_ 1 _ rfl; (with_reducible repeat (first | refine blk_drewN ?_ _ | refine blk_drew ?_ | refine blk_alloc ?_ _)); refine blk_put (cs := #[.int .i64 0, .int .i64 0]) ?_ 0 _ rfl; exact bk_ BK215.out) hb); have n3_ := aM (below_step qz6 hb); clear HO_6 BK213 BK215 HB; have HO_6 := n0_; have BK213 := n1_; have BK215 := n2_; have HB := n3_; clear n0_ n1_ n2_ n3_; (try clear hb); (try clear hb2); (try clear hk); (try clear hi); have hcz19_0 := bc0_ BK215.out; have hcz19_1 := bc1_ BK215.out; have hfz19_0 := blk_frozen BK215.out 0; have hfz19_1 := blk_frozen BK215.out 1; obtain ⟨hcz20_0, hcz20_1, hcz20_2, hfz20_0, hfz20_1, hfz20_2⟩ := b6_ BK213.out; have p218 : 0 ≤ (t216 : Int) := of_decide_eq_true qz2; have q218 : t216 < (l0_2.length : Int) := of_decide_eq_true qz2; obtain ⟨ad218, e218, hx218_0, hx218_1, hx218_2⟩ := at_T72 HR0_2.out t216 p218 q218; cases e218; replace hx218_0 := pw_cell_below HB.out hx218_0; replace hx218_1 := pw_cell_below HB.out hx218_1; replace hx218_2 := pw_cell_below HB.out hx218_2; replace p218 := eq_true p218; replace q218 := eq_true q218; have p219 : 0 ≤ (t216 : Int) := of_decide_eq_true qz2; have q219 : t216 < (l0_2.length : Int) := of_decide_eq_true qz2; obtain ⟨ad219, e219, hx219_0, hx219_1, hx219_2⟩ := at_T72 HR0_2.out t216 p219 q219; obtain rfl : ad218 = ad219 := (by injection e219); replace hx219_0 := pw_cell_below HB.out hx219_0; replace hx219_1 := pw_cell_below HB.out hx219_1; replace hx219_2 := pw_cell_below HB.out hx219_2; replace p219 := eq_true p219; replace q219 := eq_true q219) | ((with_reducible refine gate_builtin (b := .append) (xs := #[.tmp 46, .tmp 53]) rfl ?_); at_builtin; refine Kd.R_append k50 (w0 := w) w.heap.size rfl (.tmp 46) (.tmp 53) 43 50 (.agg #[(.int .i64 0), (.int .i64 0), (.int .i64 0)]) 24 rfl Try.underlying43 info50 rfl (by decide) (by omega) u6 x6_1 (⟨a0_0, (rd_T48 l1 x15_1).f0, ji11⟩ : S50) [.int .i64 a0_0, .int .i64 ((rd_T48 l1 x15_1).f0), .int .i64 ji11] (fun _ => True) (fun _ => False) rfl rfl ?aP (fun _ hk => hk.elim) ?aF ?aO ?aB ?aS ?aL ?_; (case aP => exact k50_mkM _ _ _ (⟨a0_0, (rd_T48 l1 x15_1).f0, ji11⟩ : S50)); (case aB => exact qz6); (case aF => exact (fun _ _ => trivial)); (case aO => exact (rr_ HO_6.out)); (case aS => exact (below_size qz6)); (case aL => have := LMc13.out; omega); intro v221 w21 ho hb hg hat; rw [← Ny220.out] at ho; have n0_ := aM (blk_grown (bk_ BK213.out) hg (Kd.R_ne HO_6.out BK213.out (by decide))); have n1_ := aM (blk_grown (bk_ BK215.out) hg (Kd.R_ne HO_6.out BK215.out (by decide))); have n2_ := aM (hb); have n3_ := aM (ho); clear BK213 BK215 HB HO_6; have BK213 := n0_; have BK215 := n1_; have HB := n2_; have HO222 := n3_; clear n0_ n1_ n2_ n3_; clear ho hb hg hat))
   repeat (go_quiet (first | ((with_reducible refine gate_dst (N := 9) rfl ?_); refine bx_ 9 #[.int .i64 0, .int .i64 0] 48 ?_; intro gb215 hg w14 hbox hb; have n0_ := aM (Kd.R_below (rr_ HO_6.out) hb); have n1_ := aM (blk_below (bk_ BK213.out) hb); have n2_ := aM (below_step qz7 hb); have n3_ := aM (hbox); have n4_ := aM ((by rw [hg]; exact (below_size qz7) : w.heap.size ≤ gb215)); have n5_ := aM ((by rw [hg]; exact (below_size qz7) : w.heap.size ≤ gb215)); have n6_ := aM ((by rw [hg]; exact Nat.ne_of_lt (blk_lt (bk_ BK213.out)) : gb213 ≠ gb215)); have n7_ := aM ((by rw [hg]; exact Nat.ne_of_gt (blk_lt (bk_ BK213.out)) : gb215 ≠ gb213)); clear HO_6 BK213 HB; have HO_6 := n0_; have BK213 := n1_; have HB := n2_; have BK215 := n3_; have GW215 := n4_; have GE215 := n5_; have NB213_215 := n6_; have NB215_213 := n7_; clear n0_ n1_ n2_ n3_ n4_ n5_ n6_ n7_; clear hb hbox hg; have hnb15 := NB215_213.out; have hnc15 := NB213_215.out; have hcz16_0 := bc0_ BK215.out; have hcz16_1 := bc1_ BK215.out; have hfz16_0 := blk_frozen BK215.out 0; have hfz16_1 := blk_frozen BK215.out 1; obtain ⟨hcz17_0, hcz17_1, hcz17_2, hfz17_0, hfz17_1, hfz17_2⟩ := b6_ BK213.out) | (go_at_call 67; (with_reducible refine (impl_stackAt.calls k1 a0_0 a0_1 _ _ l0_2 ((rd_T48 l1 x15_1).f0) t216 true _ ?side1 ?side2 A7.out).mono ?_); (case side1 => exact Kd.C_below HR0_2.out qz6); (case side2 => exact HC0_2.out); rintro e w18 ⟨rfl, hb⟩; have n0_ := aM (Kd.R_below (by (with_reducible repeat (first | apply Kd.R_alloc | apply Kd.R_drewN | apply Kd.R_drew)); exact (Kd.R_mono (Kd.R_far (p := ⟨gb215, 1, none⟩) (Kd.R_far (p := ⟨gb215, 0, none⟩) (Kd.R_types HO_6.out BK215.out (by decide)) (fun _ hk => hk.2) (.int .i64 ((rd_T48 l1 x15_1).f0))) (fun _ hk => hk.2) (.int .i64 ((rd_T48 l1 x15_1).f1))) (fun _ h_ => h_.1))) hb); have n1_ := aM (blk_below (g := gb213) (o := .cells #[.int .i64 a0_0, .int .i64 a0_1, .slice A0_2 l0_2.length c0_2] 79 (0, 0)) qz13 hb); have n2_ := aM (blk_below (g := gb215) (o := .cells #[.int .i64 ((rd_T48 l1 x15_1).f0), .int .i64 ((rd_T48 l1 x15_1).f1)] 48 (0, 0)) (by (with_reducible repeat (first | refine blk_drewN ?_ _ | refine blk_drew ?_ | refine blk_alloc ?_ _)); refine blk_put (cs := #[.int .i64 ((rd_T48 l1 x15_1).f0), .int .i64 0]) ?_ 1 _ rfl; (with_reducible repeat (first | refine blk_drewN ?_ _ | refine blk_drew ?_ | refine blk_alloc ?_ _)); refine blk_put (cs := #[.int .i64 0, .int .i64 0]) ?_ 0 _ rfl; exact bk_ BK215.out) hb); have n3_ := aM (below_step qz6 hb); clear HO_6 BK213 BK215 HB; have HO_6 := n0_; have BK213 := n1_; have BK215 := n2_; have HB := n3_; clear n0_ n1_ n2_ n3_; (try clear hb); (try clear hb2); (try clear hk); (try clear hi); have hcz19_0 := bc0_ BK215.out; have hcz19_1 := bc1_ BK215.out; have hfz19_0 := blk_frozen BK215.out 0; have hfz19_1 := blk_frozen BK215.out 1; obtain ⟨hcz20_0, hcz20_1, hcz20_2, hfz20_0, hfz20_1, hfz20_2⟩ := b6_ BK213.out; have p218 : 0 ≤ (t216 : Int) := of_decide_eq_true qz2; have q218 : t216 < (l0_2.length : Int) := of_decide_eq_true qz2; obtain ⟨ad218, e218, hx218_0, hx218_1, hx218_2⟩ := at_T72 HR0_2.out t216 p218 q218; cases e218; replace hx218_0 := pw_cell_below HB.out hx218_0; replace hx218_1 := pw_cell_below HB.out hx218_1; replace hx218_2 := pw_cell_below HB.out hx218_2; replace p218 := eq_true p218; replace q218 := eq_true q218; have p219 : 0 ≤ (t216 : Int) := of_decide_eq_true qz2; have q219 : t216 < (l0_2.length : Int) := of_decide_eq_true qz2; obtain ⟨ad219, e219, hx219_0, hx219_1, hx219_2⟩ := at_T72 HR0_2.out t216 p219 q219; obtain rfl : ad218 = ad219 := (by injection e219); replace hx219_0 := pw_cell_below HB.out hx219_0; replace hx219_1 := pw_cell_below HB.out hx219_1; replace hx219_2 := pw_cell_below HB.out hx219_2; replace p219 := eq_true p219; replace q219 := eq_true q219) | ((with_reducible refine gate_builtin (b := .append) (xs := #[.tmp 46, .tmp 53]) rfl ?_); at_builtin; refine Kd.R_append k50 (w0 := w) w.heap.size rfl (.tmp 46) (.tmp 53) 43 50 (.agg #[(.int .i64 0), (.int .i64 0), (.int .i64 0)]) 24 rfl Try.underlying43 info50 rfl (by decide) (by omega) u6 x6_1 (⟨a0_0, (rd_T48 l1 x15_1).f0, ji11⟩ : S50) [.int .i64 a0_0, .int .i64 ((rd_T48 l1 x15_1).f0), .int .i64 ji11] (fun _ => True) (fun _ => False) rfl rfl ?aP (fun _ hk => hk.elim) ?aF ?aO ?aB ?aS ?aL ?_; (case aP => exact k50_mkM _ _ _ (⟨a0_0, (rd_T48 l1 x15_1).f0, ji11⟩ : S50)); (case aB => exact qz6); (case aF => exact (fun _ _ => trivial)); (case aO => exact (rr_ HO_6.out)); (case aS => exact (below_size qz6)); (case aL => have := LMc13.out; omega); intro v221 w21 ho hb hg hat; rw [← Ny220.out] at ho; have n0_ := aM (blk_grown (bk_ BK213.out) hg (Kd.R_ne HO_6.out BK213.out (by decide))); have n1_ := aM (blk_grown (bk_ BK215.out) hg (Kd.R_ne HO_6.out BK215.out (by decide))); have n2_ := aM (hb); have n3_ := aM (ho); clear BK213 BK215 HB HO_6; have BK213 := n0_; have BK215 := n1_; have HB := n2_; have HO222 := n3_; clear n0_ n1_ n2_ n3_; clear ho hb hg hat)); try go_wp2_with (first | ((with_reducible refine gate_dst (N := 9) rfl ?_); refine bx_ 9 #[.int .i64 0, .int .i64 0] 48 ?_; intro gb215 hg w14 hbox hb; have n0_ := aM (Kd.R_below (rr_ HO_6.out) hb); have n1_ := aM (blk_below (bk_ BK213.out) hb); have n2_ := aM (below_step qz7 hb); have n3_ := aM (hbox); have n4_ := aM ((by rw [hg]; exact (below_size qz7) : w.heap.size ≤ gb215)); have n5_ := aM ((by rw [hg]; exact (below_size qz7) : w.heap.size ≤ gb215)); have n6_ := aM ((by rw [hg]; exact Nat.ne_of_lt (blk_lt (bk_ BK213.out)) : gb213 ≠ gb215)); have n7_ := aM ((by rw [hg]; exact Nat.ne_of_gt (blk_lt (bk_ BK213.out)) : gb215 ≠ gb213)); clear HO_6 BK213 HB; have HO_6 := n0_; have BK213 := n1_; have HB := n2_; have BK215 := n3_; have GW215 := n4_; have GE215 := n5_; have NB213_215 := n6_; have NB215_213 := n7_; clear n0_ n1_ n2_ n3_ n4_ n5_ n6_ n7_; clear hb hbox hg; have hnb15 := NB215_213.out; have hnc15 := NB213_215.out; have hcz16_0 := bc0_ BK215.out; have hcz16_1 := bc1_ BK215.out; have hfz16_0 := blk_frozen BK215.out 0; have hfz16_1 := blk_frozen BK215.out 1; obtain ⟨hcz17_0, hcz17_1, hcz17_2, hfz17_0, hfz17_1, hfz17_2⟩ := b6_ BK213.out) | (go_at_call 67; (with_reducible refine (impl_stackAt.calls k1 a0_0 a0_1 _ _ l0_2 ((rd_T48 l1 x15_1).f0) t216 true _ ?side1 ?side2 A7.out).mono ?_); (case side1 => exact Kd.C_below HR0_2.out qz6); (case side2 => exact HC0_2.out); rintro e w18 ⟨rfl, hb⟩; have n0_ := aM (Kd.R_below (by (with_reducible repeat (first | apply Kd.R_alloc | apply Kd.R_drewN | apply Kd.R_drew)); exact (Kd.R_mono (Kd.R_far (p := ⟨gb215, 1, none⟩) (Kd.R_far (p := ⟨gb215, 0, none⟩) (Kd.R_types HO_6.out BK215.out (by decide)) (fun _ hk => hk.2) (.int .i64 ((rd_T48 l1 x15_1).f0))) (fun _ hk => hk.2) (.int .i64 ((rd_T48 l1 x15_1).f1))) (fun _ h_ => h_.1))) hb); have n1_ := aM (blk_below (g := gb213) (o := .cells #[.int .i64 a0_0, .int .i64 a0_1, .slice A0_2 l0_2.length c0_2] 79 (0, 0)) qz13 hb); have n2_ := aM (blk_below (g := gb215) (o := .cells #[.int .i64 ((rd_T48 l1 x15_1).f0), .int .i64 ((rd_T48 l1 x15_1).f1)] 48 (0, 0)) (by (with_reducible repeat (first | refine blk_drewN ?_ _ | refine blk_drew ?_ | refine blk_alloc ?_ _)); refine blk_put (cs := #[.int .i64 ((rd_T48 l1 x15_1).f0), .int .i64 0]) ?_ 1 _ rfl; (with_reducible repeat (first | refine blk_drewN ?_ _ | refine blk_drew ?_ | refine blk_alloc ?_ _)); refine blk_put (cs := #[.int .i64 0, .int .i64 0]) ?_ 0 _ rfl; exact bk_ BK215.out) hb); have n3_ := aM (below_step qz6 hb); clear HO_6 BK213 BK215 HB; have HO_6 := n0_; have BK213 := n1_; have BK215 := n2_; have HB := n3_; clear n0_ n1_ n2_ n3_; (try clear hb); (try clear hb2); (try clear hk); (try clear hi); have hcz19_0 := bc0_ BK215.out; have hcz19_1 := bc1_ BK215.out; have hfz19_0 := blk_frozen BK215.out 0; have hfz19_1 := blk_frozen BK215.out 1; obtain ⟨hcz20_0, hcz20_1, hcz20_2, hfz20_0, hfz20_1, hfz20_2⟩ := b6_ BK213.out; have p218 : 0 ≤ (t216 : Int) := of_decide_eq_true qz2; have q218 : t216 < (l0_2.length : Int) := of_decide_eq_true qz2; obtain ⟨ad218, e218, hx218_0, hx218_1, hx218_2⟩ := at_T72 HR0_2.out t216 p218 q218; cases e218; replace hx218_0 := pw_cell_below HB.out hx218_0; replace hx218_1 := pw_cell_below HB.out hx218_1; replace hx218_2 := pw_cell_below HB.out hx218_2; replace p218 := eq_true p218; replace q218 := eq_true q218; have p219 : 0 ≤ (t216 : Int) := of_decide_eq_true qz2; have q219 : t216 < (l0_2.length : Int) := of_decide_eq_true qz2; obtain ⟨ad219, e219, hx219_0, hx219_1, hx219_2⟩ := at_T72 HR0_2.out t216 p219 q219; obtain rfl : ad218 = ad219 := (by injection e219); replace hx219_0 := pw_cell_below HB.out hx219_0; replace hx219_1 := pw_cell_below HB.out hx219_1; replace hx219_2 := pw_cell_below HB.out hx219_2; replace p219 := eq_true p219; replace q219 := eq_true q219) | ((with_reducible refine gate_builtin (b := .append) (xs := #[.tmp 46, .tmp 53]) rfl ?_); at_builtin; refine Kd.R_append k50 (w0 := w) w.heap.size rfl (.tmp 46) (.tmp 53) 43 50 (.agg #[(.int .i64 0), (.int .i64 0), (.int .i64 0)]) 24 rfl Try.underlying43 info50 rfl (by decide) (by omega) u6 x6_1 (⟨a0_0, (rd_T48 l1 x15_1).f0, ji11⟩ : S50) [.int .i64 a0_0, .int .i64 ((rd_T48 l1 x15_1).f0), .int .i64 ji11] (fun _ => True) (fun _ => False) rfl rfl ?aP (fun _ hk => hk.elim) ?aF ?aO ?aB ?aS ?aL ?_; (case aP => exact k50_mkM _ _ _ (⟨a0_0, (rd_T48 l1 x15_1).f0, ji11⟩ : S50)); (case aB => exact qz6); (case aF => exact (fun _ _ => trivial)); (case aO => exact (rr_ HO_6.out)); (case aS => exact (below_size qz6)); (case aL => have := LMc13.out; omega); intro v221 w21 ho hb hg hat; rw [← Ny220.out] at ho; have n0_ := aM (blk_grown (bk_ BK213.out) hg (Kd.R_ne HO_6.out BK213.out (by decide))); have n1_ := aM (blk_grown (bk_ BK215.out) hg (Kd.R_ne HO_6.out BK215.out (by decide))); have n2_ := aM (hb); have n3_ := aM (ho); clear BK213 BK215 HB HO_6; have BK213 := n0_; have BK215 := n1_; have HB := n2_; have HO222 := n3_; clear n0_ n1_ n2_ n3_; clear ho hb hg hat)))
   go_roundg k1
   case measure => have := HK1.out; omega
   case rel => exact ⟨(y220), (wrap64 (x7_1 + (ji11))), (wrap64 (x15_1 + 1)), (by first | rfl | (simp; done) | (simp only [← hji11] <;> (first | rfl | simp)) | (simp [*]; done)), qz4, H', ⟨by have := HK1.out; omega⟩, ⟨rm_ HO222.out⟩, ⟨bk_ BK213.out⟩, ⟨by repeat (first | (with_reducible first | exact HB.out | apply below_alloc | apply pw_below_drewN | apply below_drew1 | refine below_set ?_ GE213.out | refine below_set ?_ GE215.out) | exact HB.out)⟩⟩
   }
   {
   rw [if_neg c13] at H
   exact absurd H (by simp)
   }
   }
   {
   rw [if_neg c12] at H
   have c12b0 := decide_eq_false c12
   clear c12
   have H' := aM H
   clear H
   have p214 : 0 ≤ (x15_1 : Int) := of_decide_eq_true qz2
   have q214 : x15_1 < (l1.length : Int) := of_decide_eq_true qz2
   obtain ⟨ad214, e214, hx214_0, hx214_1⟩ := at_T48 HR1.out x15_1 p214 q214
   cases e214
   replace hx214_0 := pw_cell_below HB.out hx214_0
   replace hx214_1 := pw_cell_below HB.out hx214_1
   replace p214 := eq_true p214
   replace q214 := eq_true q214
   go_wp2_with (first | ((with_reducible refine gate_dst (N := 9) rfl ?_); refine bx_ 9 #[.int .i64 0, .int .i64 0] 48 ?_; intro gb215 hg w22 hbox hb; have n0_ := aM (Kd.R_below (rr_ HO_6.out) hb); have n1_ := aM (blk_below (bk_ BK213.out) hb); have n2_ := aM (below_step qz7 hb); have n3_ := aM (hbox); have n4_ := aM ((by rw [hg]; exact (below_size qz7) : w.heap.size ≤ gb215)); have n5_ := aM ((by rw [hg]; exact (below_size qz7) : w.heap.size ≤ gb215)); have n6_ := aM ((by rw [hg]; exact Nat.ne_of_lt (blk_lt (bk_ BK213.out)) : gb213 ≠ gb215)); have n7_ := aM ((by rw [hg]; exact Nat.ne_of_gt (blk_lt (bk_ BK213.out)) : gb215 ≠ gb213)); clear HO_6 BK213 HB; have HO_6 := n0_; have BK213 := n1_; have HB := n2_; have BK215 := n3_; have GW215 := n4_; have GE215 := n5_; have NB213_215 := n6_; have NB215_213 := n7_; clear n0_ n1_ n2_ n3_ n4_ n5_ n6_ n7_; clear hb hbox hg; have hnb23 := NB215_213.out; have hnc23 := NB213_215.out; have hcz24_0 := bc0_ BK215.out; have hcz24_1 := bc1_ BK215.out; have hfz24_0 := blk_frozen BK215.out 0; have hfz24_1 := blk_frozen BK215.out 1; obtain ⟨hcz25_0, hcz25_1, hcz25_2, hfz25_0, hfz25_1, hfz25_2⟩ := b6_ BK213.out) | (go_at_call 67; (with_reducible refine (impl_stackAt.calls k1 a0_0 a0_1 _ _ l0_2 ((rd_T48 l1 x15_1).f0) t216 true _ ?side1 ?side2 A7.out).mono ?_); (case side1 => exact Kd.C_below HR0_2.out qz6); (case side2 => exact HC0_2.out); rintro e w26 ⟨rfl, hb⟩; have n0_ := aM (Kd.R_below (by (with_reducible repeat (first | apply Kd.R_alloc | apply Kd.R_drewN | apply Kd.R_drew)); exact (Kd.R_mono (Kd.R_far (p := ⟨gb215, 1, none⟩) (Kd.R_far (p := ⟨gb215, 0, none⟩) (Kd.R_types HO_6.out BK215.out (by decide)) (fun _ hk => hk.2) (.int .i64 ((rd_T48 l1 x15_1).f0))) (fun _ hk => hk.2) (.int .i64 ((rd_T48 l1 x15_1).f1))) (fun _ h_ => h_.1))) hb); have n1_ := aM (blk_below (g := gb213) (o := .cells #[.int .i64 a0_0, .int .i64 a0_1, .slice A0_2 l0_2.length c0_2] 79 (0, 0)) qz13 hb); have n2_ := aM (blk_below (g := gb215) (o := .cells #[.int .i64 ((rd_T48 l1 x15_1).f0), .int .i64 ((rd_T48 l1 x15_1).f1)] 48 (0, 0)) (by (with_reducible repeat (first | refine blk_drewN ?_ _ | refine blk_drew ?_ | refine blk_alloc ?_ _)); refine blk_put (cs := #[.int .i64 ((rd_T48 l1 x15_1).f0), .int .i64 0]) ?_ 1 _ rfl; (with_reducible repeat (first | refine blk_drewN ?_ _ | refine blk_drew ?_ | refine blk_alloc ?_ _)); refine blk_put (cs := #[.int .i64 0, .int .i64 0]) ?_ 0 _ rfl; exact bk_ BK215.out) hb); have n3_ := aM (below_step qz6 hb); clear HO_6 BK213 BK215 HB; have HO_6 := n0_; have BK213 := n1_; have BK215 := n2_; have HB := n3_; clear n0_ n1_ n2_ n3_; (try clear hb); (try clear hb2); (try clear hk); (try clear hi); have hcz27_0 := bc0_ BK215.out; have hcz27_1 := bc1_ BK215.out; have hfz27_0 := blk_frozen BK215.out 0; have hfz27_1 := blk_frozen BK215.out 1; obtain ⟨hcz28_0, hcz28_1, hcz28_2, hfz28_0, hfz28_1, hfz28_2⟩ := b6_ BK213.out; have p218 : 0 ≤ (t216 : Int) := of_decide_eq_true qz2; have q218 : t216 < (l0_2.length : Int) := of_decide_eq_true qz2; obtain ⟨ad218, e218, hx218_0, hx218_1, hx218_2⟩ := at_T72 HR0_2.out t216 p218 q218; cases e218; replace hx218_0 := pw_cell_below HB.out hx218_0; replace hx218_1 := pw_cell_below HB.out hx218_1; replace hx218_2 := pw_cell_below HB.out hx218_2; replace p218 := eq_true p218; replace q218 := eq_true q218; have p219 : 0 ≤ (t216 : Int) := of_decide_eq_true qz2; have q219 : t216 < (l0_2.length : Int) := of_decide_eq_true qz2; obtain ⟨ad219, e219, hx219_0, hx219_1, hx219_2⟩ := at_T72 HR0_2.out t216 p219 q219; obtain rfl : ad218 = ad219 := (by injection e219); replace hx219_0 := pw_cell_below HB.out hx219_0; replace hx219_1 := pw_cell_below HB.out hx219_1; replace hx219_2 := pw_cell_below HB.out hx219_2; replace p219 := eq_true p219; replace q219 := eq_true q219))
   repeat (go_quiet (first | ((with_reducible refine gate_dst (N := 9) rfl ?_); refine bx_ 9 #[.int .i64 0, .int .i64 0] 48 ?_; intro gb215 hg w22 hbox hb; have n0_ := aM (Kd.R_below (rr_ HO_6.out) hb); have n1_ := aM (blk_below (bk_ BK213.out) hb); have n2_ := aM (below_step qz7 hb); have n3_ := aM (hbox); have n4_ := aM ((by rw [hg]; exact (below_size qz7) : w.heap.size ≤ gb215)); have n5_ := aM ((by rw [hg]; exact (below_size qz7) : w.heap.size ≤ gb215)); have n6_ := aM ((by rw [hg]; exact Nat.ne_of_lt (blk_lt (bk_ BK213.out)) : gb213 ≠ gb215)); have n7_ := aM ((by rw [hg]; exact Nat.ne_of_gt (blk_lt (bk_ BK213.out)) : gb215 ≠ gb213)); clear HO_6 BK213 HB; have HO_6 := n0_; have BK213 := n1_; have HB := n2_; have BK215 := n3_; have GW215 := n4_; have GE215 := n5_; have NB213_215 := n6_; have NB215_213 := n7_; clear n0_ n1_ n2_ n3_ n4_ n5_ n6_ n7_; clear hb hbox hg; have hnb23 := NB215_213.out; have hnc23 := NB213_215.out; have hcz24_0 := bc0_ BK215.out; have hcz24_1 := bc1_ BK215.out; have hfz24_0 := blk_frozen BK215.out 0; have hfz24_1 := blk_frozen BK215.out 1; obtain ⟨hcz25_0, hcz25_1, hcz25_2, hfz25_0, hfz25_1, hfz25_2⟩ := b6_ BK213.out) | (go_at_call 67; (with_reducible refine (impl_stackAt.calls k1 a0_0 a0_1 _ _ l0_2 ((rd_T48 l1 x15_1).f0) t216 true _ ?side1 ?side2 A7.out).mono ?_); (case side1 => exact Kd.C_below HR0_2.out qz6); (case side2 => exact HC0_2.out); rintro e w26 ⟨rfl, hb⟩; have n0_ := aM (Kd.R_below (by (with_reducible repeat (first | apply Kd.R_alloc | apply Kd.R_drewN | apply Kd.R_drew)); exact (Kd.R_mono (Kd.R_far (p := ⟨gb215, 1, none⟩) (Kd.R_far (p := ⟨gb215, 0, none⟩) (Kd.R_types HO_6.out BK215.out (by decide)) (fun _ hk => hk.2) (.int .i64 ((rd_T48 l1 x15_1).f0))) (fun _ hk => hk.2) (.int .i64 ((rd_T48 l1 x15_1).f1))) (fun _ h_ => h_.1))) hb); have n1_ := aM (blk_below (g := gb213) (o := .cells #[.int .i64 a0_0, .int .i64 a0_1, .slice A0_2 l0_2.length c0_2] 79 (0, 0)) qz13 hb); have n2_ := aM (blk_below (g := gb215) (o := .cells #[.int .i64 ((rd_T48 l1 x15_1).f0), .int .i64 ((rd_T48 l1 x15_1).f1)] 48 (0, 0)) (by (with_reducible repeat (first | refine blk_drewN ?_ _ | refine blk_drew ?_ | refine blk_alloc ?_ _)); refine blk_put (cs := #[.int .i64 ((rd_T48 l1 x15_1).f0), .int .i64 0]) ?_ 1 _ rfl; (with_reducible repeat (first | refine blk_drewN ?_ _ | refine blk_drew ?_ | refine blk_alloc ?_ _)); refine blk_put (cs := #[.int .i64 0, .int .i64 0]) ?_ 0 _ rfl; exact bk_ BK215.out) hb); have n3_ := aM (below_step qz6 hb); clear HO_6 BK213 BK215 HB; have HO_6 := n0_; have BK213 := n1_; have BK215 := n2_; have HB := n3_; clear n0_ n1_ n2_ n3_; (try clear hb); (try clear hb2); (try clear hk); (try clear hi); have hcz27_0 := bc0_ BK215.out; have hcz27_1 := bc1_ BK215.out; have hfz27_0 := blk_frozen BK215.out 0; have hfz27_1 := blk_frozen BK215.out 1; obtain ⟨hcz28_0, hcz28_1, hcz28_2, hfz28_0, hfz28_1, hfz28_2⟩ := b6_ BK213.out; have p218 : 0 ≤ (t216 : Int) := of_decide_eq_true qz2; have q218 : t216 < (l0_2.length : Int) := of_decide_eq_true qz2; obtain ⟨ad218, e218, hx218_0, hx218_1, hx218_2⟩ := at_T72 HR0_2.out t216 p218 q218; cases e218; replace hx218_0 := pw_cell_below HB.out hx218_0; replace hx218_1 := pw_cell_below HB.out hx218_1; replace hx218_2 := pw_cell_below HB.out hx218_2; replace p218 := eq_true p218; replace q218 := eq_true q218; have p219 : 0 ≤ (t216 : Int) := of_decide_eq_true qz2; have q219 : t216 < (l0_2.length : Int) := of_decide_eq_true qz2; obtain ⟨ad219, e219, hx219_0, hx219_1, hx219_2⟩ := at_T72 HR0_2.out t216 p219 q219; obtain rfl : ad218 = ad219 := (by injection e219); replace hx219_0 := pw_cell_below HB.out hx219_0; replace hx219_1 := pw_cell_below HB.out hx219_1; replace hx219_2 := pw_cell_below HB.out hx219_2; replace p219 := eq_true p219; replace q219 := eq_true q219)); try go_wp2_with (first | ((with_reducible refine gate_dst (N := 9) rfl ?_); refine bx_ 9 #[.int .i64 0, .int .i64 0] 48 ?_; intro gb215 hg w22 hbox hb; have n0_ := aM (Kd.R_below (rr_ HO_6.out) hb); have n1_ := aM (blk_below (bk_ BK213.out) hb); have n2_ := aM (below_step qz7 hb); have n3_ := aM (hbox); have n4_ := aM ((by rw [hg]; exact (below_size qz7) : w.heap.size ≤ gb215)); have n5_ := aM ((by rw [hg]; exact (below_size qz7) : w.heap.size ≤ gb215)); have n6_ := aM ((by rw [hg]; exact Nat.ne_of_lt (blk_lt (bk_ BK213.out)) : gb213 ≠ gb215)); have n7_ := aM ((by rw [hg]; exact Nat.ne_of_gt (blk_lt (bk_ BK213.out)) : gb215 ≠ gb213)); clear HO_6 BK213 HB; have HO_6 := n0_; have BK213 := n1_; have HB := n2_; have BK215 := n3_; have GW215 := n4_; have GE215 := n5_; have NB213_215 := n6_; have NB215_213 := n7_; clear n0_ n1_ n2_ n3_ n4_ n5_ n6_ n7_; clear hb hbox hg; have hnb23 := NB215_213.out; have hnc23 := NB213_215.out; have hcz24_0 := bc0_ BK215.out; have hcz24_1 := bc1_ BK215.out; have hfz24_0 := blk_frozen BK215.out 0; have hfz24_1 := blk_frozen BK215.out 1; obtain ⟨hcz25_0, hcz25_1, hcz25_2, hfz25_0, hfz25_1, hfz25_2⟩ := b6_ BK213.out) | (go_at_call 67; (with_reducible refine (impl_stackAt.calls k1 a0_0 a0_1 _ _ l0_2 ((rd_T48 l1 x15_1).f0) t216 true _ ?side1 ?side2 A7.out).mono ?_); (case side1 => exact Kd.C_below HR0_2.out qz6); (case side2 => exact HC0_2.out); rintro e w26 ⟨rfl, hb⟩; have n0_ := aM (Kd.R_below (by (with_reducible repeat (first | apply Kd.R_alloc | apply Kd.R_drewN | apply Kd.R_drew)); exact (Kd.R_mono (Kd.R_far (p := ⟨gb215, 1, none⟩) (Kd.R_far (p := ⟨gb215, 0, none⟩) (Kd.R_types HO_6.out BK215.out (by decide)) (fun _ hk => hk.2) (.int .i64 ((rd_T48 l1 x15_1).f0))) (fun _ hk => hk.2) (.int .i64 ((rd_T48 l1 x15_1).f1))) (fun _ h_ => h_.1))) hb); have n1_ := aM (blk_below (g := gb213) (o := .cells #[.int .i64 a0_0, .int .i64 a0_1, .slice A0_2 l0_2.length c0_2] 79 (0, 0)) qz13 hb); have n2_ := aM (blk_below (g := gb215) (o := .cells #[.int .i64 ((rd_T48 l1 x15_1).f0), .int .i64 ((rd_T48 l1 x15_1).f1)] 48 (0, 0)) (by (with_reducible repeat (first | refine blk_drewN ?_ _ | refine blk_drew ?_ | refine blk_alloc ?_ _)); refine blk_put (cs := #[.int .i64 ((rd_T48 l1 x15_1).f0), .int .i64 0]) ?_ 1 _ rfl; (with_reducible repeat (first | refine blk_drewN ?_ _ | refine blk_drew ?_ | refine blk_alloc ?_ _)); refine blk_put (cs := #[.int .i64 0, .int .i64 0]) ?_ 0 _ rfl; exact bk_ BK215.out) hb); have n3_ := aM (below_step qz6 hb); clear HO_6 BK213 BK215 HB; have HO_6 := n0_; have BK213 := n1_; have BK215 := n2_; have HB := n3_; clear n0_ n1_ n2_ n3_; (try clear hb); (try clear hb2); (try clear hk); (try clear hi); have hcz27_0 := bc0_ BK215.out; have hcz27_1 := bc1_ BK215.out; have hfz27_0 := blk_frozen BK215.out 0; have hfz27_1 := blk_frozen BK215.out 1; obtain ⟨hcz28_0, hcz28_1, hcz28_2, hfz28_0, hfz28_1, hfz28_2⟩ := b6_ BK213.out; have p218 : 0 ≤ (t216 : Int) := of_decide_eq_true qz2; have q218 : t216 < (l0_2.length : Int) := of_decide_eq_true qz2; obtain ⟨ad218, e218, hx218_0, hx218_1, hx218_2⟩ := at_T72 HR0_2.out t216 p218 q218; cases e218; replace hx218_0 := pw_cell_below HB.out hx218_0; replace hx218_1 := pw_cell_below HB.out hx218_1; replace hx218_2 := pw_cell_below HB.out hx218_2; replace p218 := eq_true p218; replace q218 := eq_true q218; have p219 : 0 ≤ (t216 : Int) := of_decide_eq_true qz2; have q219 : t216 < (l0_2.length : Int) := of_decide_eq_true qz2; obtain ⟨ad219, e219, hx219_0, hx219_1, hx219_2⟩ := at_T72 HR0_2.out t216 p219 q219; obtain rfl : ad218 = ad219 := (by injection e219); replace hx219_0 := pw_cell_below HB.out hx219_0; replace hx219_1 := pw_cell_below HB.out hx219_1; replace hx219_2 := pw_cell_below HB.out hx219_2; replace p219 := eq_true p219; replace q219 := eq_true q219)))
   go_roundg k1
   case measure => have := HK1.out; omega
   case rel => exact ⟨(x6_1), (x7_1), (wrap64 (x15_1 + 1)), qz4, qz4, H', ⟨by have := HK1.out; omega⟩, ⟨rm_ HO_6.out⟩, ⟨bk_ BK213.out⟩, ⟨by repeat (first | (with_reducible first | exact HB.out | apply below_alloc | apply pw_below_drewN | apply below_drew1 | refine below_set ?_ GE213.out | refine below_set ?_ GE215.out) | exact HB.out)⟩⟩
   }
   }
   {
   rw [if_neg c10] at H
   exact absurd H (by simp)
   }
   }
   {
   rw [if_neg c9] at H
   exact absurd H (by simp)
   }
   }
   {
   replace c8 := Bool.eq_false_iff.mpr c8
   subst c8
   rw [if_neg (show ¬ (false = true) by decide)] at H
   have H' := aM H
   clear H
   have p214 : 0 ≤ (x15_1 : Int) := of_decide_eq_true qz2
   have q214 : x15_1 < (l1.length : Int) := of_decide_eq_true qz2
   obtain ⟨ad214, e214, hx214_0, hx214_1⟩ := at_T48 HR1.out x15_1 p214 q214
   cases e214
   replace hx214_0 := pw_cell_below HB.out hx214_0
   replace hx214_1 := pw_cell_below HB.out hx214_1
   replace p214 := eq_true p214
   replace q214 := eq_true q214
   go_wp2_with (first | ((with_reducible refine gate_dst (N := 9) rfl ?_); refine bx_ 9 #[.int .i64 0, .int .i64 0] 48 ?_; intro gb215 hg w29 hbox hb; have n0_ := aM (Kd.R_below (rr_ HO_6.out) hb); have n1_ := aM (blk_below (bk_ BK213.out) hb); have n2_ := aM (below_step qz7 hb); have n3_ := aM (hbox); have n4_ := aM ((by rw [hg]; exact (below_size qz7) : w.heap.size ≤ gb215)); have n5_ := aM ((by rw [hg]; exact (below_size qz7) : w.heap.size ≤ gb215)); have n6_ := aM ((by rw [hg]; exact Nat.ne_of_lt (blk_lt (bk_ BK213.out)) : gb213 ≠ gb215)); have n7_ := aM ((by rw [hg]; exact Nat.ne_of_gt (blk_lt (bk_ BK213.out)) : gb215 ≠ gb213)); clear HO_6 BK213 HB; have HO_6 := n0_; have BK213 := n1_; have HB := n2_; have BK215 := n3_; have GW215 := n4_; have GE215 := n5_; have NB213_215 := n6_; have NB215_213 := n7_; clear n0_ n1_ n2_ n3_ n4_ n5_ n6_ n7_; clear hb hbox hg; have hnb30 := NB215_213.out; have hnc30 := NB213_215.out; have hcz31_0 := bc0_ BK215.out; have hcz31_1 := bc1_ BK215.out; have hfz31_0 := blk_frozen BK215.out 0; have hfz31_1 := blk_frozen BK215.out 1; obtain ⟨hcz32_0, hcz32_1, hcz32_2, hfz32_0, hfz32_1, hfz32_2⟩ := b6_ BK213.out) | (go_at_call 67; (with_reducible refine (impl_stackAt.calls k1 a0_0 a0_1 _ _ l0_2 ((rd_T48 l1 x15_1).f0) t216 false _ ?side1 ?side2 A7.out).mono ?_); (case side1 => exact Kd.C_below HR0_2.out qz6); (case side2 => exact HC0_2.out); rintro e w33 ⟨rfl, hb⟩; have n0_ := aM (Kd.R_below (by (with_reducible repeat (first | apply Kd.R_alloc | apply Kd.R_drewN | apply Kd.R_drew)); exact (Kd.R_mono (Kd.R_far (p := ⟨gb215, 1, none⟩) (Kd.R_far (p := ⟨gb215, 0, none⟩) (Kd.R_types HO_6.out BK215.out (by decide)) (fun _ hk => hk.2) (.int .i64 ((rd_T48 l1 x15_1).f0))) (fun _ hk => hk.2) (.int .i64 ((rd_T48 l1 x15_1).f1))) (fun _ h_ => h_.1))) hb); have n1_ := aM (blk_below (g := gb213) (o := .cells #[.int .i64 a0_0, .int .i64 a0_1, .slice A0_2 l0_2.length c0_2] 79 (0, 0)) qz13 hb); have n2_ := aM (blk_below (g := gb215) (o := .cells #[.int .i64 ((rd_T48 l1 x15_1).f0), .int .i64 ((rd_T48 l1 x15_1).f1)] 48 (0, 0)) (by (with_reducible repeat (first | refine blk_drewN ?_ _ | refine blk_drew ?_ | refine blk_alloc ?_ _)); refine blk_put (cs := #[.int .i64 ((rd_T48 l1 x15_1).f0), .int .i64 0]) ?_ 1 _ rfl; (with_reducible repeat (first | refine blk_drewN ?_ _ | refine blk_drew ?_ | refine blk_alloc ?_ _)); refine blk_put (cs := #[.int .i64 0, .int .i64 0]) ?_ 0 _ rfl; exact bk_ BK215.out) hb); have n3_ := aM (below_step qz6 hb); clear HO_6 BK213 BK215 HB; have HO_6 := n0_; have BK213 := n1_; have BK215 := n2_; have HB := n3_; clear n0_ n1_ n2_ n3_; (try clear hb); (try clear hb2); (try clear hk); (try clear hi)))
   repeat (go_quiet (first | ((with_reducible refine gate_dst (N := 9) rfl ?_); refine bx_ 9 #[.int .i64 0, .int .i64 0] 48 ?_; intro gb215 hg w29 hbox hb; have n0_ := aM (Kd.R_below (rr_ HO_6.out) hb); have n1_ := aM (blk_below (bk_ BK213.out) hb); have n2_ := aM (below_step qz7 hb); have n3_ := aM (hbox); have n4_ := aM ((by rw [hg]; exact (below_size qz7) : w.heap.size ≤ gb215)); have n5_ := aM ((by rw [hg]; exact (below_size qz7) : w.heap.size ≤ gb215)); have n6_ := aM ((by rw [hg]; exact Nat.ne_of_lt (blk_lt (bk_ BK213.out)) : gb213 ≠ gb215)); have n7_ := aM ((by rw [hg]; exact Nat.ne_of_gt (blk_lt (bk_ BK213.out)) : gb215 ≠ gb213)); clear HO_6 BK213 HB; have HO_6 := n0_; have BK213 := n1_; have HB := n2_; have BK215 := n3_; have GW215 := n4_; have GE215 := n5_; have NB213_215 := n6_; have NB215_213 := n7_; clear n0_ n1_ n2_ n3_ n4_ n5_ n6_ n7_; clear hb hbox hg; have hnb30 := NB215_213.out; have hnc30 := NB213_215.out; have hcz31_0 := bc0_ BK215.out; have hcz31_1 := bc1_ BK215.out; have hfz31_0 := blk_frozen BK215.out 0; have hfz31_1 := blk_frozen BK215.out 1; obtain ⟨hcz32_0, hcz32_1, hcz32_2, hfz32_0, hfz32_1, hfz32_2⟩ := b6_ BK213.out) | (go_at_call 67; (with_reducible refine (impl_stackAt.calls k1 a0_0 a0_1 _ _ l0_2 ((rd_T48 l1 x15_1).f0) t216 false _ ?side1 ?side2 A7.out).mono ?_); (case side1 => exact Kd.C_below HR0_2.out qz6); (case side2 => exact HC0_2.out); rintro e w33 ⟨rfl, hb⟩; have n0_ := aM (Kd.R_below (by (with_reducible repeat (first | apply Kd.R_alloc | apply Kd.R_drewN | apply Kd.R_drew)); exact (Kd.R_mono (Kd.R_far (p := ⟨gb215, 1, none⟩) (Kd.R_far (p := ⟨gb215, 0, none⟩) (Kd.R_types HO_6.out BK215.out (by decide)) (fun _ hk => hk.2) (.int .i64 ((rd_T48 l1 x15_1).f0))) (fun _ hk => hk.2) (.int .i64 ((rd_T48 l1 x15_1).f1))) (fun _ h_ => h_.1))) hb); have n1_ := aM (blk_below (g := gb213) (o := .cells #[.int .i64 a0_0, .int .i64 a0_1, .slice A0_2 l0_2.length c0_2] 79 (0, 0)) qz13 hb); have n2_ := aM (blk_below (g := gb215) (o := .cells #[.int .i64 ((rd_T48 l1 x15_1).f0), .int .i64 ((rd_T48 l1 x15_1).f1)] 48 (0, 0)) (by (with_reducible repeat (first | refine blk_drewN ?_ _ | refine blk_drew ?_ | refine blk_alloc ?_ _)); refine blk_put (cs := #[.int .i64 ((rd_T48 l1 x15_1).f0), .int .i64 0]) ?_ 1 _ rfl; (with_reducible repeat (first | refine blk_drewN ?_ _ | refine blk_drew ?_ | refine blk_alloc ?_ _)); refine blk_put (cs := #[.int .i64 0, .int .i64 0]) ?_ 0 _ rfl; exact bk_ BK215.out) hb); have n3_ := aM (below_step qz6 hb); clear HO_6 BK213 BK215 HB; have HO_6 := n0_; have BK213 := n1_; have BK215 := n2_; have HB := n3_; clear n0_ n1_ n2_ n3_; (try clear hb); (try clear hb2); (try clear hk); (try clear hi))); try go_wp2_with (first | ((with_reducible refine gate_dst (N := 9) rfl ?_); refine bx_ 9 #[.int .i64 0, .int .i64 0] 48 ?_; intro gb215 hg w29 hbox hb; have n0_ := aM (Kd.R_below (rr_ HO_6.out) hb); have n1_ := aM (blk_below (bk_ BK213.out) hb); have n2_ := aM (below_step qz7 hb); have n3_ := aM (hbox); have n4_ := aM ((by rw [hg]; exact (below_size qz7) : w.heap.size ≤ gb215)); have n5_ := aM ((by rw [hg]; exact (below_size qz7) : w.heap.size ≤ gb215)); have n6_ := aM ((by rw [hg]; exact Nat.ne_of_lt (blk_lt (bk_ BK213.out)) : gb213 ≠ gb215)); have n7_ := aM ((by rw [hg]; exact Nat.ne_of_gt (blk_lt (bk_ BK213.out)) : gb215 ≠ gb213)); clear HO_6 BK213 HB; have HO_6 := n0_; have BK213 := n1_; have HB := n2_; have BK215 := n3_; have GW215 := n4_; have GE215 := n5_; have NB213_215 := n6_; have NB215_213 := n7_; clear n0_ n1_ n2_ n3_ n4_ n5_ n6_ n7_; clear hb hbox hg; have hnb30 := NB215_213.out; have hnc30 := NB213_215.out; have hcz31_0 := bc0_ BK215.out; have hcz31_1 := bc1_ BK215.out; have hfz31_0 := blk_frozen BK215.out 0; have hfz31_1 := blk_frozen BK215.out 1; obtain ⟨hcz32_0, hcz32_1, hcz32_2, hfz32_0, hfz32_1, hfz32_2⟩ := b6_ BK213.out) | (go_at_call 67; (with_reducible refine (impl_stackAt.calls k1 a0_0 a0_1 _ _ l0_2 ((rd_T48 l1 x15_1).f0) t216 false _ ?side1 ?side2 A7.out).mono ?_); (case side1 => exact Kd.C_below HR0_2.out qz6); (case side2 => exact HC0_2.out); rintro e w33 ⟨rfl, hb⟩; have n0_ := aM (Kd.R_below (by (with_reducible repeat (first | apply Kd.R_alloc | apply Kd.R_drewN | apply Kd.R_drew)); exact (Kd.R_mono (Kd.R_far (p := ⟨gb215, 1, none⟩) (Kd.R_far (p := ⟨gb215, 0, none⟩) (Kd.R_types HO_6.out BK215.out (by decide)) (fun _ hk => hk.2) (.int .i64 ((rd_T48 l1 x15_1).f0))) (fun _ hk => hk.2) (.int .i64 ((rd_T48 l1 x15_1).f1))) (fun _ h_ => h_.1))) hb); have n1_ := aM (blk_below (g := gb213) (o := .cells #[.int .i64 a0_0, .int .i64 a0_1, .slice A0_2 l0_2.length c0_2] 79 (0, 0)) qz13 hb); have n2_ := aM (blk_below (g := gb215) (o := .cells #[.int .i64 ((rd_T48 l1 x15_1).f0), .int .i64 ((rd_T48 l1 x15_1).f1)] 48 (0, 0)) (by (with_reducible repeat (first | refine blk_drewN ?_ _ | refine blk_drew ?_ | refine blk_alloc ?_ _)); refine blk_put (cs := #[.int .i64 ((rd_T48 l1 x15_1).f0), .int .i64 0]) ?_ 1 _ rfl; (with_reducible repeat (first | refine blk_drewN ?_ _ | refine blk_drew ?_ | refine blk_alloc ?_ _)); refine blk_put (cs := #[.int .i64 0, .int .i64 0]) ?_ 0 _ rfl; exact bk_ BK215.out) hb); have n3_ := aM (below_step qz6 hb); clear HO_6 BK213 BK215 HB; have HO_6 := n0_; have BK213 := n1_; have BK215 := n2_; have HB := n3_; clear n0_ n1_ n2_ n3_; (try clear hb); (try clear hb2); (try clear hk); (try clear hi))))
   go_roundg k1
   case measure => have := HK1.out; omega
   case rel => exact ⟨(x6_1), (x7_1), (wrap64 (x15_1 + 1)), qz4, qz4, H', ⟨by have := HK1.out; omega⟩, ⟨rm_ HO_6.out⟩, ⟨bk_ BK213.out⟩, ⟨by repeat (first | (with_reducible first | exact HB.out | apply below_alloc | apply pw_below_drewN | apply below_drew1 | refine below_set ?_ GE213.out | refine below_set ?_ GE215.out) | exact HB.out)⟩⟩
   }
   }
   {
   rw [if_neg c6] at H
   exact absurd H (by simp)
   }
   }
   {
   rw [if_neg c5] at H
   exact absurd H (by simp)
   }
   }
   {
   rw [if_neg c4] at H
   have c4b0 := decide_eq_false c4
   clear c4
   simp only [Option.some.injEq, Prod.mk.injEq] at H
   obtain ⟨rfl, rfl⟩ := H
   go_wp2
   repeat (go_quiet (fail); try go_wp2)
   go_ret2
   exact ⟨_, by first | rfl | (simp [errW_none, errW_some] <;> rfl) | (simp [*, errW_none, errW_some] <;> rfl), by (with_reducible repeat (first | apply Kd.R_alloc | apply Kd.R_drewN | apply Kd.R_drew)); exact HO_6.out, by repeat (first | (with_reducible first | exact HB.out | apply below_alloc | apply pw_below_drewN | apply below_drew1 | refine below_set ?_ GE213.out) | exact HB.out)⟩

   }
/-! ### impl_less: function 80 -/
mutual
def impl_less.l0 : Nat → List (S50) → List (S48) → List (S48) → Int → Int → Option ((List (S48)))
 | 0, _, _, _, _, _ => none
 | k + 1, x1, x5, x10, x11, x12 => if x12 < x11 then (if 0 ≤ x12 then (if x12 < (x10.length : Int) then (impl_less.l1 k x1 x5 x10 x11 x12 x1 (x1.length : Int) 0 ((rd_T48 x10 x12).f0) ((rd_T48 x10 x12).f1)) else (none)) else (none)) else (some x5)
def impl_less.l1 : Nat → List (S50) → List (S48) → List (S48) → Int → Int → List (S50) → Int → Int → Int → Int → Option ((List (S48)))
 | 0, _, _, _, _, _, _, _, _, _, _ => none
 | k + 1, x1, x5, x10, x11, x12, x16, x17, x18, x225000, x225001 => if x18 < x17 then (if 0 ≤ x18 then (if x18 < (x16.length : Int) then (if ((rd_T50 x16 x18).f1) = x225000 then (impl_less.l1 k x1 x5 x10 x11 x12 x16 x17 (wrap64 (x18 + 1)) x225000 (wrap64 (x225001 - ((rd_T50 x16 x18).f2)))) else (impl_less.l1 k x1 x5 x10 x11 x12 x16 x17 (wrap64 (x18 + 1)) x225000 x225001)) else (none)) else (none)) else (if x225001 > 0 then (if x5.length < 8796093022208 then (impl_less.l0 k x1 (x5 ++ [(⟨x225000, x225001⟩ : S48)]) x10 x11 (wrap64 (x12 + 1))) else (none)) else (impl_less.l0 k x1 x5 x10 x11 (wrap64 (x12 + 1))))
end
def impl_less.f (k : Nat) (l0 : List (S48)) (l1 : List (S50)) : Option ((List (S48))) := impl_less.l0 k l1 ([] : List (S48)) l0 (l0.length : Int) 0
theorem impl_less.mono_l : ∀ k, (∀ y0 y1 y2 y3 y4, LeO (impl_less.l0 k y0 y1 y2 y3 y4) (impl_less.l0 (k + 1) y0 y1 y2 y3 y4)) ∧ (∀ y0 y1 y2 y3 y4 y5 y6 y7 y8 y9, LeO (impl_less.l1 k y0 y1 y2 y3 y4 y5 y6 y7 y8 y9) (impl_less.l1 (k + 1) y0 y1 y2 y3 y4 y5 y6 y7 y8 y9))
 | 0 => ⟨fun _ _ _ _ _ r h => by simp [impl_less.l0] at h, fun _ _ _ _ _ _ _ _ _ _ r h => by simp [impl_less.l1] at h⟩
 | k + 1 => by
  obtain ⟨ih0, ih1⟩ := impl_less.mono_l k
  refine ⟨?_, ?_⟩
  {
  intro y0 y1 y2 y3 y4
  unfold impl_less.l0
  repeat' first
  | (with_reducible first | exact ih0 _ _ _ _ _ | exact ih1 _ _ _ _ _ _ _ _ _ _ | exact LeO.refl _ | exact LeO.none _ | refine LeO.ite ?_ ?_ | refine LeO.bind ?_ (fun _ => ?_))
  | exact ih0 _ _ _ _ _
  | exact ih1 _ _ _ _ _ _ _ _ _ _
  | exact LeO.none _
  | refine LeO.ite ?_ ?_
  | refine LeO.bind ?_ (fun _ => ?_)
  }
  {
  intro y0 y1 y2 y3 y4 y5 y6 y7 y8 y9
  unfold impl_less.l1
  repeat' first
  | (with_reducible first | exact ih0 _ _ _ _ _ | exact ih1 _ _ _ _ _ _ _ _ _ _ | exact LeO.refl _ | exact LeO.none _ | refine LeO.ite ?_ ?_ | refine LeO.bind ?_ (fun _ => ?_))
  | exact ih0 _ _ _ _ _
  | exact ih1 _ _ _ _ _ _ _ _ _ _
  | exact LeO.none _
  | refine LeO.ite ?_ ?_
  | refine LeO.bind ?_ (fun _ => ?_)
  }
theorem impl_less.mono : ∀ a0 a1 k, LeO (impl_less.f k a0 a1) (impl_less.f (k + 1) a0 a1) := by
 intro a0 a1 k
 obtain ⟨ih0, ih1⟩ := impl_less.mono_l k
 unfold impl_less.f
 repeat' first
  | (with_reducible first | exact ih0 _ _ _ _ _ | exact ih1 _ _ _ _ _ _ _ _ _ _ | exact LeO.refl _ | exact LeO.none _ | refine LeO.ite ?_ ?_ | refine LeO.bind ?_ (fun _ => ?_))
  | exact ih0 _ _ _ _ _
  | exact ih1 _ _ _ _ _ _ _ _ _ _
  | exact LeO.none _
  | refine LeO.ite ?_ ?_
  | refine LeO.bind ?_ (fun _ => ?_)
set_option maxHeartbeats 8000000 in
set_option maxRecDepth 100000 in
theorem impl_less.calls (k : Nat) (A0 : Option Addr) (c0 : Nat) (l0 : List (S48)) (A1 : Option Addr) (c1 : Nat) (l1 : List (S50)) (r : List (S48)) (w : World) (hr0 : Kd.C k48 w A0 l0.length l0) (hc0 : l0.length ≤ c0) (hr1 : Kd.C k50 w A1 l1.length l1) (hc1 : l1.length ≤ c1) (h : impl_less.f k l0 l1 = some r) :
  Calls Try.prog 80 #[.slice A0 l0.length c0, .slice A1 l1.length c1] w fun e w' => ∃ v0_ : Value, e = .returned (v0_) ∧ Kd.R k48 48 w' w.heap.size (fun _ => True) v0_ r ∧ Below w.heap.size w w' := by
 have hu48 := Try.underlying48
 have hu50 := Try.underlying50
 have HR0 := aM hr0
 have HC0 := aM hc0
 clear hr0 hc0
 have HR1 := aM hr1
 have HC1 := aM hc1
 clear hr1 hc1
 have HB := aM (Below.refl w.heap.size w)
 have H : (impl_less.l0 k l1 ([] : List (S48)) l0 (l0.length : Int) 0) = some r := h
 clear h
 have H' := aM H
 clear H
 go_enter Try.func80, Try.ntmps80
 go_wp2
 go_loopg [5, 12] k (fun kq v5 v12 w' => ∃ (x5_1 : List (S48)) (x12_1 : Int), v12 = .int .i64 x12_1 ∧ Aside0 (impl_less.l0 kq l1 x5_1 l0 (l0.length : Int) x12_1 = some r) ∧ Aside0 (kq ≤ k) ∧ Aside0 (Kd.R k48 48 w' w.heap.size (fun _ => True) v5 x5_1) ∧ Aside0 (Below w.heap.size w w'))
 case atStart => exact ⟨(([] : List (S48))), (0), qz4, H', ⟨Nat.le_refl _⟩, ⟨by first | exact Kd.R_nil _ _ _ _ _ | exact Kd.N_nil _ _ _ _ _ | exact Kd.V_nil _ _ _ _ _ | exact Kd.Q_nil _ _ _ _ _ | exact Kd.S_nil _ _ _ _ _⟩, ⟨by repeat (first | (with_reducible first | exact HB.out | apply below_alloc | apply pw_below_drewN | apply below_drew1) | exact HB.out)⟩⟩
 case round =>
  clear H'
  try clear c1
  try clear p2
  obtain ⟨x5_1, x12_1, rfl, HA, HK1, HO_5, HB⟩ := hrel
  cases gk with
  | zero => exact absurd HA.out (by simp [impl_less.l0])
  | succ k1 =>
   have H := HA.out
   clear HA
   simp only [impl_less.l0] at H
   by_cases c3 : x12_1 < (l0.length : Int)
   {
   rw [if_pos c3] at H
   have c3b0 := decide_eq_true c3
   clear c3
   by_cases c4 : 0 ≤ x12_1
   {
   rw [if_pos c4] at H
   have c4b0 := decide_eq_true c4
   clear c4
   by_cases c5 : x12_1 < (l0.length : Int)
   {
   rw [if_pos c5] at H
   have c5b0 := decide_eq_true c5
   clear c5
   have H' := aM H
   clear H
   have p223 : 0 ≤ (x12_1 : Int) := of_decide_eq_true qz2
   have q223 : x12_1 < (l0.length : Int) := of_decide_eq_true qz2
   obtain ⟨ad223, e223, hx223_0, hx223_1⟩ := at_T48 HR0.out x12_1 p223 q223
   cases e223
   replace hx223_0 := pw_cell_below HB.out hx223_0
   replace hx223_1 := pw_cell_below HB.out hx223_1
   replace p223 := eq_true p223
   replace q223 := eq_true q223
   go_wp2_with (first | ((with_reducible refine gate_dst (N := 7) rfl ?_); refine bx_ 7 #[.int .i64 0, .int .i64 0] 48 ?_; intro gb224 hg w6 hbox hb; have n0_ := aM (Kd.R_below (Kd.R_elderB (rr_ HO_5.out) gb224 (Nat.le_of_eq hg.symm)) hb); have n1_ := aM (below_step qz1 hb); have n2_ := aM (hbox); have n3_ := aM ((by rw [hg]; exact (below_size qz1) : w.heap.size ≤ gb224)); have n4_ := aM ((by rw [hg]; exact (below_size qz1) : w.heap.size ≤ gb224)); clear HO_5 HB; have HO_5 := n0_; have HB := n1_; have BK224 := n2_; have GW224 := n3_; have GE224 := n4_; clear n0_ n1_ n2_ n3_ n4_; clear hb hbox hg; have hcz7_0 := bc0_ BK224.out; have hcz7_1 := bc1_ BK224.out; have hfz7_0 := blk_frozen BK224.out 0; have hfz7_1 := blk_frozen BK224.out 1))
   go_loopg [18] k1 (fun kq v18 w' => ∃ (x18_2 : Int) (x225001_2 : Int), v18 = .int .i64 x18_2 ∧ Aside0 (impl_less.l1 kq l1 x5_1 l0 (l0.length : Int) x12_1 l1 (l1.length : Int) x18_2 ((rd_T48 l0 x12_1).f0) x225001_2 = some r) ∧ Aside0 (kq ≤ k1) ∧ Aside0 (Kd.R k48 48 w' w.heap.size (fun k_ => k_ ≠ gb224) u5 x5_1) ∧ Aside0 (w'.heap[gb224]? = some (.cells #[.int .i64 ((rd_T48 l0 x12_1).f0), .int .i64 x225001_2] 48 (0, 0))) ∧ Aside0 (Below w.heap.size w w'))
   case atStart => exact ⟨(0), ((rd_T48 l0 x12_1).f1), qz4, H', ⟨Nat.le_refl _⟩, ⟨by (with_reducible repeat (first | apply Kd.R_alloc | apply Kd.R_drewN | apply Kd.R_drew)); exact Kd.R_mono (Kd.R_far (p := ⟨gb224, 1, none⟩) (Kd.R_far (p := ⟨gb224, 0, none⟩) (Kd.R_mono HO_5.out (fun k_ hk => (⟨hk, hk.2⟩ : _ ∧ k_ ≠ gb224))) (fun _ hk => hk.2) (.int .i64 ((rd_T48 l0 x12_1).f0))) (fun _ hk => hk.2) (.int .i64 ((rd_T48 l0 x12_1).f1))) (fun _ hk => hk.1.2)⟩, ⟨by (with_reducible repeat (first | refine blk_drewN ?_ _ | refine blk_drew ?_ | refine blk_alloc ?_ _)); refine blk_put (cs := #[.int .i64 ((rd_T48 l0 x12_1).f0), .int .i64 0]) ?_ 1 _ rfl; (with_reducible repeat (first | refine blk_drewN ?_ _ | refine blk_drew ?_ | refine blk_alloc ?_ _)); refine blk_put (cs := #[.int .i64 0, .int .i64 0]) ?_ 0 _ rfl; exact bk_ BK224.out⟩, ⟨by repeat (first | (with_reducible first | exact HB.out | apply below_alloc | apply pw_below_drewN | apply below_drew1 | refine below_set ?_ GE224.out) | exact HB.out)⟩⟩
   case round =>
    clear H'
    try clear c1
    try clear p2
    try clear q2
    try clear hx2
    try clear c3
    try clear c3b0
    try clear c4
    try clear c4b0
    try clear c5
    try clear c5b0
    try clear hcz7_0
    try clear hcz7_1
    try clear hfz7_0
    try clear hfz7_1
    try clear hx223_0
    try clear hx223_1
    try clear p2
    try clear p223
    try clear q223
    obtain ⟨x18_2, x225001_2, rfl, HA, HK2, HO_5, BK224, HB⟩ := hrel
    cases gk with
    | zero => exact absurd HA.out (by simp [impl_less.l1])
    | succ k2 =>
     have H := HA.out
     clear HA
     simp only [impl_less.l1] at H
     by_cases c8 : x18_2 < (l1.length : Int)
     {
     rw [if_pos c8] at H
     have c8b0 := decide_eq_true c8
     clear c8
     by_cases c9 : 0 ≤ x18_2
     {
     rw [if_pos c9] at H
     have c9b0 := decide_eq_true c9
     clear c9
     by_cases c10 : x18_2 < (l1.length : Int)
     {
     rw [if_pos c10] at H
     have c10b0 := decide_eq_true c10
     clear c10
     by_cases c11 : ((rd_T50 l1 x18_2).f1) = ((rd_T48 l0 x12_1).f0)
     {
     rw [if_pos c11] at H
     have c11b0 := beq_iff_eq.mpr c11
     have c11b1 := bne_eq_false_iff_eq.mpr c11
     clear c11
     have H' := aM H
     clear H
     have p225 : 0 ≤ (x18_2 : Int) := of_decide_eq_true qz2
     have q225 : x18_2 < (l1.length : Int) := of_decide_eq_true qz2
     obtain ⟨ad225, e225, hx225_0, hx225_1, hx225_2⟩ := at_T50 HR1.out x18_2 p225 q225
     cases e225
     replace hx225_0 := pw_cell_below HB.out hx225_0
     replace hx225_1 := pw_cell_below HB.out hx225_1
     replace hx225_2 := pw_cell_below HB.out hx225_2
     replace p225 := eq_true p225
     replace q225 := eq_true q225
     go_wp2_with (first | ((with_reducible refine gate_dst (N := 9) rfl ?_); refine bx_ 9 #[.int .i64 0, .int .i64 0, .int .i64 0] 50 ?_; intro gb226 hg w12 hbox hb; have n0_ := aM (Kd.R_below (rr_ HO_5.out) hb); have n1_ := aM (blk_below (bk_ BK224.out) hb); have n2_ := aM (below_step qz26 hb); have n3_ := aM (hbox); have n4_ := aM ((by rw [hg]; exact (below_size qz26) : w.heap.size ≤ gb226)); have n5_ := aM ((by rw [hg]; exact (below_size qz26) : w.heap.size ≤ gb226)); have n6_ := aM ((by rw [hg]; exact Nat.ne_of_lt (blk_lt (bk_ BK224.out)) : gb224 ≠ gb226)); have n7_ := aM ((by rw [hg]; exact Nat.ne_of_gt (blk_lt (bk_ BK224.out)) : gb226 ≠ gb224)); clear HO_5 BK224 HB; have HO_5 := n0_; have BK224 := n1_; have HB := n2_; have BK226 := n3_; have GW226 := n4_; have GE226 := n5_; have NB224_226 := n6_; have NB226_224 := n7_; clear n0_ n1_ n2_ n3_ n4_ n5_ n6_ n7_; clear hb hbox hg; have hnb13 := NB226_224.out; have hnc13 := NB224_226.out; obtain ⟨hcz14_0, hcz14_1, hcz14_2, hfz14_0, hfz14_1, hfz14_2⟩ := b6_ BK226.out; have hcz15_0 := bc0_ BK224.out; have hcz15_1 := bc1_ BK224.out; have hfz15_0 := blk_frozen BK224.out 0; have hfz15_1 := blk_frozen BK224.out 1))
     go_roundg k2
     case measure => have := HK1.out; have := HK2.out; omega
     case rel => exact ⟨(wrap64 (x18_2 + 1)), (wrap64 (x225001_2 - ((rd_T50 l1 x18_2).f2))), qz4, H', ⟨by have := HK1.out; have := HK2.out; omega⟩, ⟨by (with_reducible repeat (first | apply Kd.R_alloc | apply Kd.R_drewN | apply Kd.R_drew)); exact Kd.R_mono (Kd.R_far (p := ⟨gb224, 1, none⟩) (Kd.R_far (p := ⟨gb226, 2, none⟩) (Kd.R_far (p := ⟨gb226, 1, none⟩) (Kd.R_far (p := ⟨gb226, 0, none⟩) (Kd.R_mono (Kd.R_types HO_5.out BK226.out (by decide)) (fun k_ hk => (⟨hk, hk.1⟩ : _ ∧ k_ ≠ gb224))) (fun _ hk => hk.1.2) (.int .i64 ((rd_T50 l1 x18_2).f0))) (fun _ hk => hk.1.2) (.int .i64 ((rd_T50 l1 x18_2).f1))) (fun _ hk => hk.1.2) (.int .i64 ((rd_T50 l1 x18_2).f2))) (fun _ hk => hk.2) (.int .i64 (wrap64 (x225001_2 - ((rd_T50 l1 x18_2).f2))))) (fun _ hk => hk.1.1)⟩, ⟨by (with_reducible repeat (first | refine blk_drewN ?_ _ | refine blk_drew ?_ | refine blk_alloc ?_ _)); refine blk_put (cs := #[.int .i64 ((rd_T48 l0 x12_1).f0), .int .i64 x225001_2]) ?_ 1 _ rfl; (with_reducible repeat (first | refine blk_drewN ?_ _ | refine blk_drew ?_ | refine blk_alloc ?_ _)); refine blk_far ?_ NB224_226.out _; (with_reducible repeat (first | refine blk_drewN ?_ _ | refine blk_drew ?_ | refine blk_alloc ?_ _)); refine blk_far ?_ NB224_226.out _; (with_reducible repeat (first | refine blk_drewN ?_ _ | refine blk_drew ?_ | refine blk_alloc ?_ _)); refine blk_far ?_ NB224_226.out _; exact bk_ BK224.out⟩, ⟨by repeat (first | (with_reducible first | exact HB.out | apply below_alloc | apply pw_below_drewN | apply below_drew1 | refine below_set ?_ GE224.out | refine below_set ?_ GE226.out) | exact HB.out)⟩⟩
     }
     {
     rw [if_neg c11] at H
     have c11b0 := beq_eq_false_iff_ne.mpr c11
     have c11b1 := bne_iff_ne.mpr c11
     have H' := aM H
     clear H
     have p225 : 0 ≤ (x18_2 : Int) := of_decide_eq_true qz2
     have q225 : x18_2 < (l1.length : Int) := of_decide_eq_true qz2
     obtain ⟨ad225, e225, hx225_0, hx225_1, hx225_2⟩ := at_T50 HR1.out x18_2 p225 q225
     cases e225
     replace hx225_0 := pw_cell_below HB.out hx225_0
     replace hx225_1 := pw_cell_below HB.out hx225_1
     replace hx225_2 := pw_cell_below HB.out hx225_2
     replace p225 := eq_true p225
     replace q225 := eq_true q225
     go_wp2_with (first | ((with_reducible refine gate_dst (N := 9) rfl ?_); refine bx_ 9 #[.int .i64 0, .int .i64 0, .int .i64 0] 50 ?_; intro gb226 hg w16 hbox hb; have n0_ := aM (Kd.R_below (rr_ HO_5.out) hb); have n1_ := aM (blk_below (bk_ BK224.out) hb); have n2_ := aM (below_step qz26 hb); have n3_ := aM (hbox); have n4_ := aM ((by rw [hg]; exact (below_size qz26) : w.heap.size ≤ gb226)); have n5_ := aM ((by rw [hg]; exact (below_size qz26) : w.heap.size ≤ gb226)); have n6_ := aM ((by rw [hg]; exact Nat.ne_of_lt (blk_lt (bk_ BK224.out)) : gb224 ≠ gb226)); have n7_ := aM ((by rw [hg]; exact Nat.ne_of_gt (blk_lt (bk_ BK224.out)) : gb226 ≠ gb224)); clear HO_5 BK224 HB; have HO_5 := n0_; have BK224 := n1_; have HB := n2_; have BK226 := n3_; have GW226 := n4_; have GE226 := n5_; have NB224_226 := n6_; have NB226_224 := n7_; clear n0_ n1_ n2_ n3_ n4_ n5_ n6_ n7_; clear hb hbox hg; have hnb17 := NB226_224.out; have hnc17 := NB224_226.out; obtain ⟨hcz18_0, hcz18_1, hcz18_2, hfz18_0, hfz18_1, hfz18_2⟩ := b6_ BK226.out; have hcz19_0 := bc0_ BK224.out; have hcz19_1 := bc1_ BK224.out; have hfz19_0 := blk_frozen BK224.out 0; have hfz19_1 := blk_frozen BK224.out 1))
     go_roundg k2
     case measure => have := HK1.out; have := HK2.out; omega
     case rel => exact ⟨(wrap64 (x18_2 + 1)), (x225001_2), qz4, H', ⟨by have := HK1.out; have := HK2.out; omega⟩, ⟨by (with_reducible repeat (first | apply Kd.R_alloc | apply Kd.R_drewN | apply Kd.R_drew)); exact Kd.R_mono (Kd.R_far (p := ⟨gb226, 2, none⟩) (Kd.R_far (p := ⟨gb226, 1, none⟩) (Kd.R_far (p := ⟨gb226, 0, none⟩) (Kd.R_types HO_5.out BK226.out (by decide)) (fun _ hk => hk.2) (.int .i64 ((rd_T50 l1 x18_2).f0))) (fun _ hk => hk.2) (.int .i64 ((rd_T50 l1 x18_2).f1))) (fun _ hk => hk.2) (.int .i64 ((rd_T50 l1 x18_2).f2))) (fun _ hk => hk.1)⟩, ⟨by (with_reducible repeat (first | refine blk_drewN ?_ _ | refine blk_drew ?_ | refine blk_alloc ?_ _)); refine blk_far ?_ NB224_226.out _; (with_reducible repeat (first | refine blk_drewN ?_ _ | refine blk_drew ?_ | refine blk_alloc ?_ _)); refine blk_far ?_ NB224_226.out _; (with_reducible repeat (first | refine blk_drewN ?_ _ | refine blk_drew ?_ | refine blk_alloc ?_ _)); refine blk_far ?_ NB224_226.out _; exact bk_ BK224.out⟩, ⟨by repeat (first | (with_reducible first | exact HB.out | apply below_alloc | apply pw_below_drewN | apply below_drew1 | refine below_set ?_ GE224.out | refine below_set ?_ GE226.out) | exact HB.out)⟩⟩
     }
     }
     {
     rw [if_neg c10] at H
     exact absurd H (by simp)
     }
     }
     {
     rw [if_neg c9] at H
     exact absurd H (by simp)
     }
     }
     {
     rw [if_neg c8] at H
     have c8b0 := decide_eq_false c8
     clear c8
     by_cases c20 : x225001_2 > 0
     {
     rw [if_pos c20] at H
     have c20b0 := decide_eq_true c20
     clear c20
     by_cases c21 : x5_1.length < 8796093022208
     {
     rw [if_pos c21] at H
     have LMc21 := aM c21
     clear c21
     obtain ⟨y227, hy227⟩ : ∃ y_ : List (S48), y_ = (x5_1 ++ [(⟨((rd_T48 l0 x12_1).f0), x225001_2⟩ : S48)]) := ⟨_, rfl⟩
     replace H : (impl_less.l0 k2 l1 y227 l0 (l0.length : Int) (wrap64 (x12_1 + 1))) = some r := by first | (rw [hy227]; with_reducible exact H) | (have H2_ := (Option.bind_some _ _).symm.trans H; rw [hy227]; with_reducible exact H2_) | (have H2_ := (Option.bind_some _ _).symm.trans H; with_reducible exact H2_) | with_reducible exact H | (rw [hy227]; exact H) | exact H
     have Ny227 := aM hy227
     clear hy227
     have H' := aM H
     clear H
     have hcz22_0 := bc0_ BK224.out
     have hcz22_1 := bc1_ BK224.out
     have hfz22_0 := blk_frozen BK224.out 0
     have hfz22_1 := blk_frozen BK224.out 1
     go_wp2_with (first | ((with_reducible refine gate_builtin (b := .append) (xs := #[.tmp 37, .tmp 39]) rfl ?_); at_builtin; refine Kd.R_append k48 (w0 := w) w.heap.size rfl (.tmp 37) (.tmp 39) 40 48 (.agg #[(.int .i64 0), (.int .i64 0)]) 16 rfl Try.underlying40 info48 rfl (by decide) (by omega) u5 x5_1 (⟨((rd_T48 l0 x12_1).f0), x225001_2⟩ : S48) [.int .i64 ((rd_T48 l0 x12_1).f0), .int .i64 x225001_2] (fun k_ => k_ ≠ gb224) (fun _ => False) rfl rfl ?aP (fun _ hk => hk.elim) ?aF ?aO ?aB ?aS ?aL ?_; (case aP => exact k48_mkM _ _ _ (⟨((rd_T48 l0 x12_1).f0), x225001_2⟩ : S48)); (case aB => exact qz26); (case aF => exact (fun k_ hk => Kd.freshB (bk_ BK224.out) k_ hk)); (case aO => exact (rr_ HO_5.out)); (case aS => exact (below_size qz26)); (case aL => have := LMc21.out; omega); intro v228 w23 ho hb hg hat; rw [← Ny227.out] at ho; have n0_ := aM (blk_grown (bk_ BK224.out) hg (Kd.R_away HO_5.out (fun _ hk => hk))); have n1_ := aM (hb); have n2_ := aM (ho); clear BK224 HB HO_5; have BK224 := n0_; have HB := n1_; have HO229 := n2_; clear n0_ n1_ n2_; clear ho hb hg hat))
     go_roundg k2
     case measure => have := HK1.out; have := HK2.out; omega
     case rel => exact ⟨(y227), (wrap64 (x12_1 + 1)), qz4, H', ⟨by have := HK1.out; have := HK2.out; omega⟩, ⟨by (with_reducible repeat (first | apply Kd.R_alloc | apply Kd.R_drewN | apply Kd.R_drew)); exact Kd.R_mono HO229.out (fun _ hk => trivial)⟩, ⟨by repeat (first | (with_reducible first | exact HB.out | apply below_alloc | apply pw_below_drewN | apply below_drew1 | refine below_set ?_ GE224.out) | exact HB.out)⟩⟩
     }
     {
     rw [if_neg c21] at H
     exact absurd H (by simp)
     }
     }
     {
     rw [if_neg c20] at H
     have c20b0 := decide_eq_false c20
     clear c20
     have H' := aM H
     clear H
     have hcz24_0 := bc0_ BK224.out
     have hcz24_1 := bc1_ BK224.out
     have hfz24_0 := blk_frozen BK224.out 0
     have hfz24_1 := blk_frozen BK224.out 1
     go_wp2
     go_roundg k2
     case measure => have := HK1.out; have := HK2.out; omega
     case rel => exact ⟨(x5_1), (wrap64 (x12_1 + 1)), qz4, H', ⟨by have := HK1.out; have := HK2.out; omega⟩, ⟨by (with_reducible repeat (first | apply Kd.R_alloc | apply Kd.R_drewN | apply Kd.R_drew)); exact Kd.R_mono HO_5.out (fun _ hk => trivial)⟩, ⟨by repeat (first | (with_reducible first | exact HB.out | apply below_alloc | apply pw_below_drewN | apply below_drew1 | refine below_set ?_ GE224.out) | exact HB.out)⟩⟩
     }
     }
   }
   {
   rw [if_neg c5] at H
   exact absurd H (by simp)
   }
   }
   {
   rw [if_neg c4] at H
   exact absurd H (by simp)
   }
   }
   {
   rw [if_neg c3] at H
   have c3b0 := decide_eq_false c3
   clear c3
   obtain rfl := Option.some.inj H
   simp only [Option.some.injEq, Prod.mk.injEq] at H
   obtain ⟨rfl⟩ := H
   go_wp2
   go_ret
   exact ⟨_, by first | rfl | (simp [errW_none, errW_some] <;> rfl) | (simp [*, errW_none, errW_some] <;> rfl), by (with_reducible repeat (first | apply Kd.R_alloc | apply Kd.R_drewN | apply Kd.R_drew)); exact HO_5.out, by repeat (first | (with_reducible first | exact HB.out | apply below_alloc | apply pw_below_drewN | apply below_drew1) | exact HB.out)⟩

   }
/-! ### impl_Picks: function 36 -/
mutual
def impl_Picks.j0 : Nat → List (S48) → Bool → List (S79) → Option ((List (S50)) × Bool)
 | 0, _, _, _ => none
 | k + 1, x1, x22, x231000 => if x22 = true then (some (([] : List (S50)), false)) else ((impl_copyStock.f k x231000).bind fun t233 => ((impl_copyItems.f x1).bind fun t237 => (impl_Picks.l0 k ([] : List (S50)) t237 t233)))
def impl_Picks.l0 : Nat → List (S50) → List (S48) → List (S79) → Option ((List (S50)) × Bool)
 | 0, _, _, _ => none
 | k + 1, x6, x8, x237000 => if (x8.length : Int) > 0 then (impl_Picks.l1 k x6 x8 ([] : List (S50)) 0 x237000 (x237000.length : Int) 0 x237000) else (some (x6, true))
def impl_Picks.l1 : Nat → List (S50) → List (S48) → List (S50) → Int → List (S79) → Int → Int → List (S79) → Option ((List (S50)) × Bool)
 | 0, _, _, _, _, _, _, _, _ => none
 | k + 1, x6, x8, x9, x10, x31, x32, x33, x237000 => if x33 < x32 then (if 0 ≤ x33 then (if x33 < (x31.length : Int) then ((impl_could.f k ((rd_T79 x31 x33).f0) ((rd_T79 x31 x33).f1) ((rd_T79 x31 x33).f2) x8).bind fun bt242 => (if bt242.2 > x10 then (impl_Picks.l1 k x6 x8 bt242.1 bt242.2 x31 x32 (wrap64 (x33 + 1)) x237000) else (impl_Picks.l1 k x6 x8 x9 x10 x31 x32 (wrap64 (x33 + 1)) x237000))) else (none)) else (none)) else (if x10 = 0 then (some (([] : List (S50)), false)) else (if x6.length + x9.length < 5864062014805 then ((impl_HoldAll.f k x237000 x9).bind fun bt249 => ((impl_less.f k x8 x9).bind fun t253 => (impl_Picks.l0 k (x6 ++ x9) t253 bt249.1))) else (none)))
end
def impl_Picks.f (k : Nat) (l0_0 : List (S79)) (l1 : List (S48)) : Option ((List (S50)) × Bool) := (impl_StockOk.f k l0_0).bind fun t231 => (if t231 = true then ((impl_ItemsOk.f k l1).bind fun t232 => (impl_Picks.j0 k l1 (!t232) l0_0)) else (impl_Picks.j0 k l1 true l0_0))
theorem impl_Picks.mono_l : ∀ k, (∀ y0 y1 y2, LeO (impl_Picks.j0 k y0 y1 y2) (impl_Picks.j0 (k + 1) y0 y1 y2)) ∧ (∀ y0 y1 y2, LeO (impl_Picks.l0 k y0 y1 y2) (impl_Picks.l0 (k + 1) y0 y1 y2)) ∧ (∀ y0 y1 y2 y3 y4 y5 y6 y7, LeO (impl_Picks.l1 k y0 y1 y2 y3 y4 y5 y6 y7) (impl_Picks.l1 (k + 1) y0 y1 y2 y3 y4 y5 y6 y7))
 | 0 => ⟨fun _ _ _ r h => by simp [impl_Picks.j0] at h, fun _ _ _ r h => by simp [impl_Picks.l0] at h, fun _ _ _ _ _ _ _ _ r h => by simp [impl_Picks.l1] at h⟩
 | k + 1 => by
  obtain ⟨ih0, ih1, ih2⟩ := impl_Picks.mono_l k
  refine ⟨?_, ?_, ?_⟩
  {
  intro y0 y1 y2
  unfold impl_Picks.j0
  repeat' first
  | (with_reducible first | exact ih0 _ _ _ | exact ih1 _ _ _ | exact ih2 _ _ _ _ _ _ _ _ | exact impl_HoldAll.mono _ _ _ | exact impl_ItemsOk.mono _ _ | exact impl_StockOk.mono _ _ | exact impl_copyStock.mono _ _ | exact impl_could.mono _ _ _ _ _ | exact impl_less.mono _ _ _ | exact LeO.refl _ | exact LeO.none _ | refine LeO.ite ?_ ?_ | refine LeO.bind ?_ (fun _ => ?_))
  | exact ih0 _ _ _
  | exact ih1 _ _ _
  | exact ih2 _ _ _ _ _ _ _ _
  | exact impl_HoldAll.mono _ _ _
  | exact impl_ItemsOk.mono _ _
  | exact impl_StockOk.mono _ _
  | exact impl_copyStock.mono _ _
  | exact impl_could.mono _ _ _ _ _
  | exact impl_less.mono _ _ _
  | exact LeO.none _
  | refine LeO.ite ?_ ?_
  | refine LeO.bind ?_ (fun _ => ?_)
  }
  {
  intro y0 y1 y2
  unfold impl_Picks.l0
  repeat' first
  | (with_reducible first | exact ih0 _ _ _ | exact ih1 _ _ _ | exact ih2 _ _ _ _ _ _ _ _ | exact impl_HoldAll.mono _ _ _ | exact impl_ItemsOk.mono _ _ | exact impl_StockOk.mono _ _ | exact impl_copyStock.mono _ _ | exact impl_could.mono _ _ _ _ _ | exact impl_less.mono _ _ _ | exact LeO.refl _ | exact LeO.none _ | refine LeO.ite ?_ ?_ | refine LeO.bind ?_ (fun _ => ?_))
  | exact ih0 _ _ _
  | exact ih1 _ _ _
  | exact ih2 _ _ _ _ _ _ _ _
  | exact impl_HoldAll.mono _ _ _
  | exact impl_ItemsOk.mono _ _
  | exact impl_StockOk.mono _ _
  | exact impl_copyStock.mono _ _
  | exact impl_could.mono _ _ _ _ _
  | exact impl_less.mono _ _ _
  | exact LeO.none _
  | refine LeO.ite ?_ ?_
  | refine LeO.bind ?_ (fun _ => ?_)
  }
  {
  intro y0 y1 y2 y3 y4 y5 y6 y7
  unfold impl_Picks.l1
  repeat' first
  | (with_reducible first | exact ih0 _ _ _ | exact ih1 _ _ _ | exact ih2 _ _ _ _ _ _ _ _ | exact impl_HoldAll.mono _ _ _ | exact impl_ItemsOk.mono _ _ | exact impl_StockOk.mono _ _ | exact impl_copyStock.mono _ _ | exact impl_could.mono _ _ _ _ _ | exact impl_less.mono _ _ _ | exact LeO.refl _ | exact LeO.none _ | refine LeO.ite ?_ ?_ | refine LeO.bind ?_ (fun _ => ?_))
  | exact ih0 _ _ _
  | exact ih1 _ _ _
  | exact ih2 _ _ _ _ _ _ _ _
  | exact impl_HoldAll.mono _ _ _
  | exact impl_ItemsOk.mono _ _
  | exact impl_StockOk.mono _ _
  | exact impl_copyStock.mono _ _
  | exact impl_could.mono _ _ _ _ _
  | exact impl_less.mono _ _ _
  | exact LeO.none _
  | refine LeO.ite ?_ ?_
  | refine LeO.bind ?_ (fun _ => ?_)
  }
theorem impl_Picks.mono : ∀ a0 a1 k, LeO (impl_Picks.f k a0 a1) (impl_Picks.f (k + 1) a0 a1) := by
 intro a0 a1 k
 obtain ⟨ih0, ih1, ih2⟩ := impl_Picks.mono_l k
 unfold impl_Picks.f
 repeat' first
  | (with_reducible first | exact ih0 _ _ _ | exact ih1 _ _ _ | exact ih2 _ _ _ _ _ _ _ _ | exact impl_HoldAll.mono _ _ _ | exact impl_ItemsOk.mono _ _ | exact impl_StockOk.mono _ _ | exact impl_copyStock.mono _ _ | exact impl_could.mono _ _ _ _ _ | exact impl_less.mono _ _ _ | exact LeO.refl _ | exact LeO.none _ | refine LeO.ite ?_ ?_ | refine LeO.bind ?_ (fun _ => ?_))
  | exact ih0 _ _ _
  | exact ih1 _ _ _
  | exact ih2 _ _ _ _ _ _ _ _
  | exact impl_HoldAll.mono _ _ _
  | exact impl_ItemsOk.mono _ _
  | exact impl_StockOk.mono _ _
  | exact impl_copyStock.mono _ _
  | exact impl_could.mono _ _ _ _ _
  | exact impl_less.mono _ _ _
  | exact LeO.none _
  | refine LeO.ite ?_ ?_
  | refine LeO.bind ?_ (fun _ => ?_)
set_option maxHeartbeats 8000000 in
set_option maxRecDepth 100000 in
theorem impl_Picks.calls (k : Nat) (A0_0 : Option Addr) (c0_0 : Nat) (l0_0 : List (S79)) (A1 : Option Addr) (c1 : Nat) (l1 : List (S48)) (r1 : List (S50)) (r2 : Bool) (w : World) (hr0_0 : Kd.C k79 w A0_0 l0_0.length l0_0) (hc0_0 : l0_0.length ≤ c0_0) (hr1 : Kd.C k48 w A1 l1.length l1) (hc1 : l1.length ≤ c1) (h : impl_Picks.f k l0_0 l1 = some (r1, r2)) :
  Calls Try.prog 36 #[.agg #[.slice A0_0 l0_0.length c0_0], .slice A1 l1.length c1] w fun e w' => ∃ v0_ : Value, e = .returned (.tuple #[v0_, .bool r2]) ∧ Kd.R k50 50 w' w.heap.size (fun _ => True) v0_ r1 ∧ Below w.heap.size w w' := by
 have hu26 := Try.underlying26
 have hu79 := Try.underlying79
 have HR0_0 := aM hr0_0
 have HC0_0 := aM hc0_0
 clear hr0_0 hc0_0
 have HR1 := aM hr1
 have HC1 := aM hc1
 clear hr1 hc1
 have HB := aM (Below.refl w.heap.size w)
 have H : ((impl_StockOk.f k l0_0).bind fun t231 => (if t231 = true then ((impl_ItemsOk.f k l1).bind fun t232 => (impl_Picks.j0 k l1 (!t232) l0_0)) else (impl_Picks.j0 k l1 true l0_0))) = some (r1, r2) := h
 clear h
 have HC3 := aM H
 clear H
 go_enter Try.func36, Try.ntmps36
 go_upto_region 1 with (first | ((with_reducible refine gate_dst (N := 2) rfl ?_); refine bx_ 2 #[.slice A0_0 l0_0.length c0_0] 26 ?_; intro gb230 hg w4 hbox hb; have n0_ := aM (below_step qz1 hb); have n1_ := aM (hbox); have n2_ := aM ((by rw [hg]; exact (below_size qz1) : w.heap.size ≤ gb230)); have n3_ := aM ((by rw [hg]; exact (below_size qz1) : w.heap.size ≤ gb230)); clear HB; have HB := n0_; have BK230 := n1_; have GW230 := n2_; have GE230 := n3_; clear n0_ n1_ n2_ n3_; clear hb hbox hg))
 (try simp only [Act.put, List.setIfInBounds_toArray, List.set_cons_zero, List.set_cons_succ])
 go_cut [22] (fun v22 wc => ∃ (kq : Nat) (x22_2 : Bool), v22 = .bool x22_2 ∧ Aside0 (impl_Picks.j0 kq l1 x22_2 l0_0 = some (r1, r2)) ∧ Aside0 (kq ≤ k) ∧ Aside0 (wc.heap[gb230]? = some (.cells #[(.slice A0_0 l0_0.length c0_0)] 26 (0, 0))) ∧ Aside0 (Below w.heap.size w wc))
 case first =>
  have H := HC3.out
  clear HC3
  replace H := Option.bind_eq_some_iff.mp H
  obtain ⟨t231, A50, H⟩ := H
  replace H : (if t231 = true then ((impl_ItemsOk.f k l1).bind fun t232 => (impl_Picks.j0 k l1 (!t232) l0_0)) else (impl_Picks.j0 k l1 true l0_0)) = some (r1, r2) := H
  have A5 := aM A50
  clear A50
  by_cases c6 : t231 = true
  {
  subst c6
  rw [if_pos rfl] at H
  replace H := Option.bind_eq_some_iff.mp H
  obtain ⟨t232, A70, H⟩ := H
  replace H : (impl_Picks.j0 k l1 (!t232) l0_0) = some (r1, r2) := H
  have A7 := aM A70
  clear A70
  have H' := aM H
  clear H
  have hcz8_0 := bc0_ BK230.out
  have hfz8_0 := blk_frozen BK230.out 0
  go_wp2_with (first | ((with_reducible refine gate_callee (f := 21) rfl ?_); refine goesL_ (some 16) rfl rfl Try.func21 (by kernel_rfl) rfl #[.agg #[.slice A0_0 l0_0.length c0_0]] rfl qz3 ?_; (with_reducible refine (impl_StockOk.calls k _ _ l0_0 true _ ?side1 ?side2 A5.out).mono ?_); (case side1 => exact qz12); (case side2 => exact HC0_0.out); rintro e w9 ⟨rfl, hb⟩; refine ⟨_, rfl, ?_⟩; have n0_ := aM (blk_below (bk_ BK230.out) hb); have n1_ := aM (below_step qz27 hb); clear BK230 HB; have BK230 := n0_; have HB := n1_; clear n0_ n1_; (try clear hb); (try clear hb2); (try clear hk); (try clear hi)) | (go_at_call 43; (with_reducible refine (impl_ItemsOk.calls k _ _ l1 t232 _ ?side1 ?side2 A7.out).mono ?_); (case side1 => exact qz66); (case side2 => exact HC1.out); rintro e w10 ⟨rfl, hb⟩; have n0_ := aM (blk_below (bk_ BK230.out) hb); have n1_ := aM (below_step qz27 hb); clear BK230 HB; have BK230 := n0_; have HB := n1_; clear n0_ n1_; (try clear hb); (try clear hb2); (try clear hk); (try clear hi)))
  go_meet
  case rel => exact ⟨_, (!t232), qz4, H', ⟨by first | omega | exact Nat.le_refl _⟩, ⟨bk_ BK230.out⟩, ⟨by repeat (first | (with_reducible first | exact HB.out | apply below_alloc | apply pw_below_drewN | apply below_drew1 | refine below_set ?_ GE230.out) | exact HB.out)⟩⟩
  }
  {
  replace c6 := Bool.eq_false_iff.mpr c6
  subst c6
  rw [if_neg (show ¬ (false = true) by decide)] at H
  have H' := aM H
  clear H
  have hcz11_0 := bc0_ BK230.out
  have hfz11_0 := blk_frozen BK230.out 0
  go_wp2_with (first | ((with_reducible refine gate_callee (f := 21) rfl ?_); refine goesL_ (some 16) rfl rfl Try.func21 (by kernel_rfl) rfl #[.agg #[.slice A0_0 l0_0.length c0_0]] rfl qz3 ?_; (with_reducible refine (impl_StockOk.calls k _ _ l0_0 false _ ?side1 ?side2 A5.out).mono ?_); (case side1 => exact qz12); (case side2 => exact HC0_0.out); rintro e w12 ⟨rfl, hb⟩; refine ⟨_, rfl, ?_⟩; have n0_ := aM (blk_below (bk_ BK230.out) hb); have n1_ := aM (below_step qz27 hb); clear BK230 HB; have BK230 := n0_; have HB := n1_; clear n0_ n1_; (try clear hb); (try clear hb2); (try clear hk); (try clear hi)))
  go_meet
  case rel => exact ⟨_, (true), qz4, H', ⟨by first | omega | exact Nat.le_refl _⟩, ⟨bk_ BK230.out⟩, ⟨by repeat (first | (with_reducible first | exact HB.out | apply below_alloc | apply pw_below_drewN | apply below_drew1 | refine below_set ?_ GE230.out) | exact HB.out)⟩⟩
  }
 case rest =>
  clear HC3
  try clear c1
  try clear c2
  try clear p2
  try clear c3
  try clear c6
  try clear hcz11_0
  try clear hcz8_0
  try clear hfz11_0
  try clear hfz8_0
  obtain ⟨kq, x22_2, rfl, HA, HJ2, BK230, HB⟩ := hcut
  cases kq with
  | zero => exact absurd HA.out (by simp [impl_Picks.j0])
  | succ kj2 =>
   have H := HA.out
   clear HA
   simp only [impl_Picks.j0] at H
   by_cases c13 : x22_2 = true
   {
   subst c13
   rw [if_pos rfl] at H
   simp only [Option.some.injEq, Prod.mk.injEq] at H
   obtain ⟨rfl, rfl⟩ := H
   go_wp2
   go_ret2
   exact ⟨_, by first | rfl | (simp [errW_none, errW_some] <;> rfl) | (simp [*, errW_none, errW_some] <;> rfl), by first | exact Kd.R_nil _ _ _ _ _ | exact Kd.N_nil _ _ _ _ _ | exact Kd.V_nil _ _ _ _ _ | exact Kd.Q_nil _ _ _ _ _ | exact Kd.S_nil _ _ _ _ _, by repeat (first | (with_reducible first | exact HB.out | apply below_alloc | apply pw_below_drewN | apply below_drew1 | refine below_set ?_ GE230.out) | exact HB.out)⟩
   }
   {
   replace c13 := Bool.eq_false_iff.mpr c13
   subst c13
   rw [if_neg (show ¬ (false = true) by decide)] at H
   replace H := Option.bind_eq_some_iff.mp H
   obtain ⟨t233, A140, H⟩ := H
   replace H : ((impl_copyItems.f l1).bind fun t237 => (impl_Picks.l0 kj2 ([] : List (S50)) t237 t233)) = some (r1, r2) := H
   have A14 := aM A140
   clear A140
   replace H := Option.bind_eq_some_iff.mp H
   obtain ⟨t237, A150, H⟩ := H
   replace H : (impl_Picks.l0 kj2 ([] : List (S50)) t237 t233) = some (r1, r2) := H
   have A15 := aM A150
   clear A150
   have H' := aM H
   clear H
   have hcz16_0 := bc0_ BK230.out
   have hfz16_0 := blk_frozen BK230.out 0
   go_wp2_with (first | ((with_reducible refine gate_callee (f := 65) rfl ?_); refine goesL_ (some 24) rfl rfl Try.func65 (by kernel_rfl) rfl #[.agg #[.slice A0_0 l0_0.length c0_0]] rfl qz3 ?_; (with_reducible refine (impl_copyStock.calls kj2 _ _ l0_0 t233 _ ?side1 ?side2 A14.out).mono ?_); (case side1 => exact qz12); (case side2 => exact HC0_0.out); rintro e w17 ⟨v234, rfl, ho0, hb⟩; refine ⟨_, rfl, ?_⟩; have n0_ := aM (Kd.S_lower ho0 (below_size qz27)); have n1_ := aM (blk_below (bk_ BK230.out) hb); have n2_ := aM (below_step qz27 hb); clear BK230 HB; have HO235 := n0_; have BK230 := n1_; have HB := n2_; clear n0_ n1_ n2_; (try clear hb); (try clear hb2); (try clear hk); (try clear hi); (try clear ho0)) | ((with_reducible refine gate_dst (N := 7) rfl ?_); refine bx_ 7 #[.slice none 0 0] 26 ?_; intro gb236 hg w18 hbox hb; have n0_ := aM (Kd.S_below (rs_ HO235.out) hb); have n1_ := aM (blk_below (bk_ BK230.out) hb); have n2_ := aM (below_step qz27 hb); have n3_ := aM (hbox); have n4_ := aM ((by rw [hg]; exact (below_size qz27) : w.heap.size ≤ gb236)); have n5_ := aM ((by rw [hg]; exact (below_size qz27) : w.heap.size ≤ gb236)); have n6_ := aM ((by rw [hg]; exact Nat.ne_of_lt (blk_lt (bk_ BK230.out)) : gb230 ≠ gb236)); have n7_ := aM ((by rw [hg]; exact Nat.ne_of_gt (blk_lt (bk_ BK230.out)) : gb236 ≠ gb230)); clear HO235 BK230 HB; have HO235 := n0_; have BK230 := n1_; have HB := n2_; have BK236 := n3_; have GW236 := n4_; have GE236 := n5_; have NB230_236 := n6_; have NB236_230 := n7_; clear n0_ n1_ n2_ n3_ n4_ n5_ n6_ n7_; clear hb hbox hg; obtain ⟨Ao19, co19, eo19⟩ := Kd.S_slice HO235.out; subst eo19; have hnb20 := NB236_230.out; have hnc20 := NB230_236.out; have hcz21_0 := bc0_ BK236.out; have hfz21_0 := blk_frozen BK236.out 0) | ((with_reducible refine gate_callee (f := 78) rfl ?_); refine goesL_ (some 26) rfl rfl Try.func78 (by kernel_rfl) rfl #[.slice A1 l1.length c1] rfl qz3 ?_; (with_reducible refine (impl_copyItems.calls _ _ l1 t237 _ ?side1 ?side2 A15.out).mono ?_); (case side1 => exact Kd.C_below HR1.out qz11); (case side2 => exact HC1.out); rintro e w22 ⟨v238, rfl, ho0, hb⟩; refine ⟨_, rfl, ?_⟩; have n0_ := aM (Kd.S_below (by (with_reducible repeat (first | apply Kd.S_alloc | apply Kd.S_drewN | apply Kd.S_drew)); exact (Kd.S_mono (Kd.S_far (p := ⟨gb236, 0, none⟩) (Kd.S_types HO235.out BK236.out (by decide)) (fun _ hk => hk.2) (.slice Ao19 t233.length co19)) (fun _ h_ => h_.1))) hb); have n1_ := aM (Kd.R_lower ho0 (below_size qz11)); have n2_ := aM (blk_below (g := gb230) (o := .cells #[.slice A0_0 l0_0.length c0_0] 26 (0, 0)) (by (with_reducible repeat (first | refine blk_drewN ?_ _ | refine blk_drew ?_ | refine blk_alloc ?_ _)); refine blk_far ?_ NB230_236.out _; exact bk_ BK230.out) hb); have n3_ := aM (blk_below (g := gb236) (o := .cells #[.slice Ao19 t233.length co19] 26 (0, 0)) (by (with_reducible repeat (first | refine blk_drewN ?_ _ | refine blk_drew ?_ | refine blk_alloc ?_ _)); refine blk_put (cs := #[.slice none 0 0]) ?_ 0 _ rfl; exact bk_ BK236.out) hb); have n4_ := aM (below_step qz11 hb); clear HO235 BK230 BK236 HB; have HO235 := n0_; have HO239 := n1_; have BK230 := n2_; have BK236 := n3_; have HB := n4_; clear n0_ n1_ n2_ n3_ n4_; (try clear hb); (try clear hb2); (try clear hk); (try clear hi); (try clear ho0)))
   go_loopg [6, 8] kj2 (fun kq v6 v8 w' => ∃ (x6_2 : List (S50)) (x8_2 : List (S48)) (x237000_2 : List (S79)) (u237000 : Value), Aside0 (impl_Picks.l0 kq x6_2 x8_2 x237000_2 = some (r1, r2)) ∧ Aside0 (kq ≤ kj2) ∧ Aside0 (Kd.R k50 50 w' w.heap.size (fun _ => True) v6 x6_2) ∧ Aside0 (Kd.R k48 48 w' w.heap.size (fun _ => True) v8 x8_2) ∧ Aside0 (Kd.S k79 79 w' w.heap.size (fun _ => True) u237000 x237000_2) ∧ Aside0 (w'.heap[gb230]? = some (.cells #[(.slice A0_0 l0_0.length c0_0)] 26 (0, 0))) ∧ Aside0 (w'.heap[gb236]? = some (.cells #[u237000] 26 (0, 0))) ∧ Aside0 (Below w.heap.size w w'))
   case atStart => exact ⟨(([] : List (S50))), (t237), (t233), (.slice Ao19 t233.length co19), H', ⟨Nat.le_refl _⟩, ⟨by first | exact Kd.R_nil _ _ _ _ _ | exact Kd.N_nil _ _ _ _ _ | exact Kd.V_nil _ _ _ _ _ | exact Kd.Q_nil _ _ _ _ _ | exact Kd.S_nil _ _ _ _ _⟩, ⟨rr_ HO239.out⟩, ⟨rs_ HO235.out⟩, ⟨bk_ BK230.out⟩, ⟨bk_ BK236.out⟩, ⟨by repeat (first | (with_reducible first | exact HB.out | apply below_alloc | apply pw_below_drewN | apply below_drew1 | refine below_set ?_ GE230.out | refine below_set ?_ GE236.out) | exact HB.out)⟩⟩
   case round =>
    clear H'
    try clear c1
    try clear c2
    try clear p2
    try clear c3
    try clear c6
    try clear c7
    try clear c13
    try clear c20
    try clear c21
    try clear hcz11_0
    try clear hcz16_0
    try clear hcz21_0
    try clear hcz8_0
    try clear hfz11_0
    try clear hfz16_0
    try clear hfz21_0
    try clear hfz8_0
    try clear p2
    obtain ⟨x6_2, x8_2, x237000_2, u237000, HA, HK2, HO_6, HO_8, HO_237000, BK230, BK236, HB⟩ := hrel
    cases gk with
    | zero => exact absurd HA.out (by simp [impl_Picks.l0])
    | succ k2 =>
     have H := HA.out
     clear HA
     simp only [impl_Picks.l0] at H
     by_cases c23 : (x8_2.length : Int) > 0
     {
     rw [if_pos c23] at H
     have c23b0 := decide_eq_true c23
     have c23b1 : decide (0 < x8_2.length) = true := decide_eq_true (by omega)
     clear c23
     have H' := aM H
     clear H
     obtain ⟨Ao24, co24, eo24⟩ := Kd.R_slice HO_8.out
     subst eo24
     have hnb25 := NB236_230.out
     have hnc25 := NB230_236.out
     have hcz26_0 := bc0_ BK236.out
     have hfz26_0 := blk_frozen BK236.out 0
     obtain ⟨Ao27, co27, eo27⟩ := Kd.S_slice HO_237000.out
     subst eo27
     go_wp2
     go_loopg [9, 10, 33] k2 (fun kq v9 v10 v33 w' => ∃ (x9_3 : List (S50)) (x10_3 : Int) (x33_3 : Int), v10 = .int .i64 x10_3 ∧ v33 = .int .i64 x33_3 ∧ Aside0 (impl_Picks.l1 kq x6_2 x8_2 x9_3 x10_3 x237000_2 (x237000_2.length : Int) x33_3 x237000_2 = some (r1, r2)) ∧ Aside0 (kq ≤ k2) ∧ Aside0 (Kd.R k50 50 w' w.heap.size (fun k_ => some k_ ≠ (v9 : Value).ownBlock) u6 x6_2) ∧ Aside0 (Kd.R k48 48 w' w.heap.size (fun _ => True) (.slice Ao24 x8_2.length co24) x8_2) ∧ Aside0 (Kd.R k50 50 w' w.heap.size (fun k_ => some k_ ≠ (u6 : Value).ownBlock) v9 x9_3) ∧ Aside0 (Kd.S k79 79 w' w.heap.size (fun _ => True) (.slice Ao27 x237000_2.length co27) x237000_2) ∧ Aside0 (Kd.S k79 79 w' w.heap.size (fun _ => True) (.slice Ao27 x237000_2.length co27) x237000_2) ∧ Aside0 (w'.heap[gb230]? = some (.cells #[(.slice A0_0 l0_0.length c0_0)] 26 (0, 0))) ∧ Aside0 (w'.heap[gb236]? = some (.cells #[(.slice Ao27 x237000_2.length co27)] 26 (0, 0))) ∧ Aside0 (Below w.heap.size w w'))
     case atStart => exact ⟨(([] : List (S50))), (0), (0), qz4, qz4, H', ⟨Nat.le_refl _⟩, ⟨by (with_reducible repeat (first | apply Kd.R_alloc | apply Kd.R_drewN | apply Kd.R_drew)); exact Kd.R_mono HO_6.out (fun _ hk => (by simp [Value.ownBlock]))⟩, ⟨rr_ HO_8.out⟩, ⟨by first | exact Kd.R_nil _ _ _ _ _ | exact Kd.N_nil _ _ _ _ _ | exact Kd.V_nil _ _ _ _ _ | exact Kd.Q_nil _ _ _ _ _ | exact Kd.S_nil _ _ _ _ _⟩, ⟨rs_ HO_237000.out⟩, ⟨rs_ HO_237000.out⟩, ⟨bk_ BK230.out⟩, ⟨bk_ BK236.out⟩, ⟨by repeat (first | (with_reducible first | exact HB.out | apply below_alloc | apply pw_below_drewN | apply below_drew1 | refine below_set ?_ GE230.out | refine below_set ?_ GE236.out) | exact HB.out)⟩⟩
     case round =>
      clear H'
      try clear c1
      try clear c2
      try clear p2
      try clear c3
      try clear c6
      try clear c7
      try clear c13
      try clear c20
      try clear c21
      try clear c23
      try clear c23b0
      try clear c23b1
      try clear c25
      try clear hcz11_0
      try clear hcz16_0
      try clear hcz21_0
      try clear hcz26_0
      try clear hcz8_0
      try clear hfz11_0
      try clear hfz16_0
      try clear hfz21_0
      try clear hfz26_0
      try clear hfz8_0
      try clear p2
      obtain ⟨x9_3, x10_3, x33_3, rfl, rfl, HA, HK3, HO_6, HO_8, HO_9, HO_31, HO_237000, BK230, BK236, HB⟩ := hrel
      cases gk with
      | zero => exact absurd HA.out (by simp [impl_Picks.l1])
      | succ k3 =>
       have H := HA.out
       clear HA
       simp only [impl_Picks.l1] at H
       by_cases c28 : x33_3 < (x237000_2.length : Int)
       {
       rw [if_pos c28] at H
       have c28b0 := decide_eq_true c28
       clear c28
       by_cases c29 : 0 ≤ x33_3
       {
       rw [if_pos c29] at H
       have c29b0 := decide_eq_true c29
       clear c29
       by_cases c30 : x33_3 < (x237000_2.length : Int)
       {
       rw [if_pos c30] at H
       have c30b0 := decide_eq_true c30
       clear c30
       replace H := Option.bind_eq_some_iff.mp H
       obtain ⟨⟨t242, t245⟩, A310, H⟩ := H
       replace H : (if t245 > x10_3 then (impl_Picks.l1 k3 x6_2 x8_2 t242 t245 x237000_2 (x237000_2.length : Int) (wrap64 (x33_3 + 1)) x237000_2) else (impl_Picks.l1 k3 x6_2 x8_2 x9_3 x10_3 x237000_2 (x237000_2.length : Int) (wrap64 (x33_3 + 1)) x237000_2)) = some (r1, r2) := H
       have A31 := aM A310
       clear A310
       by_cases c32 : t245 > x10_3
       {
       rw [if_pos c32] at H
       have c32b0 := decide_eq_true c32
       clear c32
       have H' := aM H
       clear H
       have p240 : 0 ≤ (x33_3 : Int) := of_decide_eq_true qz2
       have q240 : x33_3 < (x237000_2.length : Int) := of_decide_eq_true qz2
       obtain ⟨ad240, A240_2, c240_2, e240, hx240_0, hx240_1, hx240_2, hl240_2, hi240_2⟩ := at_T79 (Kd.S_reads' HO_31.out).2.2 x33_3 p240 q240
       cases e240
       obtain ⟨ce240, hce240, hMe240, hcc240⟩ := Kd.S_get HO_31.out z79 x33_3 p240 (by first | exact q240 | exact of_decide_eq_true qz2 | (have e_ := (Kd.S_reads' HO_31.out).1; omega))
       obtain ⟨ve240_2, rfl, ge240_2⟩ := k79_openM hMe240
       have hv240_2 := hcc240 2 _ rfl
       rw [add_field _ _ 2 (by omega)] at hv240_2
       replace hv240_2 := Option.some.inj (hv240_2.symm.trans hx240_2)
       rw [hv240_2] at ge240_2
       have HL240_2 := aM (show Kd.R k72 72 _ _ _ _ ((rd_T79 x237000_2 x33_3).f2) from ge240_2)
       clear hv240_2 ge240_2
       clear hcc240 hce240
       have HR240_2 := aM hi240_2
       have HC240_2 := aM hl240_2
       clear hi240_2 hl240_2
       replace p240 := eq_true p240
       replace q240 := eq_true q240
       go_wp2_with (first | ((with_reducible refine gate_dst (N := 12) rfl ?_); refine bx_ 12 #[.int .i64 0, .int .i64 0, .slice none 0 0] 79 ?_; intro gb241 hg w33 hbox hb; have n0_ := aM (Kd.R_below (rr_ HO_6.out) hb); have n1_ := aM (Kd.R_below (rr_ HO_8.out) hb); have n2_ := aM (Kd.R_below (rr_ HO_9.out) hb); have n3_ := aM (Kd.S_below (Kd.S_elderB (rs_ HO_31.out) gb241 (Nat.le_of_eq hg.symm)) hb); have n4_ := aM (Kd.S_below (Kd.S_elderB (rs_ HO_237000.out) gb241 (Nat.le_of_eq hg.symm)) hb); have n5_ := aM (Kd.R_below (rr_ HL240_2.out) hb); have n6_ := aM (blk_below (bk_ BK230.out) hb); have n7_ := aM (blk_below (bk_ BK236.out) hb); have n8_ := aM (Kd.C_below qz72 hb); have n9_ := aM (below_step qz11 hb); have n10_ := aM (hbox); have n11_ := aM ((by rw [hg]; exact (below_size qz11) : w.heap.size ≤ gb241)); have n12_ := aM ((by rw [hg]; exact (below_size qz11) : w.heap.size ≤ gb241)); have n13_ := aM ((by rw [hg]; exact Nat.ne_of_lt (blk_lt (bk_ BK230.out)) : gb230 ≠ gb241)); have n14_ := aM ((by rw [hg]; exact Nat.ne_of_gt (blk_lt (bk_ BK230.out)) : gb241 ≠ gb230)); have n15_ := aM ((by rw [hg]; exact Nat.ne_of_lt (blk_lt (bk_ BK236.out)) : gb236 ≠ gb241)); have n16_ := aM ((by rw [hg]; exact Nat.ne_of_gt (blk_lt (bk_ BK236.out)) : gb241 ≠ gb236)); clear HO_6 HO_8 HO_9 HO_31 HO_237000 HL240_2 BK230 BK236 HR240_2 HB; have HO_6 := n0_; have HO_8 := n1_; have HO_9 := n2_; have HO_31 := n3_; have HO_237000 := n4_; have HL240_2 := n5_; have BK230 := n6_; have BK236 := n7_; have HR240_2 := n8_; have HB := n9_; have BK241 := n10_; have GW241 := n11_; have GE241 := n12_; have NB230_241 := n13_; have NB241_230 := n14_; have NB236_241 := n15_; have NB241_236 := n16_; clear n0_ n1_ n2_ n3_ n4_ n5_ n6_ n7_ n8_ n9_ n10_ n11_ n12_ n13_ n14_ n15_ n16_; clear hb hbox hg; have hnb34 := NB241_230.out; have hnc34 := NB230_241.out; have hnb35 := NB241_236.out; have hnc35 := NB236_241.out; obtain ⟨hcz36_0, hcz36_1, hcz36_2, hfz36_0, hfz36_1, hfz36_2⟩ := b6_ BK241.out) | ((with_reducible refine gate_callee (f := 79) rfl ?_); refine goesL_ (some 40) rfl rfl Try.func79 (by kernel_rfl) rfl #[.agg #[.int .i64 ((rd_T79 x237000_2 x33_3).f0), .int .i64 ((rd_T79 x237000_2 x33_3).f1), .slice A240_2 ((rd_T79 x237000_2 x33_3).f2).length c240_2], .slice Ao24 x8_2.length co24] rfl qz3 ?_; (with_reducible refine (impl_could.calls k3 ((rd_T79 x237000_2 x33_3).f0) ((rd_T79 x237000_2 x33_3).f1) _ _ ((rd_T79 x237000_2 x33_3).f2) _ _ x8_2 t242 t245 _ ?side1 ?side2 ?side3 ?side4 A31.out).mono ?_); (case side1 => repeat (first | exact ((Kd.R_reads' (by (with_reducible repeat (first | apply Kd.R_alloc | apply Kd.R_drewN | apply Kd.R_drew)); exact (Kd.R_mono (Kd.R_far (p := ⟨gb241, 2, none⟩) (Kd.R_far (p := ⟨gb241, 1, none⟩) (Kd.R_far (p := ⟨gb241, 0, none⟩) (Kd.R_types HL240_2.out BK241.out (by decide)) (fun _ hk => hk.2) (.int .i64 ((rd_T79 x237000_2 x33_3).f0))) (fun _ hk => hk.2) (.int .i64 ((rd_T79 x237000_2 x33_3).f1))) (fun _ hk => hk.2) (.slice A240_2 ((rd_T79 x237000_2 x33_3).f2).length c240_2)) (fun _ h_ => h_.1)))).2.2) | (with_reducible refine Kd.C_alloc ?_ _) | (with_reducible refine Kd.C_drewN ?_ _) | (with_reducible refine Kd.C_drew ?_))); (case side2 => exact HC240_2.out); (case side3 => refine (Kd.R_reads' (e := 48) (base := w.heap.size) (ok := fun k_ => True) (n := x8_2.length) (c := co24) ?_).2.2; exact (by (with_reducible repeat (first | apply Kd.R_alloc | apply Kd.R_drewN | apply Kd.R_drew)); exact (Kd.R_mono (Kd.R_far (p := ⟨gb241, 2, none⟩) (Kd.R_far (p := ⟨gb241, 1, none⟩) (Kd.R_far (p := ⟨gb241, 0, none⟩) (Kd.R_types HO_8.out BK241.out (by decide)) (fun _ hk => hk.2) (.int .i64 ((rd_T79 x237000_2 x33_3).f0))) (fun _ hk => hk.2) (.int .i64 ((rd_T79 x237000_2 x33_3).f1))) (fun _ hk => hk.2) (.slice A240_2 ((rd_T79 x237000_2 x33_3).f2).length c240_2)) (fun _ h_ => h_.1)))); (case side4 => exact (Kd.R_reads' HO_8.out).2.1); rintro e w37 ⟨v243, rfl, ho0, hb⟩; refine ⟨_, rfl, ?_⟩; have n0_ := aM (Kd.R_elder' (by (with_reducible repeat (first | apply Kd.R_alloc | apply Kd.R_drewN | apply Kd.R_drew)); exact (Kd.R_mono (Kd.R_far (p := ⟨gb241, 2, none⟩) (Kd.R_far (p := ⟨gb241, 1, none⟩) (Kd.R_far (p := ⟨gb241, 0, none⟩) (Kd.R_types HO_6.out BK241.out (by decide)) (fun _ hk => hk.2) (.int .i64 ((rd_T79 x237000_2 x33_3).f0))) (fun _ hk => hk.2) (.int .i64 ((rd_T79 x237000_2 x33_3).f1))) (fun _ hk => hk.2) (.slice A240_2 ((rd_T79 x237000_2 x33_3).f2).length c240_2)) (fun _ h_ => h_.1))) (Kd.R_base ho0) hb); have n1_ := aM (Kd.R_below (by (with_reducible repeat (first | apply Kd.R_alloc | apply Kd.R_drewN | apply Kd.R_drew)); exact (Kd.R_mono (Kd.R_far (p := ⟨gb241, 2, none⟩) (Kd.R_far (p := ⟨gb241, 1, none⟩) (Kd.R_far (p := ⟨gb241, 0, none⟩) (Kd.R_types HO_8.out BK241.out (by decide)) (fun _ hk => hk.2) (.int .i64 ((rd_T79 x237000_2 x33_3).f0))) (fun _ hk => hk.2) (.int .i64 ((rd_T79 x237000_2 x33_3).f1))) (fun _ hk => hk.2) (.slice A240_2 ((rd_T79 x237000_2 x33_3).f2).length c240_2)) (fun _ h_ => h_.1))) hb); have n2_ := aM (Kd.R_elder' (by (with_reducible repeat (first | apply Kd.R_alloc | apply Kd.R_drewN | apply Kd.R_drew)); exact (Kd.R_mono (Kd.R_far (p := ⟨gb241, 2, none⟩) (Kd.R_far (p := ⟨gb241, 1, none⟩) (Kd.R_far (p := ⟨gb241, 0, none⟩) (Kd.R_types HO_9.out BK241.out (by decide)) (fun _ hk => hk.2) (.int .i64 ((rd_T79 x237000_2 x33_3).f0))) (fun _ hk => hk.2) (.int .i64 ((rd_T79 x237000_2 x33_3).f1))) (fun _ hk => hk.2) (.slice A240_2 ((rd_T79 x237000_2 x33_3).f2).length c240_2)) (fun _ h_ => h_.1))) (Kd.R_base ho0) hb); have n3_ := aM (Kd.S_below (by (with_reducible repeat (first | apply Kd.S_alloc | apply Kd.S_drewN | apply Kd.S_drew)); exact (Kd.S_mono (Kd.S_far (p := ⟨gb241, 2, none⟩) (Kd.S_far (p := ⟨gb241, 1, none⟩) (Kd.S_far (p := ⟨gb241, 0, none⟩) (Kd.S_mono HO_31.out (fun k_ hk => (⟨hk, hk.2⟩ : _ ∧ k_ ≠ gb241))) (fun _ hk => hk.2) (.int .i64 ((rd_T79 x237000_2 x33_3).f0))) (fun _ hk => hk.2) (.int .i64 ((rd_T79 x237000_2 x33_3).f1))) (fun _ hk => hk.2) (.slice A240_2 ((rd_T79 x237000_2 x33_3).f2).length c240_2)) (fun _ h_ => h_.1))) hb); have n4_ := aM (Kd.S_below (by (with_reducible repeat (first | apply Kd.S_alloc | apply Kd.S_drewN | apply Kd.S_drew)); exact (Kd.S_mono (Kd.S_far (p := ⟨gb241, 2, none⟩) (Kd.S_far (p := ⟨gb241, 1, none⟩) (Kd.S_far (p := ⟨gb241, 0, none⟩) (Kd.S_mono HO_237000.out (fun k_ hk => (⟨hk, hk.2⟩ : _ ∧ k_ ≠ gb241))) (fun _ hk => hk.2) (.int .i64 ((rd_T79 x237000_2 x33_3).f0))) (fun _ hk => hk.2) (.int .i64 ((rd_T79 x237000_2 x33_3).f1))) (fun _ hk => hk.2) (.slice A240_2 ((rd_T79 x237000_2 x33_3).f2).length c240_2)) (fun _ h_ => h_.1))) hb); have n5_ := aM (Kd.R_below (by (with_reducible repeat (first | apply Kd.R_alloc | apply Kd.R_drewN | apply Kd.R_drew)); exact (Kd.R_mono (Kd.R_far (p := ⟨gb241, 2, none⟩) (Kd.R_far (p := ⟨gb241, 1, none⟩) (Kd.R_far (p := ⟨gb241, 0, none⟩) (Kd.R_types HL240_2.out BK241.out (by decide)) (fun _ hk => hk.2) (.int .i64 ((rd_T79 x237000_2 x33_3).f0))) (fun _ hk => hk.2) (.int .i64 ((rd_T79 x237000_2 x33_3).f1))) (fun _ hk => hk.2) (.slice A240_2 ((rd_T79 x237000_2 x33_3).f2).length c240_2)) (fun _ h_ => h_.1))) hb); have n6_ := aM (Kd.R_lower (Kd.R_new' (Kd.R_new' ho0 (Kd.R_lt (by (with_reducible repeat (first | apply Kd.R_alloc | apply Kd.R_drewN | apply Kd.R_drew)); exact (Kd.R_mono (Kd.R_far (p := ⟨gb241, 2, none⟩) (Kd.R_far (p := ⟨gb241, 1, none⟩) (Kd.R_far (p := ⟨gb241, 0, none⟩) (Kd.R_types HO_6.out BK241.out (by decide)) (fun _ hk => hk.2) (.int .i64 ((rd_T79 x237000_2 x33_3).f0))) (fun _ hk => hk.2) (.int .i64 ((rd_T79 x237000_2 x33_3).f1))) (fun _ hk => hk.2) (.slice A240_2 ((rd_T79 x237000_2 x33_3).f2).length c240_2)) (fun _ h_ => h_.1))))) (Kd.R_lt (by (with_reducible repeat (first | apply Kd.R_alloc | apply Kd.R_drewN | apply Kd.R_drew)); exact (Kd.R_mono (Kd.R_far (p := ⟨gb241, 2, none⟩) (Kd.R_far (p := ⟨gb241, 1, none⟩) (Kd.R_far (p := ⟨gb241, 0, none⟩) (Kd.R_types HO_9.out BK241.out (by decide)) (fun _ hk => hk.2) (.int .i64 ((rd_T79 x237000_2 x33_3).f0))) (fun _ hk => hk.2) (.int .i64 ((rd_T79 x237000_2 x33_3).f1))) (fun _ hk => hk.2) (.slice A240_2 ((rd_T79 x237000_2 x33_3).f2).length c240_2)) (fun _ h_ => h_.1))))) (below_size qz36)); have n7_ := aM (blk_below (g := gb230) (o := .cells #[.slice A0_0 l0_0.length c0_0] 26 (0, 0)) qz44 hb); have n8_ := aM (blk_below (g := gb236) (o := .cells #[.slice (some ad240) x237000_2.length co27] 26 (0, 0)) qz45 hb); have n9_ := aM (Kd.C_below ((Kd.R_reads' (by (with_reducible repeat (first | apply Kd.R_alloc | apply Kd.R_drewN | apply Kd.R_drew)); exact (Kd.R_mono (Kd.R_far (p := ⟨gb241, 2, none⟩) (Kd.R_far (p := ⟨gb241, 1, none⟩) (Kd.R_far (p := ⟨gb241, 0, none⟩) (Kd.R_types HL240_2.out BK241.out (by decide)) (fun _ hk => hk.2) (.int .i64 ((rd_T79 x237000_2 x33_3).f0))) (fun _ hk => hk.2) (.int .i64 ((rd_T79 x237000_2 x33_3).f1))) (fun _ hk => hk.2) (.slice A240_2 ((rd_T79 x237000_2 x33_3).f2).length c240_2)) (fun _ h_ => h_.1)))).2.2) hb); have n10_ := aM (blk_below (g := gb241) (o := .cells #[.int .i64 ((rd_T79 x237000_2 x33_3).f0), .int .i64 ((rd_T79 x237000_2 x33_3).f1), .slice A240_2 ((rd_T79 x237000_2 x33_3).f2).length c240_2] 79 (0, 0)) (by (with_reducible repeat (first | refine blk_drewN ?_ _ | refine blk_drew ?_ | refine blk_alloc ?_ _)); refine blk_put (cs := #[.int .i64 ((rd_T79 x237000_2 x33_3).f0), .int .i64 ((rd_T79 x237000_2 x33_3).f1), .slice none 0 0]) ?_ 2 _ rfl; (with_reducible repeat (first | refine blk_drewN ?_ _ | refine blk_drew ?_ | refine blk_alloc ?_ _)); refine blk_put (cs := #[.int .i64 ((rd_T79 x237000_2 x33_3).f0), .int .i64 0, .slice none 0 0]) ?_ 1 _ rfl; (with_reducible repeat (first | refine blk_drewN ?_ _ | refine blk_drew ?_ | refine blk_alloc ?_ _)); refine blk_put (cs := #[.int .i64 0, .int .i64 0, .slice none 0 0]) ?_ 0 _ rfl; exact bk_ BK241.out) hb); have n11_ := aM (below_step qz36 hb); clear HO_6 HO_8 HO_9 HO_31 HO_237000 HL240_2 BK230 BK236 HR240_2 BK241 HB; have HO_6 := n0_; have HO_8 := n1_; have HO_9 := n2_; have HO_31 := n3_; have HO_237000 := n4_; have HL240_2 := n5_; have HO244 := n6_; have BK230 := n7_; have BK236 := n8_; have HR240_2 := n9_; have BK241 := n10_; have HB := n11_; clear n0_ n1_ n2_ n3_ n4_ n5_ n6_ n7_ n8_ n9_ n10_ n11_; (try clear hb); (try clear hb2); (try clear hk); (try clear hi); (try clear ho0)))
       go_roundg k3
       case measure => have := HJ2.out; have := HK2.out; have := HK3.out; omega
       case rel => exact ⟨(t242), (t245), (wrap64 (x33_3 + 1)), qz4, qz4, H', ⟨by have := HJ2.out; have := HK2.out; have := HK3.out; omega⟩, ⟨by (with_reducible repeat (first | apply Kd.R_alloc | apply Kd.R_drewN | apply Kd.R_drew)); exact Kd.R_mono HO_6.out (fun _ hk => hk.2)⟩, ⟨rm_ HO_8.out⟩, ⟨by (with_reducible repeat (first | apply Kd.R_alloc | apply Kd.R_drewN | apply Kd.R_drew)); exact Kd.R_mono HO244.out (fun _ hk => hk.1.2)⟩, ⟨by (with_reducible repeat (first | apply Kd.S_alloc | apply Kd.S_drewN | apply Kd.S_drew)); exact Kd.S_mono HO_31.out (fun _ hk => trivial)⟩, ⟨by (with_reducible repeat (first | apply Kd.S_alloc | apply Kd.S_drewN | apply Kd.S_drew)); exact Kd.S_mono HO_237000.out (fun _ hk => trivial)⟩, ⟨bk_ BK230.out⟩, ⟨bk_ BK236.out⟩, ⟨by repeat (first | (with_reducible first | exact HB.out | apply below_alloc | apply pw_below_drewN | apply below_drew1 | refine below_set ?_ GE230.out | refine below_set ?_ GE236.out | refine below_set ?_ GE241.out) | exact HB.out)⟩⟩
       }
       {
       rw [if_neg c32] at H
       have c32b0 := decide_eq_false c32
       clear c32
       have H' := aM H
       clear H
       have p240 : 0 ≤ (x33_3 : Int) := of_decide_eq_true qz2
       have q240 : x33_3 < (x237000_2.length : Int) := of_decide_eq_true qz2
       obtain ⟨ad240, A240_2, c240_2, e240, hx240_0, hx240_1, hx240_2, hl240_2, hi240_2⟩ := at_T79 (Kd.S_reads' HO_31.out).2.2 x33_3 p240 q240
       cases e240
       obtain ⟨ce240, hce240, hMe240, hcc240⟩ := Kd.S_get HO_31.out z79 x33_3 p240 (by first | exact q240 | exact of_decide_eq_true qz2 | (have e_ := (Kd.S_reads' HO_31.out).1; omega))
       obtain ⟨ve240_2, rfl, ge240_2⟩ := k79_openM hMe240
       have hv240_2 := hcc240 2 _ rfl
       rw [add_field _ _ 2 (by omega)] at hv240_2
       replace hv240_2 := Option.some.inj (hv240_2.symm.trans hx240_2)
       rw [hv240_2] at ge240_2
       have HL240_2 := aM (show Kd.R k72 72 _ _ _ _ ((rd_T79 x237000_2 x33_3).f2) from ge240_2)
       clear hv240_2 ge240_2
       clear hcc240 hce240
       have HR240_2 := aM hi240_2
       have HC240_2 := aM hl240_2
       clear hi240_2 hl240_2
       replace p240 := eq_true p240
       replace q240 := eq_true q240
       go_wp2_with (first | ((with_reducible refine gate_dst (N := 12) rfl ?_); refine bx_ 12 #[.int .i64 0, .int .i64 0, .slice none 0 0] 79 ?_; intro gb241 hg w38 hbox hb; have n0_ := aM (Kd.R_below (rr_ HO_6.out) hb); have n1_ := aM (Kd.R_below (rr_ HO_8.out) hb); have n2_ := aM (Kd.R_below (rr_ HO_9.out) hb); have n3_ := aM (Kd.S_below (Kd.S_elderB (rs_ HO_31.out) gb241 (Nat.le_of_eq hg.symm)) hb); have n4_ := aM (Kd.S_below (Kd.S_elderB (rs_ HO_237000.out) gb241 (Nat.le_of_eq hg.symm)) hb); have n5_ := aM (Kd.R_below (rr_ HL240_2.out) hb); have n6_ := aM (blk_below (bk_ BK230.out) hb); have n7_ := aM (blk_below (bk_ BK236.out) hb); have n8_ := aM (Kd.C_below qz72 hb); have n9_ := aM (below_step qz11 hb); have n10_ := aM (hbox); have n11_ := aM ((by rw [hg]; exact (below_size qz11) : w.heap.size ≤ gb241)); have n12_ := aM ((by rw [hg]; exact (below_size qz11) : w.heap.size ≤ gb241)); have n13_ := aM ((by rw [hg]; exact Nat.ne_of_lt (blk_lt (bk_ BK230.out)) : gb230 ≠ gb241)); have n14_ := aM ((by rw [hg]; exact Nat.ne_of_gt (blk_lt (bk_ BK230.out)) : gb241 ≠ gb230)); have n15_ := aM ((by rw [hg]; exact Nat.ne_of_lt (blk_lt (bk_ BK236.out)) : gb236 ≠ gb241)); have n16_ := aM ((by rw [hg]; exact Nat.ne_of_gt (blk_lt (bk_ BK236.out)) : gb241 ≠ gb236)); clear HO_6 HO_8 HO_9 HO_31 HO_237000 HL240_2 BK230 BK236 HR240_2 HB; have HO_6 := n0_; have HO_8 := n1_; have HO_9 := n2_; have HO_31 := n3_; have HO_237000 := n4_; have HL240_2 := n5_; have BK230 := n6_; have BK236 := n7_; have HR240_2 := n8_; have HB := n9_; have BK241 := n10_; have GW241 := n11_; have GE241 := n12_; have NB230_241 := n13_; have NB241_230 := n14_; have NB236_241 := n15_; have NB241_236 := n16_; clear n0_ n1_ n2_ n3_ n4_ n5_ n6_ n7_ n8_ n9_ n10_ n11_ n12_ n13_ n14_ n15_ n16_; clear hb hbox hg; have hnb39 := NB241_230.out; have hnc39 := NB230_241.out; have hnb40 := NB241_236.out; have hnc40 := NB236_241.out; obtain ⟨hcz41_0, hcz41_1, hcz41_2, hfz41_0, hfz41_1, hfz41_2⟩ := b6_ BK241.out) | ((with_reducible refine gate_callee (f := 79) rfl ?_); refine goesL_ (some 40) rfl rfl Try.func79 (by kernel_rfl) rfl #[.agg #[.int .i64 ((rd_T79 x237000_2 x33_3).f0), .int .i64 ((rd_T79 x237000_2 x33_3).f1), .slice A240_2 ((rd_T79 x237000_2 x33_3).f2).length c240_2], .slice Ao24 x8_2.length co24] rfl qz3 ?_; (with_reducible refine (impl_could.calls k3 ((rd_T79 x237000_2 x33_3).f0) ((rd_T79 x237000_2 x33_3).f1) _ _ ((rd_T79 x237000_2 x33_3).f2) _ _ x8_2 t242 t245 _ ?side1 ?side2 ?side3 ?side4 A31.out).mono ?_); (case side1 => repeat (first | exact ((Kd.R_reads' (by (with_reducible repeat (first | apply Kd.R_alloc | apply Kd.R_drewN | apply Kd.R_drew)); exact (Kd.R_mono (Kd.R_far (p := ⟨gb241, 2, none⟩) (Kd.R_far (p := ⟨gb241, 1, none⟩) (Kd.R_far (p := ⟨gb241, 0, none⟩) (Kd.R_types HL240_2.out BK241.out (by decide)) (fun _ hk => hk.2) (.int .i64 ((rd_T79 x237000_2 x33_3).f0))) (fun _ hk => hk.2) (.int .i64 ((rd_T79 x237000_2 x33_3).f1))) (fun _ hk => hk.2) (.slice A240_2 ((rd_T79 x237000_2 x33_3).f2).length c240_2)) (fun _ h_ => h_.1)))).2.2) | (with_reducible refine Kd.C_alloc ?_ _) | (with_reducible refine Kd.C_drewN ?_ _) | (with_reducible refine Kd.C_drew ?_))); (case side2 => exact HC240_2.out); (case side3 => refine (Kd.R_reads' (e := 48) (base := w.heap.size) (ok := fun k_ => True) (n := x8_2.length) (c := co24) ?_).2.2; exact (by (with_reducible repeat (first | apply Kd.R_alloc | apply Kd.R_drewN | apply Kd.R_drew)); exact (Kd.R_mono (Kd.R_far (p := ⟨gb241, 2, none⟩) (Kd.R_far (p := ⟨gb241, 1, none⟩) (Kd.R_far (p := ⟨gb241, 0, none⟩) (Kd.R_types HO_8.out BK241.out (by decide)) (fun _ hk => hk.2) (.int .i64 ((rd_T79 x237000_2 x33_3).f0))) (fun _ hk => hk.2) (.int .i64 ((rd_T79 x237000_2 x33_3).f1))) (fun _ hk => hk.2) (.slice A240_2 ((rd_T79 x237000_2 x33_3).f2).length c240_2)) (fun _ h_ => h_.1)))); (case side4 => exact (Kd.R_reads' HO_8.out).2.1); rintro e w42 ⟨v243, rfl, ho0, hb⟩; refine ⟨_, rfl, ?_⟩; have n0_ := aM (Kd.R_elder' (by (with_reducible repeat (first | apply Kd.R_alloc | apply Kd.R_drewN | apply Kd.R_drew)); exact (Kd.R_mono (Kd.R_far (p := ⟨gb241, 2, none⟩) (Kd.R_far (p := ⟨gb241, 1, none⟩) (Kd.R_far (p := ⟨gb241, 0, none⟩) (Kd.R_types HO_6.out BK241.out (by decide)) (fun _ hk => hk.2) (.int .i64 ((rd_T79 x237000_2 x33_3).f0))) (fun _ hk => hk.2) (.int .i64 ((rd_T79 x237000_2 x33_3).f1))) (fun _ hk => hk.2) (.slice A240_2 ((rd_T79 x237000_2 x33_3).f2).length c240_2)) (fun _ h_ => h_.1))) (Kd.R_base ho0) hb); have n1_ := aM (Kd.R_below (by (with_reducible repeat (first | apply Kd.R_alloc | apply Kd.R_drewN | apply Kd.R_drew)); exact (Kd.R_mono (Kd.R_far (p := ⟨gb241, 2, none⟩) (Kd.R_far (p := ⟨gb241, 1, none⟩) (Kd.R_far (p := ⟨gb241, 0, none⟩) (Kd.R_types HO_8.out BK241.out (by decide)) (fun _ hk => hk.2) (.int .i64 ((rd_T79 x237000_2 x33_3).f0))) (fun _ hk => hk.2) (.int .i64 ((rd_T79 x237000_2 x33_3).f1))) (fun _ hk => hk.2) (.slice A240_2 ((rd_T79 x237000_2 x33_3).f2).length c240_2)) (fun _ h_ => h_.1))) hb); have n2_ := aM (Kd.R_elder' (by (with_reducible repeat (first | apply Kd.R_alloc | apply Kd.R_drewN | apply Kd.R_drew)); exact (Kd.R_mono (Kd.R_far (p := ⟨gb241, 2, none⟩) (Kd.R_far (p := ⟨gb241, 1, none⟩) (Kd.R_far (p := ⟨gb241, 0, none⟩) (Kd.R_types HO_9.out BK241.out (by decide)) (fun _ hk => hk.2) (.int .i64 ((rd_T79 x237000_2 x33_3).f0))) (fun _ hk => hk.2) (.int .i64 ((rd_T79 x237000_2 x33_3).f1))) (fun _ hk => hk.2) (.slice A240_2 ((rd_T79 x237000_2 x33_3).f2).length c240_2)) (fun _ h_ => h_.1))) (Kd.R_base ho0) hb); have n3_ := aM (Kd.S_below (by (with_reducible repeat (first | apply Kd.S_alloc | apply Kd.S_drewN | apply Kd.S_drew)); exact (Kd.S_mono (Kd.S_far (p := ⟨gb241, 2, none⟩) (Kd.S_far (p := ⟨gb241, 1, none⟩) (Kd.S_far (p := ⟨gb241, 0, none⟩) (Kd.S_mono HO_31.out (fun k_ hk => (⟨hk, hk.2⟩ : _ ∧ k_ ≠ gb241))) (fun _ hk => hk.2) (.int .i64 ((rd_T79 x237000_2 x33_3).f0))) (fun _ hk => hk.2) (.int .i64 ((rd_T79 x237000_2 x33_3).f1))) (fun _ hk => hk.2) (.slice A240_2 ((rd_T79 x237000_2 x33_3).f2).length c240_2)) (fun _ h_ => h_.1))) hb); have n4_ := aM (Kd.S_below (by (with_reducible repeat (first | apply Kd.S_alloc | apply Kd.S_drewN | apply Kd.S_drew)); exact (Kd.S_mono (Kd.S_far (p := ⟨gb241, 2, none⟩) (Kd.S_far (p := ⟨gb241, 1, none⟩) (Kd.S_far (p := ⟨gb241, 0, none⟩) (Kd.S_mono HO_237000.out (fun k_ hk => (⟨hk, hk.2⟩ : _ ∧ k_ ≠ gb241))) (fun _ hk => hk.2) (.int .i64 ((rd_T79 x237000_2 x33_3).f0))) (fun _ hk => hk.2) (.int .i64 ((rd_T79 x237000_2 x33_3).f1))) (fun _ hk => hk.2) (.slice A240_2 ((rd_T79 x237000_2 x33_3).f2).length c240_2)) (fun _ h_ => h_.1))) hb); have n5_ := aM (Kd.R_below (by (with_reducible repeat (first | apply Kd.R_alloc | apply Kd.R_drewN | apply Kd.R_drew)); exact (Kd.R_mono (Kd.R_far (p := ⟨gb241, 2, none⟩) (Kd.R_far (p := ⟨gb241, 1, none⟩) (Kd.R_far (p := ⟨gb241, 0, none⟩) (Kd.R_types HL240_2.out BK241.out (by decide)) (fun _ hk => hk.2) (.int .i64 ((rd_T79 x237000_2 x33_3).f0))) (fun _ hk => hk.2) (.int .i64 ((rd_T79 x237000_2 x33_3).f1))) (fun _ hk => hk.2) (.slice A240_2 ((rd_T79 x237000_2 x33_3).f2).length c240_2)) (fun _ h_ => h_.1))) hb); have n6_ := aM (Kd.R_lower (Kd.R_new' (Kd.R_new' ho0 (Kd.R_lt (by (with_reducible repeat (first | apply Kd.R_alloc | apply Kd.R_drewN | apply Kd.R_drew)); exact (Kd.R_mono (Kd.R_far (p := ⟨gb241, 2, none⟩) (Kd.R_far (p := ⟨gb241, 1, none⟩) (Kd.R_far (p := ⟨gb241, 0, none⟩) (Kd.R_types HO_6.out BK241.out (by decide)) (fun _ hk => hk.2) (.int .i64 ((rd_T79 x237000_2 x33_3).f0))) (fun _ hk => hk.2) (.int .i64 ((rd_T79 x237000_2 x33_3).f1))) (fun _ hk => hk.2) (.slice A240_2 ((rd_T79 x237000_2 x33_3).f2).length c240_2)) (fun _ h_ => h_.1))))) (Kd.R_lt (by (with_reducible repeat (first | apply Kd.R_alloc | apply Kd.R_drewN | apply Kd.R_drew)); exact (Kd.R_mono (Kd.R_far (p := ⟨gb241, 2, none⟩) (Kd.R_far (p := ⟨gb241, 1, none⟩) (Kd.R_far (p := ⟨gb241, 0, none⟩) (Kd.R_types HO_9.out BK241.out (by decide)) (fun _ hk => hk.2) (.int .i64 ((rd_T79 x237000_2 x33_3).f0))) (fun _ hk => hk.2) (.int .i64 ((rd_T79 x237000_2 x33_3).f1))) (fun _ hk => hk.2) (.slice A240_2 ((rd_T79 x237000_2 x33_3).f2).length c240_2)) (fun _ h_ => h_.1))))) (below_size qz36)); have n7_ := aM (blk_below (g := gb230) (o := .cells #[.slice A0_0 l0_0.length c0_0] 26 (0, 0)) qz44 hb); have n8_ := aM (blk_below (g := gb236) (o := .cells #[.slice (some ad240) x237000_2.length co27] 26 (0, 0)) qz45 hb); have n9_ := aM (Kd.C_below ((Kd.R_reads' (by (with_reducible repeat (first | apply Kd.R_alloc | apply Kd.R_drewN | apply Kd.R_drew)); exact (Kd.R_mono (Kd.R_far (p := ⟨gb241, 2, none⟩) (Kd.R_far (p := ⟨gb241, 1, none⟩) (Kd.R_far (p := ⟨gb241, 0, none⟩) (Kd.R_types HL240_2.out BK241.out (by decide)) (fun _ hk => hk.2) (.int .i64 ((rd_T79 x237000_2 x33_3).f0))) (fun _ hk => hk.2) (.int .i64 ((rd_T79 x237000_2 x33_3).f1))) (fun _ hk => hk.2) (.slice A240_2 ((rd_T79 x237000_2 x33_3).f2).length c240_2)) (fun _ h_ => h_.1)))).2.2) hb); have n10_ := aM (blk_below (g := gb241) (o := .cells #[.int .i64 ((rd_T79 x237000_2 x33_3).f0), .int .i64 ((rd_T79 x237000_2 x33_3).f1), .slice A240_2 ((rd_T79 x237000_2 x33_3).f2).length c240_2] 79 (0, 0)) (by (with_reducible repeat (first | refine blk_drewN ?_ _ | refine blk_drew ?_ | refine blk_alloc ?_ _)); refine blk_put (cs := #[.int .i64 ((rd_T79 x237000_2 x33_3).f0), .int .i64 ((rd_T79 x237000_2 x33_3).f1), .slice none 0 0]) ?_ 2 _ rfl; (with_reducible repeat (first | refine blk_drewN ?_ _ | refine blk_drew ?_ | refine blk_alloc ?_ _)); refine blk_put (cs := #[.int .i64 ((rd_T79 x237000_2 x33_3).f0), .int .i64 0, .slice none 0 0]) ?_ 1 _ rfl; (with_reducible repeat (first | refine blk_drewN ?_ _ | refine blk_drew ?_ | refine blk_alloc ?_ _)); refine blk_put (cs := #[.int .i64 0, .int .i64 0, .slice none 0 0]) ?_ 0 _ rfl; exact bk_ BK241.out) hb); have n11_ := aM (below_step qz36 hb); clear HO_6 HO_8 HO_9 HO_31 HO_237000 HL240_2 BK230 BK236 HR240_2 BK241 HB; have HO_6 := n0_; have HO_8 := n1_; have HO_9 := n2_; have HO_31 := n3_; have HO_237000 := n4_; have HL240_2 := n5_; have HO244 := n6_; have BK230 := n7_; have BK236 := n8_; have HR240_2 := n9_; have BK241 := n10_; have HB := n11_; clear n0_ n1_ n2_ n3_ n4_ n5_ n6_ n7_ n8_ n9_ n10_ n11_; (try clear hb); (try clear hb2); (try clear hk); (try clear hi); (try clear ho0)))
       go_roundg k3
       case measure => have := HJ2.out; have := HK2.out; have := HK3.out; omega
       case rel => exact ⟨(x9_3), (x10_3), (wrap64 (x33_3 + 1)), qz4, qz4, H', ⟨by have := HJ2.out; have := HK2.out; have := HK3.out; omega⟩, ⟨by (with_reducible repeat (first | apply Kd.R_alloc | apply Kd.R_drewN | apply Kd.R_drew)); exact Kd.R_mono HO_6.out (fun _ hk => hk.1)⟩, ⟨rm_ HO_8.out⟩, ⟨by (with_reducible repeat (first | apply Kd.R_alloc | apply Kd.R_drewN | apply Kd.R_drew)); exact Kd.R_mono HO_9.out (fun _ hk => hk.1)⟩, ⟨by (with_reducible repeat (first | apply Kd.S_alloc | apply Kd.S_drewN | apply Kd.S_drew)); exact Kd.S_mono HO_31.out (fun _ hk => trivial)⟩, ⟨by (with_reducible repeat (first | apply Kd.S_alloc | apply Kd.S_drewN | apply Kd.S_drew)); exact Kd.S_mono HO_237000.out (fun _ hk => trivial)⟩, ⟨bk_ BK230.out⟩, ⟨bk_ BK236.out⟩, ⟨by repeat (first | (with_reducible first | exact HB.out | apply below_alloc | apply pw_below_drewN | apply below_drew1 | refine below_set ?_ GE230.out | refine below_set ?_ GE236.out | refine below_set ?_ GE241.out) | exact HB.out)⟩⟩
       }
       }
       {
       rw [if_neg c30] at H
       exact absurd H (by simp)
       }
       }
       {
       rw [if_neg c29] at H
       exact absurd H (by simp)
       }
       }
       {
       rw [if_neg c28] at H
       have c28b0 := decide_eq_false c28
       clear c28
       by_cases c43 : x10_3 = 0
       {
       rw [if_pos c43] at H
       have c43b0 := beq_iff_eq.mpr c43
       have c43b1 := bne_eq_false_iff_eq.mpr c43
       clear c43
       simp only [Option.some.injEq, Prod.mk.injEq] at H
       obtain ⟨rfl, rfl⟩ := H
       go_wp2
       go_ret2
       exact ⟨_, by first | rfl | (simp [errW_none, errW_some] <;> rfl) | (simp [*, errW_none, errW_some] <;> rfl), by first | exact Kd.R_nil _ _ _ _ _ | exact Kd.N_nil _ _ _ _ _ | exact Kd.V_nil _ _ _ _ _ | exact Kd.Q_nil _ _ _ _ _ | exact Kd.S_nil _ _ _ _ _, by repeat (first | (with_reducible first | exact HB.out | apply below_alloc | apply pw_below_drewN | apply below_drew1 | refine below_set ?_ GE230.out | refine below_set ?_ GE236.out) | exact HB.out)⟩
       }
       {
       rw [if_neg c43] at H
       have c43b0 := beq_eq_false_iff_ne.mpr c43
       have c43b1 := bne_iff_ne.mpr c43
       by_cases c44 : x6_2.length + x9_3.length < 5864062014805
       {
       rw [if_pos c44] at H
       have LMc44 := aM c44
       clear c44
       obtain ⟨y246, hy246⟩ : ∃ y_ : List (S50), y_ = (x6_2 ++ x9_3) := ⟨_, rfl⟩
       replace H : ((impl_HoldAll.f k3 x237000_2 x9_3).bind fun bt249 => ((impl_less.f k3 x8_2 x9_3).bind fun t253 => (impl_Picks.l0 k3 y246 t253 bt249.1))) = some (r1, r2) := by first | (rw [hy246]; with_reducible exact H) | (have H2_ := (Option.bind_some _ _).symm.trans H; rw [hy246]; with_reducible exact H2_) | (have H2_ := (Option.bind_some _ _).symm.trans H; with_reducible exact H2_) | with_reducible exact H | (rw [hy246]; exact H) | exact H
       have Ny246 := aM hy246
       clear hy246
       replace H := Option.bind_eq_some_iff.mp H
       obtain ⟨⟨t249, t252⟩, A450, H⟩ := H
       replace H : ((impl_less.f k3 x8_2 x9_3).bind fun t253 => (impl_Picks.l0 k3 y246 t253 t249)) = some (r1, r2) := H
       have A45 := aM A450
       clear A450
       replace H := Option.bind_eq_some_iff.mp H
       obtain ⟨t253, A460, H⟩ := H
       replace H : (impl_Picks.l0 k3 y246 t253 t249) = some (r1, r2) := H
       have A46 := aM A460
       clear A460
       have H' := aM H
       clear H
       obtain ⟨Ao48, co48, eo48⟩ := Kd.R_slice HO_9.out
       subst eo48
       go_wp2_with (first | ((with_reducible refine gate_builtin (b := .append) (xs := #[.tmp 51, .tmp 52]) rfl ?_); at_builtin; refine Kd.R_append_rows k50 (w0 := w) w.heap.size rfl (.tmp 51) (.tmp 52) 43 50 (.agg #[(.int .i64 0), (.int .i64 0), (.int .i64 0)]) 24 rfl Try.underlying43 info50 rfl (by decide) (by omega) u6 x6_2 x9_3 _ _ _ (fun k_ => some k_ ≠ (.slice Ao48 x9_3.length co48 : Value).ownBlock) (fun _ => False) rfl rfl ?aO ?aR (fun _ _ h => h) (fun _ h => h.elim) ?aF ?aB ?aS ?aL ?_; (case aR => repeat (first | exact (Kd.R_reads' HO_9.out).2.2 | (with_reducible refine Kd.C_alloc ?_ _) | (with_reducible refine Kd.C_drewN ?_ _) | (with_reducible refine Kd.C_drew ?_))); (case aB => exact qz11); (case aF => exact (fun k_ hk => Kd.fresh' (Kd.R_lt (rr_ HO_9.out)) k_ hk)); (case aO => exact (rr_ HO_6.out)); (case aS => exact (below_size qz11)); (case aL => have := LMc44.out; omega); intro v247 w47 ho hb hg hat; rw [← Ny246.out] at ho; have n0_ := aM (Kd.R_over' (rr_ HO_8.out) (Kd.R_typed (rr_ HO_6.out)) (by decide) hg); have n1_ := aM (Kd.R_after (ok := (fun _ => True)) (by (with_reducible repeat (first | apply Kd.R_alloc | apply Kd.R_drewN | apply Kd.R_drew)); exact Kd.R_mono HO_9.out (fun _ hk => ⟨trivial, hk⟩)) hg hat); have n2_ := aM (Kd.S_over' (rs_ HO_31.out) (Kd.R_typed (rr_ HO_6.out)) (by decide) hg); have n3_ := aM (Kd.S_over' (rs_ HO_237000.out) (Kd.R_typed (rr_ HO_6.out)) (by decide) hg); have n4_ := aM (blk_grown (bk_ BK230.out) hg (Kd.R_ne HO_6.out BK230.out (by decide))); have n5_ := aM (blk_grown (bk_ BK236.out) hg (Kd.R_ne HO_6.out BK236.out (by decide))); have n6_ := aM (hb); have n7_ := aM (ho); clear HO_8 HO_9 HO_31 HO_237000 BK230 BK236 HB HO_6; have HO_8 := n0_; have HO_9 := n1_; have HO_31 := n2_; have HO_237000 := n3_; have BK230 := n4_; have BK236 := n5_; have HB := n6_; have HO248 := n7_; clear n0_ n1_ n2_ n3_ n4_ n5_ n6_ n7_; clear ho hb hg hat; have hnb49 := NB236_230.out; have hnc49 := NB230_236.out; have hcz50_0 := bc0_ BK236.out; have hfz50_0 := blk_frozen BK236.out 0) | ((with_reducible refine gate_callee (f := 39) rfl ?_); refine goesL_ (some 57) rfl rfl Try.func39 (by kernel_rfl) rfl #[.agg #[.slice Ao27 x237000_2.length co27], .slice Ao48 x9_3.length co48] rfl qz3 ?_; (with_reducible refine (impl_HoldAll.calls k3 _ _ x237000_2 _ _ x9_3 t249 t252 _ ?side1 ?side2 ?side3 ?side4 A45.out).mono ?_); (case side1 => repeat (first | exact (Kd.S_reads' HO_237000.out).2.2 | (with_reducible refine Kd.C_alloc ?_ _) | (with_reducible refine Kd.C_drewN ?_ _) | (with_reducible refine Kd.C_drew ?_))); (case side2 => exact (Kd.S_reads' HO_237000.out).2.1); (case side3 => repeat (first | exact (Kd.R_reads' HO_9.out).2.2 | (with_reducible refine Kd.C_alloc ?_ _) | (with_reducible refine Kd.C_drewN ?_ _) | (with_reducible refine Kd.C_drew ?_))); (case side4 => exact (Kd.R_reads' HO_9.out).2.1); rintro e w51 ⟨v250, rfl, ho0, hb⟩; refine ⟨_, rfl, ?_⟩; have n0_ := aM (Kd.R_below (rr_ HO_8.out) hb); have n1_ := aM (Kd.R_below (rr_ HO_9.out) hb); have n2_ := aM (Kd.S_elder' (rs_ HO_31.out) (Kd.S_base ho0) hb); have n3_ := aM (Kd.S_elder' (rs_ HO_237000.out) (Kd.S_base ho0) hb); have n4_ := aM (Kd.R_below (rr_ HO248.out) hb); have n5_ := aM (Kd.S_lower (Kd.S_new' (Kd.S_new' ho0 (Kd.S_lt (rs_ HO_31.out))) (Kd.S_lt (rs_ HO_237000.out))) (below_size qz11)); have n6_ := aM (blk_below (bk_ BK230.out) hb); have n7_ := aM (blk_below (bk_ BK236.out) hb); have n8_ := aM (below_step qz11 hb); clear HO_8 HO_9 HO_31 HO_237000 HO248 BK230 BK236 HB; have HO_8 := n0_; have HO_9 := n1_; have HO_31 := n2_; have HO_237000 := n3_; have HO248 := n4_; have HO251 := n5_; have BK230 := n6_; have BK236 := n7_; have HB := n8_; clear n0_ n1_ n2_ n3_ n4_ n5_ n6_ n7_ n8_; (try clear hb); (try clear hb2); (try clear hk); (try clear hi); (try clear ho0); obtain ⟨Ao52, co52, eo52⟩ := Kd.S_slice HO251.out; subst eo52; have hcz53_0 := bc0_ BK236.out; have hfz53_0 := blk_frozen BK236.out 0) | ((with_reducible refine gate_callee (f := 80) rfl ?_); refine goesL_ (some 62) rfl rfl Try.func80 (by kernel_rfl) rfl #[.slice Ao24 x8_2.length co24, .slice Ao48 x9_3.length co48] rfl qz3 ?_; (with_reducible refine (impl_less.calls k3 _ _ x8_2 _ _ x9_3 t253 _ ?side1 ?side2 ?side3 ?side4 A46.out).mono ?_); (case side1 => refine (Kd.R_reads' (e := 48) (base := w.heap.size) (ok := fun k_ => True) (n := x8_2.length) (c := co24) ?_).2.2; exact (by (with_reducible repeat (first | apply Kd.R_alloc | apply Kd.R_drewN | apply Kd.R_drew)); exact (Kd.R_mono (Kd.R_far (p := ⟨gb236, 0, none⟩) (Kd.R_types HO_8.out BK236.out (by decide)) (fun _ hk => hk.2) (.slice Ao52 t249.length co52)) (fun _ h_ => h_.1)))); (case side2 => exact (Kd.R_reads' HO_8.out).2.1); (case side3 => refine (Kd.R_reads' (e := 50) (base := w.heap.size) (ok := fun k_ => (True ∧ some k_ ≠ (v247 : Value).ownBlock)) (n := x9_3.length) (c := co48) ?_).2.2; exact (by (with_reducible repeat (first | apply Kd.R_alloc | apply Kd.R_drewN | apply Kd.R_drew)); exact (Kd.R_mono (Kd.R_far (p := ⟨gb236, 0, none⟩) (Kd.R_types HO_9.out BK236.out (by decide)) (fun _ hk => hk.2) (.slice Ao52 t249.length co52)) (fun _ h_ => h_.1)))); (case side4 => exact (Kd.R_reads' HO_9.out).2.1); rintro e w54 ⟨v254, rfl, ho0, hb⟩; refine ⟨_, rfl, ?_⟩; have n0_ := aM (Kd.R_elder' (by (with_reducible repeat (first | apply Kd.R_alloc | apply Kd.R_drewN | apply Kd.R_drew)); exact (Kd.R_mono (Kd.R_far (p := ⟨gb236, 0, none⟩) (Kd.R_types HO_8.out BK236.out (by decide)) (fun _ hk => hk.2) (.slice Ao52 t249.length co52)) (fun _ h_ => h_.1))) (Kd.R_base ho0) hb); have n1_ := aM (Kd.R_below (by (with_reducible repeat (first | apply Kd.R_alloc | apply Kd.R_drewN | apply Kd.R_drew)); exact (Kd.R_mono (Kd.R_far (p := ⟨gb236, 0, none⟩) (Kd.R_types HO_9.out BK236.out (by decide)) (fun _ hk => hk.2) (.slice Ao52 t249.length co52)) (fun _ h_ => h_.1))) hb); have n2_ := aM (Kd.S_below (by (with_reducible repeat (first | apply Kd.S_alloc | apply Kd.S_drewN | apply Kd.S_drew)); exact (Kd.S_mono (Kd.S_far (p := ⟨gb236, 0, none⟩) (Kd.S_types HO_31.out BK236.out (by decide)) (fun _ hk => hk.2) (.slice Ao52 t249.length co52)) (fun _ h_ => h_.1))) hb); have n3_ := aM (Kd.S_below (by (with_reducible repeat (first | apply Kd.S_alloc | apply Kd.S_drewN | apply Kd.S_drew)); exact (Kd.S_mono (Kd.S_far (p := ⟨gb236, 0, none⟩) (Kd.S_types HO_237000.out BK236.out (by decide)) (fun _ hk => hk.2) (.slice Ao52 t249.length co52)) (fun _ h_ => h_.1))) hb); have n4_ := aM (Kd.R_below (by (with_reducible repeat (first | apply Kd.R_alloc | apply Kd.R_drewN | apply Kd.R_drew)); exact (Kd.R_mono (Kd.R_far (p := ⟨gb236, 0, none⟩) (Kd.R_types HO248.out BK236.out (by decide)) (fun _ hk => hk.2) (.slice Ao52 t249.length co52)) (fun _ h_ => h_.1))) hb); have n5_ := aM (Kd.S_below (by (with_reducible repeat (first | apply Kd.S_alloc | apply Kd.S_drewN | apply Kd.S_drew)); exact (Kd.S_mono (Kd.S_far (p := ⟨gb236, 0, none⟩) (Kd.S_types HO251.out BK236.out (by decide)) (fun _ hk => hk.2) (.slice Ao52 t249.length co52)) (fun _ h_ => h_.1))) hb); have n6_ := aM (Kd.R_lower (Kd.R_new' ho0 (Kd.R_lt (by (with_reducible repeat (first | apply Kd.R_alloc | apply Kd.R_drewN | apply Kd.R_drew)); exact (Kd.R_mono (Kd.R_far (p := ⟨gb236, 0, none⟩) (Kd.R_types HO_8.out BK236.out (by decide)) (fun _ hk => hk.2) (.slice Ao52 t249.length co52)) (fun _ h_ => h_.1))))) (below_size qz11)); have n7_ := aM (blk_below (g := gb230) (o := .cells #[.slice A0_0 l0_0.length c0_0] 26 (0, 0)) (by (with_reducible repeat (first | refine blk_drewN ?_ _ | refine blk_drew ?_ | refine blk_alloc ?_ _)); refine blk_far ?_ NB230_236.out _; exact bk_ BK230.out) hb); have n8_ := aM (blk_below (g := gb236) (o := .cells #[.slice Ao52 t249.length co52] 26 (0, 0)) (by (with_reducible repeat (first | refine blk_drewN ?_ _ | refine blk_drew ?_ | refine blk_alloc ?_ _)); refine blk_put (cs := #[.slice Ao27 x237000_2.length co27]) ?_ 0 _ rfl; exact bk_ BK236.out) hb); have n9_ := aM (below_step qz11 hb); clear HO_8 HO_9 HO_31 HO_237000 HO248 HO251 BK230 BK236 HB; have HO_8 := n0_; have HO_9 := n1_; have HO_31 := n2_; have HO_237000 := n3_; have HO248 := n4_; have HO251 := n5_; have HO255 := n6_; have BK230 := n7_; have BK236 := n8_; have HB := n9_; clear n0_ n1_ n2_ n3_ n4_ n5_ n6_ n7_ n8_ n9_; (try clear hb); (try clear hb2); (try clear hk); (try clear hi); (try clear ho0)))
       go_roundg k3
       case measure => have := HJ2.out; have := HK2.out; have := HK3.out; omega
       case rel => exact ⟨(y246), (t253), (t249), (.slice Ao52 t249.length co52), H', ⟨by have := HJ2.out; have := HK2.out; have := HK3.out; omega⟩, ⟨by (with_reducible repeat (first | apply Kd.R_alloc | apply Kd.R_drewN | apply Kd.R_drew)); exact Kd.R_mono HO248.out (fun _ hk => trivial)⟩, ⟨by (with_reducible repeat (first | apply Kd.R_alloc | apply Kd.R_drewN | apply Kd.R_drew)); exact Kd.R_mono HO255.out (fun _ hk => trivial)⟩, ⟨by (with_reducible repeat (first | apply Kd.S_alloc | apply Kd.S_drewN | apply Kd.S_drew)); exact Kd.S_mono HO251.out (fun _ hk => trivial)⟩, ⟨bk_ BK230.out⟩, ⟨bk_ BK236.out⟩, ⟨by repeat (first | (with_reducible first | exact HB.out | apply below_alloc | apply pw_below_drewN | apply below_drew1 | refine below_set ?_ GE230.out | refine below_set ?_ GE236.out) | exact HB.out)⟩⟩
       }
       {
       rw [if_neg c44] at H
       exact absurd H (by simp)
       }
       }
       }
     }
     {
     rw [if_neg c23] at H
     have c23b0 := decide_eq_false c23
     have c23b1 : decide (0 < x8_2.length) = false := decide_eq_false (by omega)
     clear c23
     simp only [Option.some.injEq, Prod.mk.injEq] at H
     obtain ⟨rfl, rfl⟩ := H
     obtain ⟨Ao55, co55, eo55⟩ := Kd.R_slice HO_8.out
     subst eo55
     go_wp2
     go_ret2
     exact ⟨_, by first | rfl | (simp [errW_none, errW_some] <;> rfl) | (simp [*, errW_none, errW_some] <;> rfl), by (with_reducible repeat (first | apply Kd.R_alloc | apply Kd.R_drewN | apply Kd.R_drew)); exact HO_6.out, by repeat (first | (with_reducible first | exact HB.out | apply below_alloc | apply pw_below_drewN | apply below_drew1 | refine below_set ?_ GE230.out | refine below_set ?_ GE236.out) | exact HB.out)⟩

     }
   }
end Go.Proofs.Yteajnkondkfmgaa.PFnExactPicks
